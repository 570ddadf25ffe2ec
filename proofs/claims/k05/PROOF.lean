import PyProof.Rows.All
import Wide.All
import OpenK.AllK
import Wide.FinOn
import HandS.ForMost
import HandS.ForExc
import HandS.Deep
import HandS.TupLe
import HandS.TupAny
import HandS.CallSlots
import HandS.Property
import HandS.SortKw
import KE.SortKeyHeap
import HandS.WideBits
import HandS.Conv
import HandS.WordsDict
import KE.KIsAll
import HandS.IsInst
import HandS.RaiseMore
import HandS.SetFor
import HandS.Strs
import HandS.FStr
import HandS.TryMany
import HandS.Words
import HandS.More
import PyProof.InstNe
import HandS.Ends
import HandS.MethStar
import HandS.Style
import HandS.Dict
import HandS.TryOnly
import HandS.Small
import PyProof.ListStr
import PyProof.InstEq
import PyProof.ReprLen
import HandS.TupSets
import KE.RegKIsAll
import PySem.Challenge.RW_whichhouse_k05_whole_walks_of_one_and_tw
set_option Elab.async false
set_option linter.all false
set_option maxRecDepth 100000
/-! PJ1: data, abstract heaps with numbers for addresses, and how they stand for HandS's values and heaps. -/
namespace PI
open PySem L2

inductive D where
  | non | bl (b : Bool) | int (i : Int) | str (x : Str) | tup (l : List D) | kt (l : List D) | kl (l : List D) | rl (l : List D) | fd (ks : List Key) (l : List D) | ft (ks : List (List Key)) (l : List D)
  | fi (c : Nat) (gs : List Str) (l : List D) | ref (a : Nat) | g (k : Nat)
  deriving Inhabited

inductive O where
  | lst (l : List D) | dK (l : List (Key × D)) | dT (l : List (List Key × D)) | ins (c : Nat) (fs : List (Str × D)) | frz (o : O)
  deriving Inhabited

abbrev AH := List O
abbrev Ev := List (Option D)

/-- the fixed world: the written part, where classes and global objects stand -/
structure Wd where
  K : PySem.W.Frag
  cl : Nat → Addr
  ga : Nat → Addr

def NI (m : Nat → Addr) (n : Nat) (p : Addr) : Prop := ∀ a, a < n → m a ≠ p
def KT (K : PySem.W.Frag) (a : Addr) (xs : List V) : Prop :=
  ∃ (o : Obj) (its : Array Value) (n : Nat), K.lookup a = some o ∧ o.cls = .type "tuple" ∧ o.dict = none ∧ o.data = .seq its n ∧ its.size ≤ sizeLine ∧ Vals xs its.toList
theorem KT.sq {K : PySem.W.Frag} {a : Addr} {xs : List V} {H : Hp} : KT K a xs → SqT K H a xs := fun ⟨o, its, n, h1, h2, _, h3, h4, h5⟩ => .inr ⟨o, its, n, h1, h2, h3, h4, h5⟩
def KL (K : PySem.W.Frag) (a : Addr) (xs : List V) : Prop :=
  ∃ (o : Obj) (its : Array Value) (n : Nat), K.lookup a = some o ∧ o.cls = .type "list" ∧ o.dict = none ∧ o.data = .seq its n ∧ its.size ≤ sizeLine ∧ Vals xs its.toList
/-- a tuple that is tracked -/
def TTr (m : Nat → Addr) (n : Nat) (H : Hp) (p : Addr) (xs : List V) : Prop := H p = some (.tup xs) ∧ NI m n p
/-- a tuple (a list that never changes) is read there -/
def RT (W : Wd) (m : Nat → Addr) (n : Nat) (H : Hp) (p : Addr) (xs : List V) : Prop := TTr m n H p xs ∨ KT W.K p xs
/-- a list that is never written again -/
def RLt (m : Nat → Addr) (n : Nat) (H : Hp) (p : Addr) (xs : List V) : Prop := H p = some (.lst xs) ∧ NI m n p
/-- a list that was there before, or that is locked for good -/
def KLf (W : Wd) (m : Nat → Addr) (n : Nat) (H : Hp) (p : Addr) (xs : List V) : Prop := KL W.K p xs ∨ ∃ o, H p = some (.frz o (.lst xs)) ∧ NI m n p
def RLs (W : Wd) (m : Nat → Addr) (n : Nat) (H : Hp) (p : Addr) (xs : List V) : Prop := RLt m n H p xs ∨ KLf W m n H p xs
theorem TTr.sq {K : PySem.W.Frag} {m n H p xs} (h : TTr m n H p xs) : SqT K H p xs := .inl (.inl h.1)
theorem RT.sq {W : Wd} {m n H p xs} (h : RT W m n H p xs) : SqT W.K H p xs := h.elim (fun h => .inl (.inl h.1)) KT.sq
theorem KLf.sq {W : Wd} {m n H p xs} (h : KLf W m n H p xs) : SqL W.K H p xs := h.elim .inr fun ⟨o, h, _⟩ => .inl (.inr ⟨o, h⟩)
theorem RLs.sq {W : Wd} {m n H p xs} (h : RLs W m n H p xs) : SqL W.K H p xs := h.elim (fun h => .inl (.inl h.1)) KLf.sq

mutual
def VR (W : Wd) (m : Nat → Addr) (n : Nat) (H : Hp) : D → V → Prop
  | .non, v => v = .non
  | .bl b, v => v = .bl b
  | .int i, v => v = .int i
  | .str x, v => v = .str x
  | .tup l, v => ∃ p xs, v = .ref p ∧ TTr m n H p xs ∧ VRs W m n H l xs
  | .kt l, v => ∃ p xs, v = .ref p ∧ KT W.K p xs ∧ VRs W m n H l xs
  | .kl l, v => ∃ p xs, v = .ref p ∧ KLf W m n H p xs ∧ VRs W m n H l xs
  | .rl l, v => ∃ p xs, v = .ref p ∧ RLt m n H p xs ∧ VRs W m n H l xs
  | .fd ks l, v => ∃ p ys, v = .ref p ∧ (Rd H p (.dK ys) ∧ NI m n p) ∧ ys.map (·.1) = ks ∧ VRs W m n H l (ys.map (·.2))
  | .ft ks l, v => ∃ p ys, v = .ref p ∧ (Rd H p (.dT ys) ∧ NI m n p) ∧ ys.map (·.1) = ks ∧ VRs W m n H l (ys.map (·.2))
  | .fi c gs l, v => ∃ p dx ys, v = .ref p ∧ (H p = some (.ins (W.cl c) dx ys) ∧ NI m n p) ∧ ys.map (·.1) = gs ∧ VRs W m n H l (ys.map (·.2))
  | .ref a, v => a < n ∧ v = .ref (m a)
  | .g k, v => v = .ref (W.ga k)
def VRs (W : Wd) (m : Nat → Addr) (n : Nat) (H : Hp) : List D → List V → Prop
  | [], xs => xs = []
  | d :: l, xs => ∃ x r, xs = x :: r ∧ VR W m n H d x ∧ VRs W m n H l r
end

/-- pairs: the same keys, values that stand for one another -/
def PR {κ : Type} (W : Wd) (m : Nat → Addr) (n : Nat) (H : Hp) : List (κ × D) → List (κ × V) → Prop
  | [], ys => ys = []
  | (k, d) :: l, ys => ∃ v r, ys = (k, v) :: r ∧ VR W m n H d v ∧ PR W m n H l r

def OS (W : Wd) (m : Nat → Addr) (n : Nat) (H : Hp) : O → HO → Prop
  | .lst l, u => ∃ xs, u = .lst xs ∧ VRs W m n H l xs
  | .dK l, u => ∃ ys, u = .dK ys ∧ PR W m n H l ys
  | .dT l, u => ∃ ys, u = .dT ys ∧ PR W m n H l ys
  | .ins c fs, u => ∃ dx ys, u = .ins (W.cl c) dx ys ∧ PR W m n H fs ys
  | .frz o, u => ∃ ob u', u = .frz ob u' ∧ OS W m n H o u'

structure SR (W : Wd) (m : Nat → Addr) (h : AH) (H : Hp) : Prop where
  inj : ∀ a b, a < h.length → b < h.length → m a = m b → a = b
  obj : ∀ a o, h[a]? = some o → ∃ u, H (m a) = some u ∧ OS W m h.length H o u

def isDic : HO → Bool
  | .dK _ => true
  | .dT _ => true
  | _ => false
structure Ext (m : Nat → Addr) (n : Nat) (H : Hp) (m' : Nat → Addr) (n' : Nat) (H' : Hp) : Prop where
  le : n ≤ n'
  agr : ∀ a, a < n → m' a = m a
  keep : ∀ b o, H b = some o → NI m n b → H' b = some o ∨ (isDic o = true ∧ ∃ od, H' b = some (.frz od o))
  new : ∀ a, n ≤ a → a < n' → H (m' a) = none
  live : ∀ b, H b ≠ none → H' b ≠ none

theorem Ext.refl (m : Nat → Addr) (n : Nat) (H : Hp) : Ext m n H m n H := ⟨Nat.le_refl _, fun _ _ => rfl, fun _ _ h _ => .inl h, fun _ h1 h2 => absurd (Nat.lt_of_le_of_lt h1 h2) (Nat.lt_irrefl _), fun _ h => h⟩
theorem Ext.ni {m m' : Nat → Addr} {n n' : Nat} {H H' : Hp} (e : Ext m n H m' n' H') {p : Addr} {u : HO} (hp : H p = some u) (h : NI m n p) : NI m' n' p := fun a ha z => by
  by_cases q : a < n
  · exact h a q ((e.agr a q).symm.trans z)
  · have := e.new a (by omega) ha
    rw [z, hp] at this
    cases this
theorem Ext.trans {m m1 m2 : Nat → Addr} {n n1 n2 : Nat} {H H1 H2 : Hp} (a : Ext m n H m1 n1 H1) (b : Ext m1 n1 H1 m2 n2 H2) : Ext m n H m2 n2 H2 where
  le := Nat.le_trans a.le b.le
  agr := fun x hx => (b.agr x (Nat.lt_of_lt_of_le hx a.le)).trans (a.agr x hx)
  keep := fun p o hp ni => by
    rcases a.keep p o hp ni with h | ⟨hd, od, h⟩
    · exact b.keep p o h (a.ni hp ni)
    · rcases b.keep p _ h (a.ni hp ni) with h2 | ⟨hd2, _⟩
      · exact .inr ⟨hd, od, h2⟩
      · cases hd2
  new := fun x h1 h2 => by
    by_cases q : x < n1
    · rw [b.agr x q]
      exact a.new x h1 q
    · have z := b.new x (by omega) h2
      cases e : H (m2 x) with
      | none => rfl
      | some o => exact absurd z (a.live _ (by rw [e]; exact fun z => nomatch z))
  live := fun p h => b.live p (a.live p h)

section
variable {W : Wd} {m m' : Nat → Addr} {n n' : Nat} {H H' : Hp}
theorem Ext.rd (e : Ext m n H m' n' H') {p : Addr} {u : HO} (h : Rd H p u) (ni : NI m n p) : Rd H' p u ∧ NI m' n' p := by
  rcases h with h | ⟨o, h⟩
  · rcases e.keep _ _ h ni with h2 | ⟨_, od, h2⟩
    · exact ⟨.inl h2, e.ni h ni⟩
    · exact ⟨.inr ⟨od, h2⟩, e.ni h ni⟩
  · rcases e.keep _ _ h ni with h2 | ⟨hd, _⟩
    · exact ⟨.inr ⟨o, h2⟩, e.ni h ni⟩
    · cases hd
theorem Ext.kept (e : Ext m n H m' n' H') {p : Addr} {u : HO} (h : H p = some u) (ni : NI m n p) (hd : isDic u = false) : H' p = some u := by
  rcases e.keep _ _ h ni with h2 | ⟨hd2, _⟩
  · exact h2
  · rw [hd] at hd2
    cases hd2
theorem TTr.ext (e : Ext m n H m' n' H') {p xs} (h : TTr m n H p xs) : TTr m' n' H' p xs := ⟨e.kept h.1 h.2 rfl, e.ni h.1 h.2⟩
theorem RT.ext (e : Ext m n H m' n' H') {p xs} (h : RT W m n H p xs) : RT W m' n' H' p xs := h.imp (fun h => TTr.ext e h) id
theorem keepN (e : Ext m n H m' n' H') {p : Addr} {u : HO} (h : H p = some u ∧ NI m n p) (hd : isDic u = false := by rfl) : H' p = some u ∧ NI m' n' p := ⟨e.kept h.1 h.2 hd, e.ni h.1 h.2⟩
theorem KLf.ext (e : Ext m n H m' n' H') {p xs} (h : KLf W m n H p xs) : KLf W m' n' H' p xs := h.imp id fun ⟨o, h⟩ => ⟨o, keepN e h⟩
theorem RLs.ext (e : Ext m n H m' n' H') {p xs} (h : RLs W m n H p xs) : RLs W m' n' H' p xs := h.imp (fun h => keepN e h) (KLf.ext e)
mutual
theorem VR.ext (e : Ext m n H m' n' H') : ∀ {d : D} {v : V}, VR W m n H d v → VR W m' n' H' d v
  | .non, _, h => by simpa only [VR] using h
  | .bl _, _, h => by simpa only [VR] using h
  | .int _, _, h => by simpa only [VR] using h
  | .str _, _, h => by simpa only [VR] using h
  | .g _, _, h => by simpa only [VR] using h
  | .ref a, v, h => by
    simp only [VR] at h ⊢
    exact ⟨Nat.lt_of_lt_of_le h.1 e.le, h.2.trans (by rw [e.agr a h.1])⟩
  | .tup l, v, h => by
    simp only [VR] at h ⊢
    obtain ⟨p, xs, h1, h2, h3⟩ := h
    exact ⟨p, xs, h1, h2.ext e, VRs.ext e h3⟩
  | .kt l, v, h => by
    simp only [VR] at h ⊢
    obtain ⟨p, xs, h1, h2, h3⟩ := h
    exact ⟨p, xs, h1, h2, VRs.ext e h3⟩
  | .kl l, v, h => by
    simp only [VR] at h ⊢
    obtain ⟨p, xs, h1, h2, h3⟩ := h
    exact ⟨p, xs, h1, h2.ext e, VRs.ext e h3⟩
  | .rl l, v, h => by
    simp only [VR] at h ⊢
    obtain ⟨p, xs, h1, h2, h3⟩ := h
    exact ⟨p, xs, h1, keepN e h2, VRs.ext e h3⟩
  | .fd ks l, v, h => by
    simp only [VR] at h ⊢
    obtain ⟨p, ys, h1, h2, h3, h4⟩ := h
    exact ⟨p, ys, h1, e.rd h2.1 h2.2, h3, VRs.ext e h4⟩
  | .ft ks l, v, h => by
    simp only [VR] at h ⊢
    obtain ⟨p, ys, h1, h2, h3, h4⟩ := h
    exact ⟨p, ys, h1, e.rd h2.1 h2.2, h3, VRs.ext e h4⟩
  | .fi c gs l, v, h => by
    simp only [VR] at h ⊢
    obtain ⟨p, dx, ys, h1, h2, h3, h4⟩ := h
    exact ⟨p, dx, ys, h1, keepN e h2, h3, VRs.ext e h4⟩
theorem VRs.ext (e : Ext m n H m' n' H') : ∀ {l : List D} {xs : List V}, VRs W m n H l xs → VRs W m' n' H' l xs
  | [], _, h => by simpa only [VRs] using h
  | d :: l, xs, h => by
    simp only [VRs] at h ⊢
    obtain ⟨x, r, h1, h2, h3⟩ := h
    exact ⟨x, r, h1, VR.ext e h2, VRs.ext e h3⟩
end
theorem PR.ext {κ : Type} (e : Ext m n H m' n' H') : ∀ {l : List (κ × D)} {ys : List (κ × V)}, PR W m n H l ys → PR W m' n' H' l ys
  | [], _, h => h
  | (k, d) :: l, ys, ⟨v, r, h1, h2, h3⟩ => ⟨v, r, h1, h2.ext e, PR.ext e h3⟩
theorem OS.ext (e : Ext m n H m' n' H') : ∀ {o : O} {u : HO}, OS W m n H o u → OS W m' n' H' o u
  | .lst _, _, ⟨xs, h, r⟩ => ⟨xs, h, r.ext e⟩
  | .dK _, _, ⟨xs, h, r⟩ => ⟨xs, h, r.ext e⟩
  | .dT _, _, ⟨xs, h, r⟩ => ⟨xs, h, r.ext e⟩
  | .ins _ _, _, ⟨dx, xs, h, r⟩ => ⟨dx, xs, h, r.ext e⟩
  | .frz _, _, ⟨ob, u, h, r⟩ => ⟨ob, u, h, OS.ext e r⟩

/-! ### lists of values -/
theorem VRs.length : ∀ {l : List D} {xs : List V}, VRs W m n H l xs → xs.length = l.length
  | [], _, h => by simp only [VRs] at h; rw [h]; rfl
  | d :: l, xs, h => by
    simp only [VRs] at h
    obtain ⟨x, r, rfl, _, h3⟩ := h
    rw [List.length_cons, List.length_cons, VRs.length h3]
theorem VRs.get : ∀ {l : List D} {xs : List V} {i : Nat} {d : D}, VRs W m n H l xs → l[i]? = some d → ∃ x, xs[i]? = some x ∧ VR W m n H d x
  | [], _, _, _, _, h => by simp at h
  | d :: l, xs, 0, d', h, e => by
    simp only [VRs] at h
    obtain ⟨x, r, rfl, h2, _⟩ := h
    simp at e; subst e
    exact ⟨x, rfl, h2⟩
  | d :: l, xs, i + 1, d', h, e => by
    simp only [VRs] at h
    obtain ⟨x, r, rfl, _, h3⟩ := h
    obtain ⟨y, q1, q2⟩ := VRs.get (i := i) h3 (by simpa using e)
    exact ⟨y, by simpa using q1, q2⟩
theorem VRs.get' : ∀ {l : List D} {xs : List V} {i : Nat} {x : V}, VRs W m n H l xs → xs[i]? = some x → ∃ d, l[i]? = some d ∧ VR W m n H d x
  | [], _, _, _, h, e => by simp only [VRs] at h; subst h; simp at e
  | d :: l, xs, 0, x', h, e => by
    simp only [VRs] at h
    obtain ⟨x, r, rfl, h2, _⟩ := h
    simp at e; subst e
    exact ⟨d, rfl, h2⟩
  | d :: l, xs, i + 1, x', h, e => by
    simp only [VRs] at h
    obtain ⟨x, r, rfl, _, h3⟩ := h
    obtain ⟨y, q1, q2⟩ := VRs.get' (i := i) h3 (by simpa using e)
    exact ⟨y, by simpa using q1, q2⟩
theorem VRs.append : ∀ {l l' : List D} {xs xs' : List V}, VRs W m n H l xs → VRs W m n H l' xs' → VRs W m n H (l ++ l') (xs ++ xs')
  | [], _, _, _, h, h' => by simp only [VRs] at h; subst h; exact h'
  | d :: l, _, xs, _, h, h' => by
    simp only [VRs] at h
    obtain ⟨x, r, rfl, h2, h3⟩ := h
    simp only [List.cons_append, VRs]
    exact ⟨x, _, rfl, h2, VRs.append h3 h'⟩
theorem VRs.nil : VRs W m n H [] [] := by simp only [VRs]
theorem VRs.cons {d : D} {l : List D} {x : V} {xs : List V} (h1 : VR W m n H d x) (h2 : VRs W m n H l xs) : VRs W m n H (d :: l) (x :: xs) := by
  simp only [VRs]
  exact ⟨x, xs, rfl, h1, h2⟩
theorem VRs.set : ∀ {l : List D} {xs : List V} {i : Nat} {d : D} {x : V}, VRs W m n H l xs → VR W m n H d x → VRs W m n H (l.set i d) (xs.set i x)
  | [], _, _, _, _, h, _ => by simp only [VRs] at h; subst h; exact VRs.nil
  | d :: l, xs, 0, d', x', h, e => by
    simp only [VRs] at h
    obtain ⟨x, r, rfl, _, h3⟩ := h
    exact VRs.cons e h3
  | d :: l, xs, i + 1, d', x', h, e => by
    simp only [VRs] at h
    obtain ⟨x, r, rfl, h2, h3⟩ := h
    exact VRs.cons h2 (VRs.set h3 e)
theorem VRs.drop : ∀ {l : List D} {xs : List V} (i : Nat), VRs W m n H l xs → VRs W m n H (l.drop i) (xs.drop i)
  | _, _, 0, h => h
  | [], _, i + 1, h => by simp only [VRs] at h; subst h; exact VRs.nil
  | d :: l, xs, i + 1, h => by
    simp only [VRs] at h
    obtain ⟨x, r, rfl, _, h3⟩ := h
    exact VRs.drop i h3
theorem VRs.take : ∀ {l : List D} {xs : List V} (i : Nat), VRs W m n H l xs → VRs W m n H (l.take i) (xs.take i)
  | _, _, 0, _ => VRs.nil
  | [], _, i + 1, h => by simp only [VRs] at h; subst h; exact VRs.nil
  | d :: l, xs, i + 1, h => by
    simp only [VRs] at h
    obtain ⟨x, r, rfl, h2, h3⟩ := h
    exact VRs.cons h2 (VRs.take i h3)
theorem VRs.map_int : ∀ (is : List Int), VRs W m n H (is.map D.int) (is.map V.int)
  | [] => VRs.nil
  | i :: is => VRs.cons (by simp only [VR]) (VRs.map_int is)

/-! ### slots -/
structure ER (W : Wd) (m : Nat → Addr) (n : Nat) (H : Hp) (r : Ev) (s : L2.St) : Prop where
  len : r.length = s.length
  get : ∀ (i : Nat) (d : D), r[i]? = some (some d) → ∃ v, s[i]? = some (some v) ∧ VR W m n H d v
theorem ER.ext {r : Ev} {s : L2.St} (e : Ext m n H m' n' H') (h : ER W m n H r s) : ER W m' n' H' r s := ⟨h.len, fun i d q => let ⟨v, a, b⟩ := h.get i d q; ⟨v, a, b.ext e⟩⟩
theorem ER.set {r : Ev} {s : L2.St} (h : ER W m n H r s) (i : Nat) {d : D} {v : V} (hv : VR W m n H d v) : ER W m n H (r.set i (some d)) (s.set i (some v)) := by
  refine ⟨by rw [List.length_set, List.length_set, h.len], fun j d' q => ?_⟩
  by_cases e : i = j
  · subst e
    by_cases hl : i < r.length
    · rw [List.getElem?_set_self hl] at q
      cases q
      exact ⟨v, List.getElem?_set_self (by rw [← h.len]; exact hl), hv⟩
    · rw [List.getElem?_eq_none (by rw [List.length_set]; omega)] at q
      cases q
  · rw [List.getElem?_set_ne e] at q ⊢
    exact h.get j d' q
/-- slots that are forgotten -/
theorem ER.sets {r : Ev} {s : L2.St} (h : ER W m n H r s) (i : Nat) {v : Option V} : ER W m n H (r.set i none) (s.set i v) := by
  refine ⟨by rw [List.length_set, List.length_set, h.len], fun j d' q => ?_⟩
  by_cases e : i = j
  · subst e
    by_cases hl : i < r.length
    · rw [List.getElem?_set_self hl] at q
      cases q
    · rw [List.getElem?_eq_none (by rw [List.length_set]; omega)] at q
      cases q
  · rw [List.getElem?_set_ne e] at q ⊢
    exact h.get j d' q

/-! ### a new object; an object that changes -/
variable {h : AH}
theorem SR.lt {a : Nat} {o : O} (_ : SR W m h H) (e : h[a]? = some o) : a < h.length := (List.getElem?_eq_some_iff.mp e).1
theorem SR.someAt (S : SR W m h H) {a : Nat} (ha : a < h.length) : ∃ u, H (m a) = some u := let ⟨u, e, _⟩ := S.obj a _ (List.getElem?_eq_getElem ha); ⟨u, e⟩
theorem SR.fresh (S : SR W m h H) {p : Addr} (hp : H p = none) : NI m h.length p := fun a ha z => by
  obtain ⟨u, e⟩ := S.someAt ha
  rw [z, hp] at e
  cases e
def mupd (m : Nat → Addr) (n : Nat) (p : Addr) : Nat → Addr := fun a => if a = n then p else m a
theorem mupd_same : mupd m n p n = p := if_pos rfl
theorem mupd_lt {a : Nat} (h : a < n) : mupd m n p a = m a := if_neg (by omega)
/-- all that was tracked is as it was -/
theorem ext_of_keep (S : SR W m h H) (k : ∀ b o, H b = some o → H' b = some o) : Ext m h.length H m h.length H' :=
  ⟨Nat.le_refl _, fun _ _ => rfl, fun b o e _ => .inl (k b o e), fun _ h1 h2 => absurd (Nat.lt_of_le_of_lt h1 h2) (Nat.lt_irrefl _), fun b e z => by
    cases q : H b with
    | none => exact e q
    | some o => rw [k b o q] at z; cases z⟩
theorem SR.keep (S : SR W m h H) (k : ∀ b o, H b = some o → H' b = some o) : SR W m h H' :=
  ⟨S.inj, fun a o e => let ⟨u, q, r⟩ := S.obj a o e; ⟨u, k _ _ q, r.ext (ext_of_keep S k)⟩⟩
/-- .. and a new one at p -/
theorem ext_new (S : SR W m h H) {p : Addr} (hp : H p = none) (k : ∀ b o, H b = some o → H' b = some o) : Ext m h.length H (mupd m h.length p) (h.length + 1) H' := by
  refine ⟨Nat.le_succ _, fun a ha => mupd_lt ha, fun b o e _ => .inl (k b o e), fun a h1 h2 => ?_, fun b e z => ?_⟩
  · have : a = h.length := by omega
    subst this
    rw [mupd_same]
    exact hp
  · cases q : H b with
    | none => exact e q
    | some o => rw [k b o q] at z; cases z
theorem SR.new (S : SR W m h H) {p : Addr} {o : O} {u : HO} (hp : H p = none) (k : ∀ b o, H b = some o → H' b = some o) (hu : H' p = some u)
    (ho : OS W (mupd m h.length p) (h.length + 1) H' o u) : SR W (mupd m h.length p) (h ++ [o]) H' := by
  have e := ext_new S hp k
  refine ⟨fun a b ha hb z => ?_, fun a o' q => ?_⟩
  · rw [List.length_append, List.length_singleton] at ha hb
    by_cases h1 : a < h.length
    · by_cases h2 : b < h.length
      · rw [mupd_lt h1, mupd_lt h2] at z
        exact S.inj a b h1 h2 z
      · have : b = h.length := by omega
        subst this
        rw [mupd_lt h1, mupd_same] at z
        exact absurd z (S.fresh hp a h1)
    · have h1' : a = h.length := by omega
      subst h1'
      by_cases h2 : b < h.length
      · rw [mupd_lt h2, mupd_same] at z
        exact absurd z.symm (S.fresh hp b h2)
      · omega
  · rw [List.length_append, List.length_singleton]
    by_cases h1 : a < h.length
    · rw [List.getElem?_append_left h1] at q
      obtain ⟨u', q1, q2⟩ := S.obj a o' q
      exact ⟨u', by rw [mupd_lt h1]; exact k _ _ q1, q2.ext e⟩
    · have h2 := (List.getElem?_eq_some_iff.mp q).1
      rw [List.length_append, List.length_singleton] at h2
      have : a = h.length := by omega
      subst this
      rw [List.getElem?_append_right (Nat.le_refl _), Nat.sub_self] at q
      cases q
      exact ⟨u, by rw [mupd_same]; exact hu, ho⟩
theorem upd_keep {p : Addr} {u : HO} (hp : H p = none) : ∀ b o, H b = some o → upd H p u b = some o := fun b o e => by
  rw [upd_ne (ne_of_none e hp)]
  exact e
theorem ext_upd (S : SR W m h H) {a : Nat} (ha : a < h.length) {u : HO} : Ext m h.length H m h.length (upd H (m a) u) :=
  ⟨Nat.le_refl _, fun _ _ => rfl, fun b o e ni => .inl (by rw [upd_ne (Ne.symm (ni a ha))]; exact e), fun _ h1 h2 => absurd (Nat.lt_of_le_of_lt h1 h2) (Nat.lt_irrefl _), fun b e z => by
    by_cases q : b = m a
    · subst q; rw [upd_same] at z; cases z
    · rw [upd_ne q] at z; exact e z⟩
theorem SR.upd (S : SR W m h H) {a : Nat} (ha : a < h.length) {o : O} {u : HO} (ho : OS W m h.length (upd H (m a) u) o u) : SR W m (h.set a o) (L2.upd H (m a) u) := by
  have e := ext_upd (u := u) S ha
  refine ⟨fun x y hx hy => by rw [List.length_set] at hx hy; exact S.inj x y hx hy, fun x o' q => ?_⟩
  rw [List.length_set]
  by_cases hxa : a = x
  · subst hxa
    rw [List.getElem?_set_self ha] at q
    cases q
    exact ⟨u, upd_same, ho⟩
  · rw [List.getElem?_set_ne hxa] at q
    obtain ⟨u', q1, q2⟩ := S.obj x o' q
    have hx := (List.getElem?_eq_some_iff.mp q).1
    exact ⟨u', by rw [upd_ne (fun z => hxa (S.inj a x ha hx z.symm))]; exact q1, q2.ext e⟩

theorem PR.zip {κ : Type} : ∀ {ks : List κ} {l : List D} {ys : List (κ × V)}, ys.map (·.1) = ks → VRs W m n H l (ys.map (·.2)) → PR W m n H (ks.zip l) ys
  | ks, [], [], e, _ => by
    simp only [List.map_nil] at e
    subst e
    rfl
  | ks, d :: l, [], e, h => by
    simp only [List.map_nil, VRs] at h
    obtain ⟨_, _, z, _⟩ := h
    cases z
  | ks, [], y :: ys, e, h => by
    simp only [List.map_cons, VRs] at h
    cases h
  | ks, d :: l, y :: ys, e, h => by
    simp only [List.map_cons, VRs] at h e
    obtain ⟨x, r, z, h2, h3⟩ := h
    cases z
    subst e
    exact ⟨y.2, ys, rfl, h2, PR.zip rfl h3⟩
theorem PR.unz {κ : Type} : ∀ {l : List (κ × D)} {ys : List (κ × V)}, PR W m n H l ys → ys.map (·.1) = l.map (·.1) ∧ VRs W m n H (l.map (·.2)) (ys.map (·.2))
  | [], ys, h => by
    cases h
    exact ⟨rfl, VRs.nil⟩
  | (k, d) :: l, ys, ⟨v, r, e, h2, h3⟩ => by
    subst e
    obtain ⟨a, b⟩ := PR.unz h3
    exact ⟨by rw [List.map_cons, List.map_cons, a], VRs.cons h2 b⟩

/-! ### what is behind some number is left: it is never written again -/
mutual
/-- all numbers are below n -/
def clD (n : Nat) : D → Bool
  | .tup l => clDs n l
  | .kt l => clDs n l
  | .kl l => clDs n l
  | .rl l => clDs n l
  | .fd _ l => clDs n l
  | .ft _ l => clDs n l
  | .fi _ _ l => clDs n l
  | .ref a => decide (a < n)
  | _ => true
def clDs (n : Nat) : List D → Bool
  | [] => true
  | d :: l => clD n d && clDs n l
end
def clO (n : Nat) : O → Bool
  | .lst l => clDs n l
  | .dK l => clDs n (l.map (·.2))
  | .dT l => clDs n (l.map (·.2))
  | .ins _ l => clDs n (l.map (·.2))
  | .frz o => clO n o
mutual
theorem VR.clo : ∀ {d : D} {v : V}, VR W m n H d v → clD n d = true
  | .non, _, _ => rfl
  | .bl _, _, _ => rfl
  | .int _, _, _ => rfl
  | .str _, _, _ => rfl
  | .g _, _, _ => rfl
  | .ref a, v, h => by
    simp only [VR] at h
    simp only [clD, decide_eq_true_eq]
    exact h.1
  | .tup l, v, h => by
    simp only [VR] at h
    obtain ⟨_, _, _, _, h3⟩ := h
    simp only [clD]
    exact VRs.clo h3
  | .kt l, v, h => by
    simp only [VR] at h
    obtain ⟨_, _, _, _, h3⟩ := h
    simp only [clD]
    exact VRs.clo h3
  | .kl l, v, h => by
    simp only [VR] at h
    obtain ⟨_, _, _, _, h3⟩ := h
    simp only [clD]
    exact VRs.clo h3
  | .rl l, v, h => by
    simp only [VR] at h
    obtain ⟨_, _, _, _, h3⟩ := h
    simp only [clD]
    exact VRs.clo h3
  | .fd ks l, v, h => by
    simp only [VR] at h
    obtain ⟨_, _, _, _, _, h3⟩ := h
    simp only [clD]
    exact VRs.clo h3
  | .ft ks l, v, h => by
    simp only [VR] at h
    obtain ⟨_, _, _, _, _, h3⟩ := h
    simp only [clD]
    exact VRs.clo h3
  | .fi c gs l, v, h => by
    simp only [VR] at h
    obtain ⟨_, _, _, _, _, _, h3⟩ := h
    simp only [clD]
    exact VRs.clo h3
theorem VRs.clo : ∀ {l : List D} {xs : List V}, VRs W m n H l xs → clDs n l = true
  | [], _, _ => rfl
  | d :: l, xs, h => by
    simp only [VRs] at h
    obtain ⟨x, r, _, h2, h3⟩ := h
    simp only [clDs, Bool.and_eq_true]
    exact ⟨VR.clo h2, VRs.clo h3⟩
end
theorem OS.clo : ∀ {o : O} {u : HO}, OS W m n H o u → clO n o = true
  | .lst _, _, ⟨_, _, r⟩ => r.clo
  | .dK _, _, ⟨_, _, r⟩ => r.unz.2.clo
  | .dT _, _, ⟨_, _, r⟩ => r.unz.2.clo
  | .ins _ _, _, ⟨_, _, _, r⟩ => r.unz.2.clo
  | .frz o, _, ⟨_, _, _, r⟩ => (OS.clo r : clO n o = true)
/-- fewer numbers -/
structure Fewer (m : Nat → Addr) (n : Nat) (m' : Nat → Addr) (n' : Nat) : Prop where
  le : n ≤ n'
  agr : ∀ a, a < n → m' a = m a
theorem Fewer.ni (f : Fewer m n m' n') {p : Addr} (h : NI m' n' p) : NI m n p := fun a ha z => h a (Nat.lt_of_lt_of_le ha f.le) ((f.agr a ha).trans z)
theorem Fewer.keepN (f : Fewer m n m' n') {p : Addr} {u : HO} (h : H p = some u ∧ NI m' n' p) : H p = some u ∧ NI m n p := ⟨h.1, f.ni h.2⟩
mutual
theorem VR.fewer (f : Fewer m n m' n') : ∀ {d : D} {v : V}, clD n d = true → VR W m' n' H d v → VR W m n H d v
  | .non, _, _, h => by simpa only [VR] using h
  | .bl _, _, _, h => by simpa only [VR] using h
  | .int _, _, _, h => by simpa only [VR] using h
  | .str _, _, _, h => by simpa only [VR] using h
  | .g _, _, _, h => by simpa only [VR] using h
  | .ref a, v, c, h => by
    simp only [VR] at h ⊢
    simp only [clD, decide_eq_true_eq] at c
    exact ⟨c, h.2.trans (by rw [f.agr a c])⟩
  | .tup l, v, c, h => by
    simp only [VR] at h ⊢
    simp only [clD] at c
    obtain ⟨p, xs, h1, h2, h3⟩ := h
    exact ⟨p, xs, h1, f.keepN h2, VRs.fewer f c h3⟩
  | .kt l, v, c, h => by
    simp only [VR] at h ⊢
    simp only [clD] at c
    obtain ⟨p, xs, h1, h2, h3⟩ := h
    exact ⟨p, xs, h1, h2, VRs.fewer f c h3⟩
  | .kl l, v, c, h => by
    simp only [VR] at h ⊢
    simp only [clD] at c
    obtain ⟨p, xs, h1, h2, h3⟩ := h
    exact ⟨p, xs, h1, h2.imp id fun ⟨o, h⟩ => ⟨o, f.keepN h⟩, VRs.fewer f c h3⟩
  | .rl l, v, c, h => by
    simp only [VR] at h ⊢
    simp only [clD] at c
    obtain ⟨p, xs, h1, h2, h3⟩ := h
    exact ⟨p, xs, h1, f.keepN h2, VRs.fewer f c h3⟩
  | .fd ks l, v, c, h => by
    simp only [VR] at h ⊢
    simp only [clD] at c
    obtain ⟨p, ys, h1, h2, h3, h4⟩ := h
    exact ⟨p, ys, h1, ⟨h2.1, f.ni h2.2⟩, h3, VRs.fewer f c h4⟩
  | .ft ks l, v, c, h => by
    simp only [VR] at h ⊢
    simp only [clD] at c
    obtain ⟨p, ys, h1, h2, h3, h4⟩ := h
    exact ⟨p, ys, h1, ⟨h2.1, f.ni h2.2⟩, h3, VRs.fewer f c h4⟩
  | .fi cc gs l, v, c, h => by
    simp only [VR] at h ⊢
    simp only [clD] at c
    obtain ⟨p, dx, ys, h1, h2, h3, h4⟩ := h
    exact ⟨p, dx, ys, h1, f.keepN h2, h3, VRs.fewer f c h4⟩
theorem VRs.fewer (f : Fewer m n m' n') : ∀ {l : List D} {xs : List V}, clDs n l = true → VRs W m' n' H l xs → VRs W m n H l xs
  | [], _, _, h => by simpa only [VRs] using h
  | d :: l, xs, c, h => by
    simp only [VRs] at h ⊢
    simp only [clDs, Bool.and_eq_true] at c
    obtain ⟨x, r, h1, h2, h3⟩ := h
    exact ⟨x, r, h1, VR.fewer f c.1 h2, VRs.fewer f c.2 h3⟩
end
theorem PR.fewer {κ : Type} (f : Fewer m n m' n') : ∀ {l : List (κ × D)} {ys : List (κ × V)}, clDs n (l.map (·.2)) = true → PR W m' n' H l ys → PR W m n H l ys
  | [], _, _, h => h
  | (k, d) :: l, ys, c, ⟨v, r, h1, h2, h3⟩ => by
    simp only [List.map_cons, clDs, Bool.and_eq_true] at c
    exact ⟨v, r, h1, h2.fewer f c.1, PR.fewer f c.2 h3⟩
theorem OS.fewer (f : Fewer m n m' n') : ∀ {o : O} {u : HO}, clO n o = true → OS W m' n' H o u → OS W m n H o u
  | .lst _, _, c, ⟨xs, h, r⟩ => ⟨xs, h, r.fewer f c⟩
  | .dK _, _, c, ⟨xs, h, r⟩ => ⟨xs, h, r.fewer f c⟩
  | .dT _, _, c, ⟨xs, h, r⟩ => ⟨xs, h, r.fewer f c⟩
  | .ins _ _, _, c, ⟨dx, xs, h, r⟩ => ⟨dx, xs, h, r.fewer f c⟩
  | .frz o, _, c, ⟨ob, u, h, r⟩ => ⟨ob, u, h, OS.fewer f (show clO n o = true from c) r⟩
theorem Ext.fewer (e : Ext m n H m' n' H') : Fewer m n m' n' := ⟨e.le, e.agr⟩
/-- what stood below is as it was, or speaks of nothing behind -/
def KO (h h' : AH) : Prop := h.length ≤ h'.length ∧ ∀ (a : Nat) (o : O), a < h.length → h'[a]? = some o → h[a]? = some o ∨ clO h.length o = true
theorem KO.refl (h : AH) : KO h h := ⟨Nat.le_refl _, fun _ _ _ e => .inl e⟩
theorem KO.app (h j : AH) : KO h (h ++ j) := ⟨by rw [List.length_append]; omega, fun a o ha e => .inl (by rwa [List.getElem?_append_left ha] at e)⟩
theorem KO.app2 {h h' : AH} (k : KO h h') (j : AH) : KO h (h' ++ j) := ⟨by have := k.1; rw [List.length_append]; omega, fun a o ha e => k.2 a o ha (by rwa [List.getElem?_append_left (Nat.lt_of_lt_of_le ha k.1)] at e)⟩
theorem KO.set {h h' : AH} (k : KO h h') (a : Nat) {o : O} (c : clO h.length o = true) : KO h (h'.set a o) := ⟨by rw [List.length_set]; exact k.1, fun b u hb e => by
  by_cases z : a = b
  · subst z
    rw [List.getElem?_set_self (Nat.lt_of_lt_of_le hb k.1)] at e
    cases e
    exact .inr c
  · rw [List.getElem?_set_ne z] at e
    exact k.2 b u hb e⟩
theorem leave {h h' : AH} (S : SR W m h H) (S' : SR W m' h' H') (e : Ext m h.length H m' h'.length H') (ko : KO h h') :
    SR W m (h'.take h.length) H' ∧ Ext m h.length H m (h'.take h.length).length H' := by
  have el : (h'.take h.length).length = h.length := by rw [List.length_take]; have := ko.1; omega
  refine ⟨⟨fun a b ha hb => by rw [el] at ha hb; exact S.inj a b ha hb, fun a o q => ?_⟩, by rw [el]; exact ⟨Nat.le_refl _, fun _ _ => rfl, e.keep, fun _ h1 h2 => absurd (Nat.lt_of_le_of_lt h1 h2) (Nat.lt_irrefl _), e.live⟩⟩
  have ha : a < h.length := by have := (List.getElem?_eq_some_iff.mp q).1; omega
  rw [List.getElem?_take_of_lt ha] at q
  obtain ⟨u, q1, q2⟩ := S'.obj a o q
  rw [e.agr a ha] at q1
  rw [el]
  refine ⟨u, q1, q2.fewer e.fewer ?_⟩
  rcases ko.2 a o ha q with z | z
  · obtain ⟨u0, _, r0⟩ := S.obj a o z
    exact r0.clo
  · exact z
/-- a value seen from below n -/
def mapP {α β : Type} (f : α → Option β) : List α → Option (List β)
  | [] => some []
  | x :: l => match f x, mapP f l with
    | some y, some r => some (y :: r)
    | _, _ => none
def frzD (h : AH) (n : Nat) : Nat → D → Option D
  | 0, d => if clD n d = true then some d else none
  | k + 1, d => if clD n d = true then some d else match d with
    | .tup l => (mapP (frzD h n k) l).map .tup
    | .rl l => (mapP (frzD h n k) l).map .rl
    | .fd ks l => (mapP (frzD h n k) l).map (.fd ks)
    | .ft ks l => (mapP (frzD h n k) l).map (.ft ks)
    | .fi c gs l => (mapP (frzD h n k) l).map (.fi c gs)
    | .ref a => match h[a]? with
      | some (.lst l) => (mapP (frzD h n k) l).map .rl
      | some (.dK l) => (mapP (frzD h n k) (l.map (·.2))).map (.fd (l.map (·.1)))
      | some (.dT l) => (mapP (frzD h n k) (l.map (·.2))).map (.ft (l.map (·.1)))
      | some (.ins c l) => (mapP (frzD h n k) (l.map (·.2))).map (.fi c (l.map (·.1)))
      | _ => none
    | _ => none
theorem mapP_ok {f : D → Option D} (i : ∀ d d' v, f d = some d' → VR W m' n' H d v → VR W m n H d' v) : ∀ {l l' : List D} {xs : List V}, mapP f l = some l' → VRs W m' n' H l xs → VRs W m n H l' xs
  | [], l', xs, e, h => by
    cases e
    simp only [VRs] at h ⊢
    exact h
  | d :: l, l', xs, e, h => by
    simp only [VRs] at h
    obtain ⟨x, r, rfl, h2, h3⟩ := h
    simp only [mapP] at e
    cases z : f d with
    | none => rw [z] at e; cases e
    | some y =>
      rw [z] at e
      cases z2 : mapP f l with
      | none => rw [z2] at e; cases e
      | some l2 =>
        rw [z2] at e
        cases e
        exact VRs.cons (i d y x z h2) (mapP_ok i z2 h3)
theorem frz_ok {h' : AH} (S' : SR W m' h' H) (f : Fewer m n m' h'.length) : ∀ (k : Nat) (d d' : D) (v : V), frzD h' n k d = some d' → VR W m' h'.length H d v → VR W m n H d' v
  | 0, d, d', v, e, r => by
    unfold frzD at e
    split at e
    · rename_i c
      cases e
      exact r.fewer f c
    · cases e
  | k + 1, d, d', v, e, r => by
    unfold frzD at e
    split at e
    · rename_i c
      cases e
      exact r.fewer f c
    · rename_i c
      have ih := fun d d' v => frz_ok S' f k d d' v
      cases d with
      | tup l =>
        simp only [VR] at r
        obtain ⟨p, xs, h1, h2, h3⟩ := r
        obtain ⟨l', e1, rfl⟩ := Option.map_eq_some_iff.mp e
        simp only [VR]
        exact ⟨p, xs, h1, f.keepN h2, mapP_ok ih e1 h3⟩
      | rl l =>
        simp only [VR] at r
        obtain ⟨p, xs, h1, h2, h3⟩ := r
        obtain ⟨l', e1, rfl⟩ := Option.map_eq_some_iff.mp e
        simp only [VR]
        exact ⟨p, xs, h1, f.keepN h2, mapP_ok ih e1 h3⟩
      | fd ks l =>
        simp only [VR] at r
        obtain ⟨p, ys, h1, h2, h3, h4⟩ := r
        obtain ⟨l', e1, rfl⟩ := Option.map_eq_some_iff.mp e
        simp only [VR]
        exact ⟨p, ys, h1, ⟨h2.1, f.ni h2.2⟩, h3, mapP_ok ih e1 h4⟩
      | ft ks l =>
        simp only [VR] at r
        obtain ⟨p, ys, h1, h2, h3, h4⟩ := r
        obtain ⟨l', e1, rfl⟩ := Option.map_eq_some_iff.mp e
        simp only [VR]
        exact ⟨p, ys, h1, ⟨h2.1, f.ni h2.2⟩, h3, mapP_ok ih e1 h4⟩
      | fi cc gs l =>
        simp only [VR] at r
        obtain ⟨p, dx, ys, h1, h2, h3, h4⟩ := r
        obtain ⟨l', e1, rfl⟩ := Option.map_eq_some_iff.mp e
        simp only [VR]
        exact ⟨p, dx, ys, h1, f.keepN h2, h3, mapP_ok ih e1 h4⟩
      | ref a =>
        simp only [VR] at r
        obtain ⟨ha, rfl⟩ := r
        have hn : n ≤ a := by
          simp only [clD, decide_eq_true_eq] at c
          omega
        have ni : NI m n (m' a) := fun b hb z => by
          have := S'.inj b a (Nat.lt_of_lt_of_le hb f.le) ha ((f.agr b hb).trans z)
          omega
        simp only at e
        cases q : h'[a]? with
        | none => rw [q] at e; cases e
        | some o =>
          rw [q] at e
          obtain ⟨u, q1, q2⟩ := S'.obj a o q
          cases o with
          | lst l =>
            obtain ⟨xs, rfl, r⟩ := q2
            obtain ⟨l', e1, rfl⟩ := Option.map_eq_some_iff.mp e
            simp only [VR]
            exact ⟨m' a, xs, rfl, ⟨q1, ni⟩, mapP_ok ih e1 r⟩
          | dK l =>
            obtain ⟨ys, rfl, r⟩ := q2
            obtain ⟨l', e1, rfl⟩ := Option.map_eq_some_iff.mp e
            simp only [VR]
            exact ⟨m' a, ys, rfl, ⟨.inl q1, ni⟩, r.unz.1, mapP_ok ih e1 r.unz.2⟩
          | dT l =>
            obtain ⟨ys, rfl, r⟩ := q2
            obtain ⟨l', e1, rfl⟩ := Option.map_eq_some_iff.mp e
            simp only [VR]
            exact ⟨m' a, ys, rfl, ⟨.inl q1, ni⟩, r.unz.1, mapP_ok ih e1 r.unz.2⟩
          | ins cc l =>
            obtain ⟨dx, ys, rfl, r⟩ := q2
            obtain ⟨l', e1, rfl⟩ := Option.map_eq_some_iff.mp e
            simp only [VR]
            exact ⟨m' a, dx, ys, rfl, ⟨q1, ni⟩, r.unz.1, mapP_ok ih e1 r.unz.2⟩
          | frz o => cases e
      | _ => cases e
/-- a dict that stays as it is may be locked, and let go again -/
def SameD (H H' : Hp) (p : Addr) : Prop := (∀ b, b ≠ p → H' b = H b) ∧ ((∀ l, Rd H p (.dK l) → Rd H' p (.dK l)) ∧ ∀ l, Rd H p (.dT l) → Rd H' p (.dT l)) ∧ (∀ xs, H p ≠ some (.lst xs)) ∧ (∀ xs, H p ≠ some (.tup xs)) ∧ (∀ c dx ys, H p ≠ some (.ins c dx ys)) ∧ (H p ≠ none) ∧ ∀ o xs, H p ≠ some (.frz o (.lst xs))
mutual
theorem VR.same {p : Addr} (q : SameD H H' p) : ∀ {d : D} {v : V}, VR W m n H d v → VR W m n H' d v
  | .non, _, h => by simpa only [VR] using h
  | .bl _, _, h => by simpa only [VR] using h
  | .int _, _, h => by simpa only [VR] using h
  | .str _, _, h => by simpa only [VR] using h
  | .g _, _, h => by simpa only [VR] using h
  | .ref _, _, h => by simpa only [VR] using h
  | .tup l, v, h => by
    simp only [VR] at h ⊢
    obtain ⟨r, xs, h1, h2, h3⟩ := h
    exact ⟨r, xs, h1, ⟨by rw [q.1 r fun z => q.2.2.2.1 xs (z ▸ h2.1)]; exact h2.1, h2.2⟩, VRs.same q h3⟩
  | .kt l, v, h => by
    simp only [VR] at h ⊢
    obtain ⟨r, xs, h1, h2, h3⟩ := h
    exact ⟨r, xs, h1, h2, VRs.same q h3⟩
  | .kl l, v, h => by
    simp only [VR] at h ⊢
    obtain ⟨r, xs, h1, h2, h3⟩ := h
    refine ⟨r, xs, h1, h2.imp id fun ⟨o, h⟩ => ⟨o, ?_, h.2⟩, VRs.same q h3⟩
    rw [q.1 r fun z => q.2.2.2.2.2.2 o xs (z ▸ h.1)]
    exact h.1
  | .rl l, v, h => by
    simp only [VR] at h ⊢
    obtain ⟨r, xs, h1, h2, h3⟩ := h
    exact ⟨r, xs, h1, ⟨by rw [q.1 r fun z => q.2.2.1 xs (z ▸ h2.1)]; exact h2.1, h2.2⟩, VRs.same q h3⟩
  | .fd ks l, v, h => by
    simp only [VR] at h ⊢
    obtain ⟨r, ys, h1, h2, h3, h4⟩ := h
    refine ⟨r, ys, h1, ⟨?_, h2.2⟩, h3, VRs.same q h4⟩
    by_cases z : r = p
    · subst z
      exact q.2.1.1 _ h2.1
    · unfold Rd
      rw [q.1 r z]
      exact h2.1
  | .ft ks l, v, h => by
    simp only [VR] at h ⊢
    obtain ⟨r, ys, h1, h2, h3, h4⟩ := h
    refine ⟨r, ys, h1, ⟨?_, h2.2⟩, h3, VRs.same q h4⟩
    by_cases z : r = p
    · subst z
      exact q.2.1.2 _ h2.1
    · unfold Rd
      rw [q.1 r z]
      exact h2.1
  | .fi c gs l, v, h => by
    simp only [VR] at h ⊢
    obtain ⟨r, dx, ys, h1, h2, h3, h4⟩ := h
    exact ⟨r, dx, ys, h1, ⟨by rw [q.1 r fun z => q.2.2.2.2.1 _ dx ys (z ▸ h2.1)]; exact h2.1, h2.2⟩, h3, VRs.same q h4⟩
theorem VRs.same {p : Addr} (q : SameD H H' p) : ∀ {l : List D} {xs : List V}, VRs W m n H l xs → VRs W m n H' l xs
  | [], _, h => by simpa only [VRs] using h
  | d :: l, xs, h => by
    simp only [VRs] at h ⊢
    obtain ⟨x, r, h1, h2, h3⟩ := h
    exact ⟨x, r, h1, VR.same q h2, VRs.same q h3⟩
end
theorem PR.same {κ : Type} {p : Addr} (q : SameD H H' p) : ∀ {l : List (κ × D)} {ys : List (κ × V)}, PR W m n H l ys → PR W m n H' l ys
  | [], _, h => h
  | (k, d) :: l, ys, ⟨v, r, h1, h2, h3⟩ => ⟨v, r, h1, h2.same q, PR.same q h3⟩
theorem OS.same {p : Addr} (q : SameD H H' p) : ∀ {o : O} {u : HO}, OS W m n H o u → OS W m n H' o u
  | .lst _, _, ⟨xs, h, r⟩ => ⟨xs, h, r.same q⟩
  | .dK _, _, ⟨xs, h, r⟩ => ⟨xs, h, r.same q⟩
  | .dT _, _, ⟨xs, h, r⟩ => ⟨xs, h, r.same q⟩
  | .ins _ _, _, ⟨dx, xs, h, r⟩ => ⟨dx, xs, h, r.same q⟩
  | .frz _, _, ⟨ob, u, h, r⟩ => ⟨ob, u, h, OS.same q r⟩
theorem SR.same {h : AH} {p : Addr} (S : SR W m h H) (q : SameD H H' p) (ni : NI m h.length p) : SR W m h H' :=
  ⟨S.inj, fun a o e => let ⟨u, q1, q2⟩ := S.obj a o e; ⟨u, by rw [q.1 _ (ni a (S.lt e))]; exact q1, q2.same q⟩⟩
theorem same_lock {p : Addr} {u : HO} {od : Obj} (hu : H p = some u) (hk : (∃ l, u = .dK l) ∨ ∃ l, u = .dT l) : SameD H (upd H p (.frz od u)) p := by
  have go : ∀ u', ((∃ l, u' = .dK l) ∨ ∃ l, u' = .dT l) → Rd H p u' → Rd (upd H p (.frz od u)) p u' := fun u' k r => by
    rcases r with r | ⟨o, r⟩
    · rw [hu] at r
      cases r
      exact .inr ⟨od, upd_same⟩
    · rw [hu] at r
      cases r
      rcases hk with ⟨l, z⟩ | ⟨l, z⟩ <;> cases z
  refine ⟨fun b z => upd_ne z, ⟨fun l => go _ (.inl ⟨l, rfl⟩), fun l => go _ (.inr ⟨l, rfl⟩)⟩, ?_, ?_, ?_, by rw [hu]; exact (fun z => nomatch z), ?_⟩
  all_goals
    intros
    rw [hu]
    rcases hk with ⟨l, rfl⟩ | ⟨l, rfl⟩ <;> exact fun z => nomatch z
theorem same_unlock {p : Addr} {u : HO} {od : Obj} (hu : H p = some (.frz od u)) (hk : (∃ l, u = .dK l) ∨ ∃ l, u = .dT l) : SameD H (upd H p u) p := by
  have go : ∀ u', ((∃ l, u' = .dK l) ∨ ∃ l, u' = .dT l) → Rd H p u' → Rd (upd H p u) p u' := fun u' k r => by
    rcases r with r | ⟨o, r⟩
    · rw [hu] at r
      cases r
      rcases k with ⟨l, z⟩ | ⟨l, z⟩ <;> cases z
    · rw [hu] at r
      cases r
      exact .inl upd_same
  refine ⟨fun b z => upd_ne z, ⟨fun l => go _ (.inl ⟨l, rfl⟩), fun l => go _ (.inr ⟨l, rfl⟩)⟩, ?_, ?_, ?_, by rw [hu]; exact (fun z => nomatch z), ?_⟩
  all_goals
    intros
    rw [hu]
    rcases hk with ⟨l, rfl⟩ | ⟨l, rfl⟩ <;> exact fun z => nomatch z
theorem ext_lock {p : Addr} {u : HO} {od : Obj} (hu : H p = some u) (hd : isDic u = true) : Ext m n H m n (upd H p (.frz od u)) := by
  refine ⟨Nat.le_refl _, fun _ _ => rfl, fun b o e _ => ?_, fun _ h1 h2 => absurd (Nat.lt_of_le_of_lt h1 h2) (Nat.lt_irrefl _), fun b e z => ?_⟩
  · by_cases q : b = p
    · subst q
      rw [hu] at e
      cases e
      exact .inr ⟨hd, od, upd_same⟩
    · exact .inl (by rw [upd_ne q]; exact e)
  · by_cases q : b = p
    · subst q
      rw [upd_same] at z
      cases z
    · rw [upd_ne q] at z
      exact e z
end
end PI
/-! PI2: results, readings of Lean functions, operators. -/
namespace PI
open PySem L2

inductive Res (α : Type) where
  | ok (a : α) (h : AH) | err (c : Nat) (fs : List (Str × D)) (h : AH) | bad
  deriving Inhabited
def Res.bind {α β : Type} (r : Res α) (g : α → AH → Res β) : Res β := match r with
  | .ok a h => g a h
  | .err c fs h => .err c fs h
  | .bad => .bad

/-- an exception of the class c with its fields -/
def XR (W : Wd) (m : Nat → Addr) (n : Nat) (H : Hp) (c : Nat) (fs : List (Str × D)) (cls : Value) (dd : Option Addr) : Prop :=
  cls = .ref (W.cl c) ∧ ((fs = [] ∧ dd = none) ∨ ∃ d ys, dd = some d ∧ H d = some (.xd ys) ∧ NI m n d ∧ PR W m n H fs ys)

def Fin (W : Wd) (Wx : WX) (m : Nat → Addr) (h : AH) (H : Hp) (s : L2.St) {α : Type} (r : Res α) (k : (Nat → Addr) → AH → Hp → α → Prop) : Prop := match r with
  | .ok d h' => ∀ m' H', SR W m' h' H' → Ext m h.length H m' h'.length H' → k m' h' H' d
  | .err c fs h' => ∀ m' H' cls dd, SR W m' h' H' → Ext m h.length H m' h'.length H' → XR W m' h'.length H' c fs cls dd → Wx cls dd s H'
  | .bad => False

section
variable {W : Wd} {Wx : WX} {m : Nat → Addr} {h : AH} {H : Hp} {s : L2.St} {α β : Type}
theorem Fin.imp {r : Res α} {k k' : (Nat → Addr) → AH → Hp → α → Prop} (f : Fin W Wx m h H s r k)
    (i : ∀ m' h' H' d, SR W m' h' H' → Ext m h.length H m' h'.length H' → k m' h' H' d → k' m' h' H' d) : Fin W Wx m h H s r k' := by
  cases r with
  | ok d h' => exact fun m' H' S e => i m' h' H' d S e (f m' H' S e)
  | err c fs h' => exact f
  | bad => exact f
theorem Fin.bind {r : Res α} {g : α → AH → Res β} {k : (Nat → Addr) → AH → Hp → β → Prop} (f : Fin W Wx m h H s (r.bind g) k) :
    Fin W Wx m h H s r (fun m1 h1 H1 d => Fin W Wx m1 h1 H1 s (g d h1) k) := by
  cases r with
  | ok d h1 =>
    intro m1 H1 S1 e1
    have f' : Fin W Wx m h H s (g d h1) k := f
    revert f'
    cases g d h1 with
    | ok d2 h2 => exact fun f' m2 H2 S2 e2 => f' m2 H2 S2 (e1.trans e2)
    | err c fs h2 => exact fun f' m2 H2 cls dd S2 e2 => f' m2 H2 cls dd S2 (e1.trans e2)
    | bad => exact fun f' => f'
  | err c fs h' => exact f
  | bad => exact f
/-- a value that is there: nothing changes -/
theorem Fin.here {d : α} {k : (Nat → Addr) → AH → Hp → α → Prop} (S : SR W m h H) (f : Fin W Wx m h H s (.ok d h) k) : k m h H d := f m H S (Ext.refl _ _ _)
end

/-- the readings -/
def tI (W : Wd) (Wx : WX) (f : Ev → AH → Res D) : TE := fun s H Q => ∃ m h r, SR W m h H ∧ ER W m h.length H r s ∧
  Fin W Wx m h H s (f r h) fun m' h' H' d => ∀ v, VR W m' h'.length H' d v → Q v H'
def tT (W : Wd) (Wx : WX) (f : Ev → AH → Res Bool) : TT := fun s H Q => ∃ m h r, SR W m h H ∧ ER W m h.length H r s ∧
  Fin W Wx m h H s (f r h) fun _ _ H' b => Q b H'
def tA (W : Wd) (Wx : WX) (f : Ev → AH → Res (List D)) : TA := fun s H Q => ∃ m h r, SR W m h H ∧ ER W m h.length H r s ∧
  Fin W Wx m h H s (f r h) fun m' h' H' ds => ∀ vs, VRs W m' h'.length H' ds vs → Q vs H'

theorem _root_.L2.PE.imp {X : Cx} {e : Expr} {t t' : TE} (p : PE X e t) (i : ∀ s H Q, t' s H Q → t s H Q) : PE X e t' := ⟨fun pins s σ H Q I q => p.run pins s σ H Q I (i σ H Q q)⟩
theorem _root_.L2.PT.imp {X : Cx} {e : Expr} {t t' : TT} (p : PT X e t) (i : ∀ s H Q, t' s H Q → t s H Q) : PT X e t' := ⟨fun pins s σ H Q I q => p.run pins s σ H Q I (i σ H Q q)⟩
theorem _root_.L2.PW.imp {X : Cx} {e : Expr} {t t' : TT} (p : PW X e t) (i : ∀ s H Q, t' s H Q → t s H Q) : PW X e t' := ⟨fun wh pins s σ H Q I q => p.run wh pins s σ H Q I (i σ H Q q)⟩
theorem _root_.L2.PA.imp {X : Cx} {es : List Expr} {t t' : TA} (p : PA X es t) (i : ∀ s H Q, t' s H Q → t s H Q) : PA X es t' := ⟨fun pos pins s σ H Q I q => p.run pos pins s σ H Q I (i σ H Q q)⟩
theorem _root_.L2.PS.imp {X : Cx} {st : Stmt} {t t' : TS} (p : PS X st t) (i : ∀ D s H, t' D s H → t D s H) : PS X st t' := ⟨fun pins s σ H D I q => p.run pins s σ H D I (i D σ H q)⟩
theorem _root_.L2.PSs.imp {X : Cx} {st : List Stmt} {t t' : TS} (p : PSs X st t) (i : ∀ D s H, t' D s H → t D s H) : PSs X st t' := ⟨fun pins s σ H D I q => p.run pins s σ H D I (i D σ H q)⟩
/-- one of two readings -/
theorem _root_.L2.PE.or {X : Cx} {e : Expr} {t t' : TE} (p : PE X e t) (p' : PE X e t') : PE X e (fun s H Q => t s H Q ∨ t' s H Q) :=
  ⟨fun pins s σ H Q I q => q.elim (p.run pins s σ H Q I) (p'.run pins s σ H Q I)⟩
theorem _root_.L2.PE.bad {X : Cx} {e : Expr} {W : Wd} {Wx : WX} : PE X e (tI W Wx fun _ _ => .bad) := ⟨fun _ _ _ _ _ _ ⟨_, _, _, _, _, f⟩ => False.elim f⟩

/-! ### names, constants -/
def cVar (i : Nat) : Ev → AH → Res D := fun r h => match r[i]? with
  | some (some d) => .ok d h
  | _ => .bad
def cCon (d : D) : Ev → AH → Res D := fun _ h => .ok d h
/-- a constant without an object -/
def flatC : D → Option V
  | .non => some .non
  | .bl b => some (.bl b)
  | .int i => some (.int i)
  | .str x => some (.str x)
  | _ => none
theorem flatC_VR {W : Wd} {m : Nat → Addr} {n : Nat} {H : Hp} {d : D} {v : V} (e : flatC d = some v) : VR W m n H d v := by
  cases d <;> simp only [flatC, Option.some.injEq, reduceCtorEq] at e <;> subst e <;> simp only [VR]
section
variable {X : Cx} {W : Wd} {Wx : WX} {pos : Pos}
theorem pi_var {i : Nat} {x : Str} (hN : X.N[i]? = some x) (hv : Vis X.env.scope x) (hd : (x == ("__debug__" : Str)) = false) (hcd : (x == ("__classdict__" : Str)) = false) : PE X (.Name x pos) (tI W Wx (cVar i)) := by
  refine (pe_var hN hv hd hcd).imp fun s H Q ⟨m, h, r, S, e, f⟩ => ?_
  unfold cVar at f
  cases q : r[i]? with
  | none => rw [q] at f; exact False.elim f
  | some o =>
    cases o with
    | none => rw [q] at f; exact False.elim f
    | some d =>
      rw [q] at f
      obtain ⟨v, a, b⟩ := e.get i d q
      exact ⟨v, a, f.here S v b⟩
theorem pi_con {e : Expr} {d : D} {v : V} (p : PE X e (tC v)) (hv : ∀ m n H, VR W m n H d v) : PE X e (tI W Wx (cCon d)) := by
  refine p.imp fun s H Q ⟨m, h, r, S, e, f⟩ => ?_
  exact f.here S v (hv _ _ _)

/-! ### two operands -/
def cBin (op : D → D → AH → Res D) (fa fb : Ev → AH → Res D) : Ev → AH → Res D := fun r h => (fa r h).bind fun x h1 => (fb r h1).bind fun y h2 => op x y h2
/-- a two-place operation on values does what op does -/
def OpS (W : Wd) (r : R2) (op : D → D → AH → Res D) : Prop := ∀ (Wx : WX) (m : Nat → Addr) (h : AH) (H : Hp) (s : L2.St) (x y : D) (v u : V) (Q : VK), SR W m h H → VR W m h.length H x v → VR W m h.length H y u →
  Fin W Wx m h H s (op x y h) (fun m' h' H' d => ∀ z, VR W m' h'.length H' d z → Q z H') → r v u H Q
variable {a b : Expr} {fa fb : Ev → AH → Res D} {r : R2} {op : D → D → AH → Res D}
theorem ti_bin (hs : OpS W r op) {s : L2.St} {H : Hp} {Q : VK} (q : tI W Wx (cBin op fa fb) s H Q) : tOp r (tI W Wx fa) (tI W Wx fb) s H Q := by
  obtain ⟨m, h, r', S, e, f⟩ := q
  refine ⟨m, h, r', S, e, f.bind.imp fun m1 h1 H1 x S1 e1 f1 v hv => ?_⟩
  refine ⟨m1, h1, r', S1, e.ext e1, f1.bind.imp fun m2 h2 H2 y S2 e2 f2 u hu => ?_⟩
  exact hs Wx m2 h2 H2 s x y v u Q S2 (hv.ext e2) hu f2
theorem pi_bin {o : Operator} (ho : OpR X (binaryOp o) r) (hs : OpS W r op) (ha : PE X a (tI W Wx fa)) (hb : PE X b (tI W Wx fb)) : PE X (.BinOp a o b pos) (tI W Wx (cBin op fa fb)) :=
  (pe_op ho ha hb).imp fun _ _ _ q => ti_bin hs q
theorem pi_cmp {o : CmpOp} (ho : OpR X (compareOp o) r) (hs : OpS W r op) (ha : PE X a (tI W Wx fa)) (hb : PE X b (tI W Wx fb)) (hm : behindInMarks o b = false) : PE X (.Compare a [o] [b] pos) (tI W Wx (cBin op fa fb)) :=
  (pe_cmpR ho ha hb hm).imp fun _ _ _ q => ti_bin hs q
/-- a bool, as a test -/
def cTst (f : Ev → AH → Res D) : Ev → AH → Res Bool := fun r h => (f r h).bind fun d h1 => match d with
  | .bl b => .ok b h1
  | _ => .bad
theorem ti_tst {f : Ev → AH → Res D} {s : L2.St} {H : Hp} {Q : Bool → Hp → Prop} (q : tT W Wx (cTst f) s H Q) : tI W Wx f s H (fun x H' => ∃ k, x = .bl k ∧ Q k H') := by
  obtain ⟨m, h, r', S, e, f⟩ := q
  refine ⟨m, h, r', S, e, f.bind.imp fun m1 h1 H1 d S1 e1 f1 v hv => ?_⟩
  cases d with
  | bl b =>
    simp only [VR] at hv
    exact ⟨b, hv, f1.here S1⟩
  | _ => exact False.elim f1
theorem pi_tcmp {o : CmpOp} (ho : OpR X (compareOp o) r) (hs : OpS W r op) (ha : PE X a (tI W Wx fa)) (hb : PE X b (tI W Wx fb)) (hm : behindInMarks o b = false) : PT X (.Compare a [o] [b] pos) (tT W Wx (cTst (cBin op fa fb))) := by
  refine (pt_cmpR ho ha hb hm).imp fun s H Q q => ?_
  obtain ⟨m, h, r', S, e, f⟩ := ti_tst q
  exact ti_bin hs ⟨m, h, r', S, e, f⟩
end
/-! ### leaving: what was made since is given out as a value -/
theorem Fin.shift {W : Wd} {Wx : WX} {m m1 : Nat → Addr} {h h1 : AH} {H H1 : Hp} {s : L2.St} {α : Type} {r : Res α} {k : (Nat → Addr) → AH → Hp → α → Prop} (f : Fin W Wx m h H s r k) (e : Ext m h.length H m1 h1.length H1) : Fin W Wx m1 h1 H1 s r k := by
  cases r with
  | ok d h' => exact fun m' H' S e2 => f m' H' S (e.trans e2)
  | err c fs h' => exact fun m' H' cls dd S e2 => f m' H' cls dd S (e.trans e2)
  | bad => exact f
open Classical in
noncomputable def fzR (h : AH) (q : Res D) : Res D := match q with
  | .ok d h' => if KO h h' then (match frzD h' h.length 9 d with
    | some d' => .ok d' (h'.take h.length)
    | none => .bad) else .bad
  | .err c fs h' => if KO h h' then (match mapP (frzD h' h.length 9) (fs.map (·.2)) with
    | some l => .err c ((fs.map (·.1)).zip l) (h'.take h.length)
    | none => .bad) else .bad
  | .bad => .bad
noncomputable def fz (f : Ev → AH → Res D) : Ev → AH → Res D := fun r h => fzR h (f r h)
theorem XR.leave {W : Wd} {m m' : Nat → Addr} {h' : AH} {n : Nat} {H' : Hp} {c : Nat} {fs : List (Str × D)} {l : List D} {cls : Value} {dd : Option Addr} (S' : SR W m' h' H') (f : Fewer m n m' h'.length) (e : mapP (frzD h' n 9) (fs.map (·.2)) = some l)
    (x : XR W m' h'.length H' c fs cls dd) : XR W m n H' c ((fs.map (·.1)).zip l) cls dd := by
  refine ⟨x.1, ?_⟩
  rcases x.2 with ⟨rfl, rfl⟩ | ⟨d, ys, rfl, h1, h2, h3⟩
  · exact .inl ⟨rfl, rfl⟩
  · obtain ⟨u1, u2⟩ := h3.unz
    exact .inr ⟨d, ys, rfl, h1, f.ni h2, PR.zip u1 (mapP_ok (fun d d' v => frz_ok S' f 9 d d' v) e u2)⟩
theorem fin_fz {W : Wd} {Wx : WX} {m : Nat → Addr} {h : AH} {H : Hp} {s : L2.St} {q : Res D} {Q : VK} (S : SR W m h H) (f : Fin W Wx m h H s (fzR h q) (fun m' h' H' d => ∀ v, VR W m' h'.length H' d v → Q v H')) :
    Fin W Wx m h H s q (fun m' h' H' d => ∀ v, VR W m' h'.length H' d v → Q v H') := by
  cases q with
  | ok d h' =>
    intro m' H' S' e v hv
    unfold fzR at f
    simp only at f
    split at f
    · rename_i ko
      obtain ⟨S2, e2⟩ := PI.leave S S' e ko
      split at f
      · rename_i d' ed
        have f' := f m H' S2 e2
        refine f' v ?_
        have el : (h'.take h.length).length = h.length := by rw [List.length_take]; have := ko.1; omega
        rw [el]
        exact frz_ok S' e.fewer 9 d d' v ed hv
      · exact False.elim f
    · exact False.elim f
  | err c fs h' =>
    intro m' H' cls dd S' e x
    unfold fzR at f
    simp only at f
    split at f
    · rename_i ko
      obtain ⟨S2, e2⟩ := PI.leave S S' e ko
      split at f
      · rename_i l el'
        have el : (h'.take h.length).length = h.length := by rw [List.length_take]; have := ko.1; omega
        refine f m H' cls dd S2 e2 ?_
        rw [el]
        exact XR.leave S' e.fewer el' x
      · exact False.elim f
    · exact False.elim f
  | bad => exact f
theorem pi_fz {X : Cx} {e : Expr} {W : Wd} {Wx : WX} {f : Ev → AH → Res D} (p : PE X e (tI W Wx f)) : PE X e (tI W Wx (fz f)) :=
  p.imp fun s H Q ⟨m, h, r, S, E, y⟩ => ⟨m, h, r, S, E, fin_fz S y⟩
theorem take_app {h j : AH} : (h ++ j).take h.length = h := by rw [List.take_append_of_le_length (Nat.le_refl _), List.take_length]
theorem frzD_cl {h : AH} {n k : Nat} {d : D} (c : clD n d = true) : frzD h n k d = some d := by
  cases k with
  | zero => unfold frzD; rw [if_pos c]
  | succ k => unfold frzD; rw [if_pos c]
theorem mapP_cl {h : AH} {n k : Nat} : ∀ {l : List D}, clDs n l = true → mapP (frzD h n k) l = some l
  | [], _ => rfl
  | d :: l, c => by
    simp only [clDs, Bool.and_eq_true] at c
    simp only [mapP, frzD_cl c.1, mapP_cl c.2]
/-- a value without numbers leaves as it is -/
theorem fzR_cl {h j : AH} {d : D} (c : clD h.length d = true) : fzR h (.ok d (h ++ j)) = .ok d h := by
  simp only [fzR, if_pos (KO.app h j), frzD_cl c, take_app]
theorem fzR_cl0 {h : AH} {d : D} (c : clD h.length d = true) : fzR h (.ok d h) = .ok d h := by
  have := fzR_cl (j := []) c
  rwa [List.append_nil] at this
/-- a new list leaves as a value -/
theorem fzR_lst {h : AH} {l : List D} {j : AH} (c : clDs h.length l = true) : fzR h (.ok (.ref h.length) (h ++ .lst l :: j)) = .ok (.rl l) h := by
  have e : (h ++ O.lst l :: j)[h.length]? = some (.lst l) := by
    rw [List.getElem?_append_right (Nat.le_refl _), Nat.sub_self]
    rfl
  have cf : ¬ clD h.length (.ref h.length) = true := by
    simp [clD]
  have ef : frzD (h ++ O.lst l :: j) h.length 9 (.ref h.length) = some (.rl l) := by
    unfold frzD
    rw [if_neg cf]
    simp only [e, mapP_cl c, Option.map_some]
  simp only [fzR, if_pos (KO.app h _), ef, take_app]
end PI
/-! PI3: statements, targets, loops, comprehensions. -/
namespace PI
open PySem L2

inductive RS where
  | nx (r : Ev) (h : AH) | rt (d : D) (h : AH) | bk (r : Ev) (h : AH) | ct (r : Ev) (h : AH) | er (c : Nat) (fs : List (Str × D)) (r : Ev) (h : AH) | bad
  deriving Inhabited

def FS (W : Wd) (Wx : WX) (m : Nat → Addr) (h : AH) (H : Hp) (q : RS) (Dn : Ends) : Prop := match q with
  | .nx r h' => ∀ m' H' s', SR W m' h' H' → Ext m h.length H m' h'.length H' → ER W m' h'.length H' r s' → Dn.nx s' H'
  | .rt d h' => ∀ m' H' v, SR W m' h' H' → Ext m h.length H m' h'.length H' → VR W m' h'.length H' d v → Dn.rt v H'
  | .bk r h' => ∀ m' H' s', SR W m' h' H' → Ext m h.length H m' h'.length H' → ER W m' h'.length H' r s' → Dn.bk s' H'
  | .ct r h' => ∀ m' H' s', SR W m' h' H' → Ext m h.length H m' h'.length H' → ER W m' h'.length H' r s' → Dn.ct s' H'
  | .er c fs r h' => ∀ m' H' s' cls dd, SR W m' h' H' → Ext m h.length H m' h'.length H' → ER W m' h'.length H' r s' → XR W m' h'.length H' c fs cls dd → Wx cls dd s' H'
  | .bad => False
theorem FS.shift {W : Wd} {Wx : WX} {m m1 : Nat → Addr} {h h1 : AH} {H H1 : Hp} {q : RS} {Dn : Ends} (f : FS W Wx m h H q Dn) (e : Ext m h.length H m1 h1.length H1) : FS W Wx m1 h1 H1 q Dn := by
  cases q with
  | nx r h' => exact fun m' H' s' S e2 => f m' H' s' S (e.trans e2)
  | rt r h' => exact fun m' H' s' S e2 => f m' H' s' S (e.trans e2)
  | bk r h' => exact fun m' H' s' S e2 => f m' H' s' S (e.trans e2)
  | ct r h' => exact fun m' H' s' S e2 => f m' H' s' S (e.trans e2)
  | er c fs r h' => exact fun m' H' s' cls dd S e2 => f m' H' s' cls dd S (e.trans e2)
  | bad => exact f
/-- another end, where it is the same or better -/
theorem FS.imp {W : Wd} {Wx : WX} {m : Nat → Addr} {h : AH} {H : Hp} {q : RS} {Dn Dn' : Ends} (f : FS W Wx m h H q Dn) (h1 : ∀ s H, Dn.nx s H → Dn'.nx s H) (h2 : ∀ v H, Dn.rt v H → Dn'.rt v H)
    (h3 : ∀ s H, Dn.bk s H → Dn'.bk s H) (h4 : ∀ s H, Dn.ct s H → Dn'.ct s H) : FS W Wx m h H q Dn' := by
  cases q with
  | nx r h' => exact fun m' H' s' S e2 E => h1 _ _ (f m' H' s' S e2 E)
  | rt r h' => exact fun m' H' s' S e2 E => h2 _ _ (f m' H' s' S e2 E)
  | bk r h' => exact fun m' H' s' S e2 E => h3 _ _ (f m' H' s' S e2 E)
  | ct r h' => exact fun m' H' s' S e2 E => h4 _ _ (f m' H' s' S e2 E)
  | er c fs r h' => exact f
  | bad => exact f

def tS (W : Wd) (Wx : WX) (f : Ev → AH → RS) : TS := fun Dn s H => ∃ m h r, SR W m h H ∧ ER W m h.length H r s ∧ FS W Wx m h H (f r h) Dn
theorem _root_.L2.PS.bad {X : Cx} {st : Stmt} {W : Wd} {Wx : WX} : PS X st (tS W Wx fun _ _ => .bad) := ⟨fun _ _ _ _ _ _ ⟨_, _, _, _, _, f⟩ => False.elim f⟩

/-- what is done with a value -/
def onRes {α : Type} (q : Res α) (r : Ev) (k : α → AH → RS) : RS := match q with
  | .ok a h => k a h
  | .err c fs h => .er c fs r h
  | .bad => .bad
theorem FS.on {W : Wd} {Wx : WX} {m : Nat → Addr} {h : AH} {H : Hp} {s : L2.St} {r : Ev} {α : Type} {q : Res α} {k : α → AH → RS} {Dn : Ends} (E : ER W m h.length H r s) (f : FS W Wx m h H (onRes q r k) Dn) :
    Fin W Wx m h H s q (fun m1 h1 H1 d => FS W Wx m1 h1 H1 (k d h1) Dn) := by
  cases q with
  | ok a h1 => exact fun m1 H1 S1 e1 => FS.shift f e1
  | err c fs h1 => exact fun m1 H1 cls dd S1 e1 x => f m1 H1 s cls dd S1 e1 (E.ext e1) x
  | bad => exact f

section
variable {X : Cx} {W : Wd} {Wx : WX} {pos : Pos} {fe : Ev → AH → Res D} {e : Expr}

def cPass : Ev → AH → RS := fun r h => .nx r h
def cBrk : Ev → AH → RS := fun r h => .bk r h
def cCnt : Ev → AH → RS := fun r h => .ct r h
def cRetN : Ev → AH → RS := fun _ h => .rt .non h
def cRet (fe : Ev → AH → Res D) : Ev → AH → RS := fun r h => onRes (fe r h) r fun d h1 => .rt d h1
def cExp (fe : Ev → AH → Res D) : Ev → AH → RS := fun r h => onRes (fe r h) r fun _ h1 => .nx r h1
def cSeq (f g : Ev → AH → RS) : Ev → AH → RS := fun r h => match f r h with
  | .nx r1 h1 => g r1 h1
  | q => q
def cIf (c : Ev → AH → Res Bool) (f g : Ev → AH → RS) : Ev → AH → RS := fun r h => onRes (c r h) r fun b h1 => if b = true then f r h1 else g r h1

theorem nx_in {t : TS} (p : ∀ Dn s H, tS W Wx cPass Dn s H → t Dn s H) : True := trivial
theorem si_pass : PS X (.Pass pos) (tS W Wx cPass) := ps_pass.imp fun Dn s H ⟨m, h, r, S, E, f⟩ => f m H s S (Ext.refl _ _ _) E
theorem si_brk : PS X (.Break pos) (tS W Wx cBrk) := ps_break.imp fun Dn s H ⟨m, h, r, S, E, f⟩ => f m H s S (Ext.refl _ _ _) E
theorem si_cnt : PS X (.Continue pos) (tS W Wx cCnt) := ps_continue.imp fun Dn s H ⟨m, h, r, S, E, f⟩ => f m H s S (Ext.refl _ _ _) E
theorem si_retN : PS X (.Return none pos) (tS W Wx cRetN) := ps_retN.imp fun Dn s H ⟨m, h, r, S, E, f⟩ => f m H .non S (Ext.refl _ _ _) (by simp only [VR])
theorem si_ret (p : PE X e (tI W Wx fe)) : PS X (.Return (some e) pos) (tS W Wx (cRet fe)) := by
  refine (ps_ret p).imp fun Dn s H ⟨m, h, r, S, E, f⟩ => ?_
  exact ⟨m, h, r, S, E, (FS.on E f).imp fun m1 h1 H1 d S1 e1 f1 v hv => f1 m1 H1 v S1 (Ext.refl _ _ _) hv⟩
theorem si_exp (p : PE X e (tI W Wx fe)) (hs : swapsWith e none pos.line X.env = pure false) : PS X (.Expr e pos) (tS W Wx (cExp fe)) := by
  refine (ps_expr p hs).imp fun Dn s H ⟨m, h, r, S, E, f⟩ => ?_
  exact ⟨m, h, r, S, E, (FS.on E f).imp fun m1 h1 H1 d S1 e1 f1 v hv => f1 m1 H1 s S1 (Ext.refl _ _ _) (E.ext e1)⟩
theorem si_nil : PSs X [] (tS W Wx cPass) := pss_nil.imp fun Dn s H ⟨m, h, r, S, E, f⟩ => f m H s S (Ext.refl _ _ _) E
theorem si_cons {st : Stmt} {rest : List Stmt} {f g : Ev → AH → RS} (p : PS X st (tS W Wx f)) (q : PSs X rest (tS W Wx g)) : PSs X (st :: rest) (tS W Wx (cSeq f g)) := by
  refine (pss_cons p q).imp fun Dn s H ⟨m, h, r, S, E, y⟩ => ⟨m, h, r, S, E, ?_⟩
  unfold cSeq at y
  cases z : f r h with
  | nx r1 h1 =>
    rw [z] at y
    exact fun m1 H1 s1 S1 e1 E1 => ⟨m1, h1, r1, S1, E1, y.shift e1⟩
  | rt d h1 => rw [z] at y; exact y
  | bk r1 h1 => rw [z] at y; exact y
  | ct r1 h1 => rw [z] at y; exact y
  | er c fs r1 h1 => rw [z] at y; exact y
  | bad => rw [z] at y; exact y
theorem si_if {c : Expr} {a b : List Stmt} {fc : Ev → AH → Res Bool} {f g : Ev → AH → RS} (pc : PT X c (tT W Wx fc)) (p : PSs X a (tS W Wx f)) (q : PSs X b (tS W Wx g)) : PS X (.If c a b pos) (tS W Wx (cIf fc f g)) := by
  refine (ps_if pc p q).imp fun Dn s H ⟨m, h, r, S, E, y⟩ => ⟨m, h, r, S, E, (FS.on E y).imp fun m1 h1 H1 k S1 e1 f1 => ?_⟩
  cases k with
  | true => exact ⟨m1, h1, r, S1, E.ext e1, f1⟩
  | false => exact ⟨m1, h1, r, S1, E.ext e1, f1⟩

/-! ### while -/
def cWhl (c : Ev → AH → Res Bool) (b : Ev → AH → RS) : Nat → Ev → AH → RS
  | 0, _, _ => .bad
  | n + 1, r, h => onRes (c r h) r fun k h1 => if k = true then (match b r h1 with
      | .nx r2 h2 => cWhl c b n r2 h2
      | .ct r2 h2 => cWhl c b n r2 h2
      | .bk r2 h2 => .nx r2 h2
      | q => q) else .nx r h1
theorem si_whl {c : Expr} {body : List Stmt} {fc : Ev → AH → Res Bool} {f : Ev → AH → RS} (n : Nat) (hp : PassesOwn (model X.prog X.w) X.A X.env X.xe) (pc : PT X c (tT W Wx fc)) (p : PSs X body (tS W Wx f)) :
    PS X (.While c body [] pos) (tS W Wx (cWhl fc f n)) := by
  refine (ps_while hp pc p).imp fun Dn s H ⟨m, h, r, S, E, y⟩ => ?_
  refine ⟨fun k s H => ∃ m h r, SR W m h H ∧ ER W m h.length H r s ∧ FS W Wx m h H (cWhl fc f k r h) Dn, ⟨n, m, h, r, S, E, y⟩, ?_⟩
  rintro k s H ⟨m, h, r, S, E, y⟩
  cases k with
  | zero => exact False.elim y
  | succ k =>
    refine ⟨m, h, r, S, E, (FS.on E y).imp fun m1 h1 H1 b S1 e1 f1 => ?_⟩
    cases b with
    | false => exact f1 m1 H1 s S1 (Ext.refl _ _ _) (E.ext e1)
    | true =>
      rw [if_pos rfl] at f1 ⊢
      refine ⟨fun s' H' => ∃ m h r, SR W m h H' ∧ ER W m h.length H' r s' ∧ FS W Wx m h H' (cWhl fc f k r h) Dn, fun s' H' x => ⟨k, Nat.lt_succ_self k, x⟩, m1, h1, r, S1, E.ext e1, ?_⟩
      cases z : f r h1 with
      | nx r2 h2 => rw [z] at f1; exact fun m2 H2 s2 S2 e2 E2 => ⟨m2, h2, r2, S2, E2, f1.shift e2⟩
      | ct r2 h2 => rw [z] at f1; exact fun m2 H2 s2 S2 e2 E2 => ⟨m2, h2, r2, S2, E2, f1.shift e2⟩
      | bk r2 h2 => rw [z] at f1; exact f1
      | rt d h2 => rw [z] at f1; exact f1
      | er c fs r2 h2 => rw [z] at f1; exact f1
      | bad => rw [z] at f1; exact f1

/-! ### targets -/
/-- the slots ts at most are set -/
def Off (ts : List Nat) (s s' : L2.St) : Prop := s'.length = s.length ∧ ∀ j : Nat, j ∉ ts → s'[j]? = s[j]?
theorem Off.refl (ts : List Nat) (s : L2.St) : Off ts s s := ⟨rfl, fun _ _ => rfl⟩
theorem Off.trans {ts : List Nat} {s s1 s2 : L2.St} (a : Off ts s s1) (b : Off ts s1 s2) : Off ts s s2 := ⟨b.1.trans a.1, fun j hj => (b.2 j hj).trans (a.2 j hj)⟩
theorem wipe_at (s : L2.St) : ∀ (vs : List Nat) (j : Nat), (wipe s vs)[j]? = if j ∈ vs then s[j]?.map (fun _ => none) else s[j]?
  | [], j => by simp [wipe]
  | v :: vs, j => by
    unfold wipe
    by_cases e : v = j
    · subst e
      rw [if_pos List.mem_cons_self]
      by_cases hl : v < s.length
      · rw [List.getElem?_set_self (by rw [wipe_length]; exact hl), List.getElem?_eq_getElem hl]
        rfl
      · rw [List.getElem?_eq_none (by rw [List.length_set, wipe_length]; omega), List.getElem?_eq_none (by omega)]
        rfl
    · rw [List.getElem?_set_ne e, wipe_at s vs j]
      by_cases hm : j ∈ vs
      · rw [if_pos hm, if_pos (List.mem_cons_of_mem _ hm)]
      · rw [if_neg hm, if_neg (fun z => (List.mem_cons.mp z).elim (fun q => e q.symm) hm)]
theorem Off.wipe {vs : List Nat} {s s' : L2.St} (o : Off vs s s') : L2.wipe s' vs = L2.wipe s vs := by
  refine List.ext_getElem? fun j => ?_
  rw [wipe_at, wipe_at]
  by_cases hm : j ∈ vs
  · rw [if_pos hm, if_pos hm]
    by_cases hl : j < s.length
    · rw [List.getElem?_eq_getElem hl, List.getElem?_eq_getElem (by rw [o.1]; exact hl)]
      rfl
    · rw [List.getElem?_eq_none (by rw [o.1]; omega), List.getElem?_eq_none (by omega)]
  · rw [if_neg hm, if_neg hm]
    exact o.2 j hm
theorem wipe_idem (s : L2.St) (vs : List Nat) : L2.wipe (L2.wipe s vs) vs = L2.wipe s vs := by
  refine List.ext_getElem? fun j => ?_
  rw [wipe_at]
  by_cases hm : j ∈ vs
  · rw [if_pos hm, wipe_at, if_pos hm]
    cases s[j]? <;> rfl
  · rw [if_neg hm]
def wipeD (r : Ev) : List Nat → Ev
  | [] => r
  | v :: vs => (wipeD r vs).set v none
theorem ER.wipe {m : Nat → Addr} {n : Nat} {H : Hp} {r : Ev} {s : L2.St} (E : ER W m n H r s) : ∀ vs, ER W m n H (wipeD r vs) (L2.wipe s vs)
  | [] => E
  | v :: vs => (ER.wipe E vs).sets v

/-- a target: what it makes of the slots and the heap; ts: the slots it may set -/
abbrev GR := Option (Ev × AH)
def FG (W : Wd) (m : Nat → Addr) (h : AH) (H : Hp) (q : GR) (k : L2.St → Hp → Prop) : Prop := match q with
  | some (r, h') => ∀ m' H' s', SR W m' h' H' → Ext m h.length H m' h'.length H' → ER W m' h'.length H' r s' → k s' H'
  | none => False
theorem FG.shift {W : Wd} {m m1 : Nat → Addr} {h h1 : AH} {H H1 : Hp} {q : GR} {k : L2.St → Hp → Prop} (f : FG W m h H q k) (e : Ext m h.length H m1 h1.length H1) : FG W m1 h1 H1 q k := by
  cases q with
  | none => exact f
  | some p => exact fun m' H' s' S e2 => f m' H' s' S (e.trans e2)
theorem FG.imp {W : Wd} {m : Nat → Addr} {h : AH} {H : Hp} {q : GR} {k k' : L2.St → Hp → Prop} (f : FG W m h H q k) (i : ∀ s H, k s H → k' s H) : FG W m h H q k' := by
  cases q with
  | none => exact f
  | some p => exact fun m' H' s' S e2 E => i _ _ (f m' H' s' S e2 E)
def tG (W : Wd) (ts : List Nat) (f : D → Ev → AH → GR) : TG := fun v s H Q => ∃ m h r d, SR W m h H ∧ ER W m h.length H r s ∧ VR W m h.length H d v ∧
  FG W m h H (f d r h) fun s' H' => Off ts s s' → Q s' H'
def tGs (W : Wd) (ts : List Nat) (f : List D → Ev → AH → GR) : TGs := fun vs s H Q => ∃ m h r ds, SR W m h H ∧ ER W m h.length H r s ∧ VRs W m h.length H ds vs ∧
  FG W m h H (f ds r h) fun s' H' => Off ts s s' → Q s' H'
theorem _root_.L2.PG.imp {X : Cx} {e : Expr} {t t' : TG} (p : PG X e t) (i : ∀ v s H Q, t' v s H Q → t v s H Q) : PG X e t' := ⟨fun pins s σ H v u Q I rv q => p.run pins s σ H v u Q I rv (i v σ H Q q)⟩
theorem _root_.L2.PGs.imp {X : Cx} {es : List Expr} {t t' : TGs} (p : PGs X es t) (i : ∀ v s H Q, t' v s H Q → t v s H Q) : PGs X es t' := ⟨fun pins s σ H v u Q I rv q => p.run pins s σ H v u Q I rv (i v σ H Q q)⟩
theorem _root_.L2.PG.bad {X : Cx} {e : Expr} {W : Wd} {ts : List Nat} : PG X e (tG W ts fun _ _ _ => none) := ⟨fun _ _ _ _ _ _ _ _ _ ⟨_, _, _, _, _, _, _, f⟩ => False.elim f⟩
theorem tG.mono {W : Wd} {ts ts' : List Nat} {f : D → Ev → AH → GR} (i : ∀ j ∈ ts, j ∈ ts') : ∀ v s H Q, tG W ts' f v s H Q → tG W ts f v s H Q :=
  fun v s H Q ⟨m, h, r, d, S, E, hv, x⟩ => ⟨m, h, r, d, S, E, hv, x.imp fun s' H' k o => k ⟨o.1, fun j hj => o.2 j fun z => hj (i j z)⟩⟩
def gNm (i : Nat) : D → Ev → AH → GR := fun d r h => some (r.set i (some d), h)
theorem gi_name {i : Nat} {x : Str} {ts : List Nat} (ht : i ∈ ts) (hN : X.N.Nodup) (hi : X.N[i]? = some x) (hx : Loc X.env.scope x) (hf : X.fn x = true ∨ X.env.scope.names.lookup x = some .local) : PG X (.Name x pos) (tG W ts (gNm i)) := by
  refine (pg_name hN hi hx hf).imp fun v s H Q ⟨m, h, r, d, S, E, hv, f⟩ => ?_
  refine f m H _ S (Ext.refl _ _ _) (E.set i hv) ⟨List.length_set, fun j hj => ?_⟩
  rw [List.getElem?_set_ne fun z => hj (by rw [← z]; exact ht)]
def gsNil : List D → Ev → AH → GR := fun ds r h => match ds with
  | [] => some (r, h)
  | _ => none
def gsCons (f : D → Ev → AH → GR) (g : List D → Ev → AH → GR) : List D → Ev → AH → GR := fun ds r h => match ds with
  | [] => none
  | d :: l => (f d r h).bind fun p => g l p.1 p.2
theorem gsi_nil {ts : List Nat} : PGs X [] (tGs W ts gsNil) := by
  refine pgs_nil.imp fun vs s H Q ⟨m, h, r, ds, S, E, hv, f⟩ => ?_
  cases ds with
  | nil =>
    simp only [VRs] at hv
    exact ⟨hv, f m H s S (Ext.refl _ _ _) E (Off.refl _ _)⟩
  | cons d l => exact False.elim f
theorem gsi_cons {e : Expr} {es : List Expr} {ts : List Nat} {f : D → Ev → AH → GR} {g : List D → Ev → AH → GR} (p : PG X e (tG W ts f)) (q : PGs X es (tGs W ts g))
    (hs : (assignEach (e :: es) X.env).map (·.2) = assign e X.env :: (assignEach es X.env).map (·.2)) : PGs X (e :: es) (tGs W ts (gsCons f g)) := by
  refine (pgs_cons p q hs).imp fun vs s H Q ⟨m, h, r, ds, S, E, hv, y⟩ => ?_
  cases ds with
  | nil => exact False.elim y
  | cons d l =>
    simp only [VRs] at hv
    obtain ⟨x, rr, rfl, hv1, hv2⟩ := hv
    refine ⟨x, rr, rfl, m, h, r, d, S, E, hv1, ?_⟩
    have y' : FG W m h H ((f d r h).bind fun p => g l p.1 p.2) _ := y
    cases z : f d r h with
    | none => rw [z] at y'; exact y'
    | some p =>
      obtain ⟨r1, h1⟩ := p
      rw [z] at y'
      exact fun m1 H1 s1 S1 e1 E1 o1 => ⟨m1, h1, r1, l, S1, E1, hv2.ext e1, (FG.shift y' e1).imp fun s2 H2 k o2 => k (o1.trans o2)⟩
def gTp (n : Nat) (g : List D → Ev → AH → GR) : D → Ev → AH → GR := fun d r h => match d with
  | .tup l => if l.length = n then g l r h else none
  | _ => none
theorem gi_tup {es : List Expr} {k : Nat} {n : Nat} {ts : List Nat} {g : List D → Ev → AH → GR} (hc : X.calm = true) (hW : W.K = X.K) (p : PGs X es (tGs W ts g)) (hn : (assignEach es X.env).length = n)
    (hst : (assignEach es X.env).findIdx? (·.1) = none) : PG X (.Tuple es k pos) (tG W ts (gTp n g)) := by
  refine (pg_tup hc p hn hst).imp fun v s H Q ⟨m, h, r, d, S, E, hv, f⟩ => ?_
  cases d with
  | tup l =>
    simp only [VR] at hv
    obtain ⟨a, xs, rfl, h2, h3⟩ := hv
    have f' : FG W m h H (if l.length = n then g l r h else none) _ := f
    by_cases hl : l.length = n
    · rw [if_pos hl] at f'
      exact ⟨a, xs, rfl, h2.sq, h3.length.trans hl, m, h, r, l, S, E, h3, f'⟩
    · rw [if_neg hl] at f'
      exact False.elim f'
  | _ => exact False.elim f
/-- target = value -/
def cAsg (fe : Ev → AH → Res D) (g : D → Ev → AH → GR) : Ev → AH → RS := fun r h => onRes (fe r h) r fun d h1 => match g d r h1 with
  | some (r2, h2) => .nx r2 h2
  | none => .bad
theorem ti_asg {ts : List Nat} {g : D → Ev → AH → GR} {Dn : Ends} {s : L2.St} {H : Hp} (q : tS W Wx (cAsg fe g) Dn s H) : tAsg (tI W Wx fe) (tG W ts g) Dn s H := by
  obtain ⟨m, h, r, S, E, f⟩ := q
  refine ⟨m, h, r, S, E, (FS.on E f).imp fun m1 h1 H1 d S1 e1 f1 v hv => ⟨m1, h1, r, d, S1, E.ext e1, hv, ?_⟩⟩
  revert f1
  cases g d r h1 with
  | none => exact fun f1 => f1
  | some p => exact fun f1 m2 H2 s2 S2 e2 E2 _ => f1 m2 H2 s2 S2 e2 E2
theorem si_asg {tg : Expr} {ts : List Nat} {g : D → Ev → AH → GR} (he : PE X e (tI W Wx fe)) (hg : PG X tg (tG W ts g)) (hs : swapsWithSole [tg] e pos.line X.env = pure false) (hw : swappedStores [tg] e X.env = pure none)
    (h1 : (assignEach [tg] X.env).map (·.2) = [assign tg X.env]) : PS X (.Assign [tg] e pos) (tS W Wx (cAsg fe g)) := (ps_asg he hg hs hw h1).imp fun _ _ _ q => ti_asg q
theorem si_set {i : Nat} {x : Str} {pos' : Pos} (hN : X.N.Nodup) (hi : X.N[i]? = some x) (hx : Loc X.env.scope x) (he : PE X e (tI W Wx fe)) (hs : swapsWith e (some (.Name x pos')) pos.line X.env = pure false)
    (hf : X.fn x = true ∨ X.env.scope.names.lookup x = some .local) : PS X (.Assign [.Name x pos'] e pos) (tS W Wx (cAsg fe (gNm i))) := by
  refine (ps_set hN hi hx he hs hf).imp fun Dn s H ⟨m, h, r, S, E, f⟩ => ⟨m, h, r, S, E, (FS.on E f).imp fun m1 h1 H1 d S1 e1 f1 v hv => ?_⟩
  exact f1 m1 H1 _ S1 (Ext.refl _ _ _) ((E.ext e1).set i hv)
end
end PI
/-! PI4: what is walked; for; list comprehensions. -/
namespace PI
open PySem L2

inductive Iq where
  | lst (a : Nat) | tup (l : List D) | rl (l : List D) | rng (lo : Int) (n : Nat) | str (x : Str) | kys (ks : List Key)
  deriving Inhabited
def JR (W : Wd) (m : Nat → Addr) (n : Nat) (H : Hp) : Iq → It → Prop
  | .lst a, J => a < n ∧ J = Itl W.K (m a)
  | .tup l, J => ∃ p xs, RT W m n H p xs ∧ VRs W m n H l xs ∧ J = Itt W.K p
  | .rl l, J => ∃ p xs, RLs W m n H p xs ∧ VRs W m n H l xs ∧ J = Itl W.K p
  | .rng lo k, J => J = Itr lo k
  | .str x, J => J = Its x
  | .kys ks, J => ∃ p o kvs, H p = some (.frz o (.dK kvs)) ∧ NI m n p ∧ kvs.map (·.1) = ks ∧ J = Itk p o kvs
/-- a key as a value -/
def keyD : Key → D
  | .inl i => .int i
  | .inr x => .str x
/-- the item of turn i: none where that cannot be told; some none at the end -/
def nextI (it : Iq) (i : Nat) (h : AH) : Option (Option D) := match it with
  | .lst a => match h[a]? with
    | some (.lst l) => some l[i]?
    | some (.frz (.lst l)) => some l[i]?
    | _ => none
  | .tup l => some l[i]?
  | .rl l => some l[i]?
  | .rng lo n => some (if i < n then some (.int (lo + i)) else none)
  | .str x => some (x.cps[i]?.map fun c => .str ⟨#[c]⟩)
  | .kys ks => some (ks[i]?.map keyD)

section
variable {W : Wd} {m m' : Nat → Addr} {n n' : Nat} {H H' : Hp} {h : AH} {it : Iq} {J : It}
theorem JR.ext (e : Ext m n H m' n' H') (j : JR W m n H it J) : JR W m' n' H' it J := by
  cases it with
  | lst a => exact ⟨Nat.lt_of_lt_of_le j.1 e.le, by rw [j.2, e.agr a j.1]⟩
  | tup l => obtain ⟨p, xs, a, b, c⟩ := j; exact ⟨p, xs, a.ext e, b.ext e, c⟩
  | rl l => obtain ⟨p, xs, a, b, c⟩ := j; exact ⟨p, xs, a.ext e, b.ext e, c⟩
  | rng lo k => exact j
  | str x => exact j
  | kys ks => obtain ⟨p, o, kvs, a, b, c, d⟩ := j; exact ⟨p, o, kvs, e.kept a b rfl, e.ni a b, c, d⟩
/-- a list of the heap is read -/
def isLst (o : O) (l : List D) : Prop := o = .lst l ∨ o = .frz (.lst l)
theorem SR.lst (S : SR W m h H) {a : Nat} {o : O} {l : List D} (e : h[a]? = some o) (ho : isLst o l) : ∃ xs, SqL W.K H (m a) xs ∧ VRs W m h.length H l xs := by
  obtain ⟨u, q1, q2⟩ := S.obj a o e
  rcases ho with rfl | rfl
  · obtain ⟨xs, rfl, r⟩ := q2
    exact ⟨xs, .inl (.inl q1), r⟩
  · obtain ⟨ob, u', rfl, xs, rfl, r⟩ := q2
    exact ⟨xs, .inl (.inr ⟨ob, q1⟩), r⟩
theorem next_stop (S : SR W m h H) (j : JR W m h.length H it J) {i : Nat} (e : nextI it i h = some none) : J.stop i H := by
  cases it with
  | lst a =>
    obtain ⟨ha, rfl⟩ := j
    simp only [nextI] at e
    cases q : h[a]? with
    | none => rw [q] at e; cases e
    | some o =>
      rw [q] at e
      have go : ∀ l, isLst o l → l[i]? = none → (Itl W.K (m a)).stop i H := fun l ho z => by
        obtain ⟨xs, r1, r2⟩ := S.lst q ho
        exact ⟨xs, r1, by rw [r2.length]; exact List.getElem?_eq_none_iff.mp z⟩
      cases o with
      | lst l => exact go l (.inl rfl) (Option.some.inj e)
      | frz o =>
        cases o with
        | lst l => exact go l (.inr rfl) (Option.some.inj e)
        | _ => cases e
      | _ => cases e
  | tup l =>
    obtain ⟨p, xs, a, b, rfl⟩ := j
    exact ⟨xs, a.sq, by rw [b.length]; exact List.getElem?_eq_none_iff.mp (Option.some.inj e)⟩
  | rl l =>
    obtain ⟨p, xs, a, b, rfl⟩ := j
    exact ⟨xs, a.sq, by rw [b.length]; exact List.getElem?_eq_none_iff.mp (Option.some.inj e)⟩
  | rng lo k =>
    obtain rfl := j
    have e' := Option.some.inj e
    by_cases hk : i < k
    · rw [if_pos hk] at e'; cases e'
    · exact Nat.le_of_not_lt hk
  | str x =>
    obtain rfl := j
    have e' := Option.some.inj e
    cases q : x.cps[i]? with
    | none => exact Array.getElem?_eq_none_iff.mp q
    | some c => rw [q] at e'; cases e'
  | kys ks =>
    obtain ⟨p, o, kvs, a, b, c, rfl⟩ := j
    have e' := Option.some.inj e
    refine ⟨a, ?_⟩
    cases q : ks[i]? with
    | none =>
      have := List.getElem?_eq_none_iff.mp q
      rw [← c, List.length_map] at this
      exact this
    | some k => rw [q] at e'; cases e'
/-- the item is there, and what is given out stands for it -/
theorem next_go (S : SR W m h H) (j : JR W m h.length H it J) {i : Nat} {d : D} (e : nextI it i h = some (some d)) :
    J.go i H ∧ ∀ x H', J.yld i H x H' → (∀ b o, H b = some o → H' b = some o) ∧ VR W m h.length H' d x := by
  have keep : ∀ {x : V} {H' : Hp}, H' = H → VR W m h.length H d x → (∀ b o, H b = some o → H' b = some o) ∧ VR W m h.length H' d x := fun z r => by
    subst z
    exact ⟨fun _ _ q => q, r⟩
  cases it with
  | lst a =>
    obtain ⟨ha, rfl⟩ := j
    simp only [nextI] at e
    cases q : h[a]? with
    | none => rw [q] at e; cases e
    | some o =>
      rw [q] at e
      have go : ∀ l, isLst o l → l[i]? = some d → (Itl W.K (m a)).go i H ∧ ∀ x H', (Itl W.K (m a)).yld i H x H' → (∀ b o, H b = some o → H' b = some o) ∧ VR W m h.length H' d x := fun l ho z => by
        obtain ⟨xs, r1, r2⟩ := S.lst q ho
        obtain ⟨x, x1, x2⟩ := r2.get z
        refine ⟨⟨xs, x, r1, x1⟩, fun y H' ⟨eh, y1⟩ => keep eh ?_⟩
        have := y1 xs r1
        rw [x1] at this
        cases this
        exact x2
      cases o with
      | lst l => exact go l (.inl rfl) (Option.some.inj e)
      | frz o =>
        cases o with
        | lst l => exact go l (.inr rfl) (Option.some.inj e)
        | _ => cases e
      | _ => cases e
  | tup l =>
    obtain ⟨p, xs, a, b, rfl⟩ := j
    obtain ⟨x, x1, x2⟩ := b.get (Option.some.inj e)
    refine ⟨⟨xs, x, a.sq, x1⟩, fun y H' ⟨eh, y1⟩ => keep eh ?_⟩
    have := y1 xs a.sq
    rw [x1] at this
    cases this
    exact x2
  | rl l =>
    obtain ⟨p, xs, a, b, rfl⟩ := j
    obtain ⟨x, x1, x2⟩ := b.get (Option.some.inj e)
    refine ⟨⟨xs, x, a.sq, x1⟩, fun y H' ⟨eh, y1⟩ => keep eh ?_⟩
    have := y1 xs a.sq
    rw [x1] at this
    cases this
    exact x2
  | rng lo k =>
    obtain rfl := j
    have e' := Option.some.inj e
    by_cases hk : i < k
    · rw [if_pos hk] at e'
      cases e'
      exact ⟨hk, fun y H' ⟨eh, y1⟩ => keep eh (by subst y1; simp only [VR])⟩
    · rw [if_neg hk] at e'; cases e'
  | str x =>
    obtain rfl := j
    have e' := Option.some.inj e
    cases q : x.cps[i]? with
    | none => rw [q] at e'; cases e'
    | some c =>
      rw [q] at e'
      cases e'
      refine ⟨(Array.getElem?_eq_some_iff.mp q).1, fun y H' ⟨eh, c', c1, y1⟩ => keep eh ?_⟩
      rw [q] at c1
      cases c1
      subst y1
      simp only [VR]
  | kys ks =>
    obtain ⟨p, o, kvs, a, b, c, rfl⟩ := j
    have e' := Option.some.inj e
    cases q : ks[i]? with
    | none => rw [q] at e'; cases e'
    | some k =>
      rw [q] at e'
      cases e'
      refine ⟨⟨a, ?_⟩, fun y H' ⟨eh, k', v', c1, y1⟩ => keep eh ?_⟩
      · have := (List.getElem?_eq_some_iff.mp q).1
        rw [← c, List.length_map] at this
        exact this
      · have ek : ks[i]? = some k' := by rw [← c, List.getElem?_map, c1]; rfl
        rw [q] at ek
        cases ek
        subst y1
        cases k <;> simp only [keyD, kV, VR]
end

/-- what a for, a comprehension walks -/
def iI (W : Wd) (Wx : WX) (f : Ev → AH → Res Iq) : TI := fun s H R => ∃ m h r, SR W m h H ∧ ER W m h.length H r s ∧ Fin W Wx m h H s (f r h) fun m' h' H' it => ∀ J, JR W m' h'.length H' it J → R J H'
theorem _root_.L2.PI.imp {X : Cx} {tg e : Expr} {t t' : TI} (p : L2.PI X tg e t) (i : ∀ s H Q, t' s H Q → t s H Q) : L2.PI X tg e t' := ⟨fun pins s σ H R I q => p.run pins s σ H R I (i σ H R q)⟩
theorem _root_.L2.PI.or {X : Cx} {tg e : Expr} {t t' : TI} (p : L2.PI X tg e t) (p' : L2.PI X tg e t') : L2.PI X tg e (fun s H Q => t s H Q ∨ t' s H Q) :=
  ⟨fun pins s σ H R I q => q.elim (p.run pins s σ H R I) (p'.run pins s σ H R I)⟩
/-- a value that is walked -/
def cIter (fe : Ev → AH → Res D) : Ev → AH → Res Iq := fun r h => (fe r h).bind fun d h1 => match d with
  | .ref a => match h1[a]? with
    | some (.lst _) => .ok (.lst a) h1
    | some (.frz (.lst _)) => .ok (.lst a) h1
    | _ => .bad
  | .tup l => .ok (.tup l) h1
  | .kt l => .ok (.tup l) h1
  | .kl l => .ok (.rl l) h1
  | .rl l => .ok (.rl l) h1
  | .str x => .ok (.str x) h1
  | .fd ks _ => .ok (.kys ks) h1
  | _ => .bad
section
variable {X : Cx} {W : Wd} {Wx : WX} {pos : Pos}
/-- for k in d: the dict is locked for good -/
theorem pi_keysL {tg e : Expr} {td : TE} (he : PE X e td) : L2.PI X tg e (fun σ H R => td σ H fun x H1 => ∃ d, x = .ref d ∧ ((∃ kvs, H1 d = some (.dK kvs) ∧ ∀ o, R (Itk d o kvs) (upd H1 d (.frz o (.dK kvs)))) ∨ ∃ o kvs, H1 d = some (.frz o (.dK kvs)) ∧ R (Itk d o kvs) H1)) := by
  refine ⟨fun pins s σ H R I h => ?_⟩
  refine thn (he.run pins s σ H _ I h) fun u s1 ⟨x, H1, I1, rx, d, ex, q⟩ => ?_
  subst ex
  obtain rfl : u = Value.ref d := rx
  have go : ∀ (H2 : Hp) (o : Obj) (kvs : List (Key × V)), Inv X pins σ H2 s1 → H2 d = some (.frz o (.dK kvs)) → R (Itk d o kvs) H2 → wpAny (model X.prog X.w) X.A (pyIter (.ref d)) (PIE X pins σ tg R) X.xe s1 := fun H2 o kvs I2 hd q => by
    obtain ⟨hs, hgd, hx, es, ep, vs, hdt, hsz, kv, hm⟩ := I2.frzK hd
    refine iter_keys hs hgd hx hdt (pi_one (tk := s1.toks) I2 _ (turn_keys _ hdt) ⟨_, Heap.get?_push_size _ rfl, rfl, ?_⟩ q)
    rw [hsz] <;> rfl
  rcases q with ⟨kvs, hd, q⟩ | ⟨o, kvs, hd, q⟩
  · obtain ⟨od, I2⟩ := I1.lock hd trivial
    exact go _ od kvs I2 upd_same (q od)
  · exact go _ o kvs I1 hd q
theorem ii_val {tg e : Expr} {fe : Ev → AH → Res D} (hW : W.K = X.K) (p : PE X e (tI W Wx fe)) : L2.PI X tg e (iI W Wx (cIter fe)) := by
  have pl : L2.PI X tg e (iList X.K (tI W Wx fe)) := pi_list p
  have pt : L2.PI X tg e (iTup X.K (tI W Wx fe)) := pi_tup p
  have ps : L2.PI X tg e (iStr (tI W Wx fe)) := pi_str p
  have pk := pi_keysL (tg := tg) p
  refine ((pl.or pt).or (ps.or pk)).imp fun s H R ⟨m, h, r, S, E, f⟩ => ?_
  have f' : Fin W Wx m h H s ((fe r h).bind _) _ := f
  cases z : fe r h with
  | bad => rw [z] at f'; exact False.elim f'
  | err c fs h1 =>
    refine .inr (.inl ⟨m, h, r, S, E, ?_⟩)
    rw [z] at f' ⊢
    exact f'
  | ok d h1 =>
    have g := f'.bind
    rw [z] at g
    cases d with
    | ref a =>
      refine .inl (.inl ⟨m, h, r, S, E, ?_⟩)
      rw [z]
      refine fun m1 H1 S1 e1 v hv => ?_
      simp only [VR] at hv
      obtain ⟨ha, rfl⟩ := hv
      have k := g m1 H1 S1 e1
      cases q : h1[a]? with
      | none => simp only [q] at k; exact False.elim k
      | some o =>
        simp only [q] at k
        have go : ∀ l, isLst o l → Fin W Wx m1 h1 H1 s (.ok (.lst a) h1) (fun m' h' H' it => ∀ J, JR W m' h'.length H' it J → R J H') → ∃ b, V.ref (m1 a) = .ref b ∧ (∃ xs, SqL X.K H1 b xs) ∧ R (Itl X.K b) H1 := fun l ho k => by
          obtain ⟨xs, r1, _⟩ := S1.lst q ho
          exact ⟨m1 a, rfl, ⟨xs, hW ▸ r1⟩, hW ▸ k.here S1 (Itl W.K (m1 a)) ⟨ha, rfl⟩⟩
        cases o with
        | lst l => exact go l (.inl rfl) k
        | frz o =>
          cases o with
          | lst l => exact go l (.inr rfl) k
          | _ => exact False.elim k
        | _ => exact False.elim k
    | tup l =>
      refine .inl (.inr ⟨m, h, r, S, E, ?_⟩)
      rw [z]
      refine fun m1 H1 S1 e1 v hv => ?_
      simp only [VR] at hv
      obtain ⟨p, xs, rfl, h2, h3⟩ := hv
      have k := g m1 H1 S1 e1
      exact ⟨p, rfl, ⟨xs, h2.sq⟩, hW ▸ k.here S1 (Itt W.K p) ⟨p, xs, .inl h2, h3, rfl⟩⟩
    | kt l =>
      refine .inl (.inr ⟨m, h, r, S, E, ?_⟩)
      rw [z]
      refine fun m1 H1 S1 e1 v hv => ?_
      simp only [VR] at hv
      obtain ⟨p, xs, rfl, h2, h3⟩ := hv
      have k := g m1 H1 S1 e1
      exact ⟨p, rfl, ⟨xs, hW ▸ KT.sq h2⟩, hW ▸ k.here S1 (Itt W.K p) ⟨p, xs, .inr h2, h3, rfl⟩⟩
    | kl l =>
      refine .inl (.inl ⟨m, h, r, S, E, ?_⟩)
      rw [z]
      refine fun m1 H1 S1 e1 v hv => ?_
      simp only [VR] at hv
      obtain ⟨p, xs, rfl, h2, h3⟩ := hv
      have k := g m1 H1 S1 e1
      exact ⟨p, rfl, ⟨xs, hW ▸ (KLf.sq h2)⟩, hW ▸ k.here S1 (Itl W.K p) ⟨p, xs, .inr h2, h3, rfl⟩⟩
    | rl l =>
      refine .inl (.inl ⟨m, h, r, S, E, ?_⟩)
      rw [z]
      refine fun m1 H1 S1 e1 v hv => ?_
      simp only [VR] at hv
      obtain ⟨p, xs, rfl, h2, h3⟩ := hv
      have k := g m1 H1 S1 e1
      exact ⟨p, rfl, ⟨xs, hW ▸ (RLs.sq (.inl h2))⟩, hW ▸ k.here S1 (Itl W.K p) ⟨p, xs, .inl h2, h3, rfl⟩⟩
    | fd ks l =>
      refine .inr (.inr ⟨m, h, r, S, E, ?_⟩)
      rw [z]
      refine fun m1 H1 S1 e1 v hv => ?_
      have hv' := hv
      simp only [VR] at hv
      obtain ⟨p, ys, rfl, ⟨rd, ni⟩, h3, h4⟩ := hv
      refine ⟨p, rfl, ?_⟩
      rcases rd with rd | ⟨o, rd⟩
      · refine .inl ⟨ys, rd, fun o => ?_⟩
        have sm := same_lock (od := o) rd (.inl ⟨ys, rfl⟩)
        have el := ext_lock (m := m1) (n := h1.length) (od := o) rd rfl
        have S2 := S1.same sm ni
        exact (g m1 _ S2 (e1.trans el)).here S2 (Itk p o ys) ⟨p, o, ys, upd_same, ni, h3, rfl⟩
      · exact .inr ⟨o, ys, rd, (g m1 H1 S1 e1).here S1 (Itk p o ys) ⟨p, o, ys, rd, ni, h3, rfl⟩⟩
    | str x =>
      refine .inr (.inl ⟨m, h, r, S, E, ?_⟩)
      rw [z]
      refine fun m1 H1 S1 e1 v hv => ?_
      simp only [VR] at hv
      exact ⟨x, hv, (g m1 H1 S1 e1).here S1 (Its x) rfl⟩
    | _ =>
      refine .inr (.inl ⟨m, h, r, S, E, ?_⟩)
      rw [z]
      exact fun m1 H1 S1 e1 v hv => False.elim (g m1 H1 S1 e1)
/-- a bound that no reduction opens over a letter -/
def inR (n : Nat) : Int → Bool
  | .ofNat k => Nat.ble k n
  | .negSucc k => Nat.ble (k + 1) n
theorem inR_ok {n : Nat} {i : Int} : inR n i = true ↔ -(n : Int) ≤ i ∧ i ≤ n := by
  cases i with
  | ofNat k =>
    simp only [inR, Nat.ble_eq]
    constructor
    · intro h
      exact ⟨by have : (0 : Int) ≤ Int.ofNat k := Int.natCast_nonneg k; omega, by show ((k : Nat) : Int) ≤ n; omega⟩
    · intro h
      have h2 : ((k : Nat) : Int) ≤ n := h.2
      omega
  | negSucc k =>
    simp only [inR, Nat.ble_eq]
    rw [Int.negSucc_eq]
    omega
/-- range(a), range(a, b) -/
def cRng1 (fa : Ev → AH → Res (List D)) : Ev → AH → Res Iq := fun r h => (fa r h).bind fun ds h1 => match ds with
  | [.int j] => if inR (2 ^ 62 - 1) j = true then .ok (.rng 0 j.toNat) h1 else .bad
  | _ => .bad
def cRng2 (fa : Ev → AH → Res (List D)) : Ev → AH → Res Iq := fun r h => (fa r h).bind fun ds h1 => match ds with
  | [.int i, .int j] => if inR (2 ^ 62 - 1) i = true ∧ inR (2 ^ 62 - 1) j = true then .ok (.rng i (j - i).toNat) h1 else .bad
  | _ => .bad
theorem VRs.one {m : Nat → Addr} {n : Nat} {H : Hp} {d : D} {vs : List V} (h : VRs W m n H [d] vs) : ∃ v, vs = [v] ∧ VR W m n H d v := by
  simp only [VRs] at h
  obtain ⟨v, r, rfl, h1, rfl⟩ := h
  exact ⟨v, rfl, h1⟩
theorem VRs.two {m : Nat → Addr} {n : Nat} {H : Hp} {d e : D} {vs : List V} (h : VRs W m n H [d, e] vs) : ∃ v u, vs = [v, u] ∧ VR W m n H d v ∧ VR W m n H e u := by
  simp only [VRs] at h
  obtain ⟨v, r, rfl, h1, u, r2, rfl, h2, rfl⟩ := h
  exact ⟨v, u, rfl, h1, h2⟩
theorem ii_rng1 {tg a : Expr} {p pos : Pos} {fa : Ev → AH → Res (List D)} (hg : Gl X "range") (hm : X.mg "range" = none) (ha : PA X [a] (tA W Wx fa)) (hs : starEach [a] X.env = [(false, eval a X.env)]) :
    L2.PI X tg (.Call (.Name "range" p) [a] [] pos) (iI W Wx (cRng1 fa)) := by
  refine (pi_range1 hg hm ha hs).imp fun s H R ⟨m, h, r, S, E, f⟩ => ⟨m, h, r, S, E, (Fin.bind f).imp fun m1 h1 H1 ds S1 e1 k vs hv => ?_⟩
  split at k
  · obtain ⟨v, rfl, hv1⟩ := hv.one
    simp only [VR] at hv1
    subst hv1
    split at k
    · rename_i j q
      have q' := inR_ok.mp q
      exact ⟨j, rfl, by omega, by omega, k.here S1 _ rfl⟩
    · exact False.elim k
  · exact False.elim k
theorem ii_rng2 {tg a b : Expr} {p pos : Pos} {fa : Ev → AH → Res (List D)} (hg : Gl X "range") (hm : X.mg "range" = none) (ha : PA X [a, b] (tA W Wx fa)) (hs : starEach [a, b] X.env = [(false, eval a X.env), (false, eval b X.env)])
    (hs2 : starEach [b] X.env = [(false, eval b X.env)]) : L2.PI X tg (.Call (.Name "range" p) [a, b] [] pos) (iI W Wx (cRng2 fa)) := by
  refine (pi_range2 hg hm ha hs hs2).imp fun s H R ⟨m, h, r, S, E, f⟩ => ⟨m, h, r, S, E, (Fin.bind f).imp fun m1 h1 H1 ds S1 e1 k vs hv => ?_⟩
  split at k
  · obtain ⟨v, u, rfl, hv, hu⟩ := hv.two
    simp only [VR] at hv hu
    subst hv
    subst hu
    split at k
    · rename_i i j q
      have q1 := inR_ok.mp q.1
      have q2 := inR_ok.mp q.2
      exact ⟨i, j, rfl, ⟨by omega, by omega, by omega, by omega⟩, k.here S1 _ rfl⟩
    · exact False.elim k
  · exact False.elim k

/-! ### for -/
def cForL (g : D → Ev → AH → GR) (b : Ev → AH → RS) : Nat → Iq → Nat → Ev → AH → RS
  | 0, _, _, _, _ => .bad
  | k + 1, it, i, r, h => match nextI it i h with
    | none => .bad
    | some none => .nx r h
    | some (some d) => match g d r h with
      | none => .bad
      | some (r1, h1) => match b r1 h1 with
        | .nx r2 h2 => cForL g b k it (i + 1) r2 h2
        | .ct r2 h2 => cForL g b k it (i + 1) r2 h2
        | .bk r2 h2 => .nx r2 h2
        | q => q
def cFor (fi : Ev → AH → Res Iq) (g : D → Ev → AH → GR) (b : Ev → AH → RS) (n : Nat) : Ev → AH → RS := fun r h => onRes (fi r h) r fun it h1 => cForL g b n it 0 r h1
theorem si_for {iter tg : Expr} {body : List Stmt} {ts : List Nat} {fi : Ev → AH → Res Iq} {g : D → Ev → AH → GR} {b : Ev → AH → RS} (n : Nat) (hp : PassesOwn (model X.prog X.w) X.A X.env X.xe) (hc : X.calm = true) (hi : L2.PI X tg iter (iI W Wx fi))
    (hg : PG X tg (tG W ts g)) (hb : PSs X body (tS W Wx b)) (hs : ∀ x, foldedSetIterable iter X.env x = pure x) : PS X (.For tg iter body [] pos) (tS W Wx (cFor fi g b n)) := by
  refine (ps_for hp hc hi hg hb hs).imp fun Dn s H ⟨m, h, r, S, E, y⟩ => ⟨m, h, r, S, E, (FS.on E y).imp fun m1 h1 H1 it S1 e1 f1 J hJ => ?_⟩
  refine ⟨fun i k s H => ∃ m h r, SR W m h H ∧ ER W m h.length H r s ∧ JR W m h.length H it J ∧ FS W Wx m h H (cForL g b k it i r h) Dn, ⟨n, m1, h1, r, S1, E.ext e1, hJ, f1⟩, ?_⟩
  rintro i k s H ⟨m, h, r, S, E, j, y⟩
  cases k with
  | zero => exact False.elim y
  | succ k =>
    have y' : FS W Wx m h H (match nextI it i h with | none => .bad | some none => .nx r h | some (some d) => match g d r h with
      | none => .bad
      | some (r1, h1) => match b r1 h1 with
        | .nx r2 h2 => cForL g b k it (i + 1) r2 h2
        | .ct r2 h2 => cForL g b k it (i + 1) r2 h2
        | .bk r2 h2 => .nx r2 h2
        | q => q) Dn := y
    cases z : nextI it i h with
    | none => rw [z] at y'; exact False.elim y'
    | some o =>
      cases o with
      | none =>
        rw [z] at y'
        exact .inl ⟨next_stop S j z, y' m H s S (Ext.refl _ _ _) E⟩
      | some d =>
        rw [z] at y'
        obtain ⟨g1, g2⟩ := next_go S j z
        refine .inr ⟨g1, fun s' H' => ∃ m h r, SR W m h H' ∧ ER W m h.length H' r s' ∧ JR W m h.length H' it J ∧ FS W Wx m h H' (cForL g b k it (i + 1) r h) Dn, fun s' H' x => ⟨k, Nat.lt_succ_self k, x⟩, fun x H' yl => ?_⟩
        obtain ⟨kp, hx⟩ := g2 x H' yl
        have S' := S.keep kp
        have e' := ext_of_keep S kp
        have y2 := y'.shift e'
        refine ⟨m, h, r, d, S', E.ext e', hx, ?_⟩
        cases zg : g d r h with
        | none => simp only [zg] at y2; exact False.elim y2
        | some p =>
          obtain ⟨r1, h1⟩ := p
          simp only [zg] at y2
          refine fun m1 H1 s1 S1 e1 E1 _ => ⟨m1, h1, r1, S1, E1, ?_⟩
          have y3 := y2.shift e1
          have j1 := (j.ext e').ext e1
          cases zb : b r1 h1 with
          | nx r2 h2 => rw [zb] at y3; exact fun m2 H2 s2 S2 e2 E2 => ⟨m2, h2, r2, S2, E2, j1.ext e2, y3.shift e2⟩
          | ct r2 h2 => rw [zb] at y3; exact fun m2 H2 s2 S2 e2 E2 => ⟨m2, h2, r2, S2, E2, j1.ext e2, y3.shift e2⟩
          | bk r2 h2 => rw [zb] at y3; exact y3
          | rt d h2 => rw [zb] at y3; exact y3
          | er c fs r2 h2 => rw [zb] at y3; exact y3
          | bad => rw [zb] at y3; exact y3

/-! ### list comprehensions -/
def cLcL (g : D → Ev → AH → GR) (ct : Ev → AH → Res Bool) (ce : Ev → AH → Res D) (a : Nat) : Nat → Iq → Nat → Ev → AH → Res Unit
  | 0, _, _, _, _ => .bad
  | k + 1, it, i, r, h => match nextI it i h with
    | none => .bad
    | some none => .ok () h
    | some (some d) => match g d r h with
      | none => .bad
      | some (r1, h1) => match ct r1 h1 with
        | .ok true h2 => match ce r1 h2 with
          | .ok y h3 => match h3[a]? with
            | some (.lst acc) => if acc.length < sizeLine then cLcL g ct ce a k it (i + 1) r (h3.set a (.lst (acc ++ [y]))) else .bad
            | _ => .bad
          | _ => .bad
        | .ok false h2 => cLcL g ct ce a k it (i + 1) r h2
        | _ => .bad
def newL (l : List D) (h : AH) : Res D := .ok (.ref h.length) (h ++ [.lst l])
def cLc (fi : Ev → AH → Res Iq) (g : D → Ev → AH → GR) (ct : Ev → AH → Res Bool) (ce : Ev → AH → Res D) (vs : List Nat) (n : Nat) : Ev → AH → Res D := fun r h => (fi r h).bind fun it h1 =>
  (cLcL g ct ce h1.length n it 0 (wipeD r vs) (h1 ++ [.lst []])).bind fun _ h2 => .ok (.ref h1.length) h2
def cYes : Ev → AH → Res Bool := fun _ h => .ok true h
/-- no exception leaves: the wish does not matter -/
theorem Fin.wish {Wx' : WX} {m : Nat → Addr} {h : AH} {H : Hp} {s s' : L2.St} {α : Type} {d : α} {h' : AH} {k : (Nat → Addr) → AH → Hp → α → Prop} (f : Fin W Wx m h H s (.ok d h') k) : Fin W Wx' m h H s' (.ok d h') k := f
theorem lc_read {iter : Expr} {ts : List Nat} {fi : Ev → AH → Res Iq} {g : D → Ev → AH → GR} {ct : Ev → AH → Res Bool} {ce : Ev → AH → Res D} {vs : List Nat} {n : Nat} (hn : n ≤ sizeLine) {Wb : WX} {s : L2.St} {H : Hp} {Q : VK}
    (hts : ∀ j ∈ ts, j ∈ vs) (q : tI W Wx (cLc fi g ct ce vs n) s H Q) : tLc (iI W Wx fi) (tG W ts g) (tT W Wb ct) (tI W Wb ce) vs s H Q := by
  obtain ⟨m, h, r, S, E, y⟩ := q
  refine ⟨m, h, r, S, E, (Fin.bind y).imp fun m1 h1 H1 it S1 e1 y1 J hJ D hD => ?_⟩
  have E1 := E.ext e1
  have e2 := ext_new S1 hD (upd_keep (u := .lst []) hD)
  have S2 : SR W (mupd m1 h1.length D) (h1 ++ [.lst []]) (upd H1 D (.lst [])) := S1.new hD (upd_keep hD) upd_same ⟨[], rfl, VRs.nil⟩
  have en : (h1 ++ [O.lst []]).length = h1.length + 1 := by rw [List.length_append, List.length_singleton]
  rw [← en] at e2
  have y2 := (Fin.bind y1).shift e2
  generalize hidx : h1.length = idx at *
  refine ⟨fun i k H => ∃ m h, SR W m h H ∧ idx < h.length ∧ m idx = D ∧ ER W m h.length H r s ∧ JR W m h.length H it J ∧
    Fin W Wx m h H s (cLcL g ct ce idx k it i (wipeD r vs) h) (fun m' h' H' _ => Fin W Wx m' h' H' s (.ok (.ref idx) h') fun m2 h2 H2 d => ∀ v, VR W m2 h2.length H2 d v → Q v H2), ⟨n, _, _, S2, by rw [en]; omega, mupd_same, E1.ext e2, hJ.ext e2, y2⟩, ?_⟩
  rintro i k H ⟨m, h, S, la, ma, E, j, y⟩
  cases k with
  | zero => exact False.elim y
  | succ k =>
    have y' : Fin W Wx m h H s (match nextI it i h with
      | none => .bad
      | some none => .ok () h
      | some (some d) => match g d (wipeD r vs) h with
        | none => .bad
        | some (r1, h1) => match ct r1 h1 with
          | .ok true h2 => match ce r1 h2 with
            | .ok y h3 => match h3[idx]? with
              | some (.lst acc) => if acc.length < sizeLine then cLcL g ct ce idx k it (i + 1) (wipeD r vs) (h3.set idx (.lst (acc ++ [y]))) else .bad
              | _ => .bad
            | _ => .bad
          | .ok false h2 => cLcL g ct ce idx k it (i + 1) (wipeD r vs) h2
          | _ => .bad) _ := y
    cases z : nextI it i h with
    | none => rw [z] at y'; exact False.elim y'
    | some o =>
      cases o with
      | none =>
        rw [z] at y'
        refine .inl ⟨next_stop S j z, ?_⟩
        have f1 := (y'.here S).here S
        refine f1 (.ref D) ?_
        simp only [VR]
        exact ⟨la, by rw [ma]⟩
      | some d =>
        rw [z] at y'
        obtain ⟨g1, g2⟩ := next_go S j z
        refine .inr ⟨g1, fun H' => ∃ m h, SR W m h H' ∧ idx < h.length ∧ m idx = D ∧ ER W m h.length H' r s ∧ JR W m h.length H' it J ∧
          Fin W Wx m h H' s (cLcL g ct ce idx k it (i + 1) (wipeD r vs) h) (fun m' h' H' _ => Fin W Wx m' h' H' s (.ok (.ref idx) h') fun m2 h2 H2 d => ∀ v, VR W m2 h2.length H2 d v → Q v H2), fun H' x => ⟨k, Nat.lt_succ_self k, x⟩, fun x H' yl => ?_⟩
        obtain ⟨kp, hx⟩ := g2 x H' yl
        have S' := S.keep kp
        have e' := ext_of_keep S kp
        refine ⟨m, h, wipeD r vs, d, S', (E.ext e').wipe vs, hx, ?_⟩
        cases zg : g d (wipeD r vs) h with
        | none => simp only [zg] at y'; exact False.elim y'
        | some p =>
          obtain ⟨r1, h1⟩ := p
          simp only [zg] at y'
          refine fun m1 H1 s1 S1 e1 E1 o1 => ?_
          have ow : L2.wipe s1 vs = L2.wipe s vs := by
            have o2 : Off vs (L2.wipe s vs) s1 := ⟨o1.1, fun j hj => o1.2 j fun z => hj (hts j z)⟩
            rw [o2.wipe, wipe_idem]
          refine ⟨ow, m1, h1, r1, S1, E1, ?_⟩
          have f1 := e'.trans e1
          cases zt : ct r1 h1 with
          | bad => simp only [zt] at y'; exact False.elim y'
          | err c fs h2 => simp only [zt] at y'; exact False.elim y'
          | ok b h2 =>
            intro m2 H2 S2 e2
            have f2 := f1.trans e2
            cases b with
            | false =>
              simp only [zt] at y'
              show (if false = true then _ else _)
              rw [if_neg Bool.false_ne_true]
              exact ⟨m2, h2, S2, Nat.lt_of_lt_of_le la f2.le, (f2.agr _ la).trans ma, E.ext f2, j.ext f2, Fin.shift y' f2⟩
            | true =>
              show (if true = true then _ else _)
              rw [if_pos rfl]
              refine ⟨m2, h2, r1, S2, E1.ext e2, ?_⟩
              cases zc : ce r1 h2 with
              | bad => simp only [zt, zc] at y'; exact False.elim y'
              | err c fs h3 => simp only [zt, zc] at y'; exact False.elim y'
              | ok w h3 =>
                intro m3 H3 S3 e3 v hv
                have f3 := f2.trans e3
                simp only [zt, zc] at y'
                have la3 := Nat.lt_of_lt_of_le la f3.le
                have ma3 : m3 idx = D := (f3.agr _ la).trans ma
                cases q3 : h3[idx]? with
                | none => simp only [q3] at y'; exact False.elim y'
                | some o =>
                  cases o with
                  | lst acc =>
                    simp only [q3] at y'
                    by_cases hl : acc.length < sizeLine
                    · rw [if_pos hl] at y'
                      obtain ⟨u, u1, accV, rfl, u2⟩ := S3.obj idx _ q3
                      rw [ma3] at u1
                      have eu := ext_upd (u := .lst (accV ++ [v])) S3 la3
                      have hv' := hv.ext eu
                      have S4 : SR W m3 (h3.set idx (.lst (acc ++ [w]))) (L2.upd H3 (m3 idx) (.lst (accV ++ [v]))) := S3.upd la3 ⟨accV ++ [v], rfl, (u2.ext eu).append (VRs.cons hv' VRs.nil)⟩
                      have el : (h3.set idx (.lst (acc ++ [w]))).length = h3.length := List.length_set
                      rw [ma3] at S4 eu
                      have f4 := f3.trans eu
                      rw [← el] at f4
                      exact ⟨accV, u1, by rw [u2.length]; exact hl, m3, _, S4, by rw [el]; exact la3, ma3, E.ext f4, j.ext f4, Fin.shift y' f4⟩
                    · rw [if_neg hl] at y'
                      exact False.elim y'
                  | _ => simp only [q3] at y'; exact False.elim y'
end
end PI
/-! PI5: arguments, displays, and, or, not, operators by values. -/
namespace PI
open PySem L2

def LIM : Nat := 1000000
theorem lim_le {n : Nat} (h : n ≤ LIM) : n ≤ sizeLine := Nat.le_trans h (by decide)
theorem lim_lt {n : Nat} (h : n < LIM) : n < sizeLine := Nat.lt_trans h (by decide)

section
variable {X : Cx} {W : Wd} {Wx : WX} {pos : Pos}

/-! ### arguments -/
def aNil : Ev → AH → Res (List D) := fun _ h => .ok [] h
def aCons (fe : Ev → AH → Res D) (fr : Ev → AH → Res (List D)) : Ev → AH → Res (List D) := fun r h => (fe r h).bind fun d h1 => (fr r h1).bind fun ds h2 => .ok (d :: ds) h2
theorem ai_nil : PA X [] (tA W Wx aNil) := pa_nil.imp fun s H Q ⟨m, h, r, S, E, f⟩ => f.here S [] VRs.nil
theorem ai_cons {e : Expr} {es : List Expr} {fe : Ev → AH → Res D} {fr : Ev → AH → Res (List D)} (p : PE X e (tI W Wx fe)) (q : PA X es (tA W Wx fr)) (hs : starEach (e :: es) X.env = (false, eval e X.env) :: starEach es X.env) :
    PA X (e :: es) (tA W Wx (aCons fe fr)) := by
  refine (pa_cons p q hs).imp fun s H Q ⟨m, h, r, S, E, f⟩ => ⟨m, h, r, S, E, (Fin.bind f).imp fun m1 h1 H1 d S1 e1 f1 v hv => ?_⟩
  exact ⟨m1, h1, r, S1, E.ext e1, (Fin.bind f1).imp fun m2 h2 H2 ds S2 e2 f2 vs hvs => f2.here S2 (v :: vs) (VRs.cons (hv.ext e2) hvs)⟩
/-- (a, b, ..), [a, b, ..] -/
def cTup (fa : Ev → AH → Res (List D)) : Ev → AH → Res D := fun r h => (fa r h).bind fun ds h1 => if ds.length ≤ LIM then .ok (.tup ds) h1 else .bad
def cLst (fa : Ev → AH → Res (List D)) : Ev → AH → Res D := fun r h => (fa r h).bind fun ds h1 => if ds.length ≤ LIM then newL ds h1 else .bad
/-- a new tuple -/
theorem new_tup {m : Nat → Addr} {h : AH} {H : Hp} {s : L2.St} {l : List D} {xs : List V} {p : Addr} {Q : VK} (S : SR W m h H) (hv : VRs W m h.length H l xs) (hp : H p = none)
    (f : Fin W Wx m h H s (.ok (.tup l) h) fun m' h' H' d => ∀ v, VR W m' h'.length H' d v → Q v H') : Q (.ref p) (upd H p (.tup xs)) := by
  have k := upd_keep (u := .tup xs) hp
  have e := ext_of_keep S k
  refine f m _ (S.keep k) e (.ref p) ?_
  simp only [VR]
  exact ⟨p, xs, rfl, ⟨upd_same, S.fresh hp⟩, hv.ext e⟩
/-- a new list -/
theorem new_lst {m : Nat → Addr} {h : AH} {H : Hp} {s : L2.St} {l : List D} {xs : List V} {p : Addr} {Q : VK} (S : SR W m h H) (hv : VRs W m h.length H l xs) (hp : H p = none)
    (f : Fin W Wx m h H s (newL l h) fun m' h' H' d => ∀ v, VR W m' h'.length H' d v → Q v H') : Q (.ref p) (upd H p (.lst xs)) := by
  have k := upd_keep (u := .lst xs) hp
  have e := ext_new S hp k
  refine f _ _ (S.new hp k upd_same ⟨xs, rfl, hv.ext e⟩) (by rw [List.length_append, List.length_singleton]; exact e) (.ref p) ?_
  simp only [VR]
  exact ⟨by rw [List.length_append, List.length_singleton]; omega, by rw [mupd_same]⟩
theorem pi_tup {es : List Expr} {k : Nat} {fa : Ev → AH → Res (List D)} (p : PA X es (tA W Wx fa)) : PE X (.Tuple es k pos) (tI W Wx (cTup fa)) := by
  refine (pe_tup p).imp fun s H Q ⟨m, h, r, S, E, f⟩ => ⟨m, h, r, S, E, (Fin.bind f).imp fun m1 h1 H1 ds S1 e1 f1 vs hv => ?_⟩
  split at f1
  · rename_i hl
    exact ⟨by rw [hv.length]; exact lim_le hl, fun q hq => new_tup S1 hv hq f1⟩
  · exact False.elim f1
theorem pi_lst {es : List Expr} {fa : Ev → AH → Res (List D)} (p : PA X es (tA W Wx fa)) : PE X (.List es pos) (tI W Wx (cLst fa)) := by
  refine (pe_lst p).imp fun s H Q ⟨m, h, r, S, E, f⟩ => ⟨m, h, r, S, E, (Fin.bind f).imp fun m1 h1 H1 ds S1 e1 f1 vs hv => ?_⟩
  split at f1
  · rename_i hl
    exact ⟨by rw [hv.length]; exact lim_le hl, fun q hq => new_lst S1 hv hq f1⟩
  · exact False.elim f1

/-! ### truth, and, or, not, if -/
def listD (h : AH) : D → Option (List D)
  | .rl l => some l
  | .kl l => some l
  | .ref a => match h[a]? with
    | some (.lst l) => some l
    | some (.frz (.lst l)) => some l
    | _ => none
  | _ => none
/-- a list that is written (or was, once) -/
def lstD (h : AH) : D → Option (List D)
  | .rl l => some l
  | .ref a => match h[a]? with
    | some (.lst l) => some l
    | _ => none
  | _ => none
section
variable {W : Wd} {m : Nat → Addr} {h : AH} {H : Hp} {d : D} {v : V} {l : List D}
theorem listD_ok (S : SR W m h H) (hv : VR W m h.length H d v) (e : listD h d = some l) : ∃ p xs, v = .ref p ∧ SqL W.K H p xs ∧ VRs W m h.length H l xs := by
  cases d with
  | rl l' =>
    simp only [listD, Option.some.injEq] at e
    subst e
    simp only [VR] at hv
    obtain ⟨p, xs, rfl, h2, h3⟩ := hv
    exact ⟨p, xs, rfl, RLs.sq (.inl h2), h3⟩
  | kl l' =>
    simp only [listD, Option.some.injEq] at e
    subst e
    simp only [VR] at hv
    obtain ⟨p, xs, rfl, h2, h3⟩ := hv
    exact ⟨p, xs, rfl, KLf.sq h2, h3⟩
  | ref a =>
    simp only [VR] at hv
    obtain ⟨ha, rfl⟩ := hv
    simp only [listD] at e
    split at e
    · rename_i l' q
      cases e
      obtain ⟨xs, h1, h2⟩ := S.lst q (.inl rfl)
      exact ⟨m a, xs, rfl, h1, h2⟩
    · rename_i l' q
      cases e
      obtain ⟨xs, h1, h2⟩ := S.lst q (.inr rfl)
      exact ⟨m a, xs, rfl, h1, h2⟩
    · cases e
  | _ => cases e
theorem lstD_ok (S : SR W m h H) (hv : VR W m h.length H d v) (e : lstD h d = some l) : ∃ p xs, v = .ref p ∧ H p = some (.lst xs) ∧ VRs W m h.length H l xs := by
  cases d with
  | rl l' =>
    simp only [lstD, Option.some.injEq] at e
    subst e
    simp only [VR] at hv
    obtain ⟨p, xs, rfl, h2, h3⟩ := hv
    exact ⟨p, xs, rfl, h2.1, h3⟩
  | ref a =>
    simp only [VR] at hv
    obtain ⟨ha, rfl⟩ := hv
    simp only [lstD] at e
    split at e
    · rename_i l' q
      cases e
      obtain ⟨_, p1, xs, rfl, r1⟩ := S.obj a _ q
      exact ⟨m a, xs, rfl, p1, r1⟩
    · cases e
  | _ => cases e
end
def truD (h : AH) : D → Option Bool
  | .non => some false
  | .bl b => some b
  | .int i => some (i != 0)
  | .str x => if x.length ≤ LIM then some ((x.length : Int) != 0) else none
  | .tup l => some !l.isEmpty
  | .kt l => some !l.isEmpty
  | .rl l => some !l.isEmpty
  | .kl l => some !l.isEmpty
  | .fd _ _ => none
  | .ft _ _ => none
  | .fi _ _ _ => none
  | .ref a => match h[a]? with
    | some (.lst l) => some !l.isEmpty
    | some (.dK l) => some !l.isEmpty
    | _ => none
  | .g _ => none
def cTru (fe : Ev → AH → Res D) : Ev → AH → Res Bool := fun r h => (fe r h).bind fun d h1 => match truD h1 d with
  | some b => .ok b h1
  | none => .bad
theorem emp_len {α β : Type} {l : List α} {l' : List β} (h : l.length = l'.length) : (!l.isEmpty) = !l'.isEmpty := by
  cases l <;> cases l' <;> first | rfl | cases h
theorem PR.length {κ : Type} {m : Nat → Addr} {n : Nat} {H : Hp} : ∀ {l : List (κ × D)} {ys : List (κ × V)}, PR W m n H l ys → ys.length = l.length
  | [], _, h => by cases h; rfl
  | (k, d) :: l, ys, ⟨v, r, e, _, h3⟩ => by rw [e, List.length_cons, List.length_cons, PR.length h3]
theorem tru_ok' {m : Nat → Addr} {h : AH} {H : Hp} {d : D} {v : V} {b : Bool} (S : SR W m h H) (hv : VR W m h.length H d v) (e : truD h d = some b) : TruV W.K v H b := by
  cases d with
  | non => simp only [VR] at hv; subst hv; cases e; rfl
  | bl k => simp only [VR] at hv; subst hv; cases e; rfl
  | int i => simp only [VR] at hv; subst hv; cases e; rfl
  | str x =>
    simp only [VR] at hv
    subst hv
    simp only [truD] at e
    split at e
    · rename_i hl
      cases e
      exact ⟨lim_le hl, rfl⟩
    · cases e
  | tup l =>
    simp only [VR] at hv
    obtain ⟨p, xs, rfl, h2, h3⟩ := hv
    cases e
    exact .inr (.inl ⟨xs, h2.sq, emp_len h3.length.symm⟩)
  | kt l =>
    simp only [VR] at hv
    obtain ⟨p, xs, rfl, h2, h3⟩ := hv
    cases e
    exact .inr (.inl ⟨xs, KT.sq h2, emp_len h3.length.symm⟩)
  | rl l =>
    simp only [VR] at hv
    obtain ⟨p, xs, rfl, h2, h3⟩ := hv
    cases e
    exact .inl ⟨xs, RLs.sq (.inl h2), emp_len h3.length.symm⟩
  | kl l =>
    simp only [VR] at hv
    obtain ⟨p, xs, rfl, h2, h3⟩ := hv
    cases e
    exact .inl ⟨xs, KLf.sq h2, emp_len h3.length.symm⟩
  | fd ks l => cases e
  | ft ks l => cases e
  | fi c gs l => cases e
  | ref a =>
    simp only [VR] at hv
    obtain ⟨ha, rfl⟩ := hv
    simp only [truD] at e
    split at e
    · rename_i l q
      cases e
      obtain ⟨u, q1, xs, rfl, q2⟩ := S.obj a _ q
      exact .inl ⟨xs, .inl (.inl q1), emp_len q2.length.symm⟩
    · rename_i l q
      cases e
      obtain ⟨u, q1, ys, rfl, q2⟩ := S.obj a _ q
      exact .inr (.inr ⟨ys, q1, emp_len q2.length.symm⟩)
    · cases e
  | g k => cases e
theorem pt_tru {e : Expr} {fe : Ev → AH → Res D} (hK : X.K = W.K) (p : PE X e (tI W Wx fe)) (he : ∀ whole, isTrue e X.env whole = (do let v ← whole; standAt e.pos; holding [v] (truthy v))) : PT X e (tT W Wx (cTru fe)) := by
  refine (pt_truth p he).imp fun s H Q ⟨m, h, r, S, E, f⟩ => ⟨m, h, r, S, E, (Fin.bind f).imp fun m1 h1 H1 d S1 e1 f1 v hv => ?_⟩
  cases z : truD h1 d with
  | none => simp only [z] at f1; exact False.elim f1
  | some b => simp only [z] at f1; exact ⟨b, hK ▸ tru_ok' S1 hv z, f1.here S1⟩
def tAndF (fa fb : Ev → AH → Res Bool) : Ev → AH → Res Bool := fun r h => (fa r h).bind fun b h1 => if b = true then fb r h1 else .ok false h1
def tOrF (fa fb : Ev → AH → Res Bool) : Ev → AH → Res Bool := fun r h => (fa r h).bind fun b h1 => if b = true then .ok true h1 else fb r h1
def tNotF (fa : Ev → AH → Res Bool) : Ev → AH → Res Bool := fun r h => (fa r h).bind fun b h1 => .ok (!b) h1
def tOne (fa : Ev → AH → Res Bool) : Ev → AH → Res Bool := fa
variable {a b : Expr} {rest : List Expr} {fa fb : Ev → AH → Res Bool}
theorem wi_and1 (p : PT X a (tT W Wx fa)) : PW X (.BoolOp .And [a] pos) (tT W Wx fa) := pw_and1 p
theorem wi_or1 (p : PT X a (tT W Wx fa)) : PW X (.BoolOp .Or [a] pos) (tT W Wx fa) := pw_or1 p
theorem wi_and (p : PT X a (tT W Wx fa)) (q : PW X (.BoolOp .And (b :: rest) pos) (tT W Wx fb)) : PW X (.BoolOp .And (a :: b :: rest) pos) (tT W Wx (tAndF fa fb)) := by
  refine (pw_and p q).imp fun s H Q ⟨m, h, r, S, E, f⟩ => ⟨m, h, r, S, E, (Fin.bind f).imp fun m1 h1 H1 k S1 e1 f1 => ?_⟩
  cases k with
  | true => exact ⟨m1, h1, r, S1, E.ext e1, f1⟩
  | false => exact f1.here S1
theorem wi_or (p : PT X a (tT W Wx fa)) (q : PW X (.BoolOp .Or (b :: rest) pos) (tT W Wx fb)) : PW X (.BoolOp .Or (a :: b :: rest) pos) (tT W Wx (tOrF fa fb)) := by
  refine (pw_or p q).imp fun s H Q ⟨m, h, r, S, E, f⟩ => ⟨m, h, r, S, E, (Fin.bind f).imp fun m1 h1 H1 k S1 e1 f1 => ?_⟩
  cases k with
  | true => exact f1.here S1
  | false => exact ⟨m1, h1, r, S1, E.ext e1, f1⟩
theorem pt_notI (p : PT X a (tT W Wx fa)) : PT X (.UnaryOp .Not a pos) (tT W Wx (tNotF fa)) := by
  refine (pt_not p).imp fun s H Q ⟨m, h, r, S, E, f⟩ => ⟨m, h, r, S, E, (Fin.bind f).imp fun m1 h1 H1 k S1 e1 f1 => f1.here S1⟩
/-- as values: all but the last are bools -/
def vAnd (fa fb : Ev → AH → Res D) : Ev → AH → Res D := fun r h => (fa r h).bind fun d h1 => match d with
  | .bl true => fb r h1
  | .bl false => .ok (.bl false) h1
  | _ => .bad
def vOr (fa fb : Ev → AH → Res D) : Ev → AH → Res D := fun r h => (fa r h).bind fun d h1 => match d with
  | .bl true => .ok (.bl true) h1
  | .bl false => fb r h1
  | _ => .bad
def vNot (fa : Ev → AH → Res D) : Ev → AH → Res D := fun r h => (fa r h).bind fun d h1 => match d with
  | .bl b => .ok (.bl !b) h1
  | _ => .bad
variable {ga gb : Ev → AH → Res D}
theorem pi_and (p : PE X a (tI W Wx ga)) (q : PE X (.BoolOp .And (b :: rest) pos) (tI W Wx gb)) : PE X (.BoolOp .And (a :: b :: rest) pos) (tI W Wx (vAnd ga gb)) := by
  refine (pe_and p q).imp fun s H Q ⟨m, h, r, S, E, f⟩ => ⟨m, h, r, S, E, (Fin.bind f).imp fun m1 h1 H1 d S1 e1 f1 v hv => ?_⟩
  cases d with
  | bl k =>
    simp only [VR] at hv
    refine ⟨k, hv, ?_⟩
    cases k with
    | true => exact ⟨m1, h1, r, S1, E.ext e1, f1⟩
    | false => exact f1.here S1 (.bl false) (by simp only [VR])
  | _ => exact False.elim f1
theorem pi_or (p : PE X a (tI W Wx ga)) (q : PE X (.BoolOp .Or (b :: rest) pos) (tI W Wx gb)) : PE X (.BoolOp .Or (a :: b :: rest) pos) (tI W Wx (vOr ga gb)) := by
  refine (pe_or p q).imp fun s H Q ⟨m, h, r, S, E, f⟩ => ⟨m, h, r, S, E, (Fin.bind f).imp fun m1 h1 H1 d S1 e1 f1 v hv => ?_⟩
  cases d with
  | bl k =>
    simp only [VR] at hv
    refine ⟨k, hv, ?_⟩
    cases k with
    | false => exact ⟨m1, h1, r, S1, E.ext e1, f1⟩
    | true => exact f1.here S1 (.bl true) (by simp only [VR])
  | _ => exact False.elim f1
theorem pi_not (p : PE X a (tI W Wx ga)) : PE X (.UnaryOp .Not a pos) (tI W Wx (vNot ga)) := by
  refine (pe_not p).imp fun s H Q ⟨m, h, r, S, E, f⟩ => ⟨m, h, r, S, E, (Fin.bind f).imp fun m1 h1 H1 d S1 e1 f1 v hv => ?_⟩
  cases d with
  | bl k =>
    simp only [VR] at hv
    exact ⟨k, hv, f1.here S1 (.bl !k) (by simp only [VR])⟩
  | _ => exact False.elim f1
def cIte (fc : Ev → AH → Res Bool) (ga gb : Ev → AH → Res D) : Ev → AH → Res D := fun r h => (fc r h).bind fun k h1 => if k = true then ga r h1 else gb r h1
theorem pi_ite {c : Expr} {fc : Ev → AH → Res Bool} (pc : PT X c (tT W Wx fc)) (p : PE X a (tI W Wx ga)) (q : PE X b (tI W Wx gb)) : PE X (.IfExp c a b pos) (tI W Wx (cIte fc ga gb)) := by
  refine (pe_ifExp pc p q).imp fun s H Q ⟨m, h, r, S, E, f⟩ => ⟨m, h, r, S, E, (Fin.bind f).imp fun m1 h1 H1 k S1 e1 f1 => ?_⟩
  cases k with
  | true => exact ⟨m1, h1, r, S1, E.ext e1, f1⟩
  | false => exact ⟨m1, h1, r, S1, E.ext e1, f1⟩
end

/-! ### operators by values -/
def addL (x y : D) (h : AH) : Res D := match lstD h x, lstD h y with
  | some l, some l' => if l.length + l'.length ≤ LIM then newL (l ++ l') h else .bad
  | _, _ => .bad
def addD : D → D → AH → Res D
  | .int i, .int j, h => .ok (.int (i + j)) h
  | .str x, .str y, h => if x.length + y.length ≤ LIM then .ok (.str (x ++ y)) h else .bad
  | .tup l, .tup l', h => if l ≠ [] ∧ l.length + l'.length ≤ LIM then .ok (.tup (l ++ l')) h else .bad
  | .ref a, y, h => addL (.ref a) y h
  | .rl l, y, h => addL (.rl l) y h
  | _, _, _ => .bad
def subD : D → D → AH → Res D
  | .int i, .int j, h => .ok (.int (i - j)) h
  | _, _, _ => .bad
def mulL (x : D) (k : Int) (h : AH) : Res D := match lstD h x with
  | some l => if 0 ≤ k ∧ k ≤ 1000 ∧ l.length ≤ 1000 then newL (List.replicate k.toNat l).flatten h else .bad
  | _ => .bad
def mulD : D → D → AH → Res D
  | .int i, .int j, h => if (inR (2 ^ 64 - 1) i || inR (2 ^ 64 - 1) j) = true then .ok (.int (i * j)) h else .bad
  | .ref a, .int k, h => mulL (.ref a) k h
  | .rl l, .int k, h => mulL (.rl l) k h
  | _, _, _ => .bad
def fdivD : D → D → AH → Res D
  | .int i, .int j, h => if 0 < j ∧ j < 1073741824 then .ok (.int (i / j)) h else .bad
  | _, _, _ => .bad
def modD : D → D → AH → Res D
  | .int i, .int j, h => if 0 < j then .ok (.int (i % j)) h else .bad
  | _, _, _ => .bad
def powD : D → D → AH → Res D
  | .int i, .int j, h => if 0 ≤ j ∧ j ≤ 1000 ∧ i.natAbs < 2 ^ 64 then .ok (.int (i ^ j.toNat)) h else .bad
  | _, _, _ => .bad
def ltD : D → D → AH → Res D
  | .int i, .int j, h => .ok (.bl (decide (i < j))) h
  | .str x, .str y, h => .ok (.bl (decide (x.cps.toList < y.cps.toList))) h
  | _, _, _ => .bad
def leD : D → D → AH → Res D
  | .int i, .int j, h => .ok (.bl (decide (i ≤ j))) h
  | _, _, _ => .bad
def gtD : D → D → AH → Res D
  | .int i, .int j, h => .ok (.bl (decide (j < i))) h
  | _, _, _ => .bad
def geD : D → D → AH → Res D
  | .int i, .int j, h => .ok (.bl (decide (j ≤ i))) h
  | _, _, _ => .bad

section
variable {X : Cx} {W : Wd} {Wx : WX}
abbrev rAddS : R2 := fun x y H Q => ∃ i j, x = .str i ∧ y = .str j ∧ i.length + j.length ≤ sizeLine ∧ Q (.str (i ++ j)) H
abbrev rAddAll (K : PySem.W.Frag) : R2 := fun x y H Q => ((rI0 (fun i j => .int (i + j)) x y H Q ∨ rAddS x y H Q) ∨ rCat x y H Q) ∨ rCatT K x y H Q
theorem or_add (hK : X.K = W.K) : OpR X (binaryOp .Add) (rAddAll W.K) := OpR.or (OpR.or (OpR.or op_add op_add_str) op_cat) (hK ▸ op_catT)
theorem addL_ok {m : Nat → Addr} {h : AH} {H : Hp} {s : L2.St} {x y : D} {v u : V} {Q : VK} (S : SR W m h H) (hv : VR W m h.length H x v) (hu : VR W m h.length H y u)
    (f : Fin W Wx m h H s (addL x y h) (fun m' h' H' d => ∀ z, VR W m' h'.length H' d z → Q z H')) : rCat v u H Q := by
  unfold addL at f
  split at f
  · rename_i l l' q1 q2
    obtain ⟨p, xs, rfl, p1, r1⟩ := lstD_ok S hv q1
    obtain ⟨q, ys, rfl, p2, r2⟩ := lstD_ok S hu q2
    split at f
    · rename_i hl
      exact ⟨p, q, xs, ys, rfl, rfl, p1, p2, by rw [r1.length, r2.length]; exact lim_le hl, fun p hp => new_lst S (r1.append r2) hp f⟩
    · exact False.elim f
  · exact False.elim f
theorem os_add : OpS W (rAddAll W.K) addD := by
  intro Wx m h H s x y v u Q S hv hu f
  cases x with
  | int i =>
    cases y with
    | int j =>
      simp only [VR] at hv hu
      subst hv
      subst hu
      exact .inl (.inl (.inl ⟨i, j, rfl, rfl, f.here S _ (by simp only [VR])⟩))
    | _ => exact False.elim f
  | str i =>
    cases y with
    | str j =>
      simp only [VR] at hv hu
      subst hv
      subst hu
      simp only [addD] at f
      split at f
      · rename_i hl
        exact .inl (.inl (.inr ⟨i, j, rfl, rfl, lim_le hl, f.here S _ (by simp only [VR])⟩))
      · exact False.elim f
    | _ => exact False.elim f
  | tup l =>
    cases y with
    | tup l' =>
      simp only [VR] at hv hu
      obtain ⟨p, xs, rfl, h2, h3⟩ := hv
      obtain ⟨q, ys, rfl, k2, k3⟩ := hu
      simp only [addD] at f
      split at f
      · rename_i hl
        refine .inr ⟨p, q, xs, ys, rfl, rfl, h2.sq, k2.sq, fun z => hl.1 ?_, by rw [h3.length, k3.length]; exact lim_le hl.2, fun z => ?_, fun _ a ha => new_tup S (h3.append k3) ha f⟩
        · have e := h3.length
          rw [z] at e
          exact List.eq_nil_of_length_eq_zero e.symm
        · have e := k3.length
          rw [z] at e
          have e' : l' = [] := List.eq_nil_of_length_eq_zero e.symm
          subst e'
          rw [List.append_nil] at f
          refine f.here S _ ?_
          simp only [VR]
          exact ⟨p, xs, rfl, h2, h3⟩
      · exact False.elim f
    | _ => exact False.elim f
  | ref a => exact .inl (.inr (addL_ok S hv hu f))
  | rl l => exact .inl (.inr (addL_ok S hv hu f))
  | _ => exact False.elim f
/-- two ints, under a condition -/
theorem os_int {r : R2} {op : D → D → AH → Res D} {c : Int → Int → Prop} [∀ i j, Decidable (c i j)] {g : Int → Int → D} {gv : Int → Int → V}
    (h1 : ∀ i j h, op (.int i) (.int j) h = if c i j then .ok (g i j) h else .bad) (h2 : ∀ x y h, (∀ i j, ¬ (x = .int i ∧ y = .int j)) → op x y h = .bad)
    (hg : ∀ i j m n H, VR W m n H (g i j) (gv i j)) (hr : ∀ i j H (Q : VK), c i j → Q (gv i j) H → r (.int i) (.int j) H Q) : OpS W r op := by
  intro Wx m h H s x y v u Q S hv hu f
  by_cases hh : ∃ i j, x = .int i ∧ y = .int j
  · obtain ⟨i, j, rfl, rfl⟩ := hh
    simp only [VR] at hv hu
    subst hv
    subst hu
    rw [h1] at f
    split at f
    · rename_i hc
      exact hr i j H Q hc (f.here S _ (hg _ _ _ _ _))
    · exact False.elim f
  · rw [h2 x y h fun i j z => hh ⟨i, j, z⟩] at f
    exact False.elim f
theorem os_sub : OpS W (rI0 fun i j => .int (i - j)) subD := os_int (c := fun _ _ => True) (g := fun i j => .int (i - j)) (gv := fun i j => .int (i - j)) (fun _ _ _ => rfl)
  (fun x y h z => by cases x <;> cases y <;> first | rfl | exact absurd ⟨rfl, rfl⟩ (z _ _)) (fun _ _ _ _ _ => by simp only [VR]) fun i j H Q _ q => ⟨i, j, rfl, rfl, q⟩
theorem os_fdiv : OpS W (rI CDiv fun i j => .int (i / j)) fdivD := os_int (c := fun _ j => 0 < j ∧ j < 1073741824) (g := fun i j => .int (i / j)) (gv := fun i j => .int (i / j)) (fun _ _ _ => rfl)
  (fun x y h z => by cases x <;> cases y <;> first | rfl | exact absurd ⟨rfl, rfl⟩ (z _ _)) (fun _ _ _ _ _ => by simp only [VR]) fun i j H Q c q => ⟨i, j, rfl, rfl, c, q⟩
theorem os_mod : OpS W (rI (fun _ j => 0 < j) fun i j => .int (i % j)) modD := os_int (c := fun _ j => 0 < j) (g := fun i j => .int (i % j)) (gv := fun i j => .int (i % j)) (fun _ _ _ => rfl)
  (fun x y h z => by cases x <;> cases y <;> first | rfl | exact absurd ⟨rfl, rfl⟩ (z _ _)) (fun _ _ _ _ _ => by simp only [VR]) fun i j H Q c q => ⟨i, j, rfl, rfl, c, q⟩
theorem os_pow : OpS W (rI CPow fun i j => .int (i ^ j.toNat)) powD := os_int (c := fun i j => 0 ≤ j ∧ j ≤ 1000 ∧ i.natAbs < 2 ^ 64) (g := fun i j => .int (i ^ j.toNat)) (gv := fun i j => .int (i ^ j.toNat)) (fun _ _ _ => rfl)
  (fun x y h z => by cases x <;> cases y <;> first | rfl | exact absurd ⟨rfl, rfl⟩ (z _ _)) (fun _ _ _ _ _ => by simp only [VR]) fun i j H Q c q => ⟨i, j, rfl, rfl, ⟨c.1, by omega, c.2.2⟩, q⟩
theorem os_le : OpS W (rI0 fun i j => .bl (decide (i ≤ j))) leD := os_int (c := fun _ _ => True) (g := fun i j => .bl (decide (i ≤ j))) (gv := fun i j => .bl (decide (i ≤ j))) (fun _ _ _ => rfl)
  (fun x y h z => by cases x <;> cases y <;> first | rfl | exact absurd ⟨rfl, rfl⟩ (z _ _)) (fun _ _ _ _ _ => by simp only [VR]) fun i j H Q _ q => ⟨i, j, rfl, rfl, q⟩
theorem os_gt : OpS W (rI0 fun i j => .bl (decide (j < i))) gtD := os_int (c := fun _ _ => True) (g := fun i j => .bl (decide (j < i))) (gv := fun i j => .bl (decide (j < i))) (fun _ _ _ => rfl)
  (fun x y h z => by cases x <;> cases y <;> first | rfl | exact absurd ⟨rfl, rfl⟩ (z _ _)) (fun _ _ _ _ _ => by simp only [VR]) fun i j H Q _ q => ⟨i, j, rfl, rfl, q⟩
theorem os_ge : OpS W (rI0 fun i j => .bl (decide (j ≤ i))) geD := os_int (c := fun _ _ => True) (g := fun i j => .bl (decide (j ≤ i))) (gv := fun i j => .bl (decide (j ≤ i))) (fun _ _ _ => rfl)
  (fun x y h z => by cases x <;> cases y <;> first | rfl | exact absurd ⟨rfl, rfl⟩ (z _ _)) (fun _ _ _ _ _ => by simp only [VR]) fun i j H Q _ q => ⟨i, j, rfl, rfl, q⟩
abbrev rLtAll : R2 := fun x y H Q => rI0 (fun i j => .bl (decide (i < j))) x y H Q ∨ (∃ i j, x = .str i ∧ y = .str j ∧ Q (.bl (decide (i.cps.toList < j.cps.toList))) H)
theorem or_lt : OpR X (compareOp .Lt) rLtAll := OpR.or op_lt op_lt_str
theorem os_lt : OpS W rLtAll ltD := by
  intro Wx m h H s x y v u Q S hv hu f
  cases x with
  | int i =>
    cases y with
    | int j =>
      simp only [VR] at hv hu
      subst hv
      subst hu
      exact .inl ⟨i, j, rfl, rfl, f.here S _ (by simp only [VR])⟩
    | _ => exact False.elim f
  | str i =>
    cases y with
    | str j =>
      simp only [VR] at hv hu
      subst hv
      subst hu
      exact .inr ⟨i, j, rfl, rfl, f.here S _ (by simp only [VR])⟩
    | _ => exact False.elim f
  | _ => exact False.elim f
abbrev rMulAll : R2 := fun x y H Q => rI CMul (fun i j => .int (i * j)) x y H Q ∨ rRep x y H Q
theorem or_mul : OpR X (binaryOp .Mult) rMulAll := OpR.or op_mul op_rep
theorem flat_len {α : Type} (l : List α) : ∀ k : Nat, (List.replicate k l).flatten.length = k * l.length
  | 0 => by simp
  | k + 1 => by rw [List.replicate_succ, List.flatten_cons, List.length_append, flat_len l k, Nat.succ_mul]; omega
theorem VRs.rep {m : Nat → Addr} {n : Nat} {H : Hp} {l : List D} {xs : List V} (h : VRs W m n H l xs) : ∀ k : Nat, VRs W m n H (List.replicate k l).flatten (List.replicate k xs).flatten
  | 0 => VRs.nil
  | k + 1 => by
    rw [List.replicate_succ, List.flatten_cons, List.replicate_succ, List.flatten_cons]
    exact h.append (VRs.rep h k)
theorem mulL_ok {m : Nat → Addr} {h : AH} {H : Hp} {s : L2.St} {x : D} {k : Int} {v u : V} {Q : VK} (S : SR W m h H) (hv : VR W m h.length H x v) (hu : VR W m h.length H (.int k) u)
    (f : Fin W Wx m h H s (mulL x k h) (fun m' h' H' d => ∀ z, VR W m' h'.length H' d z → Q z H')) : rRep v u H Q := by
  unfold mulL at f
  split at f
  · rename_i l q1
    obtain ⟨p, xs, rfl, p1, r1⟩ := lstD_ok S hv q1
    simp only [VR] at hu
    subst hu
    split at f
    · rename_i hl
      obtain ⟨k0, k1, l1⟩ := hl
      refine ⟨p, k, xs, rfl, rfl, p1, by omega, by omega, ?_, fun p hp => new_lst S (r1.rep k.toNat) hp f⟩
      rw [r1.length]
      have : l.length * k.toNat ≤ 1000 * 1000 := Nat.mul_le_mul l1 (by omega)
      exact Nat.le_trans this (by decide)
    · exact False.elim f
  · exact False.elim f
theorem os_mul : OpS W rMulAll mulD := by
  intro Wx m h H s x y v u Q S hv hu f
  cases x with
  | int i =>
    cases y with
    | int j =>
      simp only [VR] at hv hu
      subst hv
      subst hu
      simp only [mulD] at f
      split at f
      · rename_i hc
        have hc' : CMul i j := by
          rw [Bool.or_eq_true, inR_ok, inR_ok] at hc
          rcases hc with hc | hc
          · exact .inl ⟨by omega, by omega⟩
          · exact .inr ⟨by omega, by omega⟩
        exact .inl ⟨i, j, rfl, rfl, hc', f.here S _ (by simp only [VR])⟩
      · exact False.elim f
    | _ => exact False.elim f
  | ref a =>
    cases y with
    | int k => exact .inr (mulL_ok S hv hu f)
    | _ => exact False.elim f
  | rl l =>
    cases y with
    | int k => exact .inr (mulL_ok S hv hu f)
    | _ => exact False.elim f
  | _ => exact False.elim f

/-! ### data: ==, in -/
def mapO {α β : Type} (f : α → Option β) : List α → Option (List β)
  | [] => some []
  | x :: l => (f x).bind fun y => (mapO f l).bind fun r => some (y :: r)
def toP : Nat → AH → D → Option PyData
  | 0, _, _ => none
  | n + 1, h, d => match d with
    | .non => some .none
    | .bl b => some (.bool b)
    | .int i => some (.int i)
    | .str x => some (.str x)
    | .tup l => (mapO (toP n h) l).map .tuple
    | .kt l => (mapO (toP n h) l).map .tuple
    | .rl l => (mapO (toP n h) l).map .list
    | .kl l => (mapO (toP n h) l).map .list
    | .ref a => match h[a]? with
      | some (.lst l) => (mapO (toP n h) l).map .list
      | _ => none
    | .fd _ _ => none
    | .ft _ _ => none
    | .fi _ _ _ => none
    | .g _ => none
theorem mapO_Dp {m : Nat → Addr} {n' : Nat} {H : Hp} {f : D → Option PyData} (hf : ∀ d v pd, VR W m n' H d v → f d = some pd → Dp W.K H v pd) : ∀ {l : List D} {xs : List V} {ps : List PyData}, VRs W m n' H l xs → mapO f l = some ps → DpAll W.K H xs ps
  | [], xs, ps, hv, e => by
    simp only [VRs] at hv
    subst hv
    cases e
    exact .nil
  | d :: l, xs, ps, hv, e => by
    simp only [VRs] at hv
    obtain ⟨x, r, rfl, h1, h2⟩ := hv
    simp only [mapO] at e
    cases q1 : f d with
    | none => rw [q1] at e; cases e
    | some p =>
      rw [q1] at e
      cases q2 : mapO f l with
      | none => rw [q2] at e; cases e
      | some r' =>
        rw [q2] at e
        cases e
        exact .cons (hf d x p h1 q1) (mapO_Dp hf h2 q2)
theorem toP_Dp {m : Nat → Addr} {h : AH} {H : Hp} (S : SR W m h H) : ∀ (n : Nat) (d : D) (v : V) (pd : PyData), VR W m h.length H d v → toP n h d = some pd → Dp W.K H v pd
  | 0, _, _, _, _, e => by cases e
  | n + 1, d, v, pd, hv, e => by
    cases d with
    | non => simp only [VR] at hv; subst hv; cases e; exact .non
    | bl b => simp only [VR] at hv; subst hv; cases e; exact .bl b
    | int i => simp only [VR] at hv; subst hv; cases e; exact .int i
    | str x => simp only [VR] at hv; subst hv; cases e; exact .str x
    | tup l =>
      simp only [VR] at hv
      obtain ⟨p, xs, rfl, h2, h3⟩ := hv
      simp only [toP] at e
      cases q : mapO (toP n h) l with
      | none => rw [q] at e; cases e
      | some ps => rw [q] at e; cases e; exact .tup h2.sq (mapO_Dp (toP_Dp S n) h3 q)
    | kt l =>
      simp only [VR] at hv
      obtain ⟨p, xs, rfl, h2, h3⟩ := hv
      simp only [toP] at e
      cases q : mapO (toP n h) l with
      | none => rw [q] at e; cases e
      | some ps => rw [q] at e; cases e; exact .tup (KT.sq h2) (mapO_Dp (toP_Dp S n) h3 q)
    | rl l =>
      simp only [VR] at hv
      obtain ⟨p, xs, rfl, h2, h3⟩ := hv
      simp only [toP] at e
      cases q : mapO (toP n h) l with
      | none => rw [q] at e; cases e
      | some ps => rw [q] at e; cases e; exact .lst (RLs.sq (.inl h2)) (mapO_Dp (toP_Dp S n) h3 q)
    | kl l =>
      simp only [VR] at hv
      obtain ⟨p, xs, rfl, h2, h3⟩ := hv
      simp only [toP] at e
      cases q : mapO (toP n h) l with
      | none => rw [q] at e; cases e
      | some ps => rw [q] at e; cases e; exact .lst (KLf.sq h2) (mapO_Dp (toP_Dp S n) h3 q)
    | fd ks l => cases e
    | ft ks l => cases e
    | fi c gs l => cases e
    | ref a =>
      simp only [VR] at hv
      obtain ⟨ha, rfl⟩ := hv
      simp only [toP] at e
      split at e
      · rename_i l q1
        obtain ⟨_, p1, xs, rfl, r1⟩ := S.obj a _ q1
        cases q : mapO (toP n h) l with
        | none => rw [q] at e; cases e
        | some ps => rw [q] at e; cases e; exact .lst (.inl (.inl p1)) (mapO_Dp (toP_Dp S n) r1 q)
      · cases e
    | g k => cases e
/-- plain values of one kind -/
def scalD : D → D → Option Bool
  | .non, .non => some true
  | .int i, .int j => some (decide (i = j))
  | .str x, .str y => some (decide (x = y))
  | .bl a, .bl b => some (decide (a = b))
  | .non, .int _ | .int _, .non | .non, .str _ | .str _, .non | .non, .bl _ | .bl _, .non => some false
  | .int _, .str _ | .str _, .int _ | .bl _, .str _ | .str _, .bl _ => some false
  | _, _ => none
def eqB (x y : D) (h : AH) : Option Bool := match scalD x y with
  | some b => some b
  | none => (toP 12 h x).bind fun p => (toP 12 h y).bind fun q => if SeqAt.shaped p = true ∧ SeqAt.shaped q = true then some (PyData.eqv p q) else none
def eqD (x y : D) (h : AH) : Res D := match eqB x y h with
  | some b => .ok (.bl b) h
  | none => .bad
def neD (x y : D) (h : AH) : Res D := match eqB x y h with
  | some b => .ok (.bl !b) h
  | none => .bad
theorem scalD_ok {m : Nat → Addr} {n : Nat} {H : Hp} {x y : D} {v u : V} {b : Bool} (hv : VR W m n H x v) (hu : VR W m n H y u) (e : scalD x y = some b) : scal v u = true ∧ decide (v = u) = b := by
  cases x <;> cases y <;> simp only [scalD, Option.some.injEq, reduceCtorEq] at e <;> simp only [VR] at hv hu <;> subst hv <;> subst hu <;> subst e <;> refine ⟨rfl, ?_⟩ <;> first
    | rfl
    | (simp only [V.int.injEq, V.str.injEq, V.bl.injEq])
abbrev rEqAll (K : PySem.W.Frag) : R2 := fun x y H Q => rEq x y H Q ∨ rEqD K x y H Q
abbrev rNeAll (K : PySem.W.Frag) : R2 := fun x y H Q => rNe x y H Q ∨ rNeD K x y H Q
theorem or_eq (hK : X.K = W.K) (hu : X.A.units + 64 < cLine) : OpR X (compareOp .Eq) (rEqAll W.K) := OpR.or op_eq (hK ▸ op_eqD hu)
theorem or_ne (hK : X.K = W.K) (hu : X.A.units + 64 < cLine) : OpR X (compareOp .NotEq) (rNeAll W.K) := OpR.or op_ne (hK ▸ op_neD hu)
theorem eqB_ok {m : Nat → Addr} {h : AH} {H : Hp} {x y : D} {v u : V} {b : Bool} (S : SR W m h H) (hv : VR W m h.length H x v) (hu : VR W m h.length H y u) (e : eqB x y h = some b) :
    (scal v u = true ∧ decide (v = u) = b) ∨ ∃ d e, Dp W.K H v d ∧ Dp W.K H u e ∧ SeqAt.shaped d = true ∧ SeqAt.shaped e = true ∧ PyData.eqv d e = b := by
  unfold eqB at e
  cases q : scalD x y with
  | some b' => rw [q] at e; cases e; exact .inl (scalD_ok hv hu q)
  | none =>
    rw [q] at e
    simp only at e
    cases q1 : toP 12 h x with
    | none => rw [q1] at e; cases e
    | some p =>
      rw [q1] at e
      cases q2 : toP 12 h y with
      | none => rw [q2] at e; cases e
      | some p' =>
        rw [q2] at e
        simp only [Option.bind_some] at e
        split at e
        · rename_i z
          cases e
          exact .inr ⟨p, p', toP_Dp S _ _ _ _ hv q1, toP_Dp S _ _ _ _ hu q2, z.1, z.2, rfl⟩
        · cases e
theorem os_eq : OpS W (rEqAll W.K) eqD := by
  intro Wx m h H s x y v u Q S hv hu f
  unfold eqD at f
  cases z : eqB x y h with
  | none => rw [z] at f; exact False.elim f
  | some b =>
    rw [z] at f
    have q := f.here S (.bl b) (by simp only [VR])
    rcases eqB_ok S hv hu z with ⟨a1, a2⟩ | ⟨d, e, a1, a2, a3, a4, a5⟩
    · exact .inl ⟨a1, by rw [a2]; exact q⟩
    · exact .inr ⟨d, e, a1, a2, a3, a4, by rw [a5]; exact q⟩
theorem os_ne : OpS W (rNeAll W.K) neD := by
  intro Wx m h H s x y v u Q S hv hu f
  unfold neD at f
  cases z : eqB x y h with
  | none => rw [z] at f; exact False.elim f
  | some b =>
    rw [z] at f
    have q := f.here S (.bl !b) (by simp only [VR])
    rcases eqB_ok S hv hu z with ⟨a1, a2⟩ | ⟨d, e, a1, a2, a3, a4, a5⟩
    · exact .inl ⟨a1, by rw [a2]; exact q⟩
    · exact .inr ⟨d, e, a1, a2, a3, a4, by rw [a5]; exact q⟩
end
end PI
/-! PI6: is, in, subscripts, slices, dicts. -/
namespace PI
open PySem L2

/-! ### is -/
def isNonD : D → Bool
  | .non => true
  | _ => false
def isD : D → D → AH → Res D
  | x, .non, h => .ok (.bl (isNonD x)) h
  | .bl a, .bl b, h => .ok (.bl (decide (a = b))) h
  | _, _, _ => .bad
def isntD : D → D → AH → Res D
  | x, .non, h => .ok (.bl !(isNonD x)) h
  | .bl a, .bl b, h => .ok (.bl !(decide (a = b))) h
  | _, _, _ => .bad
section
variable {X : Cx} {W : Wd} {Wx : WX}
theorem isNon_ok {m : Nat → Addr} {n : Nat} {H : Hp} {x : D} {v : V} (hv : VR W m n H x v) : decide (v = .non) = isNonD x := by
  cases x <;> simp only [VR] at hv
  case non => subst hv; rfl
  case bl => subst hv; rfl
  case int => subst hv; rfl
  case str => subst hv; rfl
  case tup => obtain ⟨p, xs, rfl, _⟩ := hv; rfl
  case kt => obtain ⟨p, xs, rfl, _⟩ := hv; rfl
  case rl => obtain ⟨p, xs, rfl, _⟩ := hv; rfl
  case kl => obtain ⟨p, xs, rfl, _⟩ := hv; rfl
  case fd => obtain ⟨p, xs, rfl, _⟩ := hv; rfl
  case ft => obtain ⟨p, xs, rfl, _⟩ := hv; rfl
  case fi => obtain ⟨p, dx, xs, rfl, _⟩ := hv; rfl
  case ref => obtain ⟨_, rfl⟩ := hv; rfl
  case g => subst hv; rfl
abbrev rIsAll : R2 := fun x y H Q => (y = .non ∧ Q (.bl (decide (x = .non))) H) ∨ (∃ a b, x = .bl a ∧ y = .bl b ∧ Q (.bl (decide (a = b))) H)
abbrev rIsntAll : R2 := fun x y H Q => (y = .non ∧ Q (.bl (!decide (x = .non))) H) ∨ (∃ a b, x = .bl a ∧ y = .bl b ∧ Q (.bl (!decide (a = b))) H)
theorem or_is : OpR X (compareOp .Is) rIsAll := OpR.or op_isN op_is_bl
theorem or_isnt : OpR X (compareOp .IsNot) rIsntAll := OpR.or op_notN op_isnot_bl
theorem os_is : OpS W rIsAll isD := by
  intro Wx m h H s x y v u Q S hv hu f
  cases y with
  | non =>
    have hu' := hu
    simp only [VR] at hu'
    subst hu'
    refine .inl ⟨rfl, ?_⟩
    rw [isNon_ok hv]
    cases x <;> exact f.here S _ (by simp only [VR])
  | bl b =>
    cases x with
    | bl a =>
      simp only [VR] at hv hu
      subst hv
      subst hu
      exact .inr ⟨a, b, rfl, rfl, f.here S _ (by simp only [VR])⟩
    | _ => exact False.elim f
  | _ => cases x <;> exact False.elim f
theorem os_isnt : OpS W rIsntAll isntD := by
  intro Wx m h H s x y v u Q S hv hu f
  cases y with
  | non =>
    have hu' := hu
    simp only [VR] at hu'
    subst hu'
    refine .inl ⟨rfl, ?_⟩
    rw [isNon_ok hv]
    cases x <;> exact f.here S _ (by simp only [VR])
  | bl b =>
    cases x with
    | bl a =>
      simp only [VR] at hv hu
      subst hv
      subst hu
      exact .inr ⟨a, b, rfl, rfl, f.here S _ (by simp only [VR])⟩
    | _ => exact False.elim f
  | _ => cases x <;> exact False.elim f
end

/-! ### dicts: what is found, what is put -/
section
variable {κ : Type} [DecidableEq κ]
def findD (l : List (κ × D)) (k : κ) : Option D := (l.find? fun kv => decide (kv.1 = k)).map (·.2)
def putD (l : List (κ × D)) (k : κ) (d : D) : List (κ × D) :=
  if (l.any fun kv => decide (kv.1 = k)) = true then l.map (fun kv => if kv.1 = k then (kv.1, d) else kv) else l ++ [(k, d)]
def dropD (l : List (κ × D)) (k : κ) : List (κ × D) := l.filter fun kv => decide (kv.1 ≠ k)
variable {W : Wd} {m : Nat → Addr} {n : Nat} {H : Hp}
theorem PR.find : ∀ {l : List (κ × D)} {ys : List (κ × V)} (k : κ), PR W m n H l ys → (∀ d, findD l k = some d → ∃ v, valV ys k = some v ∧ VR W m n H d v) ∧ (findD l k = none → valV ys k = none)
  | [], _, k, h => by
    cases h
    exact ⟨fun d e => absurd (show (none : Option D) = some d from e) (fun z => nomatch z), fun _ => rfl⟩
  | (q, d) :: l, ys, k, ⟨v, r, e, h2, h3⟩ => by
    subst e
    have ih := PR.find k h3
    by_cases hk : q = k
    · have e1 : findD ((q, d) :: l) k = some d := by simp [findD, List.find?_cons, hk]
      rw [valV_pos hk, e1]
      exact ⟨fun d' e => by cases e; exact ⟨v, rfl, h2⟩, fun e => by cases e⟩
    · have e1 : findD ((q, d) :: l) k = findD l k := by simp [findD, List.find?_cons, hk]
      rw [valV_neg hk, e1]
      exact ih
theorem PR.any : ∀ {l : List (κ × D)} {ys : List (κ × V)} (k : κ), PR W m n H l ys → (l.any fun kv => decide (kv.1 = k)) = (ys.any fun kv => decide (kv.1 = k))
  | [], _, _, h => by cases h; rfl
  | (q, d) :: l, ys, k, ⟨v, r, e, _, h3⟩ => by
    subst e
    rw [List.any_cons, List.any_cons, PR.any k h3]
theorem PR.append : ∀ {l l' : List (κ × D)} {ys ys' : List (κ × V)}, PR W m n H l ys → PR W m n H l' ys' → PR W m n H (l ++ l') (ys ++ ys')
  | [], _, _, _, h, h' => by cases h; exact h'
  | (q, d) :: l, _, ys, _, ⟨v, r, e, h2, h3⟩, h' => by
    subst e
    exact ⟨v, r ++ _, rfl, h2, PR.append h3 h'⟩
theorem PR.mapPut {k : κ} {d : D} {v : V} (hd : VR W m n H d v) : ∀ {l : List (κ × D)} {ys : List (κ × V)}, PR W m n H l ys →
    PR W m n H (l.map fun kv => if kv.1 = k then (kv.1, d) else kv) (ys.map fun kv => if kv.1 = k then (kv.1, v) else kv)
  | [], _, h => by cases h; exact rfl
  | (q, c) :: l, ys, ⟨u, r, e, h2, h3⟩ => by
    subst e
    rw [List.map_cons, List.map_cons]
    have ih := PR.mapPut (k := k) hd h3
    by_cases hk : q = k
    · rw [if_pos hk, if_pos hk]
      exact ⟨v, _, rfl, hd, ih⟩
    · rw [if_neg hk, if_neg hk]
      exact ⟨u, _, rfl, h2, ih⟩
theorem PR.put {l : List (κ × D)} {ys : List (κ × V)} {k : κ} {d : D} {v : V} (h : PR W m n H l ys) (hd : VR W m n H d v) : PR W m n H (putD l k d) (putK ys k v) := by
  unfold putD putK
  rw [PR.any k h]
  split
  · exact PR.mapPut hd h
  · exact h.append ⟨v, [], rfl, hd, rfl⟩
theorem PR.drop {k : κ} : ∀ {l : List (κ × D)} {ys : List (κ × V)}, PR W m n H l ys → PR W m n H (dropD l k) (dropK ys k)
  | [], _, h => by cases h; exact rfl
  | (q, c) :: l, ys, ⟨u, r, e, h2, h3⟩ => by
    subst e
    have ih := PR.drop (k := k) h3
    unfold dropD dropK at ih ⊢
    by_cases hk : q = k
    · rw [List.filter_cons_of_neg (by simp [hk]), List.filter_cons_of_neg (by simp [hk])]
      exact ih
    · rw [List.filter_cons_of_pos (by simp [hk]), List.filter_cons_of_pos (by simp [hk])]
      exact ⟨u, _, rfl, h2, ih⟩
theorem PR.keys : ∀ {l : List (κ × D)} {ys : List (κ × V)}, PR W m n H l ys → ys.map (·.1) = l.map (·.1)
  | [], _, h => by cases h; rfl
  | (q, c) :: l, ys, ⟨u, r, e, h2, h3⟩ => by subst e; rw [List.map_cons, List.map_cons, PR.keys h3]
end
def keyOf : D → Option Key
  | .int i => some (.inl i)
  | .str x => some (.inr x)
  | _ => none
def keysOf (d : D) : Option (List Key) := match d with
  | .tup l => mapO keyOf l
  | _ => none
section
variable {X : Cx} {W : Wd} {Wx : WX} {m : Nat → Addr} {n : Nat} {H : Hp} {h : AH}
theorem keyOf_ok {d : D} {v : V} {k : Key} (hv : VR W m n H d v) (e : keyOf d = some k) : v = kV k := by
  cases d <;> simp only [keyOf, Option.some.injEq, reduceCtorEq] at e <;> subst e <;> simp only [VR] at hv <;> exact hv
theorem keysOf_all : ∀ {l : List D} {xs : List V} {ks : List Key}, VRs W m n H l xs → mapO keyOf l = some ks → xs = ks.map kV
  | [], xs, ks, hv, e => by
    simp only [VRs] at hv
    subst hv
    cases e
    rfl
  | d :: l, xs, ks, hv, e => by
    simp only [VRs] at hv
    obtain ⟨x, r, rfl, h1, h2⟩ := hv
    simp only [mapO] at e
    cases q1 : keyOf d with
    | none => rw [q1] at e; cases e
    | some p =>
      rw [q1] at e
      cases q2 : mapO keyOf l with
      | none => rw [q2] at e; cases e
      | some r' =>
        rw [q2] at e
        cases e
        rw [List.map_cons, keyOf_ok h1 q1, keysOf_all h2 q2]
/-- a dict of the heap: by plain keys, by tuples -/
inductive DQ where
  | k (l : List (Key × D)) | t (l : List (List Key × D))
def dicOf : O → Option DQ
  | .dK l => some (.k l)
  | .dT l => some (.t l)
  | .frz (.dK l) => some (.k l)
  | .frz (.dT l) => some (.t l)
  | _ => none
/-- what a dict has at a key; none where the key is of another kind -/
def lookD (o : O) (d : D) : Option (Option D) := (dicOf o).bind fun
  | .k l => (keyOf d).map fun k => findD l k
  | .t l => (keysOf d).map fun k => findD l k
theorem look_plain {p : Addr} {d : D} {v : V} {r : Option D} (hv : VR W m h.length H d v) (l : List (Key × D)) (ys : List (Key × V)) (rd : Rd H p (.dK ys)) (pr : PR W m h.length H l ys) (e : (keyOf d).map (fun k => findD l k) = some r) :
      ∃ q, DGet H p v q ∧ (∀ d', r = some d' → ∃ u, q = some u ∧ VR W m h.length H d' u) ∧ (r = none → q = none) := by
    cases q : keyOf d with
    | none => rw [q] at e; cases e
    | some k =>
      rw [q] at e
      have e' : findD l k = r := Option.some.inj e
      obtain ⟨p1, p2⟩ := PR.find k pr
      refine ⟨valV ys k, .inl ⟨ys, k, rd, keyOf_ok hv q, rfl⟩, fun d' z => p1 d' (e'.trans z), fun z => p2 (e'.trans z)⟩
theorem look_tups {p : Addr} {d : D} {v : V} {r : Option D} (hv : VR W m h.length H d v) (l : List (List Key × D)) (ys : List (List Key × V)) (rd : Rd H p (.dT ys)) (pr : PR W m h.length H l ys) (e : (keysOf d).map (fun k => findD l k) = some r) :
      ∃ q, DGet H p v q ∧ (∀ d', r = some d' → ∃ u, q = some u ∧ VR W m h.length H d' u) ∧ (r = none → q = none) := by
    cases d with
    | tup ds =>
      cases q : mapO keyOf ds with
      | none => simp only [keysOf, q] at e; cases e
      | some k =>
        simp only [keysOf, q] at e
        have e' : findD l k = r := Option.some.inj e
        obtain ⟨p1, p2⟩ := PR.find k pr
        simp only [VR] at hv
        obtain ⟨p', xs, rfl, h2, h3⟩ := hv
        refine ⟨valV ys k, .inr ⟨ys, k, p', rd, rfl, ?_, rfl⟩, fun d' z => p1 d' (e'.trans z), fun z => p2 (e'.trans z)⟩
        rw [← keysOf_all h3 q]
        exact h2.1
    | _ => cases e
theorem look_get (S : SR W m h H) {a : Nat} {o : O} {d : D} {v : V} {r : Option D} (ho : h[a]? = some o) (hv : VR W m h.length H d v) (e : lookD o d = some r) :
    ∃ q, DGet H (m a) v q ∧ (∀ d', r = some d' → ∃ u, q = some u ∧ VR W m h.length H d' u) ∧ (r = none → q = none) := by
  obtain ⟨u, q1, q2⟩ := S.obj a o ho
  cases o with
  | dK l => obtain ⟨ys, rfl, pr⟩ := q2; exact look_plain hv l ys (.inl q1) pr e
  | dT l => obtain ⟨ys, rfl, pr⟩ := q2; exact look_tups hv l ys (.inl q1) pr e
  | frz o =>
    obtain ⟨ob, u', rfl, q2⟩ := q2
    cases o with
    | dK l => obtain ⟨ys, rfl, pr⟩ := q2; exact look_plain hv l ys (.inr ⟨ob, q1⟩) pr e
    | dT l => obtain ⟨ys, rfl, pr⟩ := q2; exact look_tups hv l ys (.inr ⟨ob, q1⟩) pr e
    | _ => cases e
  | _ => cases e
/-- a dict that stays -/
def fdO : D → Option O
  | .fd ks l => some (.dK (ks.zip l))
  | .ft ks l => some (.dT (ks.zip l))
  | _ => none
theorem look_fd {x : D} {u : V} {o : O} {d : D} {v : V} {r : Option D} (hx : VR W m h.length H x u) (ho : fdO x = some o) (hv : VR W m h.length H d v) (e : lookD o d = some r) :
    ∃ p q, u = .ref p ∧ DGet H p v q ∧ (∀ d', r = some d' → ∃ u, q = some u ∧ VR W m h.length H d' u) ∧ (r = none → q = none) := by
  cases x with
  | fd ks l =>
    cases ho
    simp only [VR] at hx
    obtain ⟨p, ys, rfl, h2, h3, h4⟩ := hx
    obtain ⟨q, g⟩ := look_plain hv _ ys h2.1 (PR.zip h3 h4) e
    exact ⟨p, q, rfl, g⟩
  | ft ks l =>
    cases ho
    simp only [VR] at hx
    obtain ⟨p, ys, rfl, h2, h3, h4⟩ := hx
    obtain ⟨q, g⟩ := look_tups hv _ ys h2.1 (PR.zip h3 h4) e
    exact ⟨p, q, rfl, g⟩
  | _ => cases ho

/-! ### in -/
theorem or_inDic (hu : X.A.units + 1 < cLine) : OpR X (compareOp .In) (fun y x H Q => ∃ a o, x = .ref a ∧ DGet H a y o ∧ Q (.bl o.isSome) H) := by
  intro pins s σ H y x iv u Q I ry rx ⟨a, ov, ex, g, q2⟩
  subst ex
  obtain rfl : u = Value.ref a := rx
  exact d_in hu I g ry fun s3 I3 => ⟨.bl ov.isSome, H, I3, rfl, q2⟩
theorem or_notInDic (hu : X.A.units + 1 < cLine) : OpR X (compareOp .NotIn) (fun y x H Q => ∃ a o, x = .ref a ∧ DGet H a y o ∧ Q (.bl (!o.isSome)) H) := by
  intro pins s σ H y x iv u Q I ry rx ⟨a, ov, ex, g, q2⟩
  subst ex
  obtain rfl : u = Value.ref a := rx
  exact d_notIn hu I g ry fun s3 I3 => ⟨.bl (!ov.isSome), H, I3, rfl, q2⟩
/-- plain values, == of such -/
def flatD : D → Bool
  | .non | .bl _ | .int _ | .str _ => true
  | _ => false
def eqF : D → D → Bool
  | .non, .non => true
  | .bl a, .bl b => a == b
  | .bl a, .int b => (if a then 1 else 0) == b
  | .int a, .bl b => a == (if b then 1 else 0)
  | .int a, .int b => a == b
  | .str a, .str b => a == b
  | _, _ => false
theorem flat_ok {d : D} {v : V} (hv : VR W m n H d v) (e : flatD d = true) : flatV v = true := by
  cases d <;> simp only [flatD, reduceCtorEq, Bool.false_eq_true] at e <;> simp only [VR] at hv <;> subst hv <;> rfl
theorem eqF_ok {d e : D} {v u : V} (hv : VR W m n H d v) (hu : VR W m n H e u) (fd : flatD d = true) (fe : flatD e = true) : eqV v u = eqF d e := by
  cases d <;> simp only [flatD, reduceCtorEq, Bool.false_eq_true] at fd <;> cases e <;> simp only [flatD, reduceCtorEq, Bool.false_eq_true] at fe <;> simp only [VR] at hv hu <;> subst hv <;> subst hu <;> rfl
theorem flats_ok : ∀ {l : List D} {xs : List V}, VRs W m n H l xs → l.all flatD = true → xs.all flatV = true
  | [], xs, hv, _ => by simp only [VRs] at hv; subst hv; rfl
  | d :: l, xs, hv, e => by
    simp only [VRs] at hv
    obtain ⟨x, r, rfl, h1, h2⟩ := hv
    rw [List.all_cons, Bool.and_eq_true] at e ⊢
    exact ⟨flat_ok h1 e.1, flats_ok h2 e.2⟩
theorem inF_ok {d : D} {v : V} (hv : VR W m n H d v) (fd : flatD d = true) : ∀ {l : List D} {xs : List V}, VRs W m n H l xs → l.all flatD = true → inV v xs = l.any fun y => eqF y d
  | [], xs, hs, _ => by simp only [VRs] at hs; subst hs; rfl
  | e :: l, xs, hs, f => by
    simp only [VRs] at hs
    obtain ⟨x, r, rfl, h1, h2⟩ := hs
    rw [List.all_cons, Bool.and_eq_true] at f
    unfold inV
    rw [List.any_cons, List.any_cons, eqF_ok h1 hv f.1 fd]
    have := inF_ok hv fd h2 f.2
    unfold inV at this
    rw [this]
def inLst (x : D) (l : List D) (y : D) (h : AH) : Option Bool := if flatD x = true ∧ l.all flatD = true then some (l.any fun y => eqF y x) else
  (toP 12 h x).bind fun p => match toP 12 h y with
    | some (.list ps) => if SeqAt.shaped p = true ∧ SeqAt.shaped (.list ps) = true then some (ps.any fun z => PyData.eqv z p) else none
    | _ => none
def inTup (x : D) (l : List D) (y : D) (h : AH) : Option Bool := if flatD x = true ∧ l.all flatD = true then some (l.any fun y => eqF y x) else
  (toP 12 h x).bind fun p => match toP 12 h y with
    | some (.tuple ps) => if SeqAt.shaped p = true ∧ SeqAt.shaped (.list ps) = true then some (ps.any fun z => PyData.eqv z p) else none
    | _ => none
/-- whether a value is in another one -/
def inB (x y : D) (h : AH) : Option Bool := match y with
  | .str z => match x with
    | .str c => match c.cps.toList with
      | [q] => some (decide (q ∈ z.cps.toList))
      | _ => none
    | _ => none
  | .tup l => inTup x l (.tup l) h
  | .kt l => if flatD x = true ∧ l.all flatD = true then some (l.any fun y => eqF y x) else none
  | .ref a => match h[a]? with
    | some (.lst l) => inLst x l (.ref a) h
    | some o => (lookD o x).map fun q => q.isSome
    | _ => none
  | .rl l => inLst x l (.rl l) h
  | .kl l => inLst x l (.kl l) h
  | .fd ks l => (lookD (.dK (ks.zip l)) x).map fun q => q.isSome
  | .ft ks l => (lookD (.dT (ks.zip l)) x).map fun q => q.isSome
  | _ => none
def inD (x y : D) (h : AH) : Res D := match inB x y h with
  | some b => .ok (.bl b) h
  | none => .bad
def ninD (x y : D) (h : AH) : Res D := match inB x y h with
  | some b => .ok (.bl !b) h
  | none => .bad
/-- what an answer to «in» comes from -/
def InHow (W : Wd) (H : Hp) (v u : V) (b : Bool) : Prop :=
  (∃ (c : Nat) (z : Str), v = .str ⟨#[c]⟩ ∧ u = .str z ∧ b = decide (c ∈ z.cps.toList)) ∨ (∃ p xs, u = .ref p ∧ (SqL W.K H p xs ∨ SqT W.K H p xs) ∧ flatV v = true ∧ xs.all flatV = true ∧ b = inV v xs) ∨
  (∃ d ds, Dp W.K H v d ∧ (Dp W.K H u (.list ds) ∨ Dp W.K H u (.tuple ds)) ∧ SeqAt.shaped d = true ∧ SeqAt.shaped (.list ds) = true ∧ b = ds.any fun z => PyData.eqv z d) ∨ ∃ a o, u = .ref a ∧ DGet H a v o ∧ b = o.isSome
theorem inLst_ok {x y : D} {v u : V} {b : Bool} {l : List D} {p : Addr} {xs : List V} (S : SR W m h H) (hv : VR W m h.length H x v) (hu : VR W m h.length H y u) (e1 : u = .ref p) (h2 : SqL W.K H p xs) (h3 : VRs W m h.length H l xs) (e : inLst x l y h = some b) : InHow W H v u b := by
  unfold inLst at e
  split at e
  · rename_i z
    cases e
    exact .inr (.inl ⟨p, xs, e1, .inl h2, flat_ok hv z.1, flats_ok h3 z.2, (inF_ok hv z.1 h3 z.2).symm⟩)
  · cases q1 : toP 12 h x with
    | none => rw [q1] at e; cases e
    | some p =>
      rw [q1] at e
      simp only [Option.bind_some] at e
      split at e
      · rename_i ps q2
        split at e
        · rename_i z
          cases e
          exact .inr (.inr (.inl ⟨_, ps, toP_Dp S _ _ _ _ hv q1, .inl (toP_Dp S _ _ _ _ hu q2), z.1, z.2, rfl⟩))
        · cases e
      · cases e
theorem inTup_ok {x y : D} {v u : V} {b : Bool} {l : List D} {p : Addr} {xs : List V} (S : SR W m h H) (hv : VR W m h.length H x v) (hu : VR W m h.length H y u) (e1 : u = .ref p) (h2 : SqT W.K H p xs) (h3 : VRs W m h.length H l xs) (e : inTup x l y h = some b) : InHow W H v u b := by
  unfold inTup at e
  split at e
  · rename_i z
    cases e
    exact .inr (.inl ⟨p, xs, e1, .inr h2, flat_ok hv z.1, flats_ok h3 z.2, (inF_ok hv z.1 h3 z.2).symm⟩)
  · cases q1 : toP 12 h x with
    | none => rw [q1] at e; cases e
    | some p =>
      rw [q1] at e
      simp only [Option.bind_some] at e
      split at e
      · rename_i ps q2
        split at e
        · rename_i z
          cases e
          exact .inr (.inr (.inl ⟨_, ps, toP_Dp S _ _ _ _ hv q1, .inr (toP_Dp S _ _ _ _ hu q2), z.1, z.2, rfl⟩))
        · cases e
      · cases e
theorem inDic_ok {x y : D} {v u : V} {b : Bool} {o : O} (hv : VR W m h.length H x v) (hu : VR W m h.length H y u) (ho : fdO y = some o) (e : ((lookD o x).map fun q => q.isSome) = some b) : InHow W H v u b := by
  cases q1 : lookD o x with
  | none => rw [q1] at e; cases e
  | some r =>
    rw [q1] at e
    cases e
    obtain ⟨p, q2, rfl, g, g1, g2⟩ := look_fd hu ho hv q1
    refine .inr (.inr (.inr ⟨p, q2, rfl, g, ?_⟩))
    cases r with
    | none => rw [g2 rfl]; rfl
    | some d => obtain ⟨w, rfl, _⟩ := g1 d rfl; rfl
theorem inB_ok {x y : D} {v u : V} {b : Bool} (S : SR W m h H) (hv : VR W m h.length H x v) (hu : VR W m h.length H y u) (e : inB x y h = some b) : InHow W H v u b := by
  cases y with
  | str z =>
    cases x with
    | str c =>
      simp only [VR] at hv hu
      subst hv
      subst hu
      simp only [inB] at e
      split at e
      · rename_i q hq
        cases e
        refine .inl ⟨q, z, ?_, rfl, rfl⟩
        have : c = ⟨#[q]⟩ := by
          cases c with
          | mk cps =>
            simp only at hq
            rw [show cps = #[q] from by rw [← Array.toList_inj, hq]]
        rw [this]
      · cases e
    | _ => cases e
  | tup l =>
    have hu' := hu
    simp only [VR] at hu
    obtain ⟨p, xs, rfl, h2, h3⟩ := hu
    exact inTup_ok S hv hu' rfl h2.sq h3 e
  | kt l =>
    simp only [VR] at hu
    obtain ⟨p, xs, rfl, h2, h3⟩ := hu
    simp only [inB] at e
    split at e
    · rename_i z
      cases e
      exact .inr (.inl ⟨p, xs, rfl, .inr (KT.sq h2), flat_ok hv z.1, flats_ok h3 z.2, (inF_ok hv z.1 h3 z.2).symm⟩)
    · cases e
  | ref a =>
    have hu' := hu
    simp only [VR] at hu
    obtain ⟨ha, rfl⟩ := hu
    simp only [inB] at e
    split at e
    · rename_i l q
      obtain ⟨_, p1, xs, rfl, r1⟩ := S.obj a _ q
      exact inLst_ok S hv hu' rfl (.inl (.inl p1)) r1 e
    · rename_i o _ q
      cases q1 : lookD o x with
      | none => rw [q1] at e; cases e
      | some r =>
        rw [q1] at e
        cases e
        obtain ⟨q2, g, g1, g2⟩ := look_get S q hv q1
        refine .inr (.inr (.inr ⟨m a, q2, rfl, g, ?_⟩))
        cases r with
        | none => rw [g2 rfl]; rfl
        | some d => obtain ⟨w, rfl, _⟩ := g1 d rfl; rfl
    · cases e
  | rl l =>
    have hu' := hu
    simp only [VR] at hu
    obtain ⟨p, xs, rfl, h2, h3⟩ := hu
    exact inLst_ok S hv hu' rfl (RLs.sq (.inl h2)) h3 e
  | kl l =>
    have hu' := hu
    simp only [VR] at hu
    obtain ⟨p, xs, rfl, h2, h3⟩ := hu
    exact inLst_ok S hv hu' rfl (KLf.sq h2) h3 e
  | fd ks l => exact inDic_ok hv hu rfl e
  | ft ks l => exact inDic_ok hv hu rfl e
  | _ => cases e
def rInD2 (K : PySem.W.Frag) : R2 := fun x y H Q => ∃ d ds, Dp K H x d ∧ (Dp K H y (.list ds) ∨ Dp K H y (.tuple ds)) ∧ SeqAt.shaped d = true ∧ SeqAt.shaped (.list ds) = true ∧ Q (.bl (ds.any fun z => PyData.eqv z d)) H
def rNotInD2 (K : PySem.W.Frag) : R2 := fun x y H Q => ∃ d ds, Dp K H x d ∧ (Dp K H y (.list ds) ∨ Dp K H y (.tuple ds)) ∧ SeqAt.shaped d = true ∧ SeqAt.shaped (.list ds) = true ∧ Q (.bl (!ds.any fun z => PyData.eqv z d)) H
theorem op_inD2 (hu : X.A.units + 65 < cLine) : OpR X (compareOp .In) (rInD2 X.K) := by
  intro pins s σ H x y v u Q I rx ry h
  obtain ⟨d, ds, hd, he, sd, se, q⟩ := h
  obtain ⟨as, r1⟩ := Dp.reads I d x v hd rx
  rcases he with he | he
  · obtain ⟨bs, r2⟩ := Dp.reads I (.list ds) y u he ry
    exact SeqAt.in_list_reads r2 r1 (SeqAt.canLay_of_shaped se) (SeqAt.canLay_of_shaped sd) (PyProof.Rows.room_in_shaped sd hu) ⟨.bl _, H, I, rfl, q⟩
  · obtain ⟨bs, r2⟩ := Dp.reads I (.tuple ds) y u he ry
    exact SeqAt.in_tuple_reads r2 r1 (SeqAt.canLay_of_shaped se) (SeqAt.canLay_of_shaped sd) (PyProof.Rows.room_in_shaped sd hu) ⟨.bl _, H, I, rfl, q⟩
theorem op_notInD2 (hu : X.A.units + 65 < cLine) : OpR X (compareOp .NotIn) (rNotInD2 X.K) := by
  intro pins s σ H x y v u Q I rx ry h
  obtain ⟨d, ds, hd, he, sd, se, q⟩ := h
  obtain ⟨as, r1⟩ := Dp.reads I d x v hd rx
  rcases he with he | he
  · obtain ⟨bs, r2⟩ := Dp.reads I (.list ds) y u he ry
    exact SeqAt.notIn_list_reads r2 r1 (SeqAt.canLay_of_shaped se) (SeqAt.canLay_of_shaped sd) (PyProof.Rows.room_in_shaped sd hu) ⟨.bl _, H, I, rfl, q⟩
  · obtain ⟨bs, r2⟩ := Dp.reads I (.tuple ds) y u he ry
    exact SeqAt.notIn_tuple_reads r2 r1 (SeqAt.canLay_of_shaped se) (SeqAt.canLay_of_shaped sd) (PyProof.Rows.room_in_shaped sd hu) ⟨.bl _, H, I, rfl, q⟩
abbrev rInAll (K : PySem.W.Frag) : R2 := fun x y H Q => (((∃ (c : Nat) (z : Str), x = .str ⟨#[c]⟩ ∧ y = .str z ∧ Q (.bl (decide (c ∈ z.cps.toList))) H) ∨ rIn K false x y H Q) ∨ rInD2 K x y H Q) ∨ ∃ a o, y = .ref a ∧ DGet H a x o ∧ Q (.bl o.isSome) H
abbrev rNinAll (K : PySem.W.Frag) : R2 := fun x y H Q => (((∃ (c : Nat) (z : Str), x = .str ⟨#[c]⟩ ∧ y = .str z ∧ Q (.bl (!decide (c ∈ z.cps.toList))) H) ∨ rIn K true x y H Q) ∨ rNotInD2 K x y H Q) ∨ ∃ a o, y = .ref a ∧ DGet H a x o ∧ Q (.bl (!o.isSome)) H
theorem or_in (hK : X.K = W.K) (hu : X.A.units + 65 < cLine) : OpR X (compareOp .In) (rInAll W.K) := OpR.or (OpR.or (OpR.or op_in_sign (hK ▸ op_in_seq)) (hK ▸ op_inD2 hu)) (or_inDic (by omega))
theorem or_nin (hK : X.K = W.K) (hu : X.A.units + 65 < cLine) : OpR X (compareOp .NotIn) (rNinAll W.K) := OpR.or (OpR.or (OpR.or op_notIn_sign (hK ▸ op_notIn_seq)) (hK ▸ op_notInD2 hu)) (or_notInDic (by omega))
theorem os_in : OpS W (rInAll W.K) inD := by
  intro Wx m h H s x y v u Q S hv hu f
  unfold inD at f
  cases z : inB x y h with
  | none => rw [z] at f; exact False.elim f
  | some b =>
    rw [z] at f
    have q := f.here S (.bl b) (by simp only [VR])
    rcases inB_ok S hv hu z with ⟨c, w, e1, e2, rfl⟩ | ⟨p, xs, e1, e2, e3, e4, rfl⟩ | ⟨d, ds, e1, e2, e3, e4, rfl⟩ | ⟨a, o, e1, e2, rfl⟩
    · exact .inl (.inl (.inl ⟨c, w, e1, e2, q⟩))
    · exact .inl (.inl (.inr ⟨p, xs, e1, e2, e3, e4, q⟩))
    · exact .inl (.inr ⟨d, ds, e1, e2, e3, e4, q⟩)
    · exact .inr ⟨a, o, e1, e2, q⟩
theorem os_nin : OpS W (rNinAll W.K) ninD := by
  intro Wx m h H s x y v u Q S hv hu f
  unfold ninD at f
  cases z : inB x y h with
  | none => rw [z] at f; exact False.elim f
  | some b =>
    rw [z] at f
    have q := f.here S (.bl !b) (by simp only [VR])
    rcases inB_ok S hv hu z with ⟨c, w, e1, e2, rfl⟩ | ⟨p, xs, e1, e2, e3, e4, rfl⟩ | ⟨d, ds, e1, e2, e3, e4, rfl⟩ | ⟨a, o, e1, e2, rfl⟩
    · exact .inl (.inl (.inl ⟨c, w, e1, e2, q⟩))
    · exact .inl (.inl (.inr ⟨p, xs, e1, e2, e3, e4, q⟩))
    · exact .inl (.inr ⟨d, ds, e1, e2, e3, e4, q⟩)
    · exact .inr ⟨a, o, e1, e2, q⟩

/-! ### subscripts -/
theorem ix_dic (hu : X.A.units + 1 < cLine) : IxR X (fun x y H Q => ∃ a v, x = .ref a ∧ DGet H a y (some v) ∧ Q v H) := by
  intro value slice pins s σ H x y v u Q I rx ry h hs
  obtain ⟨a, z, rfl, g, q⟩ := h
  obtain rfl : v = Value.ref a := rx
  have hT := dict_typeIs I g
  unfold PyProof.Rows.subscriptTail
  refine wpAny_bind ?_
  rw [getitemInPython_of_ne hT.not_modules]
  refine wpAny_bind (wpAny_specialOf hT PySem.F.slot_dict_getitem.lookup ?_)
  have fin : wpAny (model X.prog X.w) X.A (subscripted slice false (Value.ref a) u) (fun r s₃ => wpAny (model X.prog X.w) X.A (letTemporaryGo value (Value.ref a) r >>= fun _ => pure r) (EP X pins σ Q) X.xe s₃) X.xe s := by
    rw [hs]
    exact wpAny_operating (d_getItem hu I g ry fun w' s3 I3 rw' => wpAny_bind (wpAny_letTemporaryGo (wpAny_pure ⟨z, H, I3, rw', q⟩)))
  first
    | exact wpAny_pure (wpAny_bind fin)
    | exact wpAny_bind (wpAny_pure (wpAny_bind fin))
    | exact wpAny_bind fin
theorem atI_VR {l : List D} {xs : List V} {i : Int} {d : D} (hv : VRs W m n H l xs) (e : atI l i = some d) : ∃ v, atI xs i = some v ∧ VR W m n H d v := by
  unfold atI at e ⊢
  rw [hv.length]
  cases q : ixN l.length i with
  | none => rw [q] at e; cases e
  | some j =>
    rw [q] at e
    exact hv.get e
def ixD (x y : D) (h : AH) : Res D := match x, y with
  | .tup l, .int i => match atI l i with
    | some d => .ok d h
    | none => .bad
  | .kt l, .int i => match atI l i with
    | some d => .ok d h
    | none => .bad
  | .rl l, .int i => match atI l i with
    | some d => .ok d h
    | none => .bad
  | .kl l, .int i => match atI l i with
    | some d => .ok d h
    | none => .bad
  | .fd ks l, y => match lookD (.dK (ks.zip l)) y with
    | some (some d) => .ok d h
    | _ => .bad
  | .ft ks l, y => match lookD (.dT (ks.zip l)) y with
    | some (some d) => .ok d h
    | _ => .bad
  | .str z, .int i => if z.length ≤ LIM then (match atI z.cps.toList i with
    | some c => .ok (.str ⟨#[c]⟩) h
    | none => .bad) else .bad
  | .ref a, y => match h[a]? with
    | some (.lst l) => match y with
      | .int i => match atI l i with
        | some d => .ok d h
        | none => .bad
      | _ => .bad
    | some (.frz (.lst l)) => match y with
      | .int i => match atI l i with
        | some d => .ok d h
        | none => .bad
      | _ => .bad
    | some o => match lookD o y with
      | some (some d) => .ok d h
      | _ => .bad
    | none => .bad
  | _, _ => .bad
abbrev rIxAll (K : PySem.W.Frag) : R2 := fun x y H Q => ((rIxL K x y H Q ∨ rIxT K x y H Q) ∨ rIxS x y H Q) ∨ ∃ a v, x = .ref a ∧ DGet H a y (some v) ∧ Q v H
theorem or_ix (hK : X.K = W.K) (hu : X.A.units + 1 < cLine) : IxR X (rIxAll W.K) := IxR.or (IxR.or (IxR.or (hK ▸ ix_list) (hK ▸ ix_tup)) ix_str) (ix_dic hu)
theorem os_ix : OpS W (rIxAll W.K) ixD := by
  intro Wx m h H s x y v u Q S hv hu f
  have tupc : ∀ {l : List D} {i : Int} {p : Addr} {xs : List V}, (SqT W.K H p xs) → VRs W m h.length H l xs → v = .ref p → u = .int i → Fin W Wx m h H s (match atI l i with | some d => .ok d h | none => .bad) (fun m' h' H' d => ∀ z, VR W m' h'.length H' d z → Q z H') → rIxAll W.K v u H Q := fun {l i p xs} h2 h3 e1 e2 f => by
    cases q : atI l i with
    | none => rw [q] at f; exact False.elim f
    | some d =>
      rw [q] at f
      obtain ⟨w, a1, a2⟩ := atI_VR h3 q
      exact .inl (.inl (.inr ⟨p, xs, i, w, e1, e2, h2, a1, f.here S w a2⟩))
  have lstc : ∀ {l : List D} {i : Int} {p : Addr} {xs : List V}, (SqL W.K H p xs) → VRs W m h.length H l xs → v = .ref p → u = .int i → Fin W Wx m h H s (match atI l i with | some d => .ok d h | none => .bad) (fun m' h' H' d => ∀ z, VR W m' h'.length H' d z → Q z H') → rIxAll W.K v u H Q := fun {l i p xs} h2 h3 e1 e2 f => by
    cases q : atI l i with
    | none => rw [q] at f; exact False.elim f
    | some d =>
      rw [q] at f
      obtain ⟨w, a1, a2⟩ := atI_VR h3 q
      exact .inl (.inl (.inl ⟨p, xs, i, w, e1, e2, h2, a1, f.here S w a2⟩))
  have dicc : ∀ {o : O}, VR W m h.length H x v → fdO x = some o → VR W m h.length H y u → Fin W Wx m h H s (match lookD o y with | some (some d) => .ok d h | _ => .bad) (fun m' h' H' d => ∀ z, VR W m' h'.length H' d z → Q z H') → rIxAll W.K v u H Q := fun {o} hv ho hu f => by
    cases z : lookD o y with
    | none => rw [z] at f; exact False.elim f
    | some r =>
      cases r with
      | none => rw [z] at f; exact False.elim f
      | some d =>
        rw [z] at f
        obtain ⟨p, q2, e1, g, g1, _⟩ := look_fd hv ho hu z
        obtain ⟨w, rfl, hw⟩ := g1 d rfl
        exact .inr ⟨p, w, e1, g, f.here S w hw⟩
  cases x with
  | tup l =>
    cases y with
    | int i =>
      simp only [VR] at hv hu
      obtain ⟨p, xs, e1, h2, h3⟩ := hv
      exact tupc h2.sq h3 e1 hu f
    | _ => exact False.elim f
  | kt l =>
    cases y with
    | int i =>
      simp only [VR] at hv hu
      obtain ⟨p, xs, e1, h2, h3⟩ := hv
      exact tupc (KT.sq h2) h3 e1 hu f
    | _ => exact False.elim f
  | rl l =>
    cases y with
    | int i =>
      simp only [VR] at hv hu
      obtain ⟨p, xs, e1, h2, h3⟩ := hv
      exact lstc (RLs.sq (.inl h2)) h3 e1 hu f
    | _ => exact False.elim f
  | kl l =>
    cases y with
    | int i =>
      simp only [VR] at hv hu
      obtain ⟨p, xs, e1, h2, h3⟩ := hv
      exact lstc (KLf.sq h2) h3 e1 hu f
    | _ => exact False.elim f
  | fd ks l => exact dicc hv rfl hu f
  | ft ks l => exact dicc hv rfl hu f
  | str z =>
    cases y with
    | int i =>
      simp only [VR] at hv hu
      subst hv
      subst hu
      simp only [ixD] at f
      split at f
      · rename_i hl
        cases q : atI z.cps.toList i with
        | none => simp only [q] at f; exact False.elim f
        | some c => simp only [q] at f; exact .inl (.inr ⟨z, i, c, rfl, rfl, lim_le hl, q, f.here S _ (by simp only [VR])⟩)
      · exact False.elim f
    | _ => exact False.elim f
  | ref a =>
    have hv' := hv
    simp only [VR] at hv
    obtain ⟨ha, e1⟩ := hv
    simp only [ixD] at f
    split at f
    · rename_i l q
      obtain ⟨xs, r1, r2⟩ := S.lst q (.inl rfl)
      cases y with
      | int i => simp only [VR] at hu; exact lstc r1 r2 e1 hu f
      | _ => exact False.elim f
    · rename_i l q
      obtain ⟨xs, r1, r2⟩ := S.lst q (.inr rfl)
      cases y with
      | int i => simp only [VR] at hu; exact lstc r1 r2 e1 hu f
      | _ => exact False.elim f
    · rename_i o _ _ q
      cases z : lookD o y with
      | none => simp only [z] at f; exact False.elim f
      | some r =>
        cases r with
        | none => simp only [z] at f; exact False.elim f
        | some d =>
          simp only [z] at f
          obtain ⟨q2, g, g1, _⟩ := look_get S q hu z
          obtain ⟨w, rfl, hw⟩ := g1 d rfl
          exact .inr ⟨m a, w, e1, g, f.here S w hw⟩
    · exact False.elim f
  | _ => exact False.elim f
theorem pi_ix {a b : Expr} {pos : Pos} {fa fb : Ev → AH → Res D} (hK : X.K = W.K) (hu : X.A.units + 1 < cLine) (ha : PE X a (tI W Wx fa)) (hb : PE X b (tI W Wx fb)) (hs : PlainIx b) : PE X (.Subscript a b pos) (tI W Wx (cBin ixD fa fb)) :=
  (pe_ix (or_ix hK hu) ha hb hs).imp fun _ _ _ q => ti_bin os_ix q
end
end PI
/-! PIG: defs that are called where no repr runs (the guards are none): their promises, calls, instances, properties, the law's call. -/
namespace PI
open PySem L2 PyProof.Rows

/-- as L2.FnOk, for callers whose guards are empty -/
structure FnG (P : Program) (w : World) (K : PySem.W.Frag) (mg : Str → Option Value) (base : Heap) (k : Nat) (f : Addr) (fd : FuncData) (ps : List Str) (sp : Sp) : Prop where
  len : ∀ vs H Q E, sp vs H Q E → vs.length = ps.length
  go : ∀ (A : Around) (outer : List Env) (s : Shared) (H : Hp) (args : Args) (us : List Value) (vs : List V) (Q : VK) (E : XK), Room k A → A.guards = some [] → Env0 P w K mg base A outer s H → BindsTo s fd args (ps.zip us) → Vals vs us →
    sp vs H Q E → codeAny (model P w) A (.call (.ref f) args) (CR (L2.CX P w) outer P w H s Q E) s
theorem FnG.mono {P : Program} {w : World} {K : PySem.W.Frag} {mg : Str → Option Value} {base : Heap} {j k : Nat} {f : Addr} {fd : FuncData} {ps : List Str} {sp : Sp} (F : FnG P w K mg base j f fd ps sp) (h : j ≤ k) : FnG P w K mg base k f fd ps sp :=
  ⟨F.len, fun A outer s H args us vs Q E hr => F.go A outer s H args us vs Q E (hr.mono h)⟩
theorem deeper_g {A : Around} {env : Env} : (A.deeper env).guards = A.guards := rfl
theorem in1_g {A : Around} : A.in1.guards = A.guards := rfl
theorem make_g {A : Around} {C : Addr} {us : List Value} {kw : List (Str × Value)} (h : A.guards = some []) : (A.under (.builtin "type.__call__" ⟨.ref C :: us, kw⟩)).guards = some [] := by
  first
    | exact h
    | (simp only [Around.under]; rw [h]; rfl)
    | (unfold Around.under; simp [h, Code.guards, Code.isGuard, pushGuards, guardIds])

/-- a def's body in the context of a call -/
abbrev cxG (P : Program) (w : World) (K : PySem.W.Frag) (mg : Str → Option Value) (base : Heap) (N : List Str) (qual : Str) (scope : Scope) (f : Addr) (cdv : Value) (A : Around) (outer : List Env) (s : Shared) (H : Hp) (E : XK) : Cx :=
  cxOf (L2.CX P w) P w K mg base N qual scope f cdv A outer s H E
theorem Fun_okG {P : Program} {w : World} {K : PySem.W.Frag} {mg : Str → Option Value} {base : Heap} {x qual : Str} {st : Stmt} {f : Addr} {fd : FuncData} {N ps : List Str} {k : Nat} {sp : Sp} (F : L2.Fun K x qual st f fd) (S : FnScope N ps (defScope st))
    (len : ∀ vs H Q E, sp vs H Q E → vs.length = ps.length)
    (body : ∀ (cdv : Value) (A : Around) (outer : List Env) (s : Shared) (H : Hp) (vs : List V) (Q : VK) (E : XK), Room k (A.deeper (envOfC qual (defScope st) s.heap.objs.size f cdv)) → A.guards = some [] → sp vs H Q E →
      ∃ t, PSs (cxG P w K mg base N qual (defScope st) f cdv A outer s H E) (defBody st) t ∧ t { nx := fun _ H' => Q .non H', rt := Q } (start N vs) H) : FnG P w K mg base (k + 1) f fd ps sp := by
  obtain ⟨oc, od, kV, doc, pm, an, cdv, ct, osl, rfl, lk, hcd⟩ := F.ex
  refine ⟨len, fun A outer s H args us vs Q E hr hgd e0 hb r hsp => ?_⟩
  have hlen := len _ _ _ _ hsp
  have inK : K.In s.heap := e0.mod.kin.keeps fun b o e => (e0.bs b o e).1
  have nolim : s.heap.NoLimit := e0.mod.nolimit.keeps fun b o e => (e0.bs b o e).1
  have kinds : ∀ y ∈ ps.zip us, (defScope st).names.lookup y.1 = some .local ∨ ((defScope st).names.lookup y.1 = some .cell ∧ ((cellsFrom (s.heap.objs.size + 1) (defScope st).names []).lookup y.1).isSome = true) := fun ⟨n, v⟩ hy =>
    (S.par n (List.of_mem_zip hy).1).imp id fun q => ⟨q, PySem.W.cellsFrom_some _ _ _ (.inl q)⟩
  refine codeAny_call_function hr.depth (inK _ _ lk) rfl S.co S.gen rfl (PySem.W.codeRec_of inK hcd) (hb _ _ _ _ (wpAny_newFunctionEnv_cells S.kind kinds fun env he s1 z => ?_))
  subst he
  refine ⟨nolim.keeps z.toInCall.keep, codeAny_func ?_⟩
  obtain ⟨t, ht, hq⟩ := body cdv A outer s H vs Q E (hr.deeper _) hgd hsp
  have I := inv_start (CX := L2.CX P w) (E := E) (f := f) (qual := qual) (cd := cdv) S hr.hd e0 hlen r z
  refine wpAny_mono (ht.run [] s1 (start N vs) H _ I hq) (fun fl s' hs => ?_) fun _ _ z => z
  cases fl with
  | next =>
    obtain ⟨_, H', J, q⟩ := hs
    exact ⟨.non, H', J.os, J.bare, J.base, J.hok, rfl, q⟩
  | ret u =>
    obtain ⟨v, _, H', J, rv, q⟩ := hs
    exact ⟨v, H', J.os, J.bare, J.base, J.hok, rv, q⟩
  | brk => exact hs.elim fun _ z => z.elim fun _ z => False.elim z.2
  | cont => exact hs.elim fun _ z => z.elim fun _ z => False.elim z.2

section
variable {X : Cx} {k : Nat} {f C : Addr} {fd : FuncData} {ps : List Str} {sp : Sp} {pins : List (Addr × Obj)} {σ : L2.St} {H : Hp} {s : Shared} {Q : VK} {us : List Value} {vs : List V} {E : XK}
/-- what a callee lets out is wished for at the slots in hand -/
abbrev Lets (X : Cx) (σ : L2.St) (E : XK) : Prop := PassesAt (L2.CX X.prog X.w) X σ E
theorem afterG (hx : Lets X σ E) (I : Inv X pins σ H s) {r : Result} {s' : Shared} (h : CR (L2.CX X.prog X.w) X.stack X.prog X.w H s Q E r s') : (match r with | .ok (.ret u) => EP X pins σ Q u s' | .ok _ => False | .error e => X.xe e s') := by
  cases r with
  | error e => exact hx pins H s e s' I h
  | ok fl =>
    cases fl with
    | ret u => exact I.after h
    | _ => exact False.elim h
theorem callG (F : FnG X.prog X.w X.K X.mg X.base k f fd ps sp) (hr : Room k X.A) (hg : X.A.guards = some []) (hb : Binds X.K fd ps []) (hx : Lets X σ E) (I : Inv X pins σ H s) (r : Vals vs us) (h : sp vs H Q E) :
    wpAny (model X.prog X.w) X.A (call (.ref f) us) (EP X pins σ Q) X.xe s := by
  have e : us.length = ps.length := r.length.symm.trans (F.len _ _ _ _ h)
  have b := hb s us I.kIn (by rw [List.append_nil]; exact e)
  rw [List.append_nil] at b
  refine wpAny_call (codeAny_mono (F.go X.A X.stack s H ⟨us, []⟩ us vs Q E hr hg I.env0 b r h) fun r s' hq => ?_)
  have z := afterG hx I hq
  cases r with
  | error e => exact z
  | ok fl => cases fl <;> exact z
theorem makeG (M : Mk X.K C f) (F : FnG X.prog X.w X.K X.mg X.base k f fd ps sp) (hr : Room (k + 1) X.A) (hg : X.A.guards = some []) (hb : Binds X.K fd ps []) (hx : Lets X σ E) (I : Inv X pins σ H s) (r : Vals vs us)
    (h : ∀ x dx, H x = none → H dx = none → dx ≠ x → sp (.ref x :: vs) (upd (upd H dx (.own x)) x (.ins C dx [])) (fun v H2 => v = .non ∧ Q (.ref x) H2) E) : wpAny (model X.prog X.w) X.A (call (.ref C) us) (EP X pins σ Q) X.xe s := by
  have q0 := h (s.heap.objs.size + 1) s.heap.objs.size (I.hok.fresh (Nat.le_succ _)) (I.hok.fresh (Nat.le_refl _)) (Nat.ne_of_lt (Nat.lt_succ_self _))
  have J := Inv.made (C := C) I
  have rr : Vals (V.ref (s.heap.objs.size + 1) :: vs) (Value.ref (s.heap.objs.size + 1) :: us) := .cons rfl r
  have e : (Value.ref (s.heap.objs.size + 1) :: us).length = ps.length := rr.length.symm.trans (F.len _ _ _ _ q0)
  have b := hb ({ s with heap := (s.heap.push PySem.W.emptyDict).push (PySem.W.instObj C s.heap.objs.size) }) (Value.ref (s.heap.objs.size + 1) :: us) J.kIn (by rw [List.append_nil]; exact e)
  rw [List.append_nil] at b
  refine wpAny_call (make_map (f := f) I.kIn M.makes M.init (beq_iff_eq.mp M.fn) (codeAny_mono (F.go _ X.stack _ _ ⟨Value.ref (s.heap.objs.size + 1) :: us, []⟩ (Value.ref (s.heap.objs.size + 1) :: us) _ _ E (hr.make C us []) (make_g hg)
    (J.env0.make C us []) b rr q0) fun r s' hq => ?_))
  cases r with
  | error e => exact hx pins _ _ e s' J hq
  | ok fl =>
    cases fl with
    | ret u =>
      obtain ⟨v, H', I3, rv, ev, q3⟩ := J.after hq
      subst ev
      exact ⟨rv, ⟨V.ref (s.heap.objs.size + 1), H', I3, rfl, q3⟩⟩
    | _ => exact False.elim hq
theorem propG {a dx p : Addr} {fs : List (Str × V)} {g : Str} {b : Bool} {E' : Value → Shared → Prop} (I : Inv X pins σ H s) (ea : H a = some (.ins C dx fs)) (c : Cls X.K C) (hp : PropOf X.K C g p f) (F : FnG X.prog X.w X.K X.mg X.base k f fd ps sp) (hr : Room (k + 1) X.A) (hg : X.A.guards = some [])
    (hb : Binds X.K fd ps []) (h : sp [.ref a] H Q E0) : wpAny (model X.prog X.w) X.A (getAttr (.ref a) g b) (EP X pins σ Q) E' s := by
  obtain ⟨mA, O, _⟩ := ins_get I.hok ea
  obtain ⟨od, J, _⟩ := O.look
  obtain ⟨rest, hrec⟩ := hp.rec_
  have I1 := I.tok (s.toks + 1)
  have e : [Value.ref a].length = ps.length := F.len _ _ _ _ h
  have hc : (PySem.W.clsIn X.K C).isSome = true := by
    obtain ⟨cd, hc, _⟩ := PySem.W.any_some c.hd
    rw [hc]
    rfl
  have b0 := hb { s with toks := s.toks + 1 } [.ref a] I1.kIn (by rw [List.append_nil]; exact e)
  rw [List.append_nil] at b0
  refine PySem.W.get_bind I.kIn J (PySem.W.plainGet_of (c.get g)).1 (PySem.W.findObj_data hc hp.at_ hp.get hp.tak) (PySem.W.plainGet_of (c.get g)).2 (wpAny_call (PySem.W.prop_get (s := { s with toks := s.toks + 1 }) I.kIn hrec
    (codeAny_mono (F.go X.A.in1 X.stack { s with toks := s.toks + 1 } H ⟨[.ref a], []⟩ [.ref a] [.ref a] Q E0 hr.in1 hg I1.env0.in1 b0 (.cons rfl .nil) h) fun r s' hq => ?_)))
  cases r with
  | error er =>
    obtain ⟨_, _, _, _, _, _, _, _, _, _, _, _, z⟩ := hq
    exact z.elim
  | ok fl =>
    cases fl with
    | ret u =>
      obtain ⟨v, H', I3, rv, q3⟩ := I1.after hq
      show wpAny _ _ (handedOut u) _ _ _
      rw [PySem.W.handedOut_of (handed_of rv)]
      exact wpAny_pure ⟨v, H', I3, rv, q3⟩
    | _ => exact False.elim hq
end
end PI
/-! PI7: defs called, instances made, fields, methods, properties, stores. -/
namespace PI
open PySem L2

/-- what a def promises: it answers as cf answers -/
def FC (W : Wd) (m : Nat → Addr) (h : AH) (H : Hp) (q : Res D) (Q : VK) (E : XK) : Prop := match q with
  | .ok d h' => ∀ m' H' v, SR W m' h' H' → Ext m h.length H m' h'.length H' → VR W m' h'.length H' d v → Q v H'
  | .err c fs h' => ∀ m' H' cls dd, SR W m' h' H' → Ext m h.length H m' h'.length H' → XR W m' h'.length H' c fs cls dd → E cls dd H'
  | .bad => False
def spI (W : Wd) (np : Nat) (cf : List D → AH → Res D) : Sp := fun vs H Q E => ∃ m h ds, SR W m h H ∧ VRs W m h.length H ds vs ∧ ds.length = np ∧ FC W m h H (cf ds h) Q E
theorem spI_len {W : Wd} {np : Nat} {cf : List D → AH → Res D} : ∀ vs H Q E, spI W np cf vs H Q E → vs.length = np := fun vs H Q E ⟨m, h, ds, _, hv, hl, _⟩ => hv.length.trans hl
theorem fc_of {W : Wd} {Wx : WX} {m : Nat → Addr} {h : AH} {H : Hp} {s : L2.St} {q : Res D} {Q : VK} (f : Fin W Wx m h H s q fun m' h' H' d => ∀ v, VR W m' h'.length H' d v → Q v H') : FC W m h H q Q (WE Wx s) := by
  cases q with
  | ok d h' => exact fun m' H' v S e r => f m' H' S e v r
  | err c fs h' => exact f
  | bad => exact f

section
variable {X : Cx} {W : Wd} {Wx : WX} {pos : Pos} {k : Nat} {f C : Addr} {fd : FuncData} {ps : List Str} {np : Nat} {cf : List D → AH → Res D} {x mn : Str} {p apos : Pos} {e o : Expr} {es : List Expr} {fa : Ev → AH → Res (List D)} {fo fe : Ev → AH → Res D}

/-- f(e, ..) -/
def cCall (np : Nat) (cf : List D → AH → Res D) (fa : Ev → AH → Res (List D)) : Ev → AH → Res D := fun r h => (fa r h).bind fun ds h1 => if ds.length = np then cf ds h1 else .bad
theorem pi_call (F : FnG X.prog X.w X.K X.mg X.base k f fd ps (spI W np cf)) (hr : Room k X.A) (hgd : X.A.guards = some []) (hg : Gl X x) (hm : X.mg x = some (.ref f)) (hk : PySem.W.keepIn X.K (.ref f) = true) (hb : Binds X.K fd ps []) (tk : Takes X Wx)
    (ha : PA X (e :: es) (tA W Wx fa)) (hdb : (x == ("__debug__" : Str)) = false) (he : starEach (e :: es) X.env = (false, eval e X.env) :: starEach es X.env) (hpl : (backTo pos (starEach es X.env)).any (·.1) = false) :
    PE X (.Call (.Name x p) (e :: es) [] pos) (tI W Wx (cCall np cf fa)) := by
  refine ⟨fun pins s σ H Q I ⟨m, h, r, S, E, y⟩ => ?_⟩
  refine wpAny_Call_Name_kw (ld_glob I hg hm ?_ hdb)
  refine PySem.W.callWith_K (h₀ := X.base) I.ok.mod.kin hk (thn (ha.run pos pins s σ H _ I ⟨m, h, r, S, E, (Fin.bind y).imp fun m1 h1 H1 ds S1 e1 y1 vs hv => (show spI W np cf vs H1 Q (WE Wx σ) by
    split at y1
    · rename_i hl
      exact ⟨m1, h1, ds, S1, hv, hl, fc_of y1⟩
    · exact False.elim y1)⟩) fun us s1 ⟨vs, H1, I1, rr, q⟩ => ⟨I1.kIn, ?_⟩) he hpl
  exact callG F hr hgd hb (passAt tk σ) I1 rr q
theorem pi_call0 (F : FnG X.prog X.w X.K X.mg X.base k f fd ps (spI W np cf)) (hr : Room k X.A) (hgd : X.A.guards = some []) (hg : Gl X x) (hm : X.mg x = some (.ref f)) (hk : PySem.W.keepIn X.K (.ref f) = true) (hb : Binds X.K fd ps []) (tk : Takes X Wx)
    (hdb : (x == ("__debug__" : Str)) = false) : PE X (.Call (.Name x p) [] [] pos) (tI W Wx (cCall np cf aNil)) := by
  refine ⟨fun pins s σ H Q I ⟨m, h, r, S, E, y⟩ => ?_⟩
  refine wpAny_Call_Name_kw (ld_glob I hg hm ?_ hdb)
  refine PySem.W.callWith_K0 I.kIn hk (callG (us := []) (vs := []) (E := WE Wx σ) F hr hgd hb (passAt tk σ) I .nil ?_)
  have y1 := (Fin.bind y).here S
  split at y1
  · rename_i hl
    exact ⟨m, h, [], S, VRs.nil, hl, fc_of y1⟩
  · exact False.elim y1

/-! ### methods of own classes -/
def tMethS (C : Addr) (m : Str) (sp : Sp) (E : L2.St → XK) (ta : TE) (t : TA) : TE := fun σ H Q => ta σ H fun x H1 => ∃ a dx fs, x = .ref a ∧ H1 a = some (.ins C dx fs) ∧ fs.lookup m = none ∧
  t σ H1 fun vs H2 => sp (x :: vs) H2 Q (E σ)
theorem pe_methSD {sp : Sp} {E : L2.St → XK} {ta : TE} {t : TA} {pl : Sem Bool} (he : PE X o ta) (c : Cls X.K C) (hm : Meth X.K C mn f) (F : FnG X.prog X.w X.K X.mg X.base k f fd ps sp) (hr : Room k X.A) (hgd : X.A.guards = some []) (hb : Binds X.K fd ps []) (hx : ∀ s, Lets X s (E s)) (ha : PA X (e :: es) t)
    (hst : starEach (e :: es) X.env = (false, eval e X.env) :: starEach es X.env) (hpl : (backTo pos (starEach es X.env)).any (·.1) = false)
    (ht : eval (.Call (.Attribute o mn apos) (e :: es) [] pos) X.env = (do
      let ov ← eval o X.env
      standAt apos.atName
      let (f, first) ← holding [ov] (getMethod ov mn pl)
      callWith pos f first (backTo pos (starEach (e :: es) X.env)) (backToKw pos (keywordEach [] X.env)))) :
    PE X (.Call (.Attribute o mn apos) (e :: es) [] pos) (tMethS C mn sp E ta t) := by
  refine ⟨fun pins s σ H Q I h => ?_⟩
  refine PySem.W.methodCall_KW (pl := pl) (thn (he.run pins s σ H _ I h) fun u s1 ⟨x, H1, I1, rx, a, dx, fs, ex, ea, l, q⟩ => ?_) ht
  subst ex
  obtain rfl : u = Value.ref a := rx
  refine getmeth_ok I1 ea c hm l ?_
  refine PySem.W.callWith_K (first := [.ref a]) (h₀ := X.base) I.ok.mod.kin hm.kp (thn (ha.run pos pins s1 σ H1 _ I1 q) fun us s2 ⟨vs, H2, I2, r, q2⟩ => ⟨I2.kIn, ?_⟩) hst hpl
  exact callG (us := .ref a :: us) (vs := .ref a :: vs) F hr hgd hb (hx σ) I2 (.cons rfl r) q2
theorem pe_methSD0 {sp : Sp} {E : L2.St → XK} {ta : TE} {pl : Sem Bool} (he : PE X o ta) (c : Cls X.K C) (hm : Meth X.K C mn f) (F : FnG X.prog X.w X.K X.mg X.base k f fd ps sp) (hr : Room k X.A) (hgd : X.A.guards = some []) (hb : Binds X.K fd ps []) (hx : ∀ s, Lets X s (E s))
    (ht : eval (.Call (.Attribute o mn apos) [] [] pos) X.env = (do
      let ov ← eval o X.env
      standAt apos.atName
      let (f, first) ← holding [ov] (getMethod ov mn pl)
      callWith pos f first (backTo pos (starEach [] X.env)) (backToKw pos (keywordEach [] X.env)))) :
    PE X (.Call (.Attribute o mn apos) [] [] pos) (tMethS C mn sp E ta tNil) := by
  refine ⟨fun pins s σ H Q I h => ?_⟩
  refine PySem.W.methodCall_KW (pl := pl) (thn (he.run pins s σ H _ I h) fun u s1 ⟨x, H1, I1, rx, a, dx, fs, ex, ea, l, q⟩ => ?_) ht
  subst ex
  obtain rfl : u = Value.ref a := rx
  refine getmeth_ok I1 ea c hm l ?_
  exact PySem.W.callWith_K0 (first := [.ref a]) I1.kIn hm.kp (callG (us := [.ref a]) (vs := [.ref a]) F hr hgd hb (hx σ) I1 (.cons rfl .nil) q)

/-- the facts of a class: its fields' names, methods, properties, __init__, by numbers of defs -/
structure CR where
  fields : List Str
  meths : List (Str × Nat)
  props : List (Str × Nat)
  ini : Option Nat
/-- the class of an instance that may be written -/
def clsR (h : AH) : D → Option (Nat × Nat × List (Str × D))
  | .ref a => match h[a]? with
    | some (.ins c fs) => some (a, c, fs)
    | _ => none
  | _ => none
theorem clsR_ok {m : Nat → Addr} {h : AH} {H : Hp} {d : D} {v : V} {a c : Nat} {fs : List (Str × D)} (S : SR W m h H) (hv : VR W m h.length H d v) (e : clsR h d = some (a, c, fs)) :
    v = .ref (m a) ∧ a < h.length ∧ h[a]? = some (.ins c fs) ∧ ∃ dx ys, H (m a) = some (.ins (W.cl c) dx ys) ∧ PR W m h.length H fs ys := by
  cases d with
  | ref b =>
    simp only [clsR] at e
    split at e
    · rename_i c' fs' q
      cases e
      simp only [VR] at hv
      obtain ⟨u, q1, dx, ys, rfl, q2⟩ := S.obj _ _ q
      exact ⟨hv.2, hv.1, q, dx, ys, q1, q2⟩
    · cases e
  | _ => cases e
/-- the class of an instance -/
def clsOf (h : AH) : D → Option (Nat × List (Str × D))
  | .ref a => match h[a]? with
    | some (.ins c fs) => some (c, fs)
    | _ => none
  | .fi c gs l => some (c, gs.zip l)
  | _ => none
theorem clsOf_ok {m : Nat → Addr} {h : AH} {H : Hp} {d : D} {v : V} {c : Nat} {fs : List (Str × D)} (S : SR W m h H) (hv : VR W m h.length H d v) (e : clsOf h d = some (c, fs)) :
    ∃ p dx ys, v = .ref p ∧ H p = some (.ins (W.cl c) dx ys) ∧ PR W m h.length H fs ys := by
  cases d with
  | ref b =>
    simp only [clsOf] at e
    split at e
    · rename_i c' fs' q
      cases e
      simp only [VR] at hv
      obtain ⟨u, q1, dx, ys, rfl, q2⟩ := S.obj _ _ q
      exact ⟨m b, dx, ys, hv.2, q1, q2⟩
    · cases e
  | fi c gs l =>
    cases e
    simp only [VR] at hv
    obtain ⟨p, dx, ys, rfl, h2, h3, h4⟩ := hv
    exact ⟨p, dx, ys, rfl, h2.1, PR.zip h3 h4⟩
  | _ => cases e
theorem PR.lookup {m : Nat → Addr} {n : Nat} {H : Hp} : ∀ {l : List (Str × D)} {ys : List (Str × V)} (g : Str), PR W m n H l ys → (∀ d, l.lookup g = some d → ∃ v, ys.lookup g = some v ∧ VR W m n H d v) ∧ (l.lookup g = none → ys.lookup g = none)
  | [], _, g, h => by
    cases h
    exact ⟨fun d e => absurd (show (none : Option D) = some d from e) (fun z => nomatch z), fun _ => rfl⟩
  | (q, d) :: l, ys, g, ⟨v, r, e, h2, h3⟩ => by
    subst e
    have ih := PR.lookup g h3
    rw [List.lookup_cons, List.lookup_cons]
    cases hb : g == q with
    | true => exact ⟨fun d' e => by cases e; exact ⟨v, rfl, h2⟩, fun e => by cases e⟩
    | false => exact ih
/-- the def of a class's method -/
def mthOf (ct : List CR) (mn : Str) (c : Nat) : Option Nat := match ct[c]? with
  | some r => r.meths.lookup mn
  | none => none
/-- some class that has such a method -/
def anyM (ct : List CR) (mn : Str) : Option (Nat × Nat) := (List.range ct.length).findSome? fun c => (mthOf ct mn c).map fun i => (c, i)
theorem anyM_ok {ct : List CR} {mn : Str} {c i : Nat} (e : anyM ct mn = some (c, i)) : mthOf ct mn c = some i := by
  obtain ⟨a, _, h⟩ := List.exists_of_findSome?_eq_some e
  cases q : mthOf ct mn a with
  | none => rw [q] at h; cases h
  | some j => rw [q] at h; cases h; exact q
/-- o.m(e, ..): the def by the receiver's class -/
def cMeth (ct : List CR) (call : Nat → List D → AH → Res D) (nps : Nat → Nat) (mn : Str) (fo : Ev → AH → Res D) (fa : Ev → AH → Res (List D)) : Ev → AH → Res D := fun r h => match fo r h with
  | .ok d h1 => match clsOf h1 d with
    | some (c, fs) => match mthOf ct mn c with
      | some i => if (fs.lookup mn).isNone = true then (fa r h1).bind fun ds h2 => if ds.length + 1 = nps i then call i (d :: ds) h2 else .bad else .bad
      | none => .bad
    | none => .bad
  | .err c fs h1 => if (anyM ct mn).isSome = true then .err c fs h1 else .bad
  | .bad => .bad
/-- e by one of several readings, where one is there -/
theorem _root_.L2.PE.any {X : Cx} {e : Expr} {ι : Type} {P : ι → Prop} {t : ι → TE} (p : ∀ i, P i → PE X e (t i)) : PE X e (fun s H Q => ∃ i, P i ∧ t i s H Q) :=
  ⟨fun pins s σ H Q I ⟨i, hi, q⟩ => (p i hi).run pins s σ H Q I q⟩
theorem ti_meth {ct : List CR} {call : Nat → List D → AH → Res D} {nps : Nat → Nat} {s : L2.St} {H : Hp} {Q : VK} (q : tI W Wx (cMeth ct call nps mn fo fa) s H Q) :
    ∃ ci : Nat × Nat, mthOf ct mn ci.1 = some ci.2 ∧ tMethS (W.cl ci.1) mn (spI W (nps ci.2) (call ci.2)) (WE Wx) (tI W Wx fo) (tA W Wx fa) s H Q := by
  obtain ⟨m, h, r, S, E, y⟩ := q
  unfold cMeth at y
  cases z : fo r h with
  | bad => rw [z] at y; exact False.elim y
  | err c fs h1 =>
    rw [z] at y
    simp only at y
    split at y
    · rename_i hs
      obtain ⟨⟨c, i⟩, hi⟩ := Option.isSome_iff_exists.mp hs
      refine ⟨(c, i), anyM_ok hi, m, h, r, S, E, ?_⟩
      rw [z]
      exact y
    · exact False.elim y
  | ok d h1 =>
    rw [z] at y
    simp only at y
    cases hc : clsOf h1 d with
    | none => simp only [hc] at y; exact False.elim y
    | some t =>
      obtain ⟨c, fs⟩ := t
      simp only [hc] at y
      cases hi : mthOf ct mn c with
      | none => simp only [hi] at y; exact False.elim y
      | some i =>
        simp only [hi] at y
        refine ⟨(c, i), hi, m, h, r, S, E, ?_⟩
        rw [z]
        intro m1 H1 S1 e1 v hv
        obtain ⟨p, dx, ys, rfl, q1, q2⟩ := clsOf_ok S1 hv hc
        split at y
        · rename_i hn
          have y3 := (Fin.shift y e1).bind
          refine ⟨p, dx, ys, rfl, q1, (PR.lookup mn q2).2 (Option.isNone_iff_eq_none.mp hn), m1, h1, r, S1, E.ext e1, y3.imp fun m2 h2 H2 ds S2 e2 y4 vs hvs => ?_⟩
          split at y4
          · rename_i hl
            exact ⟨m2, h2, d :: ds, S2, VRs.cons (hv.ext e2) hvs, hl, fc_of y4⟩
          · exact False.elim y4
        · exact False.elim y
/-- the facts of the classes -/
structure CtOk (K : PySem.W.Frag) (W : Wd) (ct : List CR) (fa : Nat → Addr) : Prop where
  cls : ∀ c r, ct[c]? = some r → Cls K (W.cl c)
  fld : ∀ c r f, ct[c]? = some r → f ∈ r.fields → NoAttr K (W.cl c) f
  mth : ∀ c m i, mthOf ct m c = some i → Meth K (W.cl c) m (fa i)
  prp : ∀ c r f i, ct[c]? = some r → r.props.lookup f = some i → ∃ p, PropOf K (W.cl c) f p (fa i)
  ini : ∀ c r i, ct[c]? = some r → r.ini = some i → Mk K (W.cl c) (fa i)
/-- the facts of the defs, by numbers: with room k they answer as call does -/
structure FnsOk (X : Cx) (W : Wd) (k : Nat) (fa : Nat → Addr) (nps : Nat → Nat) (n : Nat → Prop) (call : Nat → List D → AH → Res D) : Prop where
  fn : ∀ i, n i → ∃ fd ps, FnG X.prog X.w X.K X.mg X.base k (fa i) fd ps (spI W (nps i) (call i)) ∧ Binds X.K fd ps [] ∧ PySem.W.keepIn X.K (.ref (fa i)) = true
theorem mthOf_cls {ct : List CR} {mn : Str} {c i : Nat} (e : mthOf ct mn c = some i) : ∃ r, ct[c]? = some r := by
  unfold mthOf at e
  cases q : ct[c]? with
  | none => rw [q] at e; cases e
  | some r => exact ⟨r, rfl⟩
theorem pi_meth {ct : List CR} {fn : Nat → Addr} {call : Nat → List D → AH → Res D} {nps : Nat → Nat} {n : Nat → Prop} {pl : Sem Bool} (CT : CtOk X.K W ct fn) (FN : FnsOk X W k fn nps n call) (hn : ∀ c i, mthOf ct mn c = some i → n i) (hr : Room k X.A) (hgd : X.A.guards = some []) (tk : Takes X Wx)
    (he : PE X o (tI W Wx fo)) (ha : PA X (e :: es) (tA W Wx fa)) (hst : starEach (e :: es) X.env = (false, eval e X.env) :: starEach es X.env) (hpl : (backTo pos (starEach es X.env)).any (·.1) = false)
    (ht : eval (.Call (.Attribute o mn apos) (e :: es) [] pos) X.env = (do
      let ov ← eval o X.env
      standAt apos.atName
      let (f, first) ← holding [ov] (getMethod ov mn pl)
      callWith pos f first (backTo pos (starEach (e :: es) X.env)) (backToKw pos (keywordEach [] X.env)))) :
    PE X (.Call (.Attribute o mn apos) (e :: es) [] pos) (tI W Wx (cMeth ct call nps mn fo fa)) :=
  (PE.any (P := fun ci : Nat × Nat => mthOf ct mn ci.1 = some ci.2) (t := fun ci => tMethS (W.cl ci.1) mn (spI W (nps ci.2) (call ci.2)) (WE Wx) (tI W Wx fo) (tA W Wx fa)) fun ci hci => by
    obtain ⟨r, hc⟩ := mthOf_cls hci
    obtain ⟨fd, ps, F, hb, _⟩ := FN.fn ci.2 (hn _ _ hci)
    exact pe_methSD he (CT.cls _ _ hc) (CT.mth _ _ _ hci) F hr hgd hb (fun s => passAt tk s) ha hst hpl ht).imp fun s H Q q => ti_meth q
theorem pi_meth0 {ct : List CR} {fn : Nat → Addr} {call : Nat → List D → AH → Res D} {nps : Nat → Nat} {n : Nat → Prop} {pl : Sem Bool} (CT : CtOk X.K W ct fn) (FN : FnsOk X W k fn nps n call) (hn : ∀ c i, mthOf ct mn c = some i → n i) (hr : Room k X.A) (hgd : X.A.guards = some []) (tk : Takes X Wx)
    (he : PE X o (tI W Wx fo))
    (ht : eval (.Call (.Attribute o mn apos) [] [] pos) X.env = (do
      let ov ← eval o X.env
      standAt apos.atName
      let (f, first) ← holding [ov] (getMethod ov mn pl)
      callWith pos f first (backTo pos (starEach [] X.env)) (backToKw pos (keywordEach [] X.env)))) :
    PE X (.Call (.Attribute o mn apos) [] [] pos) (tI W Wx (cMeth ct call nps mn fo aNil)) :=
  (PE.any (P := fun ci : Nat × Nat => mthOf ct mn ci.1 = some ci.2) (t := fun ci => tMethS (W.cl ci.1) mn (spI W (nps ci.2) (call ci.2)) (WE Wx) (tI W Wx fo) tNil) fun ci hci => by
    obtain ⟨r, hc⟩ := mthOf_cls hci
    obtain ⟨fd, ps, F, hb, _⟩ := FN.fn ci.2 (hn _ _ hci)
    exact pe_methSD0 he (CT.cls _ _ hc) (CT.mth _ _ _ hci) F hr hgd hb (fun s => passAt tk s) ht).imp fun s H Q q => by
      obtain ⟨ci, h1, q1⟩ := ti_meth q
      refine ⟨ci, h1, ?_⟩
      obtain ⟨m, h, r, S, E, f⟩ := q1
      exact ⟨m, h, r, S, E, f.imp fun m1 h1 H1 d S1 e1 y v hv => by
        obtain ⟨a, dx, fs, x1, x2, x3, x4⟩ := y v hv
        obtain ⟨m2, h2, r2, S2, E2, f2⟩ := x4
        exact ⟨a, dx, fs, x1, x2, x3, f2.here S2 [] VRs.nil⟩⟩

/-! ### fields, properties -/
def cAttr (ct : List CR) (call : Nat → List D → AH → Res D) (nps : Nat → Nat) (g : Str) (fo : Ev → AH → Res D) : Ev → AH → Res D := fun r h => (fo r h).bind fun d h1 => match clsOf h1 d with
  | some (c, fs) => match ct[c]? with
    | some cr => if cr.fields.contains g = true then (match fs.lookup g with
        | some x => .ok x h1
        | none => .bad) else match cr.props.lookup g with
      | some i => if nps i = 1 then (match call i [d] h1 with
        | .ok x h2 => .ok x h2
        | _ => .bad) else .bad
      | none => .bad
    | none => .bad
  | none => .bad
def prpOf (ct : List CR) (g : Str) (c : Nat) : Option Nat := match ct[c]? with
  | some cr => if cr.fields.contains g = true then none else cr.props.lookup g
  | none => none
theorem pe_propG {q g : Addr} {ff : Str} {fd : FuncData} {ps : List Str} {sp : Sp} {ta : TE} (he : PE X e ta) (c : Cls X.K C) (hp : PropOf X.K C ff q g) (F : FnG X.prog X.w X.K X.mg X.base k g fd ps sp) (hr : Room (k + 1) X.A) (hgd : X.A.guards = some []) (hb : Binds X.K fd ps [])
    (hab : attributeBase e ff X.env (eval e X.env) = eval e X.env) : PE X (.Attribute e ff pos) (tProp C sp [] E0 ta) := by
  refine ⟨fun pins s σ H Q I h => attr_of hab (thn (he.run pins s σ H _ I h) fun u s1 z => ?_)⟩
  obtain ⟨x, H1, I1, rx, a, dx, fs, ex, ea, q⟩ := z
  subst ex
  have eu : u = Value.ref a := rx
  subst eu
  exact propG I1 ea c hp F hr hgd hb q
theorem pi_attrP {ct : List CR} {fn : Nat → Addr} (CT : CtOk X.K W ct fn) {call : Nat → List D → AH → Res D} {nps : Nat → Nat} {g : Str}
    (PP : ∀ ci : Nat × Nat, prpOf ct g ci.1 = some ci.2 → PE X (.Attribute o g pos) (tProp (W.cl ci.1) (spI W (nps ci.2) (call ci.2)) [] E0 (tI W Wx fo)))
    (he : PE X o (tI W Wx fo)) (hab : attributeBase o g X.env (eval o X.env) = eval o X.env) : PE X (.Attribute o g pos) (tI W Wx (cAttr ct call nps g fo)) := by
  have pf : PE X (.Attribute o g pos) (tFld X.K (tI W Wx fo) g) := pe_fld he hab
  have pp : PE X (.Attribute o g pos) (fun s H Q => ∃ ci : Nat × Nat, prpOf ct g ci.1 = some ci.2 ∧ tProp (W.cl ci.1) (spI W (nps ci.2) (call ci.2)) [] E0 (tI W Wx fo) s H Q) := PE.any fun ci hci => PP ci hci
  refine (pf.or pp).imp fun s H Q ⟨m, h, r, S, E, y⟩ => ?_
  have y' : Fin W Wx m h H s ((fo r h).bind _) _ := y
  have y2 := Fin.bind y'
  cases z : fo r h with
  | bad => rw [z] at y2; exact False.elim y2
  | err c fs h1 =>
    refine .inl ⟨m, h, r, S, E, ?_⟩
    rw [z] at y2 ⊢
    exact y2
  | ok d h1 =>
    rw [z] at y2
    cases hc : clsOf h1 d with
    | none =>
      refine .inl ⟨m, h, r, S, E, ?_⟩
      rw [z]
      intro m1 H1 S1 e1 v hv
      have y3 := y2 m1 H1 S1 e1
      simp only [hc] at y3
      exact False.elim y3
    | some t =>
      obtain ⟨c, fs⟩ := t
      cases hct : ct[c]? with
      | none =>
        refine .inl ⟨m, h, r, S, E, ?_⟩
        rw [z]
        intro m1 H1 S1 e1 v hv
        have y3 := y2 m1 H1 S1 e1
        simp only [hc, hct] at y3
        exact False.elim y3
      | some cr =>
        by_cases hf : cr.fields.contains g = true
        · refine .inl ⟨m, h, r, S, E, ?_⟩
          rw [z]
          intro m1 H1 S1 e1 v hv
          have y3 := y2 m1 H1 S1 e1
          simp only [hc, hct, if_pos hf] at y3
          obtain ⟨p, dx, ys, rfl, q1, q2⟩ := clsOf_ok S1 hv hc
          cases hl : fs.lookup g with
          | none => simp only [hl] at y3; exact False.elim y3
          | some x =>
            simp only [hl] at y3
            obtain ⟨w, w1, w2⟩ := (PR.lookup g q2).1 x hl
            exact ⟨p, W.cl c, dx, ys, w, rfl, q1, CT.cls _ _ hct, CT.fld _ _ _ hct (List.contains_iff_mem.mp hf), w1, y3.here S1 w w2⟩
        · cases hp : cr.props.lookup g with
          | none =>
            refine .inl ⟨m, h, r, S, E, ?_⟩
            rw [z]
            intro m1 H1 S1 e1 v hv
            have y3 := y2 m1 H1 S1 e1
            simp only [hc, hct, if_neg hf, hp] at y3
            exact False.elim y3
          | some i =>
            refine .inr ⟨(c, i), by unfold prpOf; simp only [hct, if_neg hf, hp], m, h, r, S, E, ?_⟩
            rw [z]
            intro m1 H1 S1 e1 v hv
            have y3 := y2 m1 H1 S1 e1
            simp only [hc, hct, if_neg hf, hp] at y3
            obtain ⟨p, dx, ys, rfl, q1, q2⟩ := clsOf_ok S1 hv hc
            split at y3
            · rename_i hnp
              refine ⟨p, dx, ys, rfl, q1, m1, h1, [d], S1, VRs.cons hv VRs.nil, hnp.symm, ?_⟩
              revert y3
              cases call i [d] h1 with
              | ok x h2 => exact fun y3 m2 H2 v2 S2 e2 r2 => y3 m2 H2 S2 e2 v2 r2
              | err c fs h2 => exact fun y3 => False.elim y3
              | bad => exact fun y3 => y3
            · exact False.elim y3
theorem pi_attr {ct : List CR} {fn : Nat → Addr} {call : Nat → List D → AH → Res D} {nps : Nat → Nat} {n : Nat → Prop} {g : Str} (CT : CtOk X.K W ct fn) (FN : FnsOk X W k fn nps n call) (hn : ∀ c i, prpOf ct g c = some i → n i) (hr : Room (k + 1) X.A) (hgd : X.A.guards = some [])
    (he : PE X o (tI W Wx fo)) (hab : attributeBase o g X.env (eval o X.env) = eval o X.env) : PE X (.Attribute o g pos) (tI W Wx (cAttr ct call nps g fo)) :=
  pi_attrP (Wx := Wx) CT (fun ci hci => by
    have hc : ∃ r, ct[ci.1]? = some r ∧ r.props.lookup g = some ci.2 := by
      unfold prpOf at hci
      split at hci
      · rename_i cr q
        split at hci
        · cases hci
        · exact ⟨cr, q, hci⟩
      · cases hci
    obtain ⟨r, hc1, hc2⟩ := hc
    obtain ⟨fd, ps, F, hb, _⟩ := FN.fn ci.2 (hn _ _ hci)
    obtain ⟨p, hp⟩ := CT.prp _ _ _ _ hc1 hc2
    exact pe_propG he (CT.cls _ _ hc1) hp F hr hgd hb hab) he hab
end
end PI
/-! PI8: stores into lists, dicts, fields; instances made; slices. -/
namespace PI
open PySem L2

section
variable {X : Cx} {W : Wd} {Wx : WX} {pos : Pos} {fo fi fe : Ev → AH → Res D}

/-! ### o[i] = v -/
def setD (o i v : D) (h : AH) : Option AH := match o with
  | .ref a => match h[a]? with
    | some (.lst l) => match i with
      | .int k => (ixN l.length k).map fun j => h.set a (.lst (l.set j v))
      | _ => none
    | some (.dK l) => match keyOf i with
      | some k => if l.length < LIM then some (h.set a (.dK (putD l k v))) else none
      | none => none
    | some (.dT l) => match keysOf i with
      | some k => if l.length < LIM then some (h.set a (.dT (putD l k v))) else none
      | none => none
    | _ => none
  | _ => none
def rPutD : TSet := fun o i v H Q => ∃ a H', o = .ref a ∧ DPut H a i v H' ∧ Q H'
theorem set_dic (hu : X.A.units + 1 < cLine) : PSet X rPutD := by
  intro pins s σ H o i v ov iv u Q I ro ri rv h
  obtain ⟨a, H', rfl, g, q⟩ := h
  obtain rfl : ov = Value.ref a := ro
  exact d_setItem hu I g ri rv fun s' I' => ⟨H', I', q⟩
theorem _root_.L2.PSet.or {X : Cx} {t t' : TSet} (p : PSet X t) (p' : PSet X t') : PSet X (fun o i v H Q => t o i v H Q ∨ t' o i v H Q) :=
  fun pins s σ H o i v ov iv u Q I ro ri rv h => h.elim (p pins s σ H o i v ov iv u Q I ro ri rv) (p' pins s σ H o i v ov iv u Q I ro ri rv)
theorem setD_ok {m : Nat → Addr} {h h' : AH} {H : Hp} {o i v : D} {ov iv vv : V} {Q : Hp → Prop} (S : SR W m h H) (ho : VR W m h.length H o ov) (hi : VR W m h.length H i iv) (hv : VR W m h.length H v vv) (e : setD o i v h = some h')
    (q : ∀ m' H', SR W m' h' H' → Ext m h.length H m' h'.length H' → Q H') : rSetL ov iv vv H Q ∨ rPutD ov iv vv H Q := by
  cases o with
  | ref a =>
    simp only [VR] at ho
    obtain ⟨ha, rfl⟩ := ho
    have len : ∀ o', (h.set a o').length = h.length := fun o' => List.length_set
    have fin : ∀ {o' : O} {u : HO}, h' = h.set a o' → OS W m h.length (upd H (m a) u) o' u → Q (upd H (m a) u) := fun {o' u} eh os => by
      subst eh
      exact q m _ (S.upd ha os) (by rw [len]; exact ext_upd S ha)
    simp only [setD] at e
    split at e
    · rename_i l q1
      obtain ⟨_, p1, xs, rfl, r1⟩ := S.obj a _ q1
      cases i with
      | int k =>
        simp only [VR] at hi
        subst hi
        cases hj : ixN l.length k with
        | none => simp only [hj] at e; cases e
        | some j =>
          simp only [hj] at e
          cases e
          refine .inl ⟨m a, xs, k, j, rfl, rfl, p1, by rw [r1.length]; exact hj, fin rfl ⟨_, rfl, ?_⟩⟩
          have ex := ext_upd (u := .lst (xs.set j vv)) S ha
          exact (r1.ext ex).set (hv.ext ex)
      | _ => cases e
    · rename_i l q1
      obtain ⟨_, p1, ys, rfl, r1⟩ := S.obj a _ q1
      cases hk : keyOf i with
      | none => simp only [hk] at e; cases e
      | some k =>
        simp only [hk] at e
        split at e
        · rename_i hl
          cases e
          refine .inr ⟨m a, _, rfl, .inl ⟨ys, k, p1, keyOf_ok hi hk, by rw [r1.length]; exact lim_lt hl, rfl⟩, fin rfl ⟨_, rfl, ?_⟩⟩
          have ex := ext_upd (u := .dK (putK ys k vv)) S ha
          exact (r1.ext ex).put (hv.ext ex)
        · cases e
    · rename_i l q1
      obtain ⟨_, p1, ys, rfl, r1⟩ := S.obj a _ q1
      cases i with
      | tup ds =>
        cases hk : mapO keyOf ds with
        | none => simp only [keysOf, hk] at e; cases e
        | some k =>
          simp only [keysOf, hk] at e
          split at e
          · rename_i hl
            cases e
            simp only [VR] at hi
            obtain ⟨p, xs, rfl, h2, h3⟩ := hi
            refine .inr ⟨m a, _, rfl, .inr ⟨ys, k, p, p1, rfl, by rw [← keysOf_all h3 hk]; exact h2.1, by rw [r1.length]; exact lim_lt hl, rfl⟩, fin rfl ⟨_, rfl, ?_⟩⟩
            have ex := ext_upd (u := .dT (putK ys k vv)) S ha
            exact (r1.ext ex).put (hv.ext ex)
          · cases e
      | _ => cases e
    · cases e
  | _ => cases e
def gSb (fo fi : Ev → AH → Res D) : D → Ev → AH → GR := fun v r h => match fo r h with
  | .ok o h1 => match fi r h1 with
    | .ok i h2 => (setD o i v h2).map fun h3 => (r, h3)
    | _ => none
  | _ => none
theorem gi_sub {o i : Expr} {ts : List Nat} (hu : X.A.units + 1 < cLine) (ho : PE X o (tI W Wx fo)) (hi : PE X i (tI W Wx fi))
    (ha : ∀ v, assign (.Subscript o i pos) X.env v = (do
      let ov ← holding [v] (eval o X.env)
      let iv ← holding [v, ov] (eval i X.env)
      standAt pos
      holding [v, ov, iv] (setItem ov iv v)
      release [v, ov, iv] [])) : PG X (.Subscript o i pos) (tG W ts (gSb fo fi)) := by
  refine (pg_sub ho hi (PSet.or set_list (set_dic hu)) ha).imp fun v s H Q ⟨m, h, r, d, S, E, hv, f⟩ => ?_
  unfold gSb at f
  cases z1 : fo r h with
  | bad => rw [z1] at f; exact False.elim f
  | err c fs h1 => rw [z1] at f; exact False.elim f
  | ok od h1 =>
    rw [z1] at f
    simp only at f
    refine ⟨m, h, r, S, E, ?_⟩
    rw [z1]
    intro m1 H1 S1 e1 ov hov
    cases z2 : fi r h1 with
    | bad => simp only [z2] at f; exact False.elim f
    | err c fs h2 => simp only [z2] at f; exact False.elim f
    | ok id h2 =>
      simp only [z2] at f
      refine ⟨m1, h1, r, S1, E.ext e1, ?_⟩
      rw [z2]
      intro m2 H2 S2 e2 iv hiv
      cases z3 : setD od id d h2 with
      | none => simp only [z3, Option.map_none] at f; exact False.elim f
      | some h3 =>
        simp only [z3, Option.map_some] at f
        exact setD_ok S2 (hov.ext e2) hiv (hv.ext (e1.trans e2)) z3 fun m3 H3 S3 e3 => f m3 H3 s S3 ((e1.trans e2).trans e3) (E.ext ((e1.trans e2).trans e3)) (Off.refl _ _)

/-! ### o.f = e -/
def putFD (g : Str) (d : D) : List (Str × D) → List (Str × D)
  | [] => [(g, d)]
  | (k, x) :: r => if k = g then (k, d) :: r else (k, x) :: putFD g d r
theorem PR.putF {m : Nat → Addr} {n : Nat} {H : Hp} {g : Str} {d : D} {v : V} (hd : VR W m n H d v) : ∀ {l : List (Str × D)} {ys : List (Str × V)}, PR W m n H l ys → PR W m n H (putFD g d l) (L2.putF g v ys)
  | [], _, h => by cases h; exact ⟨v, [], rfl, hd, rfl⟩
  | (q, c) :: l, ys, ⟨u, r, e, h2, h3⟩ => by
    subst e
    unfold putFD L2.putF
    by_cases hk : q = g
    · rw [if_pos hk, if_pos hk]
      exact ⟨v, r, rfl, hd, h3⟩
    · rw [if_neg hk, if_neg hk]
      exact ⟨u, _, rfl, h2, PR.putF hd h3⟩
def setFD (ct : List CR) (g : Str) (o d : D) (h : AH) : Option AH := match clsR h o with
  | some (a, c, fs) => match ct[c]? with
    | some cr => if cr.fields.contains g = true ∧ fs.length < 100 then some (h.set a (.ins c (putFD g d fs))) else none
    | none => none
  | none => none
def cFld (ct : List CR) (g : Str) (fo fe : Ev → AH → Res D) : Ev → AH → RS := fun r h => onRes (fe r h) r fun d h1 => onRes (fo r h1) r fun o h2 => match setFD ct g o d h2 with
  | some h3 => .nx r h3
  | none => .bad
theorem si_fld {o value : Expr} {g : Str} {pos' : Pos} {ct : List CR} {fn : Nat → Addr} (hK : X.K = W.K) (CT : CtOk X.K W ct fn) (ho : PE X o (tI W Wx fo)) (hv : PE X value (tI W Wx fe)) (hs : swapsWith value (some (.Attribute o g pos')) pos.line X.env = pure false) :
    PS X (.Assign [.Attribute o g pos'] value pos) (tS W Wx (cFld ct g fo fe)) := by
  refine (ps_fld ho hv hs).imp fun Dn s H ⟨m, h, r, S, E, f⟩ => ⟨m, h, r, S, E, (FS.on E f).imp fun m1 h1 H1 d S1 e1 f1 v hv => ⟨m1, h1, r, S1, E.ext e1, (FS.on (E.ext e1) f1).imp fun m2 h2 H2 o S2 e2 f2 ov hov => ?_⟩⟩
  cases z : setFD ct g o d h2 with
  | none => simp only [z] at f2; exact False.elim f2
  | some h3 =>
    simp only [z] at f2
    unfold setFD at z
    cases hc : clsR h2 o with
    | none => simp only [hc] at z; cases z
    | some t =>
      obtain ⟨a, c, fs⟩ := t
      simp only [hc] at z
      cases hct : ct[c]? with
      | none => simp only [hct] at z; cases z
      | some cr =>
        simp only [hct] at z
        split at z
        · rename_i hh
          cases z
          obtain ⟨rfl, ha, _, dx, ys, q1, q2⟩ := clsR_ok S2 hov hc
          refine ⟨m2 a, W.cl c, dx, ys, rfl, q1, CT.cls _ _ hct, CT.fld _ _ _ hct (List.contains_iff_mem.mp hh.1), by rw [q2.length]; exact Nat.lt_trans hh.2 (by decide), ?_⟩
          have ex := ext_upd (u := .ins (W.cl c) dx (L2.putF g v ys)) S2 ha
          refine f2 m2 _ s (S2.upd ha ⟨dx, _, rfl, (q2.ext ex).putF ((hv.ext e2).ext ex)⟩) (by rw [List.length_set]; exact ex) ?_
          rw [List.length_set]
          exact ((E.ext e1).ext e2).ext ex
        · cases z

/-! ### name += e (ints) -/
def cAug (i : Nat) (op : Int → Int → Int) (fe : Ev → AH → Res D) : Ev → AH → RS := fun r h => match r[i]? with
  | some (some (.int a)) => onRes (fe r h) r fun d h1 => match d with
    | .int b => .nx (r.set i (some (.int (op a b)))) h1
    | _ => .bad
  | _ => .bad
theorem si_aug {i : Nat} {x : Str} {e : Expr} {op : Operator} {g : Int → Int → Int} {pos' : Pos} (hN : X.N.Nodup) (hi : X.N[i]? = some x) (hx : Loc X.env.scope x) (he : PE X e (tI W Wx fe)) (ho : PIp X op (ipI g))
    (hf : X.fn x = true ∨ X.env.scope.names.lookup x = some .local) : PS X (.AugAssign (.Name x pos') op e pos) (tS W Wx (cAug i g fe)) := by
  refine (ps_aug hN hi hx he ho hf).imp fun Dn s H ⟨m, h, r, S, E, f⟩ => ?_
  unfold cAug at f
  split at f
  · rename_i a q
    obtain ⟨v, v1, v2⟩ := E.get i _ q
    simp only [VR] at v2
    subst v2
    refine ⟨.int a, v1, m, h, r, S, E, (FS.on E f).imp fun m1 h1 H1 d S1 e1 f1 w hw => ?_⟩
    split at f1
    · rename_i b
      simp only [VR] at hw
      subst hw
      exact ⟨a, b, rfl, rfl, f1 m1 H1 _ S1 (Ext.refl _ _ _) ((E.ext e1).set i (by simp only [VR]))⟩
    · exact False.elim f1
  · exact False.elim f

/-! ### C(e, ..) -/
section
variable {k : Nat} {f C : Addr} {fd : FuncData} {ps : List Str} {np : Nat} {cf : List D → AH → Res D} {x : Str} {p : Pos} {e : Expr} {es : List Expr} {fa : Ev → AH → Res (List D)}
def mkRun (c : Nat) (np : Nat) (cf : List D → AH → Res D) (ds : List D) (h : AH) : Res D := if ds.length + 1 = np then (match cf (.ref h.length :: ds) (h ++ [.ins c []]) with
  | .ok .non h2 => .ok (.ref h.length) h2
  | .ok _ _ => .bad
  | .err c fs h2 => .err c fs h2
  | .bad => .bad) else .bad
def cMake (c : Nat) (np : Nat) (cf : List D → AH → Res D) (fa : Ev → AH → Res (List D)) : Ev → AH → Res D := fun r h => (fa r h).bind (mkRun c np cf)
theorem make_sp {c : Nat} {m : Nat → Addr} {h : AH} {H : Hp} {s : L2.St} {Q : VK} {ds : List D} {vs : List V} (S : SR W m h H) (hv : VRs W m h.length H ds vs) (f : Fin W Wx m h H s (mkRun c np cf ds h) fun m' h' H' d => ∀ v, VR W m' h'.length H' d v → Q v H')
    (x dx : Addr) (hx : H x = none) (hd : H dx = none) (ne : dx ≠ x) : spI W np cf (.ref x :: vs) (upd (upd H dx (.own x)) x (.ins (W.cl c) dx [])) (fun v H2 => v = .non ∧ Q (.ref x) H2) (WE Wx s) := by
  unfold mkRun at f
  split at f
  · rename_i hl
    have k1 : ∀ b o, H b = some o → upd (upd H dx (.own x)) x (.ins (W.cl c) dx []) b = some o := fun b o e => by
      rw [upd_ne (ne_of_none e hx), upd_ne (ne_of_none e hd)]
      exact e
    have e1 := ext_new S hx k1
    have S1 : SR W (mupd m h.length x) (h ++ [.ins c []]) (upd (upd H dx (.own x)) x (.ins (W.cl c) dx [])) := S.new hx k1 upd_same ⟨dx, [], rfl, rfl⟩
    have hlen : (h ++ [O.ins c []]).length = h.length + 1 := by rw [List.length_append, List.length_singleton]
    refine ⟨mupd m h.length x, h ++ [.ins c []], .ref h.length :: ds, S1, VRs.cons ?_ (by rw [hlen]; exact hv.ext e1), by rw [List.length_cons]; exact hl, ?_⟩
    · simp only [VR]
      exact ⟨by rw [hlen]; omega, by rw [mupd_same]⟩
    · have e1' : Ext m h.length H (mupd m h.length x) (h ++ [O.ins c []]).length (upd (upd H dx (.own x)) x (.ins (W.cl c) dx [])) := by rw [hlen]; exact e1
      revert f
      cases cf (.ref h.length :: ds) (h ++ [.ins c []]) with
      | bad => exact fun f => f
      | err c' fs h2 => exact fun f m2 H2 cls dd S2 e2 => f m2 H2 cls dd S2 (e1'.trans e2)
      | ok d h2 =>
        cases d with
        | non =>
          intro f m2 H2 v S2 e2 hv2
          simp only [VR] at hv2
          refine ⟨hv2, f m2 H2 S2 (e1'.trans e2) (.ref x) ?_⟩
          simp only [VR]
          have le := e2.le
          rw [hlen] at le
          exact ⟨by omega, by rw [e2.agr h.length (by rw [hlen]; omega), mupd_same]⟩
        | _ => exact fun f => False.elim f
  · exact False.elim f
theorem pi_make {c : Nat} (hC : W.cl c = C) (M : Mk X.K C f) (F : FnG X.prog X.w X.K X.mg X.base k f fd ps (spI W np cf)) (hr : Room (k + 1) X.A) (hgd : X.A.guards = some []) (hg : Gl X x) (hm : X.mg x = some (.ref C)) (hb : Binds X.K fd ps []) (tk : Takes X Wx)
    (ha : PA X (e :: es) (tA W Wx fa)) (hdb : (x == ("__debug__" : Str)) = false) (he : starEach (e :: es) X.env = (false, eval e X.env) :: starEach es X.env) (hpl : (backTo pos (starEach es X.env)).any (·.1) = false) :
    PE X (.Call (.Name x p) (e :: es) [] pos) (tI W Wx (cMake c np cf fa)) := by
  refine ⟨fun pins s σ H Q I ⟨m, h, r, S, E, y⟩ => ?_⟩
  refine wpAny_Call_Name_kw (ld_glob I hg hm ?_ hdb)
  refine PySem.W.callWith_K (h₀ := X.base) I.ok.mod.kin M.kp (thn (ha.run pos pins s σ H _ I ⟨m, h, r, S, E, (Fin.bind y).imp fun m1 h1 H1 ds S1 e1 y1 vs hv => And.intro S1 (And.intro hv y1) |> fun z => (⟨m1, h1, ds, z⟩ : ∃ m h ds, SR W m h H1 ∧ VRs W m h.length H1 ds vs ∧ Fin W Wx m h H1 σ (mkRun c np cf ds h) fun m' h' H' d => ∀ v, VR W m' h'.length H' d v → Q v H')⟩)
    fun us s1 ⟨vs, H1, I1, rr, m1, h1, ds, S1, hv, y1⟩ => ⟨I1.kIn, ?_⟩) he hpl
  subst hC
  exact makeG M F hr hgd hb (passAt tk σ) I1 rr fun x dx hx hd ne => make_sp S1 hv y1 x dx hx hd ne
theorem pi_make0 {c : Nat} (hC : W.cl c = C) (M : Mk X.K C f) (F : FnG X.prog X.w X.K X.mg X.base k f fd ps (spI W np cf)) (hr : Room (k + 1) X.A) (hgd : X.A.guards = some []) (hg : Gl X x) (hm : X.mg x = some (.ref C)) (hb : Binds X.K fd ps []) (tk : Takes X Wx)
    (hdb : (x == ("__debug__" : Str)) = false) : PE X (.Call (.Name x p) [] [] pos) (tI W Wx (cMake c np cf aNil)) := by
  refine ⟨fun pins s σ H Q I ⟨m, h, r, S, E, y⟩ => ?_⟩
  refine wpAny_Call_Name_kw (ld_glob I hg hm ?_ hdb)
  subst hC
  exact PySem.W.callWith_K0 I.kIn M.kp (makeG (us := []) (vs := []) M F hr hgd hb (passAt tk σ) I .nil fun x dx hx hd ne => make_sp S VRs.nil ((Fin.bind y).here S) x dx hx hd ne)
end
end
end PI
/-! PIS: sorting by an own def that picks the two ints of a tie. -/
namespace PI
open PySem L2 PyProof.Rows PySem.W

/-- the key def: return x[0], x[2] -/
def keyBody (x : Str) (t : Nat) (p0 p1 p2 p3 p4 p5 p6 p7 : Pos) : List Stmt :=
  [.Return (some (.Tuple [.Subscript (.Name x p0) (.Constant (.int 0) 0 p1) p2, .Subscript (.Name x p3) (.Constant (.int 2) 0 p4) p5] t p6)) p7]

section
variable {P : Program} {w : World} {A : Around} {s : Shared}
theorem tup_at {x : Str} {env : Env} {m : Str → Option Value} {t : Addr} {its : Array Value} {j : Nat} {y : Value} {p0 p1 p2 : Pos} {E : Value → Shared → Prop} {Q : Value → Shared → Prop} (hk : env.scope.kind = .function) (hl : env.kindOf x = some .local) (hd : (x == ("__debug__" : Str)) = false)
    (hn : s.heap.Ns env.locals m) (hm : m x = some (.ref t)) (ht : IsTup s.heap t its) (hj : its[j]? = some y) (hb : its.size < 1000) (h : Q y { s with toks := s.toks + 1 }) :
    wpAny (model P w) A (eval (.Subscript (.Name x p0) (.Constant (.int (j : Int)) 0 p1) p2) env) Q E s := by
  have hlt : j < its.size := (Array.getElem?_eq_some_iff.mp hj).1
  refine Subscript_ (wpAny_Name (wpAny_loadName_local hk hl hn hm (wpAny_Constant_int ?_)) hd)
  refine subscriptTail_builtinR (x := y) ht.typeIs slot_tuple_getitem.lookup (getItem_tuple (j := j) (Q := fun r s' => r = y ∧ Q r s') ht (by omega) (by omega) ?_ hj ⟨rfl, h⟩) (by with_unfolding_all rfl)
  unfold seqIndex?
  simp only [show ¬ ((j : Int) < 0) by omega]
  simp
  omega
/-- the key def called with a tie -/
theorem key_turn {K : PySem.W.Frag} {x name qual : Str} {st : Stmt} {f : Addr} {fd : FuncData} {t0 : Nat} {p0 p1 p2 p3 p4 p5 p6 p7 : Pos} (F : L2.Fun K name qual st f fd) (S : FnScope [x] [x] (defScope st)) (hb : Binds K fd [x] []) (hbody : defBody st = keyBody x t0 p0 p1 p2 p3 p4 p5 p6 p7) (hloc : (defScope st).names.lookup x = some .local)
    (hdb : (x == ("__debug__" : Str)) = false) (hdp : A.depth + 8 < recursionLimit) (inK : K.In s.heap) (nolim : s.heap.NoLimit) {v : Value} {i j : Int} {a c : Str} {as : List Addr} (hr : Reads s.heap v (.tuple [.int i, .str a, .int j, .str c]) as) :
    wpAny (model P w) A (call (.ref f) [v]) (KeyPure (.tuple [.int i, .int j]) s) (fun _ _ => False) s := by
  obtain ⟨oc, od, kV, doc, pm, an, cdv, ct, osl, rfl, lk, hcd⟩ := F.ex
  have b := hb s [v] inK rfl
  rw [List.append_nil] at b
  have kinds : ∀ y ∈ [x].zip [v], (defScope st).names.lookup y.1 = some .local ∨ ((defScope st).names.lookup y.1 = some .cell ∧ ((cellsFrom (s.heap.objs.size + 1) (defScope st).names []).lookup y.1).isSome = true) := fun y hy => by
    have hy' : y ∈ [(x, v)] := hy
    rw [List.mem_singleton] at hy'
    subst hy'
    exact .inl hloc
  refine wpAny_call (codeAny_call_function (by omega) (inK _ _ lk) rfl S.co S.gen rfl (PySem.W.codeRec_of inK hcd) (b _ _ _ _ (wpAny_newFunctionEnv_cells S.kind kinds fun env he s1 z => ?_)))
  subst he
  refine ⟨nolim.keeps z.toInCall.keep, codeAny_func ?_⟩
  rw [hbody]
  obtain ⟨h1, tk, rfl, hk⟩ := z.done
  cases hr with
  | @tuple t o vs n xs as' ho hc hdat hall =>
    obtain ⟨vl⟩ := vs
    have hall' : ReadsAll s.heap vl [.int i, .str a, .int j, .str c] as := hall
    cases hall' with | @cons v1 vs1 d1 ds1 a1 b1 r1 q1 => cases q1 with | @cons v2 vs2 d2 ds2 a2 b2 r2 q2 => cases q2 with | @cons v3 vs3 d3 ds3 a3 b3 r3 q3 => cases q3 with | @cons v4 vs4 d4 ds4 a4 b4 r4 q4 => cases q4 with | nil =>
    cases r1 with | int _ t1 => cases r3 with | int _ t3 =>
    have kn : (newEnv (defScope st) s.heap.objs.size mainGlobals (cellsFrom (s.heap.objs.size + 1) (defScope st).names []) (qual ++ ".<locals>.") (some f) cdv none builtinsNs).kindOf x = some .local := hloc
    have hm : bindL (newEnv (defScope st) s.heap.objs.size mainGlobals (cellsFrom (s.heap.objs.size + 1) (defScope st).names []) (qual ++ ".<locals>.") (some f) cdv none builtinsNs).kindOf ([x].zip [Value.ref t]) (fun _ => none) x = some (.ref t) :=
      bindL_get (i := 0) (List.nodup_cons.mpr ⟨by simp, List.nodup_nil⟩) rfl rfl kn
    have ns := z.toInCall.ns
    have ht : IsTup h1 t #[.int i t1, v2, .int j t3, v4] := ⟨o, hk _ _ ho, hc, n, hdat⟩
    refine wpAny_execs_cons (wpAny_Return_some (wpAny_Tuple_spliced ?_))
    show wpAny _ _ (spliced [(false, _), (false, _)]) _ _ _
    refine Calls.spliced_cons (tup_at (j := 0) S.kind kn hdb ns hm ht rfl (by show 4 < 1000; decide) ?_)
    refine Calls.spliced_cons (tup_at (j := 2) S.kind kn hdb ns hm ht rfl (by show 4 < 1000; decide) ?_)
    refine Calls.spliced_nil ⟨(by show 2 ≤ sizeLine; decide), ?_⟩
    refine ⟨_, _, rfl, fun b o e => Heap.get?_push_of_some _ (hk b o e), ?_⟩
    exact Reads.tuple (Heap.get?_push_size _ rfl) rfl rfl (as := []) (ReadsAll.cons (as := []) (bs := []) (.int _ _) (ReadsAll.cons (as := []) (bs := []) (.int _ _) ReadsAll.nil))
end

/-! ### insertion sort, which the kernel can run -/
def insL {α : Type} (le : α → α → Bool) (x : α) : List α → List α
  | [] => [x]
  | y :: r => if le x y = true then x :: y :: r else y :: insL le x r
def srtL {α : Type} (le : α → α → Bool) : List α → List α
  | [] => []
  | x :: r => insL le x (srtL le r)
theorem insL_perm {α : Type} {le : α → α → Bool} {x : α} : ∀ {l : List α}, (insL le x l).Perm (x :: l)
  | [] => .refl _
  | y :: r => by
    unfold insL
    split
    · exact .refl _
    · exact ((insL_perm (l := r)).cons y).trans (.swap _ _ _)
theorem srtL_perm {α : Type} {le : α → α → Bool} : ∀ {l : List α}, (srtL le l).Perm l
  | [] => .refl _
  | x :: r => insL_perm.trans ((srtL_perm (l := r)).cons x)
theorem insL_pw {α : Type} {le : α → α → Bool} (T : TotalLe le) {x : α} : ∀ {l : List α}, l.Pairwise (fun a b => le a b = true) → (insL le x l).Pairwise (fun a b => le a b = true)
  | [], _ => List.pairwise_singleton _ _
  | y :: r, h => by
    obtain ⟨h1, h2⟩ := List.pairwise_cons.mp h
    unfold insL
    split
    · rename_i q
      exact List.pairwise_cons.mpr ⟨fun z hz => (List.mem_cons.mp hz).elim (fun e => by rw [e]; exact q) fun hz => T.trans _ _ _ q (h1 z hz), h⟩
    · rename_i q
      refine List.pairwise_cons.mpr ⟨fun z hz => ?_, insL_pw T h2⟩
      rcases List.mem_cons.mp ((insL_perm (l := r)).mem_iff.mp hz) with e | hz
      · subst e
        have := T.total y z
        cases e : le y z with
        | true => rfl
        | false =>
          rw [e] at this
          exact absurd (by simpa using this) q
      · exact h1 z hz
theorem srtL_pw {α : Type} {le : α → α → Bool} (T : TotalLe le) : ∀ {l : List α}, (srtL le l).Pairwise (fun a b => le a b = true)
  | [] => List.Pairwise.nil
  | x :: r => insL_pw T (srtL_pw T (l := r))
theorem insL_flt {α : Type} {le : α → α → Bool} (T : TotalLe le) {x c : α} : ∀ {l : List α}, (insL le x l).filter (sameRank le c) = (x :: l).filter (sameRank le c)
  | [] => rfl
  | y :: r => by
    unfold insL
    split
    · rfl
    · rename_i q
      rw [List.filter_cons, insL_flt T (l := r)]
      rw [List.filter_cons, List.filter_cons, List.filter_cons]
      cases hx : sameRank le c x with
      | false => rfl
      | true =>
        cases hy : sameRank le c y with
        | false => rfl
        | true =>
          unfold sameRank at hx hy
          rw [Bool.and_eq_true] at hx hy
          exact absurd (T.trans _ _ _ hx.2 hy.1) q
theorem srtL_flt {α : Type} {le : α → α → Bool} (T : TotalLe le) {c : α} : ∀ {l : List α}, (srtL le l).filter (sameRank le c) = l.filter (sameRank le c)
  | [] => rfl
  | x :: r => by
    show (insL le x (srtL le r)).filter _ = _
    rw [insL_flt T, List.filter_cons, List.filter_cons, srtL_flt T]
theorem srtL_eq {α : Type} {le : α → α → Bool} (T : TotalLe le) (l : List α) : srtL le l = l.mergeSort le := sort_unique T (srtL_pw T) fun _ => srtL_flt T

/-! ### values and what they stand for, place by place -/
section
variable {W : Wd} {m : Nat → Addr} {n : Nat} {H : Hp}
theorem each_of {l : List D} {R : D → V → Value → Prop} (hR : ∀ d ∈ l, ∀ v u, VR W m n H d v → RelV v u → R d v u) : ∀ {l' : List D}, (∀ d ∈ l', d ∈ l) → ∀ {xs : List V} {us : List Value}, VRs W m n H l' xs → Vals xs us → EachIs (fun u (b : D × V) => VR W m n H b.1 b.2 ∧ RelV b.2 u ∧ R b.1 b.2 u) us (l'.zip xs)
  | [], _, xs, us, h, r => by
    simp only [VRs] at h
    subst h
    cases r
    exact .nil
  | d :: l', hl, xs, us, h, r => by
    simp only [VRs] at h
    obtain ⟨x, rr, rfl, h1, h2⟩ := h
    cases r with
    | cons a b => exact .cons ⟨h1, a, hR d (hl d List.mem_cons_self) _ _ h1 a⟩ (each_of hR (fun d hd => hl d (List.mem_cons_of_mem _ hd)) h2 b)
theorem of_each {R : D → V → Value → Prop} : ∀ {us : List Value} {bs : List (D × V)}, EachIs (fun u (b : D × V) => VR W m n H b.1 b.2 ∧ RelV b.2 u ∧ R b.1 b.2 u) us bs → VRs W m n H (bs.map (·.1)) (bs.map (·.2)) ∧ Vals (bs.map (·.2)) us
  | _, _, .nil => ⟨VRs.nil, .nil⟩
  | _, _, .cons h r => ⟨VRs.cons h.1 (of_each r).1, .cons h.2.1 (of_each r).2⟩
theorem VRs.zip1 : ∀ {l : List D} {xs : List V}, VRs W m n H l xs → (l.zip xs).map (·.1) = l
  | [], _, h => by
    simp only [VRs] at h
    subst h
    rfl
  | d :: l, xs, h => by
    simp only [VRs] at h
    obtain ⟨x, r, rfl, _, h2⟩ := h
    show d :: (l.zip r).map (·.1) = _
    rw [VRs.zip1 h2]
end
/-- sorted by f's ints: the ties -/
def kI : D → Int × Int
  | .tup [.int i, _, .int j, _] => (i, j)
  | _ => (0, 0)
def leI (x y : D) : Bool := decide ((kI x).1 < (kI y).1 ∨ ((kI x).1 = (kI y).1 ∧ (kI x).2 ≤ (kI y).2))
theorem leI_total : TotalLe leI := ⟨fun a b c h1 h2 => by unfold leI at *; simp only [decide_eq_true_eq] at *; omega, fun a b => by unfold leI; simp only [decide_eq_true_eq]; omega⟩
def tieB : D → Bool
  | .tup [.int _, .str _, .int _, .str _] => true
  | _ => false
theorem tieB_of {d : D} (h : tieB d = true) : ∃ i a j c, d = .tup [.int i, .str a, .int j, .str c] := by
  unfold tieB at h
  split at h
  · exact ⟨_, _, _, _, rfl⟩
  · cases h
section
variable {X : Cx} {W : Wd} {pins : List (Addr × Obj)} {σ : L2.St} {H : Hp} {s : Shared} {Q : VK} {m : Nat → Addr} {h : AH}
theorem VR.reads (I : Inv X pins σ H s) (hK : X.K = W.K) (S : SR W m h H) {k : Nat} {d : D} {v : V} {u : Value} {pd : PyData} (hv : VR W m h.length H d v) (hp : toP k h d = some pd) (r : RelV v u) : ∃ as, Reads s.heap u pd as :=
  Dp.reads I pd v u (hK ▸ toP_Dp S k d v pd hv hp) r
/-- sorted(xs, key=f), xs ties -/
theorem run_sortK {K : PySem.W.Frag} {x name qual : Str} {st : Stmt} {f : Addr} {fd : FuncData} {t0 : Nat} {p0 p1 p2 p3 p4 p5 p6 p7 : Pos} {a : Addr} {l : List D} {xs : List V} (I : Inv X pins σ H s) (hK : X.K = W.K) (S : SR W m h H) (F : L2.Fun X.K name qual st f fd) (FS : FnScope [x] [x] (defScope st)) (hb : Binds X.K fd [x] [])
    (hbody : defBody st = keyBody x t0 p0 p1 p2 p3 p4 p5 p6 p7) (hloc : (defScope st).names.lookup x = some .local) (hdb : (x == ("__debug__" : Str)) = false) (hdp : X.A.depth + 20 < recursionLimit) (hu : X.A.units + 100 < cLine)
    (hs : SqL X.K H a xs) (hv : VRs W m h.length H l xs) (ht : l.all tieB = true)
    (q : ∀ ys p, VRs W m h.length H (srtL leI l) ys → H p = none → ys.length ≤ sizeLine → Q (.ref p) (upd H p (.lst ys))) :
    wpAny (model X.prog X.w) X.A (call (.builtin "sorted") [.ref a] [(Str.ofString "key", .ref f)]) (EP X pins σ Q) X.xe s := by
  obtain ⟨us, rv, hl, hz⟩ := I.list hs
  have hT : ∀ d ∈ l, tieB d = true := List.all_eq_true.mp ht
  let ky : D × V → PyData := fun b => .tuple [.int (kI b.1).1, .int (kI b.1).2]
  let R : D → V → Value → Prop := fun d v u => ∃ i a j c, d = .tup [.int i, .str a, .int j, .str c] ∧ ∃ as, Reads s.heap u (.tuple [.int i, .str a, .int j, .str c]) as
  have e := each_of (R := R) (l := l) (fun d hd v u h1 h2 => by
    obtain ⟨i, a, j, c, rfl⟩ := tieB_of (hT d hd)
    exact ⟨i, a, j, c, rfl, VR.reads I hK S (k := 3) h1 rfl h2⟩) (fun d hd => hd) hv rv
  have hlen : (l.zip xs).length = us.length := by rw [← rv.length, List.length_zip, hv.length, Nat.min_self]
  refine sorted_key_data (b := false) ky hl.isList e (AllAlike.of fun _ _ => rfl) (Sortable.tuples fun _ => ⟨_, _, rfl⟩) (by rw [hlen, ← rv.length]; exact hz) (fun p _ => ?_) (ksk_s1 _ _) (fun _ => ksk_l1 _ _) (fun _ => ksk_t1 _ _)
    (fun v p ⟨_, _, hR⟩ _ h tk kp => ?_) fun out c h' tk kp hn hD hlo eo => ?_
  · have hd : (ky p).depth = 1 := by simp [ky, PyData.depth, PyData.depthAll]
    omega
  · obtain ⟨i, a, j, c, e1, as, e2⟩ := hR
    have : ky p = .tuple [.int i, .int j] := by simp only [ky, e1, kI]
    rw [this]
    exact key_turn F FS hb hbody hloc hdb (by show X.A.depth + 8 < _ ; omega) (I.kIn.keeps kp) (I.nolimit.keeps kp) (PyProof.Rows.Reads.keeps kp e2)
  · rw [show dataLe false ky = _ from dataLe_ii (fun b : D × V => (kI b.1).1) (fun b => (kI b.1).2)] at eo
    obtain ⟨z1, z2⟩ := of_each (R := R) eo
    have z0 := sort_maps (r := fun p q : D × V => decide ((kI p.1).1 < (kI q.1).1 ∨ ((kI p.1).1 = (kI q.1).1 ∧ (kI p.1).2 ≤ (kI q.1).2))) (s := leI) (fun b : D × V => b.1) (l := l.zip xs) (fun _ _ _ _ => rfl)
    rw [hv.zip1, ← srtL_eq leI_total] at z0
    rw [z0] at z1
    have hL := (show _ ≤ sizeLine from z2.length ▸ hlo ▸ hlen ▸ rv.length ▸ hz)
    have hf : H (s.heap.objs.size + 1) = none := I.hok.fresh (Nat.le_succ _)
    refine ⟨.ref (s.heap.objs.size + 1), upd H (s.heap.objs.size + 1) (.lst _), I.laid (t' := tk) kp (Nat.le_succ _) ⟨hL, out, c, z2, ?_⟩, rfl, q _ _ z1 hf hL⟩
    exact hD
end
end PI
/-! PI9: built-in functions. -/
namespace PI
open PySem L2 PyProof.Rows

abbrev OpL := List D → AH → Option (D × AH)
/-- a built-in, called with values that stand for data, does as op does -/
def CallI (X : Cx) (W : Wd) (f : Value) (op : OpL) : Prop := ∀ (pins : List (Addr × Obj)) (s : Shared) (σ : L2.St) (H : Hp) (vs : List V) (us : List Value) (Q : VK) (m : Nat → Addr) (h : AH) (ds : List D) (d : D) (h' : AH),
  Inv X pins σ H s → SR W m h H → VRs W m h.length H ds vs → Vals vs us → op ds h = some (d, h') →
  (∀ m' H' v, SR W m' h' H' → Ext m h.length H m' h'.length H' → VR W m' h'.length H' d v → Q v H') → wpAny (model X.prog X.w) X.A (call f us) (EP X pins σ Q) X.xe s
/-- the same, from a rule over values -/
def CalR (W : Wd) (r : List V → Hp → VK → Prop) (op : OpL) : Prop := ∀ (H : Hp) (vs : List V) (Q : VK) (m : Nat → Addr) (h : AH) (ds : List D) (d : D) (h' : AH), SR W m h H → VRs W m h.length H ds vs → op ds h = some (d, h') →
  (∀ m' H' v, SR W m' h' H' → Ext m h.length H m' h'.length H' → VR W m' h'.length H' d v → Q v H') → r vs H Q
theorem CallI.of {X : Cx} {W : Wd} {f : Value} {r : List V → Hp → VK → Prop} {op : OpL} (hc : CallR X f r) (hr : CalR W r op) : CallI X W f op :=
  fun pins s σ H vs us Q m h ds d h' I S hv rv e q => hc pins s σ H vs us Q I rv (hr H vs Q m h ds d h' S hv e q)
theorem CallI.or {X : Cx} {W : Wd} {f : Value} {op op' : OpL} (a : CallI X W f op) (b : CallI X W f op') : CallI X W f fun ds h => (op ds h).or (op' ds h) :=
  fun pins s σ H vs us Q m h ds d h' I S hv rv e q => by
    cases z : op ds h with
    | some x =>
      simp only [z, Option.some_or] at e
      exact a pins s σ H vs us Q m h ds d h' I S hv rv (z.trans e) q
    | none =>
      simp only [z, Option.none_or] at e
      exact b pins s σ H vs us Q m h ds d h' I S hv rv e q
theorem CallI.cong {X : Cx} {W : Wd} {f : Value} {op op' : OpL} (a : CallI X W f op) (e : ∀ ds h, op' ds h = op ds h) : CallI X W f op' :=
  fun pins s σ H vs us Q m h ds d h' I S hv rv z q => a pins s σ H vs us Q m h ds d h' I S hv rv ((e ds h).symm.trans z) q
/-- f(e, ..), f a built-in -/
def cB (op : OpL) (fa : Ev → AH → Res (List D)) : Ev → AH → Res D := fun r h => (fa r h).bind fun ds h1 => match op ds h1 with
  | some (d, h2) => .ok d h2
  | none => .bad
section
variable {X : Cx} {W : Wd} {Wx : WX} {x : Str} {p pos : Pos} {e : Expr} {es : List Expr} {fa : Ev → AH → Res (List D)} {op : OpL} {id : String}
theorem args_fin {m : Nat → Addr} {h : AH} {H : Hp} {s : L2.St} {Q : VK} {q : Res (List D)} (y : Fin W Wx m h H s (q.bind fun ds h1 => match op ds h1 with
  | some (d, h2) => .ok d h2
  | none => .bad) fun m' h' H' d => ∀ v, VR W m' h'.length H' d v → Q v H') :
    Fin W Wx m h H s q fun m1 h1 H1 ds => ∀ vs, VRs W m1 h1.length H1 ds vs → ∃ m h ds d h', SR W m h H1 ∧ VRs W m h.length H1 ds vs ∧ op ds h = some (d, h') ∧ ∀ m' H' v, SR W m' h' H' → Ext m h.length H1 m' h'.length H' → VR W m' h'.length H' d v → Q v H' :=
  (Fin.bind y).imp fun m1 h1 H1 ds S1 e1 y1 vs hv => by
    cases z : op ds h1 with
    | none => simp only [z] at y1; exact False.elim y1
    | some t =>
      obtain ⟨d, h2⟩ := t
      simp only [z] at y1
      exact ⟨m1, h1, ds, d, h2, S1, hv, z, fun m' H' v S' e' hv' => y1 m' H' S' e' v hv'⟩
theorem pi_callB (hc : CallI X W (.builtin id) op) (hg : Gl X x) (hm : X.mg x = none) (hv : bootBuiltins x = some (.builtin id)) (ha : PA X (e :: es) (tA W Wx fa)) (hn : x ≠ "__name__") (hdb : (x == ("__debug__" : Str)) = false)
    (he : starEach (e :: es) X.env = (false, eval e X.env) :: starEach es X.env) (hpl : (backTo pos (starEach es X.env)).any (·.1) = false) : PE X (.Call (.Name x p) (e :: es) [] pos) (tI W Wx (cB op fa)) := by
  refine ⟨fun pins s σ H Q I ⟨m, h, r, S, E, y⟩ => ?_⟩
  refine wpAny_Call_Name_kw (ld_blt I hg hm hv ?_ hn hdb)
  exact callWith_builtin1 (thn (ha.run pos pins s σ H _ I ⟨m, h, r, S, E, args_fin y⟩) fun us s1 ⟨vs, H1, I1, r1, m1, h1, ds, d, h', S1, hv1, z, q1⟩ => hc pins s1 σ H1 vs us Q m1 h1 ds d h' I1 S1 hv1 r1 z q1) he hpl
theorem pi_callTy {T : String} (hc : CallI X W (.type T) op) (hg : Gl X x) (hm : X.mg x = none) (hv : bootBuiltins x = some (.type T)) (ha : PA X (e :: es) (tA W Wx fa)) (hn : x ≠ "__name__") (hdb : (x == ("__debug__" : Str)) = false)
    (he : starEach (e :: es) X.env = (false, eval e X.env) :: starEach es X.env) (hpl : (backTo pos (starEach es X.env)).any (·.1) = false) : PE X (.Call (.Name x p) (e :: es) [] pos) (tI W Wx (cB op fa)) := by
  refine ⟨fun pins s σ H Q I ⟨m, h, r, S, E, y⟩ => ?_⟩
  refine wpAny_Call_Name_kw (ld_blt I hg hm hv ?_ hn hdb)
  exact callWith_type1 (thn (ha.run pos pins s σ H _ I ⟨m, h, r, S, E, args_fin y⟩) fun us s1 ⟨vs, H1, I1, r1, m1, h1, ds, d, h', S1, hv1, z, q1⟩ => hc pins s1 σ H1 vs us Q m1 h1 ds d h' I1 S1 hv1 r1 z q1) he hpl
end

/-! ### sequences -/
def tupD : D → Option (List D)
  | .tup l => some l
  | .kt l => some l
  | _ => none
def dInt : D → Option Int
  | .int i => some i
  | _ => none
def dBl : D → Option Bool
  | .bl i => some i
  | _ => none
def dStr : D → Option Str
  | .str i => some i
  | _ => none
section
variable {W : Wd} {m : Nat → Addr} {h : AH} {H : Hp} {d : D} {v : V} {l : List D}
theorem tupD_ok (hv : VR W m h.length H d v) (e : tupD d = some l) : ∃ p xs, v = .ref p ∧ SqT W.K H p xs ∧ VRs W m h.length H l xs := by
  cases d with
  | tup l' =>
    cases e
    simp only [VR] at hv
    obtain ⟨p, xs, rfl, h2, h3⟩ := hv
    exact ⟨p, xs, rfl, h2.sq, h3⟩
  | kt l' =>
    cases e
    simp only [VR] at hv
    obtain ⟨p, xs, rfl, h2, h3⟩ := hv
    exact ⟨p, xs, rfl, KT.sq h2, h3⟩
  | _ => cases e
theorem ints_ok : ∀ {l : List D} {xs : List V} {ns : List Int}, VRs W m h.length H l xs → mapO dInt l = some ns → xs = ns.map V.int
  | [], xs, ns, hv, e => by
    cases e
    simp only [VRs] at hv
    exact hv
  | d :: l, xs, ns, hv, e => by
    simp only [VRs] at hv
    obtain ⟨x, r, rfl, h1, h2⟩ := hv
    simp only [mapO] at e
    cases d with
    | int i =>
      simp only [dInt] at e
      cases q : mapO dInt l with
      | none => simp [q] at e
      | some ms =>
        simp [q] at e
        subst e
        simp only [VR] at h1
        rw [h1, ints_ok h2 q]
        rfl
    | _ => simp [dInt] at e
theorem bls_ok : ∀ {l : List D} {xs : List V} {ns : List Bool}, VRs W m h.length H l xs → mapO dBl l = some ns → xs = ns.map V.bl
  | [], xs, ns, hv, e => by
    cases e
    simp only [VRs] at hv
    exact hv
  | d :: l, xs, ns, hv, e => by
    simp only [VRs] at hv
    obtain ⟨x, r, rfl, h1, h2⟩ := hv
    simp only [mapO] at e
    cases d with
    | bl i =>
      simp only [dBl] at e
      cases q : mapO dBl l with
      | none => simp [q] at e
      | some ms =>
        simp [q] at e
        subst e
        simp only [VR] at h1
        rw [h1, bls_ok h2 q]
        rfl
    | _ => simp [dBl] at e
theorem strs_ok : ∀ {l : List D} {xs : List V} {ns : List Str}, VRs W m h.length H l xs → mapO dStr l = some ns → xs = ns.map V.str
  | [], xs, ns, hv, e => by
    cases e
    simp only [VRs] at hv
    exact hv
  | d :: l, xs, ns, hv, e => by
    simp only [VRs] at hv
    obtain ⟨x, r, rfl, h1, h2⟩ := hv
    simp only [mapO] at e
    cases d with
    | str i =>
      simp only [dStr] at e
      cases q : mapO dStr l with
      | none => simp [q] at e
      | some ms =>
        simp [q] at e
        subst e
        simp only [VR] at h1
        rw [h1, strs_ok h2 q]
        rfl
    | _ => simp [dStr] at e
theorem strs_back : ∀ (l : List Str), VRs W m h.length H (l.map D.str) (l.map V.str)
  | [] => VRs.nil
  | x :: l => VRs.cons (by simp only [VR]) (strs_back l)
end
section
variable {X : Cx} {W : Wd}
theorem one_fin {m : Nat → Addr} {h : AH} {H : Hp} {d : D} {v : V} {Q : VK} (S : SR W m h H) (q : ∀ m' H' v, SR W m' h H' → Ext m h.length H m' h.length H' → VR W m' h.length H' d v → Q v H') (hv : VR W m h.length H d v) : Q v H := q m H v S (Ext.refl _ _ _) hv

/-! len -/
def lenO : OpL := fun ds h => match ds with
  | [d] => match d with
    | .str x => if x.length ≤ LIM then some (.int x.length, h) else none
    | d => match (listD h d).or (tupD d) with
      | some l => some (.int l.length, h)
      | none => none
  | _ => none
theorem ci_len (hK : X.K = W.K) : CallI X W (.builtin "len") lenO := CallI.of call_len fun H vs Q m h ds d h' S hv e q => by
  match ds, hv, e with
  | [], _, e => cases e
  | [x], hv, e =>
    obtain ⟨v, rfl, hv1⟩ := VRs.one hv
    simp only [lenO] at e
    split at e
    · rename_i x
      simp only [VR] at hv1
      subst hv1
      split at e
      · rename_i hl
        cases e
        exact ⟨_, x.length, rfl, ⟨lim_le hl, rfl⟩, one_fin S q (by simp only [VR])⟩
      · cases e
    · cases z : listD h x with
      | some l =>
        simp only [z, Option.some_or] at e
        cases e
        obtain ⟨p, xs, rfl, h1, h2⟩ := listD_ok S hv1 z
        refine ⟨_, xs.length, rfl, .inl ⟨xs, hK ▸ h1, rfl⟩, ?_⟩
        rw [h2.length]
        exact one_fin S q (by simp only [VR])
      | none =>
        simp only [z, Option.none_or] at e
        cases z2 : tupD x with
        | none => simp only [z2] at e; cases e
        | some l =>
          simp only [z2] at e
          cases e
          obtain ⟨p, xs, rfl, h1, h2⟩ := tupD_ok hv1 z2
          refine ⟨_, xs.length, rfl, .inr ⟨xs, hK ▸ h1, rfl⟩, ?_⟩
          rw [h2.length]
          exact one_fin S q (by simp only [VR])
  | _ :: _ :: _, _, e => cases e
def lenDO : OpL := fun ds h => match ds with
  | [.ref a] => match h[a]? with
    | some (.dK l) => some (.int l.length, h)
    | _ => none
  | _ => none
theorem ci_lenD : CallI X W (.builtin "len") lenDO := CallI.of call_lenD fun H vs Q m h ds d h' S hv e q => by
  unfold lenDO at e
  split at e
  · rename_i a
    obtain ⟨v, rfl, hv1⟩ := VRs.one hv
    replace hv := hv1
    simp only [VR] at hv
    obtain ⟨ha, rfl⟩ := hv
    split at e
    · rename_i l q1
      cases e
      obtain ⟨_, p1, ys, rfl, r1⟩ := S.obj a _ q1
      refine ⟨m a, ys, rfl, p1, ?_⟩
      rw [r1.length]
      exact one_fin S q (by simp only [VR])
    · cases e
  · cases e

/-! abs, int, str, max, min, any, all, sum -/
def absO : OpL := fun ds h => match ds with
  | [.int i] => some (.int (if i < 0 then -i else i), h)
  | _ => none
theorem ci_abs : CallI X W (.builtin "abs") absO := CallI.of call_abs fun H vs Q m h ds d h' S hv e q => by
  unfold absO at e
  split at e
  · obtain ⟨v, rfl, hv1⟩ := VRs.one hv
    replace hv := hv1
    simp only [VR] at hv
    cases e
    exact ⟨_, by rw [hv], one_fin S q (by simp only [VR])⟩
  · cases e
def intO : OpL := fun ds h => match ds with
  | [.int i] => some (.int i, h)
  | [.bl k] => some (.int (if k then 1 else 0), h)
  | _ => none
theorem ci_int : CallI X W (.type "int") intO := CallI.of call_int1 fun H vs Q m h ds d h' S hv e q => by
  unfold intO at e
  split at e
  · obtain ⟨v, rfl, hv1⟩ := VRs.one hv
    replace hv := hv1
    simp only [VR] at hv
    cases e
    exact .inl ⟨_, by rw [hv], one_fin S q (by simp only [VR])⟩
  · obtain ⟨v, rfl, hv1⟩ := VRs.one hv
    replace hv := hv1
    simp only [VR] at hv
    cases e
    exact .inr ⟨_, by rw [hv], one_fin S q (by simp only [VR])⟩
  · cases e
def strO : OpL := fun ds h => match ds with
  | [.int i] => if i.natAbs < 2 ^ 64 then some (.str (toString i), h) else none
  | [.str x] => some (.str x, h)
  | _ => none
theorem call_str_both : CallR X (.type "str") (fun xs H Q => (∃ i, xs = [.int i] ∧ i.natAbs.log2 < 1920 ∧ Q (.str (toString i)) H) ∨ ∃ a, xs = [.str a] ∧ Q (.str a) H) := by
  intro pins s σ H xs us Q I r h
  exact h.elim (fun h => call_str_int pins s σ H xs us Q I r h) fun h => SkE.call_str_str pins s σ H xs us Q I r h
theorem ci_str : CallI X W (.type "str") strO := CallI.of call_str_both fun H vs Q m h ds d h' S hv e q => by
  unfold strO at e
  split at e
  · obtain ⟨v, rfl, hv1⟩ := VRs.one hv
    replace hv := hv1
    simp only [VR] at hv
    split at e
    · rename_i i hi
      cases e
      refine .inl ⟨_, by rw [hv], ?_, one_fin S q (by simp only [VR])⟩
      by_cases h0 : i.natAbs = 0
      · rw [h0]; decide
      · exact Nat.lt_trans ((Nat.log2_lt h0).mpr hi) (by decide)
    · cases e
  · obtain ⟨v, rfl, hv1⟩ := VRs.one hv
    replace hv := hv1
    simp only [VR] at hv
    cases e
    exact .inr ⟨_, by rw [hv], one_fin S q (by simp only [VR])⟩
  · cases e
def maxO : OpL := fun ds h => match ds with
  | [.int i, .int j] => some (.int (if j > i then j else i), h)
  | _ => none
theorem ci_max2 (hc : X.calm = true) : CallI X W (.builtin "max") maxO := CallI.of (call_max2 hc) fun H vs Q m h ds d h' S hv e q => by
  unfold maxO at e
  split at e
  · obtain ⟨v, u, rfl, h1, h2⟩ := VRs.two hv
    simp only [VR] at h1 h2
    subst h1 h2
    cases e
    exact ⟨_, _, rfl, one_fin S q (by simp only [VR])⟩
  · cases e
def minO : OpL := fun ds h => match ds with
  | [.int i, .int j] => some (.int (if j < i then j else i), h)
  | _ => none
theorem ci_min2 (hc : X.calm = true) : CallI X W (.builtin "min") minO := CallI.of (call_min2 hc) fun H vs Q m h ds d h' S hv e q => by
  unfold minO at e
  split at e
  · obtain ⟨v, u, rfl, h1, h2⟩ := VRs.two hv
    simp only [VR] at h1 h2
    subst h1 h2
    cases e
    exact ⟨_, _, rfl, one_fin S q (by simp only [VR])⟩
  · cases e
def topI : List Int → Int
  | [] => 0
  | [x] => x
  | x :: r => if topI r > x then topI r else x
theorem topI_is : ∀ {l : List Int}, l ≠ [] → topI l ∈ l ∧ ∀ y ∈ l, y ≤ topI l
  | [], h => absurd rfl h
  | [x], _ => ⟨List.mem_singleton.mpr rfl, fun y hy => by rw [List.mem_singleton.mp hy]; exact Int.le_refl _⟩
  | x :: y :: r, _ => by
    obtain ⟨h1, h2⟩ := topI_is (l := y :: r) (by simp)
    unfold topI
    split
    · rename_i q
      exact ⟨List.mem_cons_of_mem _ h1, fun z hz => (List.mem_cons.mp hz).elim (fun e => by rw [e]; omega) (h2 z)⟩
    · rename_i q
      exact ⟨List.mem_cons_self, fun z hz => (List.mem_cons.mp hz).elim (fun e => by rw [e]; exact Int.le_refl _) fun hz => by have := h2 z hz; omega⟩
def maxLO : OpL := fun ds h => match ds with
  | [d] => match listD h d with
    | some l => match mapO dInt l with
      | some ns => if ns.isEmpty = true then none else some (.int (topI ns), h)
      | none => none
    | none => none
  | _ => none
theorem ci_maxL (hK : X.K = W.K) (hc : X.calm = true) : CallI X W (.builtin "max") maxLO := CallI.of (cr_max hc) fun H vs Q m h ds d h' S hv e q => by
  unfold maxLO at e
  split at e
  · obtain ⟨v, rfl, hv1⟩ := VRs.one hv
    replace hv := hv1
    split at e
    · rename_i l z
      obtain ⟨p, xs, rfl, h1, h2⟩ := listD_ok S hv z
      split at e
      · rename_i ns z2
        have e3 := ints_ok h2 z2
        subst e3
        split at e
        · cases e
        · rename_i hne
          cases e
          have hne' : ns ≠ [] := fun z => hne (by rw [z]; rfl)
          obtain ⟨t1, t2⟩ := topI_is hne'
          refine ⟨p, ns, rfl, hK ▸ h1, List.length_pos_iff.mpr hne', fun m0 hm hy => ?_⟩
          have em : m0 = topI ns := by have a := t2 m0 hm; have b := hy _ t1; omega
          rw [em]
          exact one_fin S q (by simp only [VR])
      · cases e
    · cases e
  · cases e
def botI : List Int → Int
  | [] => 0
  | [x] => x
  | x :: r => if botI r < x then botI r else x
theorem botI_is : ∀ {l : List Int}, l ≠ [] → botI l ∈ l ∧ ∀ y ∈ l, botI l ≤ y
  | [], h => absurd rfl h
  | [x], _ => ⟨List.mem_singleton.mpr rfl, fun y hy => by rw [List.mem_singleton.mp hy]; exact Int.le_refl _⟩
  | x :: y :: r, _ => by
    obtain ⟨h1, h2⟩ := botI_is (l := y :: r) (by simp)
    unfold botI
    split
    · rename_i q
      exact ⟨List.mem_cons_of_mem _ h1, fun z hz => (List.mem_cons.mp hz).elim (fun e => by rw [e]; omega) (h2 z)⟩
    · rename_i q
      exact ⟨List.mem_cons_self, fun z hz => (List.mem_cons.mp hz).elim (fun e => by rw [e]; exact Int.le_refl _) fun hz => by have := h2 z hz; omega⟩
def minLO : OpL := fun ds h => match ds with
  | [d] => match listD h d with
    | some l => match mapO dInt l with
      | some ns => if ns.isEmpty = true then none else some (.int (botI ns), h)
      | none => none
    | none => none
  | _ => none
theorem ci_minL (hK : X.K = W.K) (hc : X.calm = true) : CallI X W (.builtin "min") minLO := CallI.of (cr_min hc) fun H vs Q m h ds d h' S hv e q => by
  unfold minLO at e
  split at e
  · obtain ⟨v, rfl, hv1⟩ := VRs.one hv
    replace hv := hv1
    split at e
    · rename_i l z
      obtain ⟨p, xs, rfl, h1, h2⟩ := listD_ok S hv z
      split at e
      · rename_i ns z2
        have e3 := ints_ok h2 z2
        subst e3
        split at e
        · cases e
        · rename_i hne
          cases e
          have hne' : ns ≠ [] := fun z => hne (by rw [z]; rfl)
          obtain ⟨t1, t2⟩ := botI_is hne'
          refine ⟨p, ns, rfl, hK ▸ h1, List.length_pos_iff.mpr hne', fun m0 hm hy => ?_⟩
          have em : m0 = botI ns := by have a := t2 m0 hm; have b := hy _ t1; omega
          rw [em]
          exact one_fin S q (by simp only [VR])
      · cases e
    · cases e
  · cases e
def anyO (f : List Bool → Bool) : OpL := fun ds h => match ds with
  | [d] => match listD h d with
    | some l => match mapO dBl l with
      | some ns => some (.bl (f ns), h)
      | none => none
    | none => none
  | _ => none
theorem ci_bools {K : PySem.W.Frag} {f : List Bool → Bool} {v : Value} (hK : K = W.K) (hc : CallR X v fun vs H Q => ∃ (a : Addr) (bs : List Bool), vs = [V.ref a] ∧ SqL K H a (bs.map V.bl) ∧ Q (.bl (f bs)) H) : CallI X W v (anyO f) := CallI.of hc fun H vs Q m h ds d h' S hv e q => by
  unfold anyO at e
  split at e
  · obtain ⟨v, rfl, hv1⟩ := VRs.one hv
    replace hv := hv1
    split at e
    · rename_i l z
      obtain ⟨p, xs, rfl, h1, h2⟩ := listD_ok S hv z
      split at e
      · rename_i ns z2
        have e3 := bls_ok h2 z2
        subst e3
        cases e
        exact ⟨p, ns, rfl, hK ▸ h1, one_fin S q (by simp only [VR])⟩
      · cases e
    · cases e
  · cases e
theorem ci_any (hK : X.K = W.K) (hc : X.calm = true) : CallI X W (.builtin "any") (anyO fun l => l.any id) := ci_bools hK (cr_any hc)
theorem ci_all (hK : X.K = W.K) (hc : X.calm = true) : CallI X W (.builtin "all") (anyO fun l => l.all id) := ci_bools hK (cr_all hc)

/-! list, tuple -/
def listO : OpL := fun ds h => match ds with
  | [d] => match (listD h d).or (tupD d) with
    | some l => some (.ref h.length, h ++ [.lst l])
    | none => none
  | _ => none
theorem fin_lst {m : Nat → Addr} {h : AH} {H : Hp} {Q : VK} {l : List D} {xs : List V} {p : Addr} (S : SR W m h H) (hv : VRs W m h.length H l xs) (hp : H p = none)
    (q : ∀ m' H' v, SR W m' (h ++ [O.lst l]) H' → Ext m h.length H m' (h ++ [O.lst l]).length H' → VR W m' (h ++ [O.lst l]).length H' (.ref h.length) v → Q v H') : Q (.ref p) (upd H p (.lst xs)) :=
  new_lst (Wx := fun _ _ _ _ => False) (s := []) S hv hp fun m' H' S' e' v hv' => q m' H' v S' e' hv'
theorem seq_ok {m : Nat → Addr} {h : AH} {H : Hp} {d : D} {v : V} {l : List D} (S : SR W m h H) (hv : VR W m h.length H d v) (e : (listD h d).or (tupD d) = some l) : ∃ p xs, v = .ref p ∧ (SqL W.K H p xs ∨ SqT W.K H p xs) ∧ VRs W m h.length H l xs := by
  cases z : listD h d with
  | some l' =>
    rw [z, Option.some_or] at e
    cases e
    obtain ⟨p, xs, e, h1, h2⟩ := listD_ok S hv z
    exact ⟨p, xs, e, .inl h1, h2⟩
  | none =>
    rw [z, Option.none_or] at e
    obtain ⟨p, xs, e, h1, h2⟩ := tupD_ok hv e
    exact ⟨p, xs, e, .inr h1, h2⟩
theorem ci_list (hK : X.K = W.K) : CallI X W (.type "list") listO := CallI.of call_list_of fun H vs Q m h ds d h' S hv e q => by
  unfold listO at e
  split at e
  · obtain ⟨v, rfl, hv1⟩ := VRs.one hv
    replace hv := hv1
    split at e
    · rename_i l z
      cases e
      obtain ⟨p, xs, rfl, h1, h2⟩ := seq_ok S hv z
      exact ⟨p, xs, rfl, hK ▸ h1, fun l hl => fin_lst S h2 hl q⟩
    · cases e
  · cases e
def kD : Key → D
  | .inl i => .int i
  | .inr x => .str x
theorem kD_VR {m : Nat → Addr} {n : Nat} {H : Hp} (k : Key) : VR W m n H (kD k) (kV k) := by
  cases k <;> (simp only [kD, VR]; rfl)
theorem keys_VRs {m : Nat → Addr} {n : Nat} {H : Hp} : ∀ (l : List Key), VRs W m n H (l.map kD) (l.map kV)
  | [] => VRs.nil
  | k :: l => VRs.cons (kD_VR k) (keys_VRs l)
def listKO : OpL := fun ds h => match ds with
  | [.ref a] => match h[a]? with
    | some (.dK l) => some (.ref h.length, h ++ [.lst ((l.map (·.1)).map kD)])
    | _ => none
  | _ => none
theorem ci_listK (hc : X.calm = true) : CallI X W (.type "list") listKO := CallI.of (call_list_dK hc) fun H vs Q m h ds d h' S hv e q => by
  unfold listKO at e
  split at e
  · rename_i a
    obtain ⟨v, rfl, hv1⟩ := VRs.one hv
    replace hv := hv1
    simp only [VR] at hv
    obtain ⟨ha, rfl⟩ := hv
    split at e
    · rename_i l q1
      cases e
      obtain ⟨_, p1, ys, rfl, r1⟩ := S.obj a _ q1
      refine ⟨m a, ys, rfl, p1, fun p hp => ?_⟩
      have e2 : (ys.map fun kv => kV kv.1) = (l.map (·.1)).map kV := by rw [← r1.keys, List.map_map]; rfl
      rw [e2]
      exact fin_lst S (keys_VRs _) hp q
    · cases e
  · cases e
def tupO : OpL := fun ds h => match ds with
  | [d] => match listD h d with
    | some l => some (.tup l, h)
    | none => none
  | _ => none
theorem fin_tup {m : Nat → Addr} {h : AH} {H : Hp} {Q : VK} {l : List D} {xs : List V} {p : Addr} (S : SR W m h H) (hv : VRs W m h.length H l xs) (hp : H p = none)
    (q : ∀ m' H' v, SR W m' h H' → Ext m h.length H m' h.length H' → VR W m' h.length H' (.tup l) v → Q v H') : Q (.ref p) (upd H p (.tup xs)) :=
  new_tup (Wx := fun _ _ _ _ => False) (s := []) S hv hp fun m' H' S' e' v hv' => q m' H' v S' e' hv'
theorem ci_tup (hK : X.K = W.K) : CallI X W (.type "tuple") tupO := CallI.of call_tuple_of fun H vs Q m h ds d h' S hv e q => by
  unfold tupO at e
  split at e
  · obtain ⟨v, rfl, hv1⟩ := VRs.one hv
    replace hv := hv1
    split at e
    · rename_i l z
      cases e
      obtain ⟨p, xs, rfl, h1, h2⟩ := listD_ok S hv z
      exact ⟨p, xs, rfl, .inl ⟨hK ▸ h1, fun l hl => fin_tup S h2 hl q⟩⟩
    · cases e
  · cases e
/-! divmod -/
def dmO : OpL := fun ds h => match ds with
  | [.int i, .int j] => if 0 < j ∧ Builtin.divisionGoesByPylong i j = false then some (.tup [.int (i / j), .int (i % j)], h) else none
  | _ => none
theorem ci_dm : CallI X W (.builtin "divmod") dmO := CallI.of call_divmodW fun H vs Q m h ds d h' S hv e q => by
  unfold dmO at e
  split at e
  · obtain ⟨v, u, rfl, h1, h2⟩ := VRs.two hv
    simp only [VR] at h1 h2
    subst h1 h2
    split at e
    · rename_i hc
      cases e
      exact ⟨_, _, rfl, hc, fun p hp => fin_tup S (VRs.cons (by simp only [VR]) (VRs.cons (by simp only [VR]) VRs.nil)) hp q⟩
    · cases e
  · cases e
/-! repr -/
def reprO : OpL := fun ds h => match ds with
  | [d] => match d with
    | .int _ | .str _ | .bl _ | .non => none
    | d => match toP 8 h d with
      | some pd => if pd.showable = true ∧ pd.hasDict = false ∧ pd.depth ≤ 20 ∧ pd.shown.length ≤ LIM then some (.str pd.shown, h) else none
      | none => none
  | _ => none
theorem ci_repr (hK : X.K = W.K) (hg : X.A.guards = some []) (hu : X.A.units + 30 < cLine) : CallI X W (.builtin "repr") reprO := fun pins s σ H vs us Q m h ds d h' I S hv rv e q => by
  unfold reprO at e
  split at e
  · rename_i x
    obtain ⟨v, rfl, hv1⟩ := VRs.one hv
    replace hv := hv1
    obtain ⟨u, rfl, ru⟩ := vals1 rv
    split at e
    · cases e
    · cases e
    · cases e
    · cases e
    · split at e
      · rename_i pd z
        split at e
        · rename_i hh
          obtain ⟨h1, h2, h3, h4⟩ := hh
          cases e
          obtain ⟨as, r⟩ := VR.reads I hK S hv z ru
          have isr : ∃ p, u = .ref p := by
            cases x with
            | tup l => simp only [VR] at hv; obtain ⟨p, xs, rfl, _⟩ := hv; exact ⟨p, ru⟩
            | kt l => simp only [VR] at hv; obtain ⟨p, xs, rfl, _⟩ := hv; exact ⟨p, ru⟩
            | rl l => simp only [VR] at hv; obtain ⟨p, xs, rfl, _⟩ := hv; exact ⟨p, ru⟩
            | kl l => simp only [VR] at hv; obtain ⟨p, xs, rfl, _⟩ := hv; exact ⟨p, ru⟩
            | fd ks l => simp only [toP] at z; cases z
            | ft ks l => simp only [toP] at z; cases z
            | fi c gs l => simp only [toP] at z; cases z
            | ref a => simp only [VR] at hv; obtain ⟨_, rfl⟩ := hv; exact ⟨_, ru⟩
            | g k => simp only [toP] at z; cases z
            | _ => simp_all
          obtain ⟨p, rfl⟩ := isr
          refine PySem.repr_of_reads' r h1 (fun hd => by rw [h2] at hd; cases hd) hg (by omega) (fun b o e => e) (fun h'' t tk hk => ?_) (lim_le h4)
          refine ⟨.str pd.shown, H, I.kept hk, ⟨t, rfl⟩, ?_⟩
          exact q m H _ S (Ext.refl _ _ _) (by simp only [VR])
        · cases e
      · cases e
  · cases e
/-! sorted, without a key -/
def srtO : OpL := fun ds h => match ds with
  | [d] => match listD h d with
    | some l => match mapO (toP 8 h) l with
      | some ps => if (ps.all fun p => ps.all fun q => PySem.W.alike p q) = true ∧ (ps.all fun p => decide (p.depth ≤ 20)) = true ∧ ((ps.all fun p => match p with
          | .tuple (_ :: _) => true
          | _ => false) = true ∨ (ps.all fun p => match p with
          | .none => false
          | .tuple _ => false
          | _ => true) = true) then some (.ref h.length, h ++ [.lst (srtL (PySem.W.dataLe false fun d => (toP 8 h d).getD .none) l)]) else none
      | none => none
    | none => none
  | _ => none
theorem mapO_get {α β : Type} {f : α → Option β} {z : β} : ∀ {l : List α} {ps : List β}, mapO f l = some ps → (∀ x ∈ l, ∃ y ∈ ps, f x = some y) ∧ l.map (fun x => (f x).getD z) = ps
  | [], ps, e => by
    cases e
    exact ⟨fun x hx => absurd hx List.not_mem_nil, rfl⟩
  | x :: l, ps, e => by
    simp only [mapO] at e
    cases q : f x with
    | none => simp [q] at e
    | some y =>
      cases q2 : mapO f l with
      | none => simp [q, q2] at e
      | some r =>
        simp [q, q2] at e
        subst e
        obtain ⟨h1, h2⟩ := mapO_get (z := z) q2
        refine ⟨fun w hw => (List.mem_cons.mp hw).elim (fun e => ⟨y, List.mem_cons_self, e ▸ q⟩) fun hw => ?_, by rw [List.map_cons, q, h2]; rfl⟩
        obtain ⟨t, t1, t2⟩ := h1 w hw
        exact ⟨t, List.mem_cons_of_mem _ t1, t2⟩
theorem ci_sorted (hK : X.K = W.K) (hu : X.A.units + 100 < cLine) : CallI X W (.builtin "sorted") srtO := fun pins s σ H vs us Q m h ds d h' I S hv rv e q => by
  unfold srtO at e
  split at e
  · rename_i x
    obtain ⟨v, rfl, hv1⟩ := VRs.one hv
    replace hv := hv1
    obtain ⟨u, rfl, ru⟩ := vals1 rv
    split at e
    · rename_i l z
      obtain ⟨p, xs, rfl, h1, h2⟩ := listD_ok S hv z
      split at e
      · rename_i ps z2
        split at e
        · rename_i hh
          obtain ⟨g1, g2, g3⟩ := hh
          cases e
          obtain rfl : u = Value.ref p := ru
          obtain ⟨its, rl, hl, hz⟩ := I.list (hK ▸ h1)
          obtain ⟨m1, m2⟩ := mapO_get (z := PyData.none) z2
          let en : D × V → PyData := fun b => (toP 8 h b.1).getD .none
          let R : D → V → Value → Prop := fun d v u => ∃ as, Reads s.heap u ((toP 8 h d).getD .none) as
          have e1 := each_of (R := R) (l := l) (fun d hd v u q1 q2 => by
            obtain ⟨y, _, e⟩ := m1 d hd
            show ∃ as, Reads s.heap u ((toP 8 h d).getD .none) as
            rw [e]
            exact VR.reads I hK S q1 e q2) (fun d hd => hd) h2 rl
          have hlen : (l.zip xs).length = its.length := by rw [← rl.length, List.length_zip, h2.length, Nat.min_self]
          have en_map : (l.zip xs).map en = ps := by
            rw [← m2]
            have := congrArg (List.map fun d => (toP 8 h d).getD PyData.none) h2.zip1
            rw [List.map_map] at this
            exact this
          have en_mem : ∀ b ∈ l.zip xs, en b ∈ ps := fun b hb => en_map ▸ List.mem_map_of_mem hb
          refine PySem.W.sorted_data (enc := en) hl.isList e1 (e1.mono fun _ _ ⟨_, _, r⟩ => r) (fun a ha b hb => ?_) ?_ (by rw [hlen, ← rl.length]; exact hz) (fun b hb => ?_) fun out hlo eo => ?_
          · rw [en_map] at ha hb
            exact List.all_eq_true.mp (List.all_eq_true.mp g1 a ha) b hb
          · rw [en_map]
            rcases g3 with g3 | g3
            · refine .inl fun d hd => ?_
              have := List.all_eq_true.mp g3 d hd
              split at this
              · exact ⟨_, _, rfl⟩
              · cases this
            · refine .inr fun d hd => ?_
              have := List.all_eq_true.mp g3 d hd
              constructor
              · rintro rfl
                cases this
              · rintro xs rfl
                cases this
          · have := of_decide_eq_true (List.all_eq_true.mp g2 _ (en_mem b hb))
            omega
          · obtain ⟨z1, z3⟩ := of_each (R := R) eo
            have T : PySem.W.TotalLe (PySem.W.dataLe false fun d : D => (toP 8 h d).getD .none) := PySem.W.sortLe_total (listOrd itemOrd) false fun d : D => PySem.W.keyToks ((toP 8 h d).getD .none)
            have z0 := PySem.W.sort_maps (r := PySem.W.dataLe false en) (s := PySem.W.dataLe false fun d : D => (toP 8 h d).getD .none) (fun b : D × V => b.1) (l := l.zip xs) (fun _ _ _ _ => rfl)
            rw [h2.zip1, ← srtL_eq T] at z0
            rw [z0] at z1
            have hf : H (s.heap.objs.size + 1) = none := I.hok.fresh (Nat.le_succ _)
            obtain ⟨ep, hat⟩ := sortedAll_at s.heap its out.toArray
            have kp : ∀ b o, s.heap.get? b = some o → (sortedAll s.heap its out.toArray).get? b = some o := fun b o q1 => sortedAll_old q1
            refine ⟨.ref (s.heap.objs.size + 1), upd H (s.heap.objs.size + 1) (.lst _), I.laid (t' := s.toks) kp (Nat.le_succ _) ⟨?_, out, ep, z3, hat⟩, rfl, fin_lst S z1 hf q⟩
            rw [z3.length, hlo, hlen, ← rl.length]
            exact hz
        · cases e
      · cases e
    · cases e
  · cases e
end
end PI
/-! PIA: methods of built-in types, slices, f-strings. -/
namespace PI
open PySem L2 PyProof.Rows

/-- a built-in method, called with values that stand for data, does as op does -/
def MthI (X : Cx) (W : Wd) (id : String) (op : OpL) : Prop := ∀ (pins : List (Addr × Obj)) (s : Shared) (σ : L2.St) (H : Hp) (x : V) (u : Value) (vs : List V) (us : List Value) (Q : VK) (m : Nat → Addr) (h : AH) (o : D) (ds : List D) (d : D) (h' : AH),
  Inv X pins σ H s → SR W m h H → VR W m h.length H o x → RelV x u → VRs W m h.length H ds vs → Vals vs us → op (o :: ds) h = some (d, h') →
  (∀ m' H' v, SR W m' h' H' → Ext m h.length H m' h'.length H' → VR W m' h'.length H' d v → Q v H') → wpAny (model X.prog X.w) X.A (call (.builtin id) (u :: us)) (EP X pins σ Q) X.xe s
theorem MthI.of {X : Cx} {W : Wd} {id : String} {r : V → List V → Hp → VK → Prop} {op : OpL} (hm : MtR X id r)
    (hr : ∀ (H : Hp) (x : V) (vs : List V) (Q : VK) (m : Nat → Addr) (h : AH) (o : D) (ds : List D) (d : D) (h' : AH), SR W m h H → VR W m h.length H o x → VRs W m h.length H ds vs → op (o :: ds) h = some (d, h') →
      (∀ m' H' v, SR W m' h' H' → Ext m h.length H m' h'.length H' → VR W m' h'.length H' d v → Q v H') → r x vs H Q) : MthI X W id op :=
  fun pins s σ H x u vs us Q m h o ds d h' I S ho ru hv rv e q => hm pins s σ H x vs u us Q I ru rv (hr H x vs Q m h o ds d h' S ho hv e q)
theorem MthI.or {X : Cx} {W : Wd} {id : String} {op op' : OpL} (a : MthI X W id op) (b : MthI X W id op') : MthI X W id fun ds h => (op ds h).or (op' ds h) :=
  fun pins s σ H x u vs us Q m h o ds d h' I S ho ru hv rv e q => by
    cases z : op (o :: ds) h with
    | some x =>
      simp only [z, Option.some_or] at e
      exact a pins s σ H _ u vs us Q m h o ds d h' I S ho ru hv rv (z.trans e) q
    | none =>
      simp only [z, Option.none_or] at e
      exact b pins s σ H _ u vs us Q m h o ds d h' I S ho ru hv rv e q
/-- the type of a value, as its methods are looked up -/
def tyD (T : String) (h : AH) : D → Bool
  | .str _ => T == "str"
  | .kt _ => T == "tuple"
  | .rl _ => T == "list"
  | .kl _ => T == "list"
  | .ref a => match h[a]? with
    | some (.lst _) => T == "list"
    | some (.frz (.lst _)) => T == "list"
    | some (.dK _) => T == "dict"
    | some (.dT _) => T == "dict"
    | _ => false
  | _ => false
theorem tyD_ok {W : Wd} {m : Nat → Addr} {h : AH} {H : Hp} {T : String} {d : D} {v : V} (S : SR W m h H) (hv : VR W m h.length H d v) (e : tyD T h d = true) : tyV W.K T v H := by
  cases d with
  | str x =>
    simp only [VR] at hv
    subst hv
    exact beq_iff_eq.mp e
  | kt l =>
    simp only [VR] at hv
    obtain ⟨p, xs, rfl, ⟨o, its, n, h1, h2, h3, _⟩, _⟩ := hv
    exact .inr (.inl ⟨beq_iff_eq.mp e, o, h1, h2, h3⟩)
  | rl l =>
    simp only [VR] at hv
    obtain ⟨p, xs, rfl, h2, h3⟩ := hv
    exact .inl ⟨beq_iff_eq.mp e, xs, RLs.sq (.inl h2)⟩
  | kl l =>
    simp only [VR] at hv
    obtain ⟨p, xs, rfl, h2, h3⟩ := hv
    exact .inl ⟨beq_iff_eq.mp e, xs, KLf.sq h2⟩
  | ref a =>
    simp only [VR] at hv
    obtain ⟨ha, rfl⟩ := hv
    simp only [tyD] at e
    split at e
    · rename_i l q
      obtain ⟨xs, h1, _⟩ := S.lst q (.inl rfl)
      exact .inl ⟨beq_iff_eq.mp e, xs, h1⟩
    · rename_i l q
      obtain ⟨xs, h1, _⟩ := S.lst q (.inr rfl)
      exact .inl ⟨beq_iff_eq.mp e, xs, h1⟩
    · rename_i l q
      obtain ⟨_, p1, ys, rfl, _⟩ := S.obj a _ q
      exact .inr (.inr (.inl ⟨beq_iff_eq.mp e, .inl ⟨ys, p1⟩⟩))
    · rename_i l q
      obtain ⟨_, p1, ys, rfl, _⟩ := S.obj a _ q
      exact .inr (.inr (.inl ⟨beq_iff_eq.mp e, .inr ⟨ys, p1⟩⟩))
    · cases e
  | _ => cases e
/-- o.m(e, ..), m of a built-in type -/
def cBM (T : String) (op : OpL) (fo : Ev → AH → Res D) (fa : Ev → AH → Res (List D)) : Ev → AH → Res D := fun r h => (fo r h).bind fun o h1 => if tyD T h1 o = true then (fa r h1).bind fun ds h2 => match op (o :: ds) h2 with
  | some (d, h3) => .ok d h3
  | none => .bad else .bad
section
variable {X : Cx} {W : Wd} {Wx : WX} {apos pos : Pos} {o e : Expr} {es : List Expr} {fo : Ev → AH → Res D} {fa : Ev → AH → Res (List D)} {op : OpL} {id T : String} {name : Str}
theorem pi_bm (hK : X.K = W.K) (pa : PlainAttrs T) (slot : Slot T name id) (hty : typeOf (.builtin id) = pure (.type "method_descriptor")) (hm : MthI X W id op) (ho : PE X o (tI W Wx fo)) (ha : PA X (e :: es) (tA W Wx fa))
    (hbase : attributeBase o name X.env (eval o X.env) = eval o X.env)
    (hfew : ((backTo pos (starEach (e :: es) X.env)).all (fun x => !x.1) && (backToKw pos (keywordEach [] X.env)).all (fun x => x.1.isSome)
      && decide ((e :: es).length + ([] : List Keyword).length + (if ([] : List Keyword).isEmpty then 0 else 1) < 30)) = true)
    (hline : (apos.endLine == pos.line) = true) (hs : starEach (e :: es) X.env = (false, eval e X.env) :: starEach es X.env) (hplain : (backTo pos (starEach es X.env)).any (·.1) = false) :
    PE X (.Call (.Attribute o name apos) (e :: es) [] pos) (tI W Wx (cBM T op fo fa)) := by
  refine ⟨fun pins s σ H Q I ⟨m, h, r, S, E, y⟩ => ?_⟩
  refine wpAny_Call_method_late hbase hfew hline rfl (thn (ho.run pins s σ H _ I ⟨m, h, r, S, E, (Fin.bind y).imp fun m1 h1 H1 d S1 e1 y1 v hv =>
    (⟨m1, h1, d, S1, hv, E.ext e1, y1⟩ : ∃ m1 h1 d, SR W m1 h1 H1 ∧ VR W m1 h1.length H1 d v ∧ ER W m1 h1.length H1 r σ ∧ Fin W Wx m1 h1 H1 σ (if tyD T h1 d = true then (fa r h1).bind fun ds h2 => match op (d :: ds) h2 with
      | some (d, h3) => .ok d h3
      | none => .bad else .bad) fun m' h' H' d => ∀ v, VR W m' h'.length H' d v → Q v H')⟩) fun v s1 ⟨x, H1, I1, r1, m1, h1, d, S1, hv, E1, y1⟩ => ?_)
  split at y1
  · rename_i ht
    have ty : tyV X.K T x H1 := hK ▸ tyD_ok S1 hv ht
    obtain ⟨g1, g2⟩ := tyV_is I1 r1 ty
    refine ⟨T, id, pa, slot, hty, g1, g2, ?_⟩
    have hA := ha.run pos pins s1 σ H1 _ I1 ⟨m1, h1, r, S1, E1, (Fin.bind y1).imp fun m2 h2 H2 ds S2 e2 y2 vs hvs =>
      (⟨m2, h2, ds, S2, hv.ext e2, hvs, y2⟩ : ∃ m2 h2 ds, SR W m2 h2 H2 ∧ VR W m2 h2.length H2 d x ∧ VRs W m2 h2.length H2 ds vs ∧ Fin W Wx m2 h2 H2 σ (match op (d :: ds) h2 with
        | some (d, h3) => .ok d h3
        | none => .bad) fun m' h' H' d => ∀ v, VR W m' h'.length H' d v → Q v H')⟩
    rw [hs] at hA ⊢
    refine Calls.callWith_builtin (by show (false || (backTo pos (starEach es X.env)).any (·.1)) = false; rw [hplain] <;> rfl) (Calls.evalArgs_plain ?_)
    refine thn hA fun us s2 ⟨vs, H2, I2, r2, m2, h2, ds, S2, hv2, hvs, y2⟩ => ?_
    cases z : op (d :: ds) h2 with
    | none => simp only [z] at y2; exact False.elim y2
    | some t =>
      obtain ⟨d', h3⟩ := t
      simp only [z] at y2
      exact hm pins s2 σ H2 x v vs us Q m2 h2 d ds d' h3 I2 S2 hv2 r1 hvs r2 z fun m' H' v S' e' hv' => y2 m' H' S' e' v hv'
  · exact False.elim y1
theorem pi_bm0 (hK : X.K = W.K) (pa : PlainAttrs T) (slot : Slot T name id) (hty : typeOf (.builtin id) = pure (.type "method_descriptor")) (hm : MthI X W id op) (ho : PE X o (tI W Wx fo))
    (hbase : attributeBase o name X.env (eval o X.env) = eval o X.env) (hline : (apos.endLine == pos.line) = true) :
    PE X (.Call (.Attribute o name apos) [] [] pos) (tI W Wx (cBM T op fo aNil)) := by
  refine ⟨fun pins s σ H Q I ⟨m, h, r, S, E, y⟩ => ?_⟩
  refine wpAny_Call_method0_late hbase hline (thn (ho.run pins s σ H _ I ⟨m, h, r, S, E, (Fin.bind y).imp fun m1 h1 H1 d S1 e1 y1 v hv =>
    (⟨m1, h1, d, S1, hv, E.ext e1, y1⟩ : ∃ m1 h1 d, SR W m1 h1 H1 ∧ VR W m1 h1.length H1 d v ∧ ER W m1 h1.length H1 r σ ∧ Fin W Wx m1 h1 H1 σ (if tyD T h1 d = true then (aNil r h1).bind fun ds h2 => match op (d :: ds) h2 with
      | some (d, h3) => .ok d h3
      | none => .bad else .bad) fun m' h' H' d => ∀ v, VR W m' h'.length H' d v → Q v H')⟩) fun v s1 ⟨x, H1, I1, r1, m1, h1, d, S1, hv, E1, y1⟩ => ?_)
  split at y1
  · rename_i ht
    have ty : tyV X.K T x H1 := hK ▸ tyD_ok S1 hv ht
    obtain ⟨g1, g2⟩ := tyV_is I1 r1 ty
    refine ⟨T, id, pa, slot, hty, g1, g2, Calls.callWith_builtin rfl (PySem.evalArgs_none ?_)⟩
    have y2 := (Fin.bind y1).here S1
    cases z : op [d] h1 with
    | none => simp only [z] at y2; exact False.elim y2
    | some t =>
      obtain ⟨d', h3⟩ := t
      simp only [z] at y2
      exact hm pins s1 σ H1 x v [] [] Q m1 h1 d [] d' h3 I1 S1 hv r1 VRs.nil .nil z fun m' H' v S' e' hv' => y2 m' H' S' e' v hv'
  · exact False.elim y1

/-! the methods -/
theorem fin_upd {m : Nat → Addr} {h : AH} {H : Hp} {a : Nat} {o : O} {u : HO} (S : SR W m h H) (ha : a < h.length) (os : ∀ {H'}, Ext m h.length H m h.length H' → OS W m h.length H' o u) :
    SR W m (h.set a o) (upd H (m a) u) ∧ Ext m h.length H m (h.set a o).length (upd H (m a) u) := by
  have ex := ext_upd (u := u) S ha
  exact ⟨S.upd ha (os ex), by rw [List.length_set]; exact ex⟩
def appO : OpL := fun ds h => match ds with
  | [.ref a, x] => match h[a]? with
    | some (.lst l) => if l.length < LIM then some (.non, h.set a (.lst (l ++ [x]))) else none
    | _ => none
  | _ => none
theorem lt_of_get {h : AH} {a : Nat} {o : O} (e : h[a]? = some o) : a < h.length := (List.getElem?_eq_some_iff.mp e).1
theorem mi_append : MthI X W "list.append" appO := MthI.of mt_append fun H x vs Q m h o ds d h' S ho hv e q => by
  unfold appO at e
  split at e
  · rename_i a y heq
    cases heq
    obtain ⟨v, rfl, hv1⟩ := VRs.one hv
    simp only [VR] at ho
    obtain ⟨ha, rfl⟩ := ho
    split at e
    · rename_i l q1
      obtain ⟨_, p1, xs, rfl, r1⟩ := S.obj a _ q1
      split at e
      · rename_i hl
        cases e
        obtain ⟨S2, e2⟩ := fin_upd (o := .lst (l ++ [y])) (u := .lst (xs ++ [v])) S ha fun ex => ⟨_, rfl, (r1.ext ex).append (VRs.cons (hv1.ext ex) VRs.nil)⟩
        exact ⟨m a, xs, v, rfl, rfl, p1, by rw [r1.length]; exact lim_lt hl, q m _ _ S2 e2 (by simp only [VR])⟩
      · cases e
    · cases e
  · cases e
def popO : OpL := fun ds h => match ds with
  | [.ref a] => match h[a]? with
    | some (.lst l) => match l[l.length - 1]? with
      | some x => some (x, h.set a (.lst l.dropLast))
      | none => none
    | _ => none
  | _ => none
theorem VRs.at {m : Nat → Addr} {n : Nat} {H : Hp} : ∀ {l : List D} {xs : List V} {i : Nat} {d : D}, VRs W m n H l xs → l[i]? = some d → ∃ v, xs[i]? = some v ∧ VR W m n H d v
  | [], _, _, _, _, e => by cases e
  | x :: l, xs, 0, d, h, e => by
    simp only [VRs] at h
    obtain ⟨v, r, rfl, h1, h2⟩ := h
    cases e
    exact ⟨v, rfl, h1⟩
  | x :: l, xs, i + 1, d, h, e => by
    simp only [VRs] at h
    obtain ⟨v, r, rfl, h1, h2⟩ := h
    exact VRs.at (l := l) (xs := r) (i := i) h2 (by simpa using e)
theorem VRs.erase {m : Nat → Addr} {n : Nat} {H : Hp} : ∀ {l : List D} {xs : List V} (i : Nat), VRs W m n H l xs → VRs W m n H (l.eraseIdx i) (xs.eraseIdx i)
  | [], _, _, h => by
    simp only [VRs] at h
    subst h
    exact VRs.nil
  | x :: l, xs, 0, h => by
    simp only [VRs] at h
    obtain ⟨v, r, rfl, h1, h2⟩ := h
    exact h2
  | x :: l, xs, i + 1, h => by
    simp only [VRs] at h
    obtain ⟨v, r, rfl, h1, h2⟩ := h
    exact VRs.cons h1 (VRs.erase i h2)
theorem VRs.dropL {m : Nat → Addr} {n : Nat} {H : Hp} : ∀ {l : List D} {xs : List V}, VRs W m n H l xs → VRs W m n H l.dropLast xs.dropLast
  | [], _, h => by
    simp only [VRs] at h
    subst h
    exact VRs.nil
  | [x], xs, h => by
    simp only [VRs] at h
    obtain ⟨v, r, rfl, h1, rfl⟩ := h
    exact VRs.nil
  | x :: y :: l, xs, h => by
    have h' := h
    simp only [VRs] at h'
    obtain ⟨v, r, rfl, h1, w, r', rfl, h2, h3⟩ := h'
    exact VRs.cons h1 (VRs.dropL (l := y :: l) (xs := w :: r') (VRs.cons h2 h3))
theorem mi_pop : MthI X W "list.pop" popO := MthI.of mt_pop fun H x vs Q m h o ds d h' S ho hv e q => by
  unfold popO at e
  split at e
  · rename_i a heq
    cases heq
    simp only [VRs] at hv
    subst hv
    simp only [VR] at ho
    obtain ⟨ha, rfl⟩ := ho
    split at e
    · rename_i l q1
      obtain ⟨_, p1, xs, rfl, r1⟩ := S.obj a _ q1
      split at e
      · rename_i y hy
        cases e
        obtain ⟨v, v1, v2⟩ := r1.at hy
        obtain ⟨S2, e2⟩ := fin_upd (o := .lst l.dropLast) (u := .lst xs.dropLast) S ha fun ex => ⟨_, rfl, (r1.ext ex).dropL⟩
        exact ⟨m a, xs, v, rfl, rfl, p1, by rw [r1.length]; exact v1, q m _ _ S2 e2 (by rw [List.length_set] at e2 ⊢; exact v2.ext e2)⟩
      · cases e
    · cases e
  · cases e
def popAtO : OpL := fun ds h => match ds with
  | [.ref a, .int i] => match h[a]? with
    | some (.lst l) => if inR (2 ^ 63 - 1) i = true then (match seqIndex? i l.length with
      | some k => match l[k]? with
        | some x => some (x, h.set a (.lst (l.eraseIdx k)))
        | none => none
      | none => none) else none
    | _ => none
  | _ => none
theorem mi_popAt : MthI X W "list.pop" popAtO := MthI.of mt_popAt fun H x vs Q m h o ds d h' S ho hv e q => by
  unfold popAtO at e
  split at e
  · rename_i a i heq
    cases heq
    obtain ⟨v, rfl, hv1⟩ := VRs.one hv
    simp only [VR] at hv1
    subst hv1
    simp only [VR] at ho
    obtain ⟨ha, rfl⟩ := ho
    split at e
    · rename_i l q1
      obtain ⟨_, p1, xs, rfl, r1⟩ := S.obj a _ q1
      split at e
      · rename_i hi
        split at e
        · rename_i k hk
          split at e
          · rename_i y hy
            cases e
            obtain ⟨v, v1, v2⟩ := r1.at hy
            obtain ⟨S2, e2⟩ := fin_upd (o := .lst (l.eraseIdx k)) (u := .lst (xs.eraseIdx k)) S ha fun ex => ⟨_, rfl, (r1.ext ex).erase _⟩
            exact ⟨m a, xs, i, k, v, rfl, rfl, p1, by have := inR_ok.mp hi; omega, by have := inR_ok.mp hi; omega, by rw [r1.length]; exact hk, v1, q m _ _ S2 e2 (by rw [List.length_set] at e2 ⊢; exact v2.ext e2)⟩
          · cases e
        · cases e
      · cases e
    · cases e
  · cases e
def tupIxO : OpL := fun ds h => match ds with
  | [o, .str z] => match tupD o with
    | some l => match mapO dStr l with
      | some ys => if ys.contains z = true then some (.int (ys.idxOf z : Nat), h) else none
      | none => none
    | none => none
  | _ => none
theorem mi_tupIx (hK : X.K = W.K) : MthI X W "tuple.index" tupIxO := MthI.of mt_tup_index fun H x vs Q m h o ds d h' S ho hv e q => by
  unfold tupIxO at e
  split at e
  · rename_i o' z heq
    cases heq
    obtain ⟨v, rfl, hv1⟩ := VRs.one hv
    simp only [VR] at hv1
    subst hv1
    split at e
    · rename_i l z1
      obtain ⟨p, xs, rfl, h1, h2⟩ := tupD_ok ho z1
      split at e
      · rename_i ys z2
        have e3 := strs_ok h2 z2
        subst e3
        split at e
        · rename_i hc
          cases e
          have hm := List.contains_iff_mem.mp hc
          have hlt := List.idxOf_lt_length_iff.mpr hm
          refine ⟨p, ys, z, ys.idxOf z, rfl, rfl, hK ▸ h1, ?_, fun j hj hz => ?_, one_fin S q (by simp only [VR])⟩
          · rw [List.getElem?_eq_getElem hlt, List.getElem_idxOf hlt]
          · have hjl : j < ys.length := Nat.lt_trans hj hlt
            rw [List.getElem?_eq_getElem hjl] at hz
            have e1 := Option.some.inj hz
            have := List.not_of_lt_findIdx (p := (· == z)) (xs := ys) (i := j) (by simpa [List.idxOf] using hj)
            rw [e1, beq_self_eq_true] at this
            cases this
        · cases e
      · cases e
    · cases e
  · cases e
def splitO : OpL := fun ds h => match ds with
  | [.str a, .str b] => if b.length ≠ 0 ∧ a.length ≤ LIM then some (.ref h.length, h ++ [.lst ((Txt.split a b).map D.str)]) else none
  | _ => none
theorem mi_split : MthI X W "str.split" splitO := MthI.of mt_split fun H x vs Q m h o ds d h' S ho hv e q => by
  unfold splitO at e
  split at e
  · rename_i a b heq
    cases heq
    obtain ⟨v, rfl, hv1⟩ := VRs.one hv
    simp only [VR] at hv1 ho
    subst hv1 ho
    split at e
    · rename_i hl
      cases e
      refine ⟨a, b, rfl, rfl, ?_, Nat.le_trans (Nat.add_le_add_right hl.2 2) (by decide), fun p hp => ?_⟩
      · simpa using hl.1
      · exact fin_lst S (strs_back _) hp q
    · cases e
  · cases e
def joinO : OpL := fun ds h => match ds with
  | [.str a, d] => match (listD h d).or (tupD d) with
    | some l => match mapO dStr l with
      | some ys => if (ys.map (·.length)).sum + ys.length * a.length ≤ LIM then some (.str (Txt.join a ys), h) else none
      | none => none
    | none => none
  | _ => none
theorem mi_join (hK : X.K = W.K) : MthI X W "str.join" joinO := MthI.of mt_join fun H x vs Q m h o ds d h' S ho hv e q => by
  unfold joinO at e
  split at e
  · rename_i a d' heq
    cases heq
    obtain ⟨v, rfl, hv1⟩ := VRs.one hv
    simp only [VR] at ho
    subst ho
    split at e
    · rename_i l z1
      obtain ⟨p, xs, rfl, h1, h2⟩ := seq_ok S hv1 z1
      split at e
      · rename_i ys z2
        have e3 := strs_ok h2 z2
        subst e3
        split at e
        · rename_i hl
          cases e
          exact ⟨a, p, ys, rfl, rfl, hK ▸ h1, Nat.le_trans hl (by decide), one_fin S q (by simp only [VR])⟩
        · cases e
      · cases e
    · cases e
  · cases e
end
end PI
/-! PIB: comprehensions, f-strings, slices, chains, parallel stores, globals; a def's body. -/
namespace PI
open PySem L2 PyProof.Rows

/-! ### a def's body -/
def endB (q : RS) : Res D := match q with
  | .rt d h => .ok d h
  | .nx _ h => .ok .non h
  | .er c fs _ h => .err c fs h
  | _ => .bad
def runB (f : Ev → AH → RS) (nl np : Nat) (ds : List D) (h : AH) : Res D := if ds.length = np then endB (f (ds.map some ++ List.replicate (nl - np) none) h) else .bad
theorem er_start {W : Wd} {m : Nat → Addr} {n : Nat} {H : Hp} (N : List Str) : ∀ {ds : List D} {vs : List V}, VRs W m n H ds vs → ER W m n H (ds.map some ++ List.replicate (N.length - ds.length) none) (L2.start N vs) := by
  intro ds vs hv
  unfold L2.start
  rw [hv.length]
  generalize N.length - ds.length = k
  induction ds generalizing vs with
  | nil =>
    simp only [VRs] at hv
    subst hv
    refine ⟨?_, fun i d e => ?_⟩
    · simp
    · simp only [List.map_nil, List.nil_append, List.getElem?_replicate] at e
      split at e <;> cases e
  | cons d l ih =>
    simp only [VRs] at hv
    obtain ⟨x, r, rfl, h1, h2⟩ := hv
    obtain ⟨i1, i2⟩ := ih h2
    refine ⟨?_, fun i d' e => ?_⟩
    · simpa using i1
    · cases i with
      | zero =>
        simp only [List.map_cons, List.cons_append, List.getElem?_cons_zero] at e ⊢
        cases e
        exact ⟨x, rfl, h1⟩
      | succ i =>
        simp only [List.map_cons, List.cons_append, List.getElem?_cons_succ] at e ⊢
        exact i2 i d' e
theorem body_of {X : Cx} {W : Wd} {N : List Str} {np : Nat} {f : Ev → AH → RS} {body : List Stmt} {vs : List V} {H : Hp} {Q : VK} {E : XK} {cf : List D → AH → Res D}
    (p : PSs X body (tS W (fun cls dd _ H => E cls dd H) f)) (hcf : ∀ ds h, cf ds h = runB f N.length np ds h) (hsp : spI W np cf vs H Q E) : ∃ t, PSs X body t ∧ t { nx := fun _ H' => Q .non H', rt := Q } (start N vs) H := by
  refine ⟨_, p, ?_⟩
  obtain ⟨m, h, ds, S, hv, hl, y⟩ := hsp
  refine ⟨m, h, ds.map some ++ List.replicate (N.length - ds.length) none, S, er_start N hv, ?_⟩
  rw [hcf] at y
  unfold runB at y
  rw [if_pos hl, ← hl] at y
  revert y
  cases f (ds.map some ++ List.replicate (N.length - ds.length) none) h with
  | nx r h' => exact fun y m' H' s' S' e' E' => y m' H' .non S' e' (by simp only [VR])
  | rt d h' => exact fun y m' H' v S' e' hv' => y m' H' v S' e' hv'
  | er c fs r h' => exact fun y m' H' s' cls dd S' e' E' x => y m' H' cls dd S' e' x
  | bk r h' => exact fun y => False.elim y
  | ct r h' => exact fun y => False.elim y
  | bad => exact fun y => y
theorem takes_cx {P : Program} {w : World} {K : PySem.W.Frag} {mg : Str → Option Value} {base : Heap} {N : List Str} {qual : Str} {scope : Scope} {f : Addr} {cdv : Value} {A : Around} {outer : List Env} {s : Shared} {H : Hp} {E : XK} :
    Takes (cxG P w K mg base N qual scope f cdv A outer s H E) (fun cls dd _ H => E cls dd H) := takes_of rfl rfl rfl rfl
theorem own_cx {P : Program} {w : World} {K : PySem.W.Frag} {mg : Str → Option Value} {base : Heap} {N : List Str} {qual : Str} {scope : Scope} {f : Addr} {cdv : Value} {A : Around} {outer : List Env} {s : Shared} {H : Hp} {E : XK} :
    PassesOwn (model P w) (cxG P w K mg base N qual scope f cdv A outer s H E).A (cxG P w K mg base N qual scope f cdv A outer s H E).env (cxG P w K mg base N qual scope f cdv A outer s H E).xe := passes_of rfl

section
variable {X : Cx} {W : Wd} {Wx : WX} {pos : Pos} {e : Expr} {fe : Ev → AH → Res D}
/-! ### globals -/
theorem pi_glob {x : Str} {d : D} {v : V} {u : Value} (hg : Gl X x) (hm : X.mg x = some u) (r : RelV v u) (hv : ∀ m n H, VR W m n H d v) (hdb : (x == ("__debug__" : Str)) = false) : PE X (.Name x pos) (tI W Wx (cCon d)) := pi_con (pe_glob hg hm r hdb) hv
/-! ### {} -/
def cDic (o : O) : Ev → AH → Res D := fun _ h => .ok (.ref h.length) (h ++ [o])
theorem fin_new {m : Nat → Addr} {h : AH} {H : Hp} {s : L2.St} {o : O} {u : HO} {p : Addr} {Q : VK} (S : SR W m h H) (hp : H p = none) (hu : OS W (mupd m h.length p) (h.length + 1) (upd H p u) o u)
    (f : Fin W Wx m h H s (.ok (.ref h.length) (h ++ [o])) fun m' h' H' d => ∀ v, VR W m' h'.length H' d v → Q v H') : Q (.ref p) (upd H p u) := by
  have k1 : ∀ b o, H b = some o → upd H p u b = some o := fun b o e => by rw [upd_ne (ne_of_none e hp)]; exact e
  have ex := ext_new S hp k1
  have hlen : (h ++ [o]).length = h.length + 1 := by rw [List.length_append, List.length_singleton]
  refine f (mupd m h.length p) _ (S.new hp k1 upd_same hu) (by rw [hlen]; exact ex) (.ref p) ?_
  simp only [VR]
  exact ⟨by rw [hlen]; omega, by rw [mupd_same]⟩
theorem pi_dicK : PE X (.Dict [] [] pos) (tI W Wx (cDic (.dK []))) := pe_dnewK.imp fun s H Q ⟨m, h, r, S, E, f⟩ => fun p hp => fin_new (o := .dK []) S hp ⟨[], rfl, rfl⟩ f
theorem pi_dicT : PE X (.Dict [] [] pos) (tI W Wx (cDic (.dT []))) := pe_dnewT.imp fun s H Q ⟨m, h, r, S, E, f⟩ => fun p hp => fin_new (o := .dT []) S hp ⟨[], rfl, rfl⟩ f
/-! ### a op1 b op2 c -/
def cChain (op op' : D → D → AH → Res D) (fa fb fc : Ev → AH → Res D) : Ev → AH → Res D := fun r h => (fa r h).bind fun x h1 => (fb r h1).bind fun y h2 => (op x y h2).bind fun z h3 => match z with
  | .bl true => (fc r h3).bind fun w h4 => op' y w h4
  | .bl false => .ok (.bl false) h3
  | _ => .bad
theorem ti_chain {r r' : R2} {op op' : D → D → AH → Res D} {fa fb fc : Ev → AH → Res D} (hs : OpS W r op) (hs' : OpS W r' op') {s : L2.St} {H : Hp} {Q : VK} (q : tI W Wx (cChain op op' fa fb fc) s H Q) : tChain r r' (tI W Wx fa) (tI W Wx fb) (tI W Wx fc) s H Q := by
  obtain ⟨m, h, ρ, S, E, f⟩ := q
  refine ⟨m, h, ρ, S, E, f.bind.imp fun m1 h1 H1 x S1 e1 f1 v hv => ?_⟩
  refine ⟨m1, h1, ρ, S1, E.ext e1, f1.bind.imp fun m2 h2 H2 y S2 e2 f2 u hu => ?_⟩
  refine hs Wx m2 h2 H2 s x y v u _ S2 (hv.ext e2) hu (f2.bind.imp fun m3 h3 H3 z S3 e3 f3 w hw => ?_)
  cases z with
  | bl b =>
    simp only [VR] at hw
    subst hw
    refine ⟨b, rfl, ?_⟩
    cases b with
    | true =>
      rw [if_pos rfl]
      refine ⟨m3, h3, ρ, S3, ((E.ext e1).ext e2).ext e3, (Fin.bind f3).imp fun m4 h4 H4 w S4 e4 f4 w' hw' => ?_⟩
      exact hs' Wx m4 h4 H4 s y w u w' Q S4 ((hu.ext e3).ext e4) hw' f4
    | false =>
      rw [if_neg Bool.false_ne_true]
      exact f3.here S3 _ (by simp only [VR])
  | _ => exact False.elim f3
theorem pi_chain {o o' : CmpOp} {r r' : R2} {a b c : Expr} {op op' : D → D → AH → Res D} {fa fb fc : Ev → AH → Res D} (ho : OpR X (compareOp o) r) (ho' : OpR X (compareOp o') r') (hs : OpS W r op) (hs' : OpS W r' op')
    (ha : PE X a (tI W Wx fa)) (hb : PE X b (tI W Wx fb)) (hc : PE X c (tI W Wx fc)) (hm : lastMarks [o, o'] [b, c] = false) : PE X (.Compare a [o, o'] [b, c] pos) (tI W Wx (cChain op op' fa fb fc)) :=
  (pe_chain ho ho' ha hb hc hm).imp fun _ _ _ q => ti_chain hs hs' q
theorem pi_tchain {o o' : CmpOp} {r r' : R2} {a b c : Expr} {op op' : D → D → AH → Res D} {fa fb fc : Ev → AH → Res D} (ho : OpR X (compareOp o) r) (ho' : OpR X (compareOp o') r') (hs : OpS W r op) (hs' : OpS W r' op')
    (ha : PE X a (tI W Wx fa)) (hb : PE X b (tI W Wx fb)) (hc : PE X c (tI W Wx fc)) (hm : lastMarks [o, o'] [b, c] = false) : PT X (.Compare a [o, o'] [b, c] pos) (tT W Wx (cTst (cChain op op' fa fb fc))) := by
  refine (pt_chain ho ho' ha hb hc hm).imp fun s H Q q => ?_
  obtain ⟨m, h, r', S, E, f⟩ := ti_tst q
  exact ti_chain hs hs' ⟨m, h, r', S, E, f⟩
/-! ### x, y = a, b -/
def cPar (i j : Nat) (fa : Ev → AH → Res (List D)) : Ev → AH → RS := fun r h => onRes (fa r h) r fun ds h1 => match ds with
  | [x, y] => .nx ((r.set i (some x)).set j (some y)) h1
  | _ => .bad
theorem si_par {i j : Nat} {x y : Str} {a b : Expr} {fa : Ev → AH → Res (List D)} {px py pt : Pos} {kt k2 pt2} (hc : X.calm = true) (hN : X.N.Nodup) (hi : X.N[i]? = some x) (hj : X.N[j]? = some y) (hij : i ≠ j)
    (hx : X.env.scope.names.lookup x = some .local) (hy : X.env.scope.names.lookup y = some .local) (ha : PA X [a, b] (tA W Wx fa))
    (hw : swappedStores [.Tuple [.Name x px, .Name y py] kt pt] (.Tuple [a, b] k2 pt2) X.env = pure (some [x, y]))
    (hs : swapsWithSole [.Tuple [.Name x px, .Name y py] kt pt] (.Tuple [a, b] k2 pt2) pos.line X.env = pure false) :
    PS X (.Assign [.Tuple [.Name x px, .Name y py] kt pt] (.Tuple [a, b] k2 pt2) pos) (tS W Wx (cPar i j fa)) := by
  refine (ps_par hc hN hi hj hij hx hy ha hw hs).imp fun Dn s H ⟨m, h, r, S, E, f⟩ => ⟨m, h, r, S, E, (FS.on E f).imp fun m1 h1 H1 ds S1 e1 f1 vs hv => ?_⟩
  split at f1
  · obtain ⟨v, u, rfl, h1, h2⟩ := VRs.two hv
    exact ⟨v, u, rfl, f1 m1 H1 _ S1 (Ext.refl _ _ _) (((E.ext e1).set i h1).set j h2)⟩
  · exact False.elim f1
/-! ### f'..' -/
def fmtD (fe : Ev → AH → Res D) : Ev → AH → Res D := fun r h => (fe r h).bind fun d h1 => match d with
  | .str y => if y.length ≤ LIM then .ok (.str y) h1 else .bad
  | .int i => if i.natAbs < 2 ^ 64 then .ok (.str (toString i)) h1 else .bad
  | _ => .bad
theorem pi_fmt (he : PE X e (tI W Wx fe)) : PE X (.FormattedValue e (-1) none pos) (tI W Wx (fmtD fe)) := by
  refine (pe_fmt he).imp fun s H Q ⟨m, h, r, S, E, f⟩ => ⟨m, h, r, S, E, (Fin.bind f).imp fun m1 h1 H1 d S1 e1 f1 v hv => ?_⟩
  cases d with
  | str y =>
    simp only [VR] at hv
    simp only at f1
    split at f1
    · rename_i hl
      exact .inl ⟨y, hv, lim_le hl, f1.here S1 _ (by simp only [VR])⟩
    · exact False.elim f1
  | int i =>
    simp only [VR] at hv
    simp only at f1
    split at f1
    · rename_i hi
      refine .inr ⟨i, hv, ?_, f1.here S1 _ (by simp only [VR])⟩
      by_cases h0 : i.natAbs = 0
      · rw [h0]; decide
      · exact Nat.lt_trans ((Nat.log2_lt h0).mpr hi) (by decide)
    · exact False.elim f1
  | _ => exact False.elim f1
def cJs : List (Ev → AH → Res D) → Str → Ev → AH → Res D
  | [], acc, _, h => .ok (.str acc) h
  | f :: fs, acc, r, h => (f r h).bind fun d h1 => match d with
    | .str y => if (acc ++ y).length ≤ LIM then cJs fs (acc ++ y) r h1 else .bad
    | _ => .bad
theorem ti_js {s : L2.St} {Q : VK} : ∀ (fs : List (Ev → AH → Res D)) (acc : Str) (H : Hp), tI W Wx (cJs fs acc) s H Q → tJs (fs.map (tI W Wx)) acc s H fun out H1 => Q (.str out) H1
  | [], acc, H, ⟨m, h, r, S, E, f⟩ => f.here S (.str acc) (by simp only [VR])
  | f :: fs, acc, H, ⟨m, h, r, S, E, y⟩ => ⟨m, h, r, S, E, (Fin.bind y).imp fun m1 h1 H1 d S1 e1 y1 v hv => by
    cases d with
    | str x =>
      simp only [VR] at hv
      simp only at y1
      split at y1
      · rename_i hl
        exact ⟨x, hv, lim_le hl, ti_js fs (acc ++ x) H1 ⟨m1, h1, r, S1, E.ext e1, y1⟩⟩
      · exact False.elim y1
    | _ => exact False.elim y1⟩
theorem ji_nil : PJ X [] (([] : List (Ev → AH → Res D)).map (tI W Wx)) := .nil
theorem ji_cons {es : List Expr} {fs : List (Ev → AH → Res D)} (p : PE X e (tI W Wx fe)) (q : PJ X es (fs.map (tI W Wx))) : PJ X (e :: es) ((fe :: fs).map (tI W Wx)) := .cons p q
theorem pi_joined {v1 v2 : Expr} {rest : List Expr} {fs : List (Ev → AH → Res D)} (h : PJ X (v1 :: v2 :: rest) (fs.map (tI W Wx))) : PE X (.JoinedStr (v1 :: v2 :: rest) pos) (tI W Wx (cJs fs Str.empty)) :=
  (pe_joined h).imp fun s H Q q => ti_js fs Str.empty H q
/-! ### [.. for ..] -/
theorem ti_yes : PTs X [] (tT W Wx cYes) := ⟨fun pins s σ H Q I ⟨m, h, r, S, E, f⟩ => pts_nil.run pins s σ H Q I (f.here S)⟩
theorem takes_no {Y : Cx} : Takes Y (fun _ _ _ _ => False) := takes_none5
theorem pi_lc {elt tg iter : Expr} {ifs : List Expr} {scope : Scope} {own : List (Str × Nat)} {ts : List Nat} {fi : Ev → AH → Res Iq} {g : D → Ev → AH → GR} {ct : Ev → AH → Res Bool} {ce : Ev → AH → Res D} (n : Nat) (hn : n ≤ LIM) (hc : X.calm = true) (hN : X.N.Nodup)
    (hi : L2.PI X tg iter (iI W Wx fi)) (ok : BlkOk X.N X.env.scope scope own) (hts : ∀ j ∈ ts, j ∈ own.map (·.2))
    (hg : ∀ (s : Shared) (H : Hp) (C : Addr) (cl : List (Str × Addr)) (fp : List Addr), PG (X.blk s H scope (compEnvC scope cl C X.env) fp) tg (tG W ts g))
    (ht : ∀ (s : Shared) (H : Hp) (C : Addr) (cl : List (Str × Addr)) (fp : List Addr), PTs (X.blk s H scope (compEnvC scope cl C X.env) fp) ifs (tT W (fun _ _ _ _ => False) ct))
    (he : ∀ (s : Shared) (H : Hp) (C : Addr) (cl : List (Str × Addr)) (fp : List Addr), PE (X.blk s H scope (compEnvC scope cl C X.env) fp) elt (tI W (fun _ _ _ _ => False) ce)) (hs : ∀ x, foldedSetIterable iter X.env x = pure x) :
    PE X (.ListComp elt [⟨tg, iter, ifs, 0⟩] scope pos) (tI W Wx (cLc fi g ct ce (own.map (·.2)) n)) :=
  (pe_lc hc hN hi ok hg ht he hs).imp fun s H Q q => lc_read (iter := iter) (lim_le hn) hts q
end
end PI
/-! PIC: slices, calls with keywords, sorted by a key, isinstance, own ==. -/
namespace PI
open PySem L2 PyProof.Rows

section
variable {X : Cx} {W : Wd} {Wx : WX} {pos : Pos} {e : Expr} {fe : Ev → AH → Res D}
/-! ### slices -/
def tO (W : Wd) (Wx : WX) (f : Ev → AH → Res (Option Int)) : TO := fun s H Q => ∃ m h r, SR W m h H ∧ ER W m h.length H r s ∧ Fin W Wx m h H s (f r h) fun _ _ H' o => Q o H'
def oNo : Ev → AH → Res (Option Int) := fun _ h => .ok none h
def oInt (fe : Ev → AH → Res D) : Ev → AH → Res (Option Int) := fun r h => (fe r h).bind fun d h1 => match d with
  | .int i => .ok (some i) h1
  | _ => .bad
theorem _root_.L2.PO.imp {X : Cx} {e : Option Expr} {t t' : TO} (p : PO X e t) (i : ∀ s H Q, t' s H Q → t s H Q) : PO X e t' := ⟨fun pins s σ H Q I q => p.run pins s σ H Q I (i σ H Q q)⟩
theorem oi_no : PO X none (tO W Wx oNo) := po_none.imp fun s H Q ⟨m, h, r, S, E, f⟩ => f.here S
theorem oi_int (p : PE X e (tI W Wx fe)) : PO X (some e) (tO W Wx (oInt fe)) := (po_some p).imp fun s H Q ⟨m, h, r, S, E, f⟩ => ⟨m, h, r, S, E, (Fin.bind f).imp fun m1 h1 H1 d S1 e1 f1 v hv => by
  cases d with
  | int i =>
    simp only [VR] at hv
    exact ⟨i, hv, f1.here S1⟩
  | _ => exact False.elim f1⟩
def cutL {α : Type} (xs : List α) (lo hi : Option Int) : List α := (xs.drop (HT.sIx xs.length 0 lo)).take (HT.sIx xs.length xs.length hi - HT.sIx xs.length 0 lo)
theorem VRs.dropN {m : Nat → Addr} {n : Nat} {H : Hp} : ∀ {l : List D} {xs : List V} (k : Nat), VRs W m n H l xs → VRs W m n H (l.drop k) (xs.drop k)
  | _, _, 0, h => h
  | [], xs, k + 1, h => by
    simp only [VRs] at h
    subst h
    exact VRs.nil
  | x :: l, xs, k + 1, h => by
    simp only [VRs] at h
    obtain ⟨v, r, rfl, h1, h2⟩ := h
    exact VRs.dropN k h2
theorem VRs.takeN {m : Nat → Addr} {n : Nat} {H : Hp} : ∀ {l : List D} {xs : List V} (k : Nat), VRs W m n H l xs → VRs W m n H (l.take k) (xs.take k)
  | _, _, 0, h => VRs.nil
  | [], xs, k + 1, h => by
    simp only [VRs] at h
    subst h
    exact VRs.nil
  | x :: l, xs, k + 1, h => by
    simp only [VRs] at h
    obtain ⟨v, r, rfl, h1, h2⟩ := h
    exact VRs.cons h1 (VRs.takeN k h2)
theorem VRs.cut {m : Nat → Addr} {n : Nat} {H : Hp} {l : List D} {xs : List V} {lo hi : Option Int} (h : VRs W m n H l xs) : VRs W m n H (cutL l lo hi) (cutV xs lo hi) := by
  unfold cutL cutV
  rw [h.length]
  exact (h.dropN _).takeN _
def cutD (d : D) (lo hi : Option Int) (h : AH) : Res D := match listD h d with
  | some l => newL (cutL l lo hi) h
  | none => match tupD d with
    | some l => if HT.sIx l.length 0 lo = 0 ∧ HT.sIx l.length l.length hi = l.length then .ok d h else .ok (.tup (cutL l lo hi)) h
    | none => match d with
      | .str z => if z.length ≤ LIM then .ok (.str (cutS z lo hi)) h else .bad
      | _ => .bad
def cSl (fe : Ev → AH → Res D) (fl fh : Ev → AH → Res (Option Int)) : Ev → AH → Res D := fun r h => (fe r h).bind fun d h1 => (fl r h1).bind fun lo h2 => (fh r h2).bind fun hi h3 => cutD d lo hi h3
abbrev rSlAll (K : PySem.W.Frag) : V → Option Int → Option Int → Hp → VK → Prop := fun x lo hi H Q => (rSlL K x lo hi H Q ∨ rSlA K x lo hi H Q) ∨ rSlS x lo hi H Q
theorem pi_slice {lo hi : Option Expr} {p2 : Pos} {fl fh : Ev → AH → Res (Option Int)} (hK : X.K = W.K) (he : PE X e (tI W Wx fe)) (hl : PO X lo (tO W Wx fl)) (hu : PO X hi (tO W Wx fh)) : PE X (.Subscript e (.Slice lo hi none p2) pos) (tI W Wx (cSl fe fl fh)) := by
  refine (pe_slice (SlR.or (SlR.or (hK ▸ sl_list) (hK ▸ sl_tupA)) sl_str : SlR X (rSlAll W.K)) he hl hu).imp fun s H Q ⟨m, h, r, S, E, f⟩ => ⟨m, h, r, S, E, (Fin.bind f).imp fun m1 h1 H1 d S1 e1 f1 v hv =>
    ⟨m1, h1, r, S1, E.ext e1, (Fin.bind f1).imp fun m2 h2 H2 lo S2 e2 f2 => ⟨m2, h2, r, S2, (E.ext e1).ext e2, (Fin.bind f2).imp fun m3 h3 H3 hi S3 e3 f3 => ?_⟩⟩⟩
  have hv3 := (hv.ext e2).ext e3
  unfold cutD at f3
  split at f3
  · rename_i l z
    obtain ⟨p, xs, rfl, g1, g2⟩ := listD_ok S3 hv3 z
    exact .inl (.inl ⟨p, xs, rfl, g1, fun q hq => new_lst S3 g2.cut hq f3⟩)
  · split at f3
    · rename_i l z
      obtain ⟨p, xs, rfl, g1, g2⟩ := tupD_ok hv3 z
      refine .inl (.inr ⟨p, xs, rfl, g1, fun hw => ?_, fun hw q hq => ?_⟩)
      · rw [g2.length] at hw
        rw [if_pos hw] at f3
        exact f3.here S3 _ hv3
      · rw [g2.length] at hw
        rw [if_neg hw] at f3
        exact new_tup S3 g2.cut hq f3
    · split at f3
      · rename_i z _ _
        simp only [VR] at hv3
        split at f3
        · rename_i hz
          exact .inr ⟨z, hv3, lim_le hz, f3.here S3 _ (by simp only [VR])⟩
        · exact False.elim f3
      · exact False.elim f3

/-! ### sorted(e, key=f) -/
def cSortK (fe : Ev → AH → Res D) : Ev → AH → Res D := fun r h => (fe r h).bind fun d h1 => match listD h1 d with
  | some l => if l.all tieB = true then newL (srtL leI l) h1 else .bad
  | none => .bad
theorem pi_sortK {x fx y name qual : Str} {st : Stmt} {f : Addr} {fd : FuncData} {t0 : Nat} {q1 q2 q3 q4 q5 q6 q7 q8 p p1 kpos : Pos} (hK : X.K = W.K) (hdp : X.A.depth + 20 < recursionLimit) (hu : X.A.units + 100 < cLine)
    (F : L2.Fun X.K name qual st f fd) (FS : FnScope [y] [y] (defScope st)) (hb : Binds X.K fd [y] []) (hbody : defBody st = keyBody y t0 q1 q2 q3 q4 q5 q6 q7 q8) (hloc : (defScope st).names.lookup y = some .local) (hdy : (y == ("__debug__" : Str)) = false)
    (hgf : Gl X fx) (hmf : X.mg fx = some (.ref f)) (hdf : (fx == ("__debug__" : Str)) = false)
    (hg : Gl X x) (hm : X.mg x = none) (hv : bootBuiltins x = some (.builtin "sorted")) (ha : PE X e (tI W Wx fe)) (hn : x ≠ "__name__") (hdb : (x == ("__debug__" : Str)) = false)
    (hs : starEach [e] X.env = [(false, eval e X.env)]) (hkw : keywordEach [⟨some (Str.ofString "key"), .Name fx p1, kpos⟩] X.env = [(some (Str.ofString "key"), eval (.Name fx p1) X.env)]) :
    PE X (.Call (.Name x p) [e] [⟨some (Str.ofString "key"), .Name fx p1, kpos⟩] pos) (tI W Wx (cSortK fe)) := by
  refine ⟨fun pins s σ H Q I ⟨m, h, r, S, E, y⟩ => ?_⟩
  refine wpAny_Call_Name_kw (ld_blt I hg hm hv ?_ hn hdb)
  have hA := (pa_cons ha pa_nil hs).run pos pins s σ H (fun vs H1 => ∃ m1 h1 d v, SR W m1 h1 H1 ∧ vs = [v] ∧ VR W m1 h1.length H1 d v ∧ Fin W Wx m1 h1 H1 σ (match listD h1 d with
    | some l => if l.all tieB = true then newL (srtL leI l) h1 else .bad
    | none => .bad) fun m' h' H' d => ∀ v, VR W m' h'.length H' d v → Q v H') I ⟨m, h, r, S, E, (Fin.bind y).imp fun m1 h1 H1 d S1 e1 y1 v hv => ⟨m1, h1, d, v, S1, rfl, hv, y1⟩⟩
  have hk0 : PK X [⟨some (Str.ofString "key"), .Name fx p1, kpos⟩] (tCons (tC (.ref f)) tNil) := pk_cons (pe_glob (v := .ref f) hgf hmf rfl hdf) pk_nil
  refine PyProof.Rows.callWith_kw (thn hA fun us s1 ⟨vs, H1, I1, r1, m1, h1, d, v, S1, e1, hv1, y1⟩ => ?_) (by rw [hs]; rfl) (by rw [hs]; rfl) (by rw [hkw]; rfl) (by rw [hkw]; rfl)
  subst e1
  obtain ⟨u, rfl, ru⟩ := vals1 r1
  refine thn (hk0.run pos pins s1 σ H1 (fun zs H2 => zs = [.ref f] ∧ H2 = H1) I1 ⟨rfl, rfl⟩) fun ws s2 ⟨zs, H2, I2, r2, e2, e3⟩ => ?_
  subst e2 e3
  obtain ⟨u2, rfl, ru2⟩ := vals1 r2
  obtain rfl : u2 = Value.ref f := ru2
  rw [hkw]
  show wpAny _ _ (call (.builtin "sorted") [u] [(Str.ofString "key", .ref f)]) _ _ s2
  split at y1
  · rename_i l z
    obtain ⟨p, xs, rfl, g1, g2⟩ := listD_ok S1 hv1 z
    obtain rfl : u = Value.ref p := ru
    split at y1
    · rename_i ht
      exact run_sortK (K := X.K) I2 hK S1 F FS hb hbody hloc hdy hdp hu (hK ▸ g1) g2 ht fun ys q hys hq _ => new_lst S1 hys hq y1
    · exact False.elim y1
  · exact False.elim y1

/-! ### calls with keywords -/
def pick {α : Type} (perm : List Nat) (l : List α) : List α := perm.filterMap fun i => l[i]?
theorem VRs.app {m : Nat → Addr} {n : Nat} {H : Hp} : ∀ {l l' : List D} {xs xs' : List V}, VRs W m n H l xs → VRs W m n H l' xs' → VRs W m n H (l ++ l') (xs ++ xs')
  | [], l', xs, xs', h, h' => by
    simp only [VRs] at h
    subst h
    exact h'
  | x :: l, l', xs, xs', h, h' => by
    simp only [VRs] at h
    obtain ⟨v, r, rfl, h1, h2⟩ := h
    exact VRs.cons h1 (VRs.app h2 h')
theorem VRs.pick {m : Nat → Addr} {n : Nat} {H : Hp} {l : List D} {xs : List V} (h : VRs W m n H l xs) : ∀ perm : List Nat, VRs W m n H (PI.pick perm l) (PI.pick perm xs)
  | [] => VRs.nil
  | i :: perm => by
    have ih := VRs.pick h perm
    unfold PI.pick at ih ⊢
    rw [List.filterMap_cons, List.filterMap_cons]
    cases z : l[i]? with
    | none =>
      have : xs[i]? = none := List.getElem?_eq_none (by rw [h.length]; exact List.getElem?_eq_none_iff.mp z)
      rw [this]
      exact ih
    | some d =>
      obtain ⟨v, v1, v2⟩ := h.at z
      rw [v1]
      exact VRs.cons v2 ih
theorem vals_app : ∀ {xs xs' : List V} {us us' : List Value}, Vals xs us → Vals xs' us' → Vals (xs ++ xs') (us ++ us')
  | _, _, _, _, .nil, h => h
  | _, _, _, _, .cons a b, h => .cons a (vals_app b h)
theorem vals_at : ∀ {xs : List V} {us : List Value} (i : Nat), Vals xs us → (∃ v u, xs[i]? = some v ∧ us[i]? = some u ∧ RelV v u) ∨ (xs[i]? = none ∧ us[i]? = none)
  | _, _, _, .nil => .inr ⟨by simp, by simp⟩
  | _, _, 0, .cons a b => .inl ⟨_, _, rfl, rfl, a⟩
  | _, _, i + 1, .cons a b => by simpa using vals_at i b
theorem vals_pick {xs : List V} {us : List Value} (h : Vals xs us) : ∀ perm : List Nat, Vals (pick perm xs) (pick perm us)
  | [] => .nil
  | i :: perm => by
    have ih := vals_pick h perm
    unfold pick at ih ⊢
    rw [List.filterMap_cons, List.filterMap_cons]
    rcases vals_at i h with ⟨v, u, e1, e2, r⟩ | ⟨e1, e2⟩
    · rw [e1, e2]
      exact .cons r ih
    · rw [e1, e2]
      exact ih
/-- f(e, .., k = v, ..): perm: for each parameter, which of the values in the call's order -/
def cCallK (np nu : Nat) (nk : Nat) (perm : List Nat) (cf : List D → AH → Res D) (fa fk : Ev → AH → Res (List D)) : Ev → AH → Res D := fun r h => (fa r h).bind fun ds h1 => (fk r h1).bind fun zs h2 =>
  if ds.length = nu ∧ zs.length = nk ∧ (pick perm (ds ++ zs)).length = np then cf (pick perm (ds ++ zs)) h2 else .bad
theorem ki_nil : PK X [] (tA W Wx aNil) := ⟨fun pos pins s σ H Q I ⟨m, h, r, S, E, f⟩ => pk_nil.run pos pins s σ H Q I (f.here S [] VRs.nil)⟩
theorem ki_cons {nm : Option Str} {kpos : Pos} {kws : List Keyword} {fr : Ev → AH → Res (List D)} (p : PE X e (tI W Wx fe)) (q : PK X kws (tA W Wx fr)) : PK X (⟨nm, e, kpos⟩ :: kws) (tA W Wx (aCons fe fr)) := by
  refine ⟨fun pos pins s σ H Q I ⟨m, h, r, S, E, f⟩ => (pk_cons p q).run pos pins s σ H Q I ?_⟩
  refine ⟨m, h, r, S, E, (Fin.bind f).imp fun m1 h1 H1 d S1 e1 f1 v hv => ⟨m1, h1, r, S1, E.ext e1, (Fin.bind f1).imp fun m2 h2 H2 ds S2 e2 f2 vs hvs => ?_⟩⟩
  exact f2.here S2 _ (VRs.cons (hv.ext e2) hvs)
section
variable {k : Nat} {f : Addr} {fd : FuncData} {ps ks : List Str} {np nu : Nat} {cf : List D → AH → Res D} {x : Str} {p : Pos} {es : List Expr} {kws : List Keyword} {fa fk : Ev → AH → Res (List D)} {perm : List Nat}
def KwOk (K : PySem.W.Frag) (fd : FuncData) (ps ks : List Str) (nu : Nat) (perm : List Nat) : Prop := ∀ (s : Shared) (us ws : List Value), K.In s.heap → us.length = nu → ws.length = ks.length → BindsTo s fd ⟨us, ks.zip ws⟩ (ps.zip (pick perm (us ++ ws)))
theorem run_k (F : FnG X.prog X.w X.K X.mg X.base k f fd ps (spI W np cf)) (hr : Room k X.A) (hgd : X.A.guards = some []) (hb : KwOk X.K fd ps ks nu perm) (tk : Takes X Wx) {pins : List (Addr × Obj)} {s : Shared} {σ : L2.St} {H : Hp} {Q : VK} {us ws : List Value} {vs zs : List V} {m : Nat → Addr} {h : AH} {ds es' : List D}
    (I : Inv X pins σ H s) (S : SR W m h H) (hv : VRs W m h.length H ds vs) (hz : VRs W m h.length H es' zs) (rv : Vals vs us) (rz : Vals zs ws)
    (y : Fin W Wx m h H σ (if ds.length = nu ∧ es'.length = ks.length ∧ (pick perm (ds ++ es')).length = np then cf (pick perm (ds ++ es')) h else .bad) fun m' h' H' d => ∀ v, VR W m' h'.length H' d v → Q v H') :
    wpAny (model X.prog X.w) X.A (call (.ref f) us (ks.zip ws)) (EP X pins σ Q) X.xe s := by
  split at y
  · rename_i hl
    obtain ⟨l1, l2, l3⟩ := hl
    have hsp : spI W np cf (pick perm (vs ++ zs)) H Q (WE Wx σ) := ⟨m, h, _, S, (hv.app hz).pick perm, l3, fc_of y⟩
    have rr := vals_pick (vals_app rv rz) perm
    refine wpAny_call (codeAny_mono (F.go X.A X.stack s H ⟨us, ks.zip ws⟩ (pick perm (us ++ ws)) (pick perm (vs ++ zs)) Q (WE Wx σ) hr hgd I.env0 (hb s us ws I.kIn (by rw [← rv.length, hv.length, l1]) (by rw [← rz.length, hz.length, l2])) rr hsp) fun r s' hq => ?_)
    have z := afterG (passAt tk σ) I hq
    cases r with
    | error e => exact z
    | ok fl => cases fl <;> exact z
  · exact False.elim y
theorem pi_callK (F : FnG X.prog X.w X.K X.mg X.base k f fd ps (spI W np cf)) (hr : Room k X.A) (hgd : X.A.guards = some []) (hg : Gl X x) (hm : X.mg x = some (.ref f)) (hk : PySem.W.keepIn X.K (.ref f) = true) (hb : KwOk X.K fd ps ks nu perm) (tk : Takes X Wx)
    (ha : PA X (e :: es) (tA W Wx fa)) (hkw : PK X kws (tA W Wx fk)) (hall : (backToKw pos (keywordEach kws X.env)).all (·.1.isSome) = true) (hks : (backToKw pos (keywordEach kws X.env)).filterMap (·.1) = ks)
    (hdb : (x == ("__debug__" : Str)) = false) (he : starEach (e :: es) X.env = (false, eval e X.env) :: starEach es X.env)
    (hpl : ((backTo pos (starEach (e :: es) X.env)).any (·.1) || (backToKw pos (keywordEach kws X.env)).any (·.1.isNone)) = false) :
    PE X (.Call (.Name x p) (e :: es) kws pos) (tI W Wx (cCallK np nu ks.length perm cf fa fk)) := by
  refine ⟨fun pins s σ H Q I ⟨m, h, r, S, E, y⟩ => ?_⟩
  refine wpAny_Call_Name_kw (ld_glob I hg hm ?_ hdb)
  refine PySem.W.callWith_KW (h₀ := X.base) I.ok.mod.kin hk hall (thn (ha.run pos pins s σ H (fun vs H1 => ∃ m1 h1 ds, SR W m1 h1 H1 ∧ VRs W m1 h1.length H1 ds vs ∧ ER W m1 h1.length H1 r σ ∧ Fin W Wx m1 h1 H1 σ ((fk r h1).bind fun zs h2 =>
    if ds.length = nu ∧ zs.length = ks.length ∧ (pick perm (ds ++ zs)).length = np then cf (pick perm (ds ++ zs)) h2 else .bad) fun m' h' H' d => ∀ v, VR W m' h'.length H' d v → Q v H') I
    ⟨m, h, r, S, E, (Fin.bind y).imp fun m1 h1 H1 ds S1 e1 y1 vs hv => ⟨m1, h1, ds, S1, hv, E.ext e1, y1⟩⟩) fun us s1 ⟨vs, H1, I1, r1, m1, h1, ds, S1, hv, E1, y1⟩ => ?_) hpl he
  refine thn (hkw.run pos pins s1 σ H1 (fun zs H2 => ∃ m2 h2 es', SR W m2 h2 H2 ∧ VRs W m2 h2.length H2 ds vs ∧ VRs W m2 h2.length H2 es' zs ∧ Fin W Wx m2 h2 H2 σ (if ds.length = nu ∧ es'.length = ks.length ∧ (pick perm (ds ++ es')).length = np then cf (pick perm (ds ++ es')) h2 else .bad)
    fun m' h' H' d => ∀ v, VR W m' h'.length H' d v → Q v H') I1 ⟨m1, h1, r, S1, E1, (Fin.bind y1).imp fun m2 h2 H2 zs S2 e2 y2 ws hw => ⟨m2, h2, zs, S2, hv.ext e2, hw, y2⟩⟩) fun ws s2 ⟨zs, H2, I2, r2, m2, h2, es', S2, hv2, hz2, y2⟩ => ⟨I2.kIn, ?_⟩
  rw [hks]
  exact run_k F hr hgd hb tk I2 S2 hv2 hz2 r1 r2 y2
theorem pi_callK0 (F : FnG X.prog X.w X.K X.mg X.base k f fd ps (spI W np cf)) (hr : Room k X.A) (hgd : X.A.guards = some []) (hg : Gl X x) (hm : X.mg x = some (.ref f)) (hk : PySem.W.keepIn X.K (.ref f) = true) (hb : KwOk X.K fd ps ks 0 perm) (tk : Takes X Wx)
    (hkw : PK X kws (tA W Wx fk)) (hall : (backToKw pos (keywordEach kws X.env)).all (·.1.isSome) = true) (hks : (backToKw pos (keywordEach kws X.env)).filterMap (·.1) = ks)
    (hdb : (x == ("__debug__" : Str)) = false) (hpl : ((backTo pos (starEach [] X.env)).any (·.1) || (backToKw pos (keywordEach kws X.env)).any (·.1.isNone)) = false) :
    PE X (.Call (.Name x p) [] kws pos) (tI W Wx (cCallK np 0 ks.length perm cf aNil fk)) := by
  refine ⟨fun pins s σ H Q I ⟨m, h, r, S, E, y⟩ => ?_⟩
  refine wpAny_Call_Name_kw (ld_glob I hg hm ?_ hdb)
  refine PySem.W.callWith_KW0 (h₀ := X.base) I.ok.mod.kin hk hall ?_ hpl
  have y1 := (Fin.bind y).here S
  refine thn (hkw.run pos pins s σ H (fun zs H2 => ∃ m2 h2 es', SR W m2 h2 H2 ∧ VRs W m2 h2.length H2 es' zs ∧ Fin W Wx m2 h2 H2 σ (if ([] : List D).length = 0 ∧ es'.length = ks.length ∧ (pick perm ([] ++ es')).length = np then cf (pick perm ([] ++ es')) h2 else .bad)
    fun m' h' H' d => ∀ v, VR W m' h'.length H' d v → Q v H') I ⟨m, h, r, S, E, (Fin.bind y1).imp fun m2 h2 H2 zs S2 e2 y2 ws hw => ⟨m2, h2, zs, S2, hw, y2⟩⟩) fun ws s2 ⟨zs, H2, I2, r2, m2, h2, es', S2, hz2, y2⟩ => ⟨I2.kIn, ?_⟩
  rw [hks]
  exact run_k (us := []) (vs := []) (ds := []) F hr hgd hb tk I2 S2 VRs.nil hz2 .nil r2 y2
end
end
end PI
/-! PID: isinstance, list.count, own == and !=. -/
namespace PI
open PySem L2 PyProof.Rows

/-! ### isinstance -/
inductive Tg where
  | ty (n : String) | own (c : Nat)
  deriving DecidableEq
def tgD (h : AH) : D → Option Tg
  | .non => some (.ty "NoneType")
  | .bl _ => some (.ty "bool")
  | .int _ => some (.ty "int")
  | .str _ => some (.ty "str")
  | .tup _ => some (.ty "tuple")
  | .kt _ => some (.ty "tuple")
  | .rl _ => some (.ty "list")
  | .kl _ => some (.ty "list")
  | .fd _ _ => none
  | .ft _ _ => none
  | .fi c _ _ => some (.own c)
  | .ref a => match h[a]? with
    | some (.lst _) => some (.ty "list")
    | some (.frz (.lst _)) => some (.ty "list")
    | some (.dK _) => some (.ty "dict")
    | some (.dT _) => some (.ty "dict")
    | some (.ins c _) => some (.own c)
    | _ => none
  | .g _ => none
def tgV (W : Wd) : Tg → Value
  | .ty n => .type n
  | .own c => .ref (W.cl c)
/-- what isinstance asks of own classes -/
structure IsC (K : PySem.W.Frag) (C : Addr) : Prop where
  cls : Cls K C
  a : PySem.W.findIn K (.ref C) "__class__" = some (some (.builtin "object.__class__"))
  b : PySem.W.specialIn K (.builtin "object.__class__") "__get__" = some (some (.builtin "getset_descriptor.__get__"))
  c : PySem.W.takesIn K (.builtin "object.__class__") = some true
  d : PySem.W.mroIn K C (.type "object") = some true
theorem tg_ok {W : Wd} {m : Nat → Addr} {h : AH} {H : Hp} {d : D} {v : V} {g : Tg} (hC : ∀ (c : Nat), g = .own c → IsC W.K (W.cl c)) (S : SR W m h H) (hv : VR W m h.length H d v) (e : tgD h d = some g) : TyX W.K H v (tgV W g) := by
  cases d with
  | non => cases e; simp only [VR] at hv; subst hv; exact .base .non
  | bl b => cases e; simp only [VR] at hv; subst hv; exact .base (.bl _)
  | int b => cases e; simp only [VR] at hv; subst hv; exact .base (.int _)
  | str b => cases e; simp only [VR] at hv; subst hv; exact .base (.str _)
  | tup l => cases e; simp only [VR] at hv; obtain ⟨p, xs, rfl, h2, _⟩ := hv; exact .base (.tup h2.1)
  | kt l => cases e; simp only [VR] at hv; obtain ⟨p, xs, rfl, ⟨o, its, n, q1, q2, _⟩, _⟩ := hv; exact .kTuple q1 q2
  | rl l => cases e; simp only [VR] at hv; obtain ⟨p, xs, rfl, h2, _⟩ := hv; exact .base (.lst h2.1)
  | kl l =>
    cases e
    simp only [VR] at hv
    obtain ⟨p, xs, rfl, ⟨o, its, n, q1, q2, _⟩ | ⟨o, h2, _⟩, _⟩ := hv
    · exact .kList q1 q2
    · exact .base (.frz h2)
  | fd ks l => cases e
  | ft ks l => cases e
  | fi c gs l =>
    cases e
    simp only [VR] at hv
    obtain ⟨p, dx, ys, rfl, h2, _⟩ := hv
    have z := hC c rfl
    exact .base (.ins h2.1 z.cls z.a z.b z.c z.d)
  | g k => cases e
  | ref a =>
    simp only [VR] at hv
    obtain ⟨ha, rfl⟩ := hv
    simp only [tgD] at e
    split at e
    · rename_i l q
      cases e
      obtain ⟨_, p1, xs, rfl, _⟩ := S.obj a _ q
      exact .base (.lst p1)
    · rename_i l q
      cases e
      obtain ⟨_, p1, ob, _, rfl, xs, rfl, _⟩ := S.obj a _ q
      exact .base (.frz p1)
    · rename_i l q
      cases e
      obtain ⟨_, p1, xs, rfl, _⟩ := S.obj a _ q
      exact .base (.dK p1)
    · rename_i l q
      cases e
      obtain ⟨_, p1, xs, rfl, _⟩ := S.obj a _ q
      exact .base (.dT p1)
    · rename_i c fs q
      cases e
      obtain ⟨_, p1, dx, ys, rfl, _⟩ := S.obj a _ q
      have z := hC c rfl
      exact .base (.ins p1 z.cls z.a z.b z.c z.d)
    · cases e
def cIsi (tb : List (Tg × Bool)) (fe : Ev → AH → Res D) : Ev → AH → Res D := fun r h => (fe r h).bind fun d h1 => match tgD h1 d with
  | some g => match tb.lookup g with
    | some b => .ok (.bl b) h1
    | none => .bad
  | none => .bad
section
variable {X : Cx} {W : Wd} {Wx : WX} {pos : Pos} {e : Expr} {fe : Ev → AH → Res D}
theorem lookup_mem {g : Tg} {b : Bool} : ∀ {tb : List (Tg × Bool)}, tb.lookup g = some b → (g, b) ∈ tb
  | [], h => by cases h
  | (k, c) :: r, h => by
    rw [List.lookup_cons] at h
    split at h
    · rename_i q
      cases h
      rw [eq_of_beq q]
      exact List.mem_cons_self
    · exact List.mem_cons_of_mem _ (lookup_mem h)
theorem pi_isi {x : Str} {p : Pos} {te : Expr} {c : V} {u : Value} {tb : List (Tg × Bool)} (hK : X.K = W.K) (hcv : ClsV c u) (ht : PE X te (tC c)) (htb : ∀ g b, (g, b) ∈ tb → PySem.W.kitOne W.K (tgV W g) u = some b) (hC : ∀ c b, (Tg.own c, b) ∈ tb → IsC W.K (W.cl c))
    (hg : Gl X x) (hm : X.mg x = none) (hv : bootBuiltins x = some (.builtin "isinstance")) (ha : PE X e (tI W Wx fe)) (hn : x ≠ "__name__") (hdb : (x == ("__debug__" : Str)) = false)
    (he : starEach [e, te] X.env = (false, eval e X.env) :: starEach [te] X.env) (he2 : starEach [te] X.env = [(false, eval te X.env)]) (hpl : (backTo pos (starEach [te] X.env)).any (·.1) = false) :
    PE X (.Call (.Name x p) [e, te] [] pos) (tI W Wx (cIsi tb fe)) := by
  refine (pe_callB call_isi hg hm hv (pa_cons ha (pa_cons ht pa_nil he2) he) hn hdb he hpl).imp fun s H Q ⟨m, h, r, S, E, y⟩ => ⟨m, h, r, S, E, (Fin.bind y).imp fun m1 h1 H1 d S1 e1 y1 v hv => ?_⟩
  split at y1
  · rename_i g z
    split at y1
    · rename_i b zb
      have hmem := lookup_mem zb
      refine ⟨v, c, tgV W g, u, b, rfl, hcv, hK ▸ tg_ok (fun c' eg => ?_) S1 hv z, hK ▸ htb g b hmem, y1.here S1 _ (by simp only [VR])⟩
      subst eg
      exact hC c' b hmem
    · exact False.elim y1
  · exact False.elim y1
/-! ### list.count, texts -/
def eqs (z : Str) (v : Value) : Bool := match v with
  | .str y _ => y.cps.toList == z.cps.toList
  | _ => false
theorem eqs_ok {z : Str} {t : Tok} : ∀ {ys : List Str} {us : List Value}, Vals (ys.map V.str) us → (∀ y ∈ us, MeetsSeq.EqGives y (.str z t) (eqs z y)) ∧ us.countP (eqs z) = ys.count z
  | [], _, .nil => ⟨fun y hy => absurd hy List.not_mem_nil, rfl⟩
  | y :: ys, _, .cons a b => by
    obtain ⟨h1, h2⟩ := eqs_ok (z := z) (t := t) b
    obtain ⟨t', rfl⟩ := a
    refine ⟨fun w hw => (List.mem_cons.mp hw).elim (fun e => by rw [e]; exact SeqRoads2.EqGives.str _ _ _ _) (h1 w), ?_⟩
    rw [List.countP_cons, List.count_cons, h2]
    congr 1
    show (if (y.cps.toList == z.cps.toList) = true then 1 else 0) = if (y == z) = true then 1 else 0
    have : (y.cps.toList == z.cps.toList) = (y == z) := by
      rw [Bool.eq_iff_iff, beq_iff_eq, beq_iff_eq]
      exact ⟨fun e => PySem.W.str_of_cps e, fun e => by rw [e]⟩
    rw [this]
def countO : OpL := fun ds h => match ds with
  | [o, .str z] => match listD h o with
    | some l => match mapO dStr l with
      | some ys => some (.int (ys.count z : Nat), h)
      | none => none
    | none => none
  | _ => none
theorem mi_count (hK : X.K = W.K) : MthI X W "list.count" countO := fun pins s σ H x u vs us Q m h o ds d h' I S ho ru hv rv e q => by
  unfold countO at e
  split at e
  · rename_i o' z heq
    cases heq
    obtain ⟨v, rfl, hv1⟩ := VRs.one hv
    simp only [VR] at hv1
    subst hv1
    split at e
    · rename_i l z1
      obtain ⟨p, xs, rfl, h1, h2⟩ := listD_ok S ho z1
      split at e
      · rename_i ys z2
        have e3 := strs_ok h2 z2
        subst e3
        cases e
        obtain rfl : u = Value.ref p := ru
        obtain ⟨uz, rfl, rz⟩ := vals1 rv
        obtain ⟨tz, rfl⟩ := rz
        obtain ⟨its, rl, ⟨⟨cls, dd, data, sl⟩, n, g1, g2, g3, g4⟩, hlen⟩ := I.list (hK ▸ h1)
        simp only at g2 g4
        subst g2 g4
        obtain ⟨k1, k2⟩ := eqs_ok (z := z) (t := tz) rl
        refine call_meets PySem.F.slot_list_count ⟨_, g1, rfl⟩ PySem.F.entry_list_count (PySem.F.args_list_count_2 _ _) (SeqAt.list_countAt p its.toArray n dd sl (.str z tz) (eqs z)) ⟨g1, fun y hy => (k1 y (by simpa using hy)).at _ _, ?_⟩
        refine ⟨.int (ys.count z : Nat), H, I.tok _, ⟨s.toks, ?_⟩, q m H _ S (Ext.refl _ _ _) (by simp only [VR])⟩
        show Value.int ((its.toArray.toList.countP (eqs z) : Nat) : Int) s.toks = Value.int ((ys.count z : Nat) : Int) s.toks
        rw [← k2]
      · cases e
    · cases e
  · cases e
end
/-! ### own == and != -/
section
variable {M : Model} {prog : Program} {w : World} {A : Around} {E : Value → Shared → Prop} {s : Shared} {K : PySem.W.Frag} {x y C f : Addr} {ox : Obj} {od : Option Obj}
theorem ne_body {Q : PySem.Fin → Shared → Prop} (hu : A.units < cLine) (kin : K.In s.heap) (ia : PySem.W.InstAt s.heap x ox C od) (fe : PySem.W.findIn K (.ref C) "__eq__" = some (some (.ref f))) (isf : PySem.W.isFn K (.ref f) = true)
    (run : wpAny (model prog w) A (call (.ref f) [.ref x, .ref y]) (fun v s' => ∃ b, v = .bool b ∧ Q (.done (.ret (.bool (!b)))) s') E s) : wpAny (model prog w) A (Builtin.«object.__ne__» ⟨[.ref x, .ref y], []⟩) Q E s := by
  unfold Builtin.«object.__ne__»
  repeat (first
    | with_reducible refine wpAny_cRoomFor hu ?_
    | (refine wpAny_bind (m := callSpecialIfBound? (.ref x) (Str.ofString "__eq__") [.ref y]) (PySem.W.ifBound_K kin ia fe isf (wpAny_mono run (fun r s' z => by
          obtain ⟨b, rfl, q⟩ := z
          repeat (first | exact q | exact wpAny_pure q | exact wpAny_truthy_bool q | (refine wpAny_bind (m := truthy (.bool _)) (wpAny_truthy_bool ?_)) | wp_step)) fun _ _ z => z)))
    | wp_step)
theorem ne_call {Q : Value → Shared → Prop} (hu : A.units + 1 < cLine) (kin : K.In s.heap) (ia : PySem.W.InstAt s.heap x ox C od) (fe : PySem.W.findIn K (.ref C) "__eq__" = some (some (.ref f))) (isf : PySem.W.isFn K (.ref f) = true) (mo : PySem.W.mroIn K C (.type "object") = some true)
    (run : wpAny (model prog w) A.in1 (call (.ref f) [.ref x, .ref y]) (fun v s' => ∃ b, v = .bool b ∧ Q (.bool (!b)) s') E s) : wpAny (model prog w) A (call (.builtin "object.__ne__") [.ref x, .ref y]) Q E s :=
  wpAny_call (codeAny_call_builtin F.cmp_object.ne.plain F.cmpEntry_ne (PySem.W.check_slot F.cmpKind_ne F.cmpSplit_ne (ia.type.andThen (PySem.W.looks_mroIn kin mo)) (F.cmpArgs_ne _ _) (ne_body (A := A.in1) hu kin ia fe isf (wpAny_mono run (fun v s' z => by
    obtain ⟨b, rfl, q⟩ := z
    exact ⟨b, rfl, q⟩) fun _ _ z => z))))
theorem ne_bound {vs : List Value} {Q : Option Value → Shared → Prop} (kin : K.In s.heap) (ia : PySem.W.InstAt s.heap x ox C od) (fn : PySem.W.findIn K (.ref C) "__ne__" = some (some (.builtin "object.__ne__")))
    (run : wpAny M A (call (.builtin "object.__ne__") (.ref x :: vs)) (fun v => Q (some v)) E s) : wpAny M A (callSpecialIfBound? (.ref x) "__ne__" vs) Q E s := by
  have last : wpAny M A (call (.builtin "object.__ne__") ([.ref x] ++ vs) >>= fun v => pure (some v)) Q E s := wpAny_bind (wpAny_mono run (fun _ _ z => wpAny_pure z) fun _ _ z => z)
  simp only [callSpecialIfBound?, bindSpecialIfBound?]
  refine wpAny_holding (wpAny_bind (wpAny_bind (wpAny_bind (ia.type.here ((PySem.W.looks_findIn kin fn).here ?_)))))
  refine wpAny_bind (wpAny_askSetting (wpAny_ite ?_))
  split
  · exact wpAny_bind (wpAny_of_eq (F.cmp_object.ne.bind _) (wpAny_pure (by exact last)))
  · exact wpAny_tryCatch (wpAny_bind (wpAny_of_eq (F.cmp_object.ne.bind _) (wpAny_pure (by exact last))))
theorem ne_rich {oy : Obj} {od' : Option Obj} {Q : Value → Shared → Prop} (hu : A.units + 1 < cLine) (kin : K.In s.heap) (ia : PySem.W.InstAt s.heap x ox C od) (ib : PySem.W.InstAt s.heap y oy C od') (fn : PySem.W.findIn K (.ref C) "__ne__" = some (some (.builtin "object.__ne__")))
    (fe : PySem.W.findIn K (.ref C) "__eq__" = some (some (.ref f))) (isf : PySem.W.isFn K (.ref f) = true) (mo : PySem.W.mroIn K C (.type "object") = some true)
    (run : wpAny (model prog w) A.in1 (call (.ref f) [.ref x, .ref y]) (fun v s' => ∃ b, v = .bool b ∧ Q (.bool (!b)) s') E s) : wpAny (model prog w) A (richCompare .NotEq (.ref x) (.ref y)) Q E s := by
  have one : wpAny (model prog w) A (tryCompare (.ref x) (cmpInfo .NotEq).2.1 (.ref y)) (fun r s' => ∃ v, r = some v ∧ Q v s') E s := by
    unfold tryCompare
    refine wpAny_bind (ne_bound kin ia fn (ne_call hu kin ia fe isf mo (wpAny_mono run (fun v s' z => ?_) fun _ _ z => z)))
    obtain ⟨b, rfl, q⟩ := z
    exact ⟨b, rfl, wpAny_pure ⟨_, rfl, q⟩⟩
  unfold richCompare
  simp only [oneThing_ref]
  refine wpAny_holding (wpAny_bind (wpAny_cRoomFor (by omega) ?_))
  refine wpAny_bind (ia.type.here (wpAny_bind (ib.type.here ?_)))
  rw [show (Value.ref C != Value.ref C) = false from by simp]
  refine wpAny_bind (wpAny_pure ?_)
  simp only [Bool.false_eq_true, if_false]
  refine wpAny_bind (wpAny_mono one (fun r s' z => ?_) fun _ _ z => z)
  obtain ⟨v, rfl, q⟩ := z
  exact wpAny_pure q
end
section
variable {X : Cx} {W : Wd} {k : Nat} {f C : Addr} {fd : FuncData} {ps : List Str} {np : Nat} {cf : List D → AH → Res D}
/-- x == y of two instances, by the class's own def -/
def rOwnE (C : Addr) (sp : Sp) (g : Bool → Bool) : R2 := fun x y H Q => ∃ a b dx dy fs gs, x = .ref a ∧ y = .ref b ∧ H a = some (.ins C dx fs) ∧ H b = some (.ins C dy gs) ∧ sp [x, y] H (fun v H' => ∃ b, v = .bl b ∧ Q (.bl (g b)) H') E0
theorem run_own {A : Around} {pins : List (Addr × Obj)} {s : Shared} {σ : L2.St} {H : Hp} {Q : VK} {a b : Addr} (F : FnG X.prog X.w X.K X.mg X.base k f fd ps (spI W np cf)) (hr : Room k A) (hg : A.guards = some []) (hfr : A.frames = some X.stack) (hb : Binds X.K fd ps []) (I : Inv X pins σ H s)
    (h : spI W np cf [.ref a, .ref b] H Q E0) {E : Value → Shared → Prop} : wpAny (model X.prog X.w) A (call (.ref f) [.ref a, .ref b]) (EP X pins σ Q) E s := by
  have rr : Vals [V.ref a, V.ref b] [Value.ref a, Value.ref b] := .cons rfl (.cons rfl .nil)
  have hl := F.len _ _ _ _ h
  have e0 : Env0 X.prog X.w X.K X.mg X.base A X.stack s H := by
    have e := I.env0
    exact ⟨hfr, e.mod, e.bs, e.bsz, e.funs, e.frf, e.hok, e.bare⟩
  have hbd := hb s [.ref a, .ref b] I.kIn (by simpa using hl)
  rw [List.append_nil] at hbd
  refine wpAny_call (codeAny_mono (F.go A X.stack s H ⟨[.ref a, .ref b], []⟩ _ _ Q E0 hr hg e0 hbd rr h) fun r s' hq => ?_)
  cases r with
  | error e =>
    obtain ⟨_, _, _, _, _, _, _, _, _, _, _, _, z⟩ := hq
    exact z.elim
  | ok fl =>
    cases fl with
    | ret u => exact I.after hq
    | _ => exact False.elim hq
theorem or_ownE (F : FnG X.prog X.w X.K X.mg X.base k f fd ps (spI W np cf)) (hr : Room k X.A) (hg : X.A.guards = some []) (hb : Binds X.K fd ps []) (fe : PySem.W.findIn X.K (.ref C) "__eq__" = some (some (.ref f))) (isf : PySem.W.isFn X.K (.ref f) = true) :
    OpR X (compareOp .Eq) (rOwnE C (spI W np cf) id) := by
  intro pins s σ H x y v u Q I rx ry h
  obtain ⟨a, b, dx, dy, fs, gs, rfl, rfl, ha, hb', hsp⟩ := h
  cases rx
  cases ry
  obtain ⟨mA, J, _⟩ := ins_get I.hok ha
  obtain ⟨mB, J', _⟩ := ins_get I.hok hb'
  obtain ⟨od, J, _⟩ := J.look
  obtain ⟨od', J', _⟩ := J'.look
  obtain ⟨m, hF⟩ := I.fr
  show wpAny (model X.prog X.w) X.A (richCompare .Eq (.ref a) (.ref b)) (EP X pins σ Q) X.xe s
  refine PySem.W.cmp_K (op := .Eq) (tb := .ref C) hr.units0 hF I.ok.mod.kin J J'.type (by simp [PySem.W.notFirst]) fe isf ?_
  refine thn (run_own F hr hg I.ok.frames hb I hsp) fun w s' z => ?_
  obtain ⟨v, H', I', rv, b', rfl, q⟩ := z
  obtain rfl : w = Value.bool b' := rv
  exact ⟨.bl b', H', I', rfl, q⟩
theorem or_ownN (F : FnG X.prog X.w X.K X.mg X.base k f fd ps (spI W np cf)) (hr : Room (k + 1) X.A) (hg : X.A.guards = some []) (hb : Binds X.K fd ps []) (fn : PySem.W.findIn X.K (.ref C) "__ne__" = some (some (.builtin "object.__ne__"))) (fe : PySem.W.findIn X.K (.ref C) "__eq__" = some (some (.ref f))) (isf : PySem.W.isFn X.K (.ref f) = true)
    (mo : PySem.W.mroIn X.K C (.type "object") = some true) : OpR X (compareOp .NotEq) (rOwnE C (spI W np cf) not) := by
  intro pins s σ H x y v u Q I rx ry h
  obtain ⟨a, b, dx, dy, fs, gs, rfl, rfl, ha, hb', hsp⟩ := h
  cases rx
  cases ry
  obtain ⟨mA, J, _⟩ := ins_get I.hok ha
  obtain ⟨mB, J', _⟩ := ins_get I.hok hb'
  obtain ⟨od, J, _⟩ := J.look
  obtain ⟨od', J', _⟩ := J'.look
  show wpAny (model X.prog X.w) X.A (richCompare .NotEq (.ref a) (.ref b)) (EP X pins σ Q) X.xe s
  refine ne_rich (by have := hr.un; omega) I.kIn J J' fn fe isf mo ?_
  refine thn (run_own (A := X.A.in1) F hr.in1 hg I.ok.frames hb I hsp) fun w s' z => ?_
  obtain ⟨v, H', I', rv, b', rfl, q⟩ := z
  obtain rfl : w = Value.bool b' := rv
  exact ⟨b', rfl, ⟨.bl (!b'), H', I', rfl, q⟩⟩
def ownD (c : Nat) (np : Nat) (cf : List D → AH → Res D) (g : Bool → Bool) (x y : D) (h : AH) : Res D := match clsOf h x, clsOf h y with
  | some (c1, _), some (c2, _) => if c1 = c ∧ c2 = c ∧ np = 2 then (match cf [x, y] h with
    | .ok (.bl b) h' => .ok (.bl (g b)) h'
    | _ => .bad) else .bad
  | _, _ => .bad
theorem os_own {c : Nat} {g : Bool → Bool} : OpS W (rOwnE (W.cl c) (spI W np cf) g) (ownD c np cf g) := fun Wx m h H s x y v u Q S hx hy f => by
  unfold ownD at f
  split at f
  · rename_i c1 f1 c2 f2 z1 z2
    obtain ⟨a1, dx, ys, rfl, p1, p2⟩ := clsOf_ok S hx z1
    obtain ⟨a2, dy, zs, rfl, q1, q2⟩ := clsOf_ok S hy z2
    split at f
    · rename_i hc
      obtain ⟨rfl, rfl, rfl⟩ := hc
      refine ⟨a1, a2, dx, dy, ys, zs, rfl, rfl, p1, q1, m, h, [x, y], S, VRs.cons hx (VRs.cons hy VRs.nil), rfl, ?_⟩
      revert f
      cases cf [x, y] h with
      | ok d h' =>
        cases d with
        | bl b =>
          intro f m' H' v' S' e' hv'
          simp only [VR] at hv'
          exact ⟨b, hv', f m' H' S' e' _ (by simp only [VR])⟩
        | _ => exact fun f => False.elim f
      | err c fs h' => exact fun f => False.elim f
      | bad => exact fun f => f
    · exact False.elim f
  · exact False.elim f
theorem OpS.or {r r' : R2} {op op' : D → D → AH → Res D} (a : OpS W r op) (b : OpS W r' op') : OpS W (fun x y H Q => r x y H Q ∨ r' x y H Q) (fun x y h => match op x y h with
  | .bad => op' x y h
  | q => q) := fun Wx m h H s x y v u Q S hx hy f => by
  cases z : op x y h with
  | bad =>
    simp only [z] at f
    exact .inr (b Wx m h H s x y v u Q S hx hy f)
  | ok d h' =>
    simp only [z] at f
    exact .inl (a Wx m h H s x y v u Q S hx hy (by rw [z]; exact f))
  | err c fs h' =>
    simp only [z] at f
    exact .inl (a Wx m h H s x y v u Q S hx hy (by rw [z]; exact f))
end
end PI
/-! PIE: the law's call. -/
namespace PI
open PySem L2 PyProof.Rows PySem.Spec

theorem callerA_g : callerA.guards = some [] := rfl
theorem ints_VRs {W : Wd} {m : Nat → Addr} {n : Nat} {H : Hp} : ∀ (l : List Int), VRs W m n H (l.map D.int) (l.map V.int)
  | [] => VRs.nil
  | x :: l => VRs.cons (by simp only [VR]) (ints_VRs l)
/-- the plain law: of a list of at most n ints the def tells True -/
def PlainLaw (n : Nat) (cf : List D → AH → Res D) : Prop := ∀ ns : List Int, ns.length ≤ n → ∃ h', cf [.kl (ns.map D.int)] [] = .ok (.bl true) h'
theorem spI_law {W : Wd} {cf : List D → AH → Res D} {n : Nat} (hp : PlainLaw n cf) {H : Hp} {a : Addr} {ns : List Int} (hl : ns.length ≤ n) (how : H a = none ∧ KL W.K a (ns.map V.int) ∨ ∃ o, H a = some (.frz o (.lst (ns.map V.int)))) :
    spI W 1 cf [.ref a] H (fun v _ => v = .bl true) fun _ _ _ => False := by
  refine ⟨fun _ => 0, [], [.kl (ns.map D.int)], ⟨fun a b ha => absurd ha (Nat.not_lt_zero _), fun a o e => by cases e⟩, VRs.cons ?_ VRs.nil, rfl, ?_⟩
  · simp only [VR]
    refine ⟨a, _, rfl, ?_, ints_VRs ns⟩
    rcases how with ⟨_, hk⟩ | ⟨o, ho⟩
    · exact .inl hk
    · exact .inr ⟨o, ho, fun _ h => absurd h (Nat.not_lt_zero _)⟩
  · obtain ⟨h', e⟩ := hp ns hl
    rw [e]
    intro m' H' v _ _ hv
    simpa only [VR] using hv

/-- the law's call from the promise of its def, where no guard is set -/
theorem callLaw {P : Program} {w : World} {K : PySem.W.Frag} {mg nb : Str → Option Value} {k n : Nat} {fa a : Addr} {fd : FuncData} {x : Str} {W : Wd} {cf : List D → AH → Res D} {st : Shared} {vs : List Value} {ns : List Int}
    (hW : W.K = K) (hp : PlainLaw n cf) (hn : ns.length ≤ n) (kin : K.In st.heap) (gl : st.heap.Ns mainGlobals mg) (bl : st.heap.Ns builtinsNs nb) (boot : ∀ y : Str, y ≠ "__name__" → nb y = bootBuiltins y) (nol : st.heap.NoLimit) (gens : st.gens = #[])
    (obj : st.heap.get? a = some { cls := .type "list", data := .seq vs.toArray }) (its : IntsAre vs ns) (small : ns.length ≤ sizeLine) (room : Room k callerA)
    (fn : ∀ base : Heap, K.In base → base.Ns mainGlobals mg → FnG P w K mg base k fa fd [x] (spI W 1 cf)) (binds : ∀ (s : Shared) (u : Value), BindsTo s fd ⟨[u], []⟩ [(x, u)]) :
    codeAny (model P w) callerA (.call (.ref fa) ⟨[.ref a], []⟩) (fun r s' => r = .ok (.ret (.bool true)) ∧ OldK st.heap s'.heap ∧ s'.os = st.os ∧ AllBare s'.gens) st := by
  have vv : Vals (ns.map V.int) vs := vals_ints its
  have go : ∀ H : Hp, (∀ b u, H b = some u → b = a ∧ K.lookup a = none ∧ ∃ o xs, u = .frz o (.lst xs)) → HOk P w H st.heap → spI W 1 cf [.ref a] H (fun v _ => v = .bl true) (fun _ _ _ => False) →
      codeAny (model P w) callerA (.call (.ref fa) ⟨[.ref a], []⟩) (fun r s' => r = .ok (.ret (.bool true)) ∧ OldK st.heap s'.heap ∧ s'.os = st.os ∧ AllBare s'.gens) st := by
    intro H only hok sp
    have un_dict : ∀ {b : Addr} {o : Obj} {es : Array DictEntry} {ep : Nat}, st.heap.get? b = some o → o.data = .dict es ep → H b = none := by
      intro b o es ep e dd
      cases q : H b with
      | none => rfl
      | some u =>
        obtain ⟨rfl, _⟩ := only b u q
        rw [obj] at e
        cases e
        cases dd
    have ns' : ∀ {b : Addr} {m : Str → Option Value}, st.heap.Ns b m → (hidT st.heap H).Ns b m := by
      intro b m z
      obtain ⟨o, es, ep, e, dd, r⟩ := z
      exact ⟨o, es, ep, hidT_get e (un_dict e dd), dd, r⟩
    have kb : K.In (hidT st.heap H) := by
      intro b o e
      refine hidT_get (kin b o e) ?_
      cases q : H b with
      | none => rfl
      | some u =>
        obtain ⟨rfl, hk, _⟩ := only b u q
        rw [hk] at e
        cases e
    have md : Mod K mg (hidT st.heap H) := ⟨kb, ns' gl, ⟨nb, ns' bl, boot⟩, by
      obtain ⟨mc, z1, z2⟩ := nol
      exact ⟨mc, ns' z1, z2⟩⟩
    have env : Env0 P w K mg (hidT st.heap H) callerA [] st H := ⟨rfl, md, fun _ _ e => of_hidT e, Nat.le_of_eq (hidT_size _ _), trivial, fun b hb => absurd (show b ∈ ([] : List Addr) from hb) List.not_mem_nil, hok, .of_eq gens⟩
    refine codeAny_mono ((fn _ kb (ns' gl)).go callerA [] st H ⟨[.ref a], []⟩ [.ref a] [.ref a] _ _ room callerA_g env (binds st (.ref a)) (.cons rfl .nil) sp) fun r s' z => ?_
    cases r with
    | error e =>
      obtain ⟨_, _, _, _, _, _, _, _, _, _, _, _, z⟩ := z
      exact z.elim
    | ok fl =>
      cases fl with
      | ret u =>
        obtain ⟨v, H', os, bare, un, hok', rv, q⟩ := z
        have q' : v = .bl true := q
        subst q'
        obtain rfl : u = Value.bool true := rv
        refine ⟨rfl, OldK.of_keep fun b o e => ?_, os, bare⟩
        cases q : H b with
        | none => exact un.keep b o e q (fun z => absurd (show b ∈ ([] : List Addr) from z) List.not_mem_nil) List.not_mem_nil
        | some u =>
          obtain ⟨rfl, _, ob, xs, rfl⟩ := only b u q
          have old := (hok _ _ q).1
          have new := (hok' _ _ (un.frzs _ ob _ q)).1
          rw [e] at old
          cases old
          exact new
      | next => exact False.elim z
      | brk => exact False.elim z
      | cont => exact False.elim z
  cases hk : K.lookup a with
  | some o =>
    have e := kin a o hk
    rw [obj] at e
    cases e
    refine go (fun _ => none) (fun b u z => by cases z) (fun b u z => by cases z) (spI_law hp hn (.inl ⟨rfl, ?_⟩))
    rw [hW]
    exact ⟨_, vs.toArray, _, hk, rfl, rfl, rfl, by rw [List.size_toArray, its.length]; exact small, by simpa using vv⟩
  | none =>
    refine go (fun b => if b = a then some (.frz { cls := .type "list", data := .seq vs.toArray } (.lst (ns.map V.int))) else none) (fun b u z => ?_) (fun b u z => ?_) (spI_law hp hn (.inr ⟨_, if_pos rfl⟩))
    · by_cases e : b = a
      · have z' := (if_pos e).symm.trans z
        cases z'
        exact ⟨e, hk, _, _, rfl⟩
      · have z' := (if_neg e).symm.trans z
        cases z'
    · by_cases e : b = a
      · have z' := (if_pos e).symm.trans z
        cases z'
        subst e
        exact ⟨obj, by rw [List.length_map]; exact small, vs, _, vv, obj⟩
      · have z' := (if_neg e).symm.trans z
        cases z'
/-- what k_head asks, from the promise of the law's def and the plain law -/
theorem walkLaw {l : PySem.W.OpenLaw} {n k : Nat} {q : Program} {loose : List Str} {XP : (Str → Option Value) → Heap → Prop} {YP : World → Heap → Prop} {d : DefRec} {K : Params → PySem.W.Frag} {cf : List D → AH → Res D} {x : Str} (hp : PlainLaw n cf)
    (hn : l.most = some n) (hn2 : n ≤ sizeLine) (hdf : d.params.defaults = []) (hr : Room k callerA) (hY : ∀ (w : World) (h : Heap), YP w h → (K w.params).In h)
    (F : ∀ (w : World) (mg : Str → Option Value) (fa : Addr) (h : Heap), (K w.params).In h → h.Ns mainGlobals mg → mg d.name = some (.ref fa) →
      ∃ (fd : FuncData) (W : Wd), W.K = K w.params ∧ (∀ (s : Shared) (u : Value), BindsTo s fd ⟨[u], []⟩ [(x, u)]) ∧
        ∀ base : Heap, (K w.params).In base → base.Ns mainGlobals mg → FnG l.prog w (K w.params) mg base k fa fd [x] (spI W 1 cf)) :
    PySem.W.WalkO q loose XP YP l.row.toRowW d [] (fun f vs => PySem.call f vs) := by
  refine Att.attach_call hn hdf fun w s0 s1 mg mb fa o pm cd doc a vs ns G Y ho hd hcd hmg hobj hints hlen hg => ?_
  have kin := hY w _ Y
  obtain ⟨fd, W, hW, hb, hF⟩ := F w mg fa _ kin G.T.g hmg
  exact callLaw hW hp hlen kin G.T.g G.T.b G.T.builtins G.T.nolimit hg hobj hints (Nat.le_trans hlen hn2) hr hF hb
end PI
/-! PIF: the rules as the printer uses them. -/
namespace PI
open PySem L2 PyProof.Rows

structure Gd (X : Cx) (W : Wd) (k : Nat) : Prop where
  K : X.K = W.K
  room : Room k X.A
  gd : X.A.guards = some []
  calm : X.calm = true
  nd : X.N.Nodup
theorem Gd.blk {X : Cx} {W : Wd} {k : Nat} {s : Shared} {H : Hp} {scope : Scope} {env : Env} {fp : List Addr} (G : Gd X W k) : Gd (X.blk s H scope env fp) W k := ⟨G.K, G.room, G.gd, G.calm, G.nd⟩
theorem Gd.u {X : Cx} {W : Wd} {k : Nat} (G : Gd X W k) (n : Nat) (h : n ≤ 200 := by decide) : X.A.units + n < cLine := by have := G.room.un; omega
theorem Gd.dp {X : Cx} {W : Wd} {k : Nat} (G : Gd X W k) (h : 5 ≤ k := by decide) : X.A.depth + 20 < recursionLimit := by have := G.room.dp; omega

section
variable {X : Cx} {W : Wd} {Wx : WX} {k : Nat} {pos : Pos} {e : Expr} {fe : Ev → AH → Res D}
theorem q_var (i : Nat) {x : Str} (hN : X.N[i]? = some x := by rfl) (hv : Vis X.env.scope x := by first | exact .inl rfl | exact .inr (.inl rfl) | exact .inr (.inr rfl)) (hd : (x == ("__debug__" : Str)) = false := by rfl) (hcd : (x == ("__classdict__" : Str)) = false := by rfl) :
    PE X (.Name x pos) (tI W Wx (cVar i)) := pi_var hN hv hd hcd
theorem q_int {i : Int} {j : Nat} : PE X (.Constant (.int i) j pos) (tI W Wx (cCon (.int i))) := pi_con pe_int fun _ _ _ => by simp only [VR]
theorem q_str {x : Str} {j : Nat} : PE X (.Constant (.str x) j pos) (tI W Wx (cCon (.str x))) := pi_con pe_str fun _ _ _ => by simp only [VR]
theorem q_bl {b : Bool} {j : Nat} : PE X (.Constant (.bool b) j pos) (tI W Wx (cCon (.bl b))) := pi_con pe_bl fun _ _ _ => by simp only [VR]
theorem q_non {j : Nat} : PE X (.Constant .none j pos) (tI W Wx (cCon .non)) := pi_con pe_non fun _ _ _ => by simp only [VR]
def cNeg (fe : Ev → AH → Res D) : Ev → AH → Res D := fun r h => (fe r h).bind fun d h1 => match d with
  | .int i => .ok (.int (-i)) h1
  | _ => .bad
theorem q_neg (p : PE X e (tI W Wx fe)) : PE X (.UnaryOp .USub e pos) (tI W Wx (cNeg fe)) := (pe_un un_neg p).imp fun s H Q ⟨m, h, r, S, E, f⟩ => ⟨m, h, r, S, E, (Fin.bind f).imp fun m1 h1 H1 d S1 e1 f1 v hv => by
  cases d with
  | int i =>
    simp only [VR] at hv
    exact ⟨i, hv, f1.here S1 _ (by simp only [VR])⟩
  | _ => exact False.elim f1⟩
theorem q_and1 (p : PE X e (tI W Wx fe)) : PE X (.BoolOp .And [e] pos) (tI W Wx fe) := pe_one p
theorem q_or1 (p : PE X e (tI W Wx fe)) : PE X (.BoolOp .Or [e] pos) (tI W Wx fe) := pe_one p
theorem q_tru (G : Gd X W k) (p : PE X e (tI W Wx fe)) (he : ∀ whole, isTrue e X.env whole = (do let v ← whole; standAt e.pos; holding [v] (truthy v)) := by intro _; rfl) : PT X e (tT W Wx (cTru fe)) := pt_tru G.K p he
theorem q_ix (G : Gd X W k) {a b : Expr} {fa fb : Ev → AH → Res D} (ha : PE X a (tI W Wx fa)) (hb : PE X b (tI W Wx fb)) (hs : PlainIx b := by intro _ _; with_unfolding_all rfl) : PE X (.Subscript a b pos) (tI W Wx (cBin ixD fa fb)) := pi_ix G.K (G.u 1) ha hb hs
theorem q_cons {es : List Expr} {fr : Ev → AH → Res (List D)} (p : PE X e (tI W Wx fe)) (q : PA X es (tA W Wx fr)) (hs : starEach (e :: es) X.env = (false, eval e X.env) :: starEach es X.env := by rfl) : PA X (e :: es) (tA W Wx (aCons fe fr)) := ai_cons p q hs
theorem q_exp (p : PE X e (tI W Wx fe)) (hs : swapsWith e none pos.line X.env = pure false := by rfl) : PS X (.Expr e pos) (tS W Wx (cExp fe)) := si_exp p hs
def cBad : Ev → AH → RS := fun _ _ => .bad
theorem q_bad {st : Stmt} : PS X st (tS W Wx cBad) := PS.bad
theorem q_set (G : Gd X W k) (i : Nat) {x : Str} {pos' : Pos} (he : PE X e (tI W Wx fe)) (hi : X.N[i]? = some x := by rfl) (hx : Loc X.env.scope x := by first | exact .inl rfl | exact .inr rfl) (hs : swapsWith e (some (.Name x pos')) pos.line X.env = pure false := by rfl)
    (hf : X.fn x = true ∨ X.env.scope.names.lookup x = some .local := by first | exact .inr rfl | exact .inl rfl) : PS X (.Assign [.Name x pos'] e pos) (tS W Wx (cAsg fe (gNm i))) := si_set G.nd hi hx he hs hf
theorem q_name (G : Gd X W k) (i : Nat) (ts : List Nat) {x : Str} (ht : i ∈ ts := by decide) (hi : X.N[i]? = some x := by rfl) (hx : Loc X.env.scope x := by first | exact .inl rfl | exact .inr rfl) (hf : X.fn x = true ∨ X.env.scope.names.lookup x = some .local := by first | exact .inr rfl | exact .inl rfl) :
    PG X (.Name x pos) (tG W ts (gNm i)) := gi_name ht G.nd hi hx hf
theorem q_gcons {es : List Expr} {ts : List Nat} {f : D → Ev → AH → GR} {g : List D → Ev → AH → GR} (p : PG X e (tG W ts f)) (q : PGs X es (tGs W ts g)) (hs : (assignEach (e :: es) X.env).map (·.2) = assign e X.env :: (assignEach es X.env).map (·.2) := by rfl) : PGs X (e :: es) (tGs W ts (gsCons f g)) := gsi_cons p q hs
theorem q_gtup (G : Gd X W k) (n : Nat) {es : List Expr} {c : Nat} {ts : List Nat} {g : List D → Ev → AH → GR} (p : PGs X es (tGs W ts g)) (hn : (assignEach es X.env).length = n := by rfl) (hst : (assignEach es X.env).findIdx? (·.1) = none := by rfl) : PG X (.Tuple es c pos) (tG W ts (gTp n g)) := gi_tup G.calm G.K.symm p hn hst
theorem q_gsub (G : Gd X W k) {o i : Expr} {fo fi : Ev → AH → Res D} (ts : List Nat) (ho : PE X o (tI W Wx fo)) (hi : PE X i (tI W Wx fi)) (ha : ∀ v, assign (.Subscript o i pos) X.env v = (do
      let ov ← holding [v] (eval o X.env)
      let iv ← holding [v, ov] (eval i X.env)
      standAt pos
      holding [v, ov, iv] (setItem ov iv v)
      release [v, ov, iv] []) := by intro _; rfl) : PG X (.Subscript o i pos) (tG W ts (gSb fo fi)) := gi_sub (G.u 1) ho hi ha
theorem q_asg {tg : Expr} {ts : List Nat} {g : D → Ev → AH → GR} (he : PE X e (tI W Wx fe)) (hg : PG X tg (tG W ts g)) (hs : swapsWithSole [tg] e pos.line X.env = pure false := by rfl) (hw : swappedStores [tg] e X.env = pure none := by rfl)
    (h1 : (assignEach [tg] X.env).map (·.2) = [assign tg X.env] := by rfl) : PS X (.Assign [tg] e pos) (tS W Wx (cAsg fe g)) := si_asg he hg hs hw h1
theorem q_par (G : Gd X W k) (i j : Nat) {x y : Str} {a b : Expr} {fa : Ev → AH → Res (List D)} {px py pt : Pos} {kt k2 pt2} (ha : PA X [a, b] (tA W Wx fa)) (hi : X.N[i]? = some x := by rfl) (hj : X.N[j]? = some y := by rfl) (hij : i ≠ j := by decide)
    (hx : X.env.scope.names.lookup x = some .local := by rfl) (hy : X.env.scope.names.lookup y = some .local := by rfl) (hw : swappedStores [.Tuple [.Name x px, .Name y py] kt pt] (.Tuple [a, b] k2 pt2) X.env = pure (some [x, y]) := by rfl)
    (hs : swapsWithSole [.Tuple [.Name x px, .Name y py] kt pt] (.Tuple [a, b] k2 pt2) pos.line X.env = pure false := by rfl) : PS X (.Assign [.Tuple [.Name x px, .Name y py] kt pt] (.Tuple [a, b] k2 pt2) pos) (tS W Wx (cPar i j fa)) :=
  si_par G.calm G.nd hi hj hij hx hy ha hw hs
theorem q_aug (G : Gd X W k) (i : Nat) {x : Str} {pos' : Pos} (he : PE X e (tI W Wx fe)) (hi : X.N[i]? = some x := by rfl) (hx : Loc X.env.scope x := by first | exact .inl rfl | exact .inr rfl) (hf : X.fn x = true ∨ X.env.scope.names.lookup x = some .local := by first | exact .inr rfl | exact .inl rfl) :
    PS X (.AugAssign (.Name x pos') .Add e pos) (tS W Wx (cAug i (· + ·) fe)) := si_aug G.nd hi hx he ip_add hf
theorem q_for (G : Gd X W k) (n : Nat) {iter tg : Expr} {body : List Stmt} {ts : List Nat} {fi : Ev → AH → Res Iq} {g : D → Ev → AH → GR} {b : Ev → AH → RS} (hp : PassesOwn (model X.prog X.w) X.A X.env X.xe) (hi : L2.PI X tg iter (iI W Wx fi)) (hg : PG X tg (tG W ts g)) (hb : PSs X body (tS W Wx b))
    (hs : ∀ x, foldedSetIterable iter X.env x = pure x := by intro _; rfl) : PS X (.For tg iter body [] pos) (tS W Wx (cFor fi g b n)) := si_for n hp G.calm hi hg hb hs
theorem q_lc (G : Gd X W k) (n : Nat) (own : List (Str × Nat)) {elt tg iter : Expr} {ifs : List Expr} {scope : Scope} {ts : List Nat} {fi : Ev → AH → Res Iq} {g : D → Ev → AH → GR} {ct : Ev → AH → Res Bool} {ce : Ev → AH → Res D}
    (hi : L2.PI X tg iter (iI W Wx fi))
    (hg : ∀ (s : Shared) (H : Hp) (C : Addr) (cl : List (Str × Addr)) (fp : List Addr), PG (X.blk s H scope (compEnvC scope cl C X.env) fp) tg (tG W ts g))
    (ht : ∀ (s : Shared) (H : Hp) (C : Addr) (cl : List (Str × Addr)) (fp : List Addr), PTs (X.blk s H scope (compEnvC scope cl C X.env) fp) ifs (tT W (fun _ _ _ _ => False) ct))
    (he : ∀ (s : Shared) (H : Hp) (C : Addr) (cl : List (Str × Addr)) (fp : List Addr), PE (X.blk s H scope (compEnvC scope cl C X.env) fp) elt (tI W (fun _ _ _ _ => False) ce))
    (hn : n ≤ LIM := by decide) (hts : ∀ j ∈ ts, j ∈ own.map (·.2) := by decide) (ok : blkC X.N X.env.scope scope own = true := by first | kernel_rfl | rfl) (hs : ∀ x, foldedSetIterable iter X.env x = pure x := by intro _; rfl) :
    PE X (.ListComp elt [⟨tg, iter, ifs, 0⟩] scope pos) (tI W Wx (cLc fi g ct ce (own.map (·.2)) n)) := pi_lc n hn G.calm G.nd hi (blkOk_by ok) hts hg ht he hs
theorem q_setLc (G : Gd X W k) (n : Nat) (own : List (Str × Nat)) (i : Nat) {y : Str} {py : Pos} {spos : Pos} {elt tg iter : Expr} {ifs : List Expr} {scope : Scope} {ts : List Nat} {fi : Ev → AH → Res Iq} {g : D → Ev → AH → GR} {ct : Ev → AH → Res Bool} {ce : Ev → AH → Res D}
    (hi : L2.PI X tg iter (iI W Wx fi))
    (hg : ∀ (s : Shared) (H : Hp) (C : Addr) (cl : List (Str × Addr)) (fp : List Addr), PG (X.blk s H scope (compEnvC scope cl C X.env) fp) tg (tG W ts g))
    (ht : ∀ (s : Shared) (H : Hp) (C : Addr) (cl : List (Str × Addr)) (fp : List Addr), PTs (X.blk s H scope (compEnvC scope cl C X.env) fp) ifs (tT W (fun _ _ _ _ => False) ct))
    (he : ∀ (s : Shared) (H : Hp) (C : Addr) (cl : List (Str × Addr)) (fp : List Addr), PE (X.blk s H scope (compEnvC scope cl C X.env) fp) elt (tI W (fun _ _ _ _ => False) ce))
    (hn : n ≤ LIM := by decide) (hts : ∀ j ∈ ts, j ∈ own.map (·.2) := by decide) (ok : blkC X.N X.env.scope scope own = true := by first | kernel_rfl | rfl) (hy : X.N[i]? = some y := by rfl) (hyl : X.env.scope.names.lookup y = some .local := by rfl)
    (hsw : swapsWith (.ListComp elt [⟨tg, iter, ifs, 0⟩] scope pos) (some (.Name y py)) spos.line X.env = pure true := by rfl) (hs : ∀ x, foldedSetIterable iter X.env x = pure x := by intro _; rfl) :
    PS X (.Assign [.Name y py] (.ListComp elt [⟨tg, iter, ifs, 0⟩] scope pos) spos) (tS W Wx (cAsg (cLc fi g ct ce (own.map (·.2)) n) (gNm i))) := by
  refine (ps_setLc G.calm G.nd hy hyl hsw hi (blkOk_by ok) hg ht he hs).imp fun Dn s H ⟨m, h, r, S, E, f⟩ => ?_
  refine lc_read (iter := iter) (lim_le hn) hts ⟨m, h, r, S, E, (FS.on E f).imp fun m1 h1 H1 d S1 e1 f1 v hv => ?_⟩
  exact f1 m1 H1 _ S1 (Ext.refl _ _ _) ((E.ext e1).set i hv)
theorem q_yes : PTs X [] (tT W Wx cYes) := ti_yes
theorem q_one {c : Expr} {f : Ev → AH → Res Bool} (p : PT X c (tT W Wx f)) : PTs X [c] (tT W Wx f) := pts_one p
theorem q_val (G : Gd X W k) {tg : Expr} (p : PE X e (tI W Wx fe)) : L2.PI X tg e (iI W Wx (cIter fe)) := ii_val G.K.symm p
theorem q_rng1 {tg a : Expr} {p : Pos} {fa : Ev → AH → Res (List D)} (hm : X.mg "range" = none) (ha : PA X [a] (tA W Wx fa)) (hg : Gl X "range" := by rfl) (hs : starEach [a] X.env = [(false, eval a X.env)] := by rfl) : L2.PI X tg (.Call (.Name "range" p) [a] [] pos) (iI W Wx (cRng1 fa)) := ii_rng1 hg hm ha hs
theorem q_rng2 {tg a b : Expr} {p : Pos} {fa : Ev → AH → Res (List D)} (hm : X.mg "range" = none) (ha : PA X [a, b] (tA W Wx fa)) (hg : Gl X "range" := by rfl) (hs : starEach [a, b] X.env = [(false, eval a X.env), (false, eval b X.env)] := by rfl) (hs2 : starEach [b] X.env = [(false, eval b X.env)] := by rfl) :
    L2.PI X tg (.Call (.Name "range" p) [a, b] [] pos) (iI W Wx (cRng2 fa)) := ii_rng2 hg hm ha hs hs2
theorem q_callB {x : Str} {p : Pos} {es : List Expr} {fa : Ev → AH → Res (List D)} {op : OpL} {id : String} (hc : CallI X W (.builtin id) op) (hm : X.mg x = none) (ha : PA X (e :: es) (tA W Wx fa)) (hv : bootBuiltins x = some (.builtin id) := by decide +kernel) (hg : Gl X x := by rfl) (hn : x ≠ "__name__" := by decide) (hdb : (x == ("__debug__" : Str)) = false := by rfl)
    (he : starEach (e :: es) X.env = (false, eval e X.env) :: starEach es X.env := by rfl) (hpl : (backTo pos (starEach es X.env)).any (·.1) = false := by rfl) : PE X (.Call (.Name x p) (e :: es) [] pos) (tI W Wx (cB op fa)) := pi_callB hc hg hm hv ha hn hdb he hpl
theorem q_callTy {x : Str} {p : Pos} {es : List Expr} {fa : Ev → AH → Res (List D)} {op : OpL} {T : String} (hc : CallI X W (.type T) op) (hm : X.mg x = none) (ha : PA X (e :: es) (tA W Wx fa)) (hv : bootBuiltins x = some (.type T) := by decide +kernel) (hg : Gl X x := by rfl) (hn : x ≠ "__name__" := by decide) (hdb : (x == ("__debug__" : Str)) = false := by rfl)
    (he : starEach (e :: es) X.env = (false, eval e X.env) :: starEach es X.env := by rfl) (hpl : (backTo pos (starEach es X.env)).any (·.1) = false := by rfl) : PE X (.Call (.Name x p) (e :: es) [] pos) (tI W Wx (cB op fa)) := pi_callTy hc hg hm hv ha hn hdb he hpl
section
variable {f C : Addr} {fd : FuncData} {ps : List Str} {np : Nat} {cf : List D → AH → Res D} {x mn : Str} {p apos : Pos} {o : Expr} {es : List Expr} {fa : Ev → AH → Res (List D)} {fo : Ev → AH → Res D} {lv : Nat}
theorem q_call (G : Gd X W k) (tk : Takes X Wx) (F : FnG X.prog X.w X.K X.mg X.base lv f fd ps (spI W np cf)) (hm : X.mg x = some (.ref f)) (hk : PySem.W.keepIn X.K (.ref f) = true) (hb : Binds X.K fd ps []) (ha : PA X (e :: es) (tA W Wx fa)) (hl : lv ≤ k := by decide) (hg : Gl X x := by rfl)
    (hdb : (x == ("__debug__" : Str)) = false := by rfl) (he : starEach (e :: es) X.env = (false, eval e X.env) :: starEach es X.env := by rfl) (hpl : (backTo pos (starEach es X.env)).any (·.1) = false := by rfl) :
    PE X (.Call (.Name x p) (e :: es) [] pos) (tI W Wx (cCall np cf fa)) := pi_call (F.mono hl) G.room G.gd hg hm hk hb tk ha hdb he hpl
theorem q_call0 (G : Gd X W k) (tk : Takes X Wx) (F : FnG X.prog X.w X.K X.mg X.base lv f fd ps (spI W np cf)) (hm : X.mg x = some (.ref f)) (hk : PySem.W.keepIn X.K (.ref f) = true) (hb : Binds X.K fd ps []) (hl : lv ≤ k := by decide) (hg : Gl X x := by rfl) (hdb : (x == ("__debug__" : Str)) = false := by rfl) :
    PE X (.Call (.Name x p) [] [] pos) (tI W Wx (cCall np cf aNil)) := pi_call0 (F.mono hl) G.room G.gd hg hm hk hb tk hdb
theorem q_make (G : Gd X W (k + 1)) (tk : Takes X Wx) (c : Nat) (M : Mk X.K (W.cl c) f) (F : FnG X.prog X.w X.K X.mg X.base lv f fd ps (spI W np cf)) (hm : X.mg x = some (.ref (W.cl c))) (hb : Binds X.K fd ps []) (ha : PA X (e :: es) (tA W Wx fa)) (hl : lv ≤ k := by decide) (hg : Gl X x := by rfl)
    (hdb : (x == ("__debug__" : Str)) = false := by rfl) (he : starEach (e :: es) X.env = (false, eval e X.env) :: starEach es X.env := by rfl) (hpl : (backTo pos (starEach es X.env)).any (·.1) = false := by rfl) :
    PE X (.Call (.Name x p) (e :: es) [] pos) (tI W Wx (cMake c np cf fa)) := pi_make rfl M (F.mono hl) G.room G.gd hg hm hb tk ha hdb he hpl
theorem q_callK (G : Gd X W k) (tk : Takes X Wx) (perm : List Nat) (ks : List Str) {nu : Nat} {kws : List Keyword} {fk : Ev → AH → Res (List D)} (F : FnG X.prog X.w X.K X.mg X.base lv f fd ps (spI W np cf)) (hm : X.mg x = some (.ref f)) (hk : PySem.W.keepIn X.K (.ref f) = true) (hb : KwOk X.K fd ps ks nu perm)
    (ha : PA X (e :: es) (tA W Wx fa)) (hkw : PK X kws (tA W Wx fk)) (hl : lv ≤ k := by decide) (hg : Gl X x := by rfl) (hall : (backToKw pos (keywordEach kws X.env)).all (·.1.isSome) = true := by rfl) (hks : (backToKw pos (keywordEach kws X.env)).filterMap (·.1) = ks := by rfl)
    (hdb : (x == ("__debug__" : Str)) = false := by rfl) (he : starEach (e :: es) X.env = (false, eval e X.env) :: starEach es X.env := by rfl) (hpl : ((backTo pos (starEach (e :: es) X.env)).any (·.1) || (backToKw pos (keywordEach kws X.env)).any (·.1.isNone)) = false := by rfl) :
    PE X (.Call (.Name x p) (e :: es) kws pos) (tI W Wx (cCallK np nu ks.length perm cf fa fk)) := pi_callK (F.mono hl) G.room G.gd hg hm hk hb tk ha hkw hall hks hdb he hpl
theorem q_callK0 (G : Gd X W k) (tk : Takes X Wx) (perm : List Nat) (ks : List Str) {kws : List Keyword} {fk : Ev → AH → Res (List D)} (F : FnG X.prog X.w X.K X.mg X.base lv f fd ps (spI W np cf)) (hm : X.mg x = some (.ref f)) (hk : PySem.W.keepIn X.K (.ref f) = true) (hb : KwOk X.K fd ps ks 0 perm)
    (hkw : PK X kws (tA W Wx fk)) (hl : lv ≤ k := by decide) (hg : Gl X x := by rfl) (hall : (backToKw pos (keywordEach kws X.env)).all (·.1.isSome) = true := by rfl) (hks : (backToKw pos (keywordEach kws X.env)).filterMap (·.1) = ks := by rfl)
    (hdb : (x == ("__debug__" : Str)) = false := by rfl) (hpl : ((backTo pos (starEach [] X.env)).any (·.1) || (backToKw pos (keywordEach kws X.env)).any (·.1.isNone)) = false := by rfl) :
    PE X (.Call (.Name x p) [] kws pos) (tI W Wx (cCallK np 0 ks.length perm cf aNil fk)) := pi_callK0 (F.mono hl) G.room G.gd hg hm hk hb tk hkw hall hks hdb hpl
/-! methods, fields, properties -/
theorem mth_one {ct : List CR} {j : Nat} (h : ((List.range ct.length).all fun c => match mthOf ct mn c with | none => true | some i => i == j) = true) : ∀ c i, mthOf ct mn c = some i → i = j := fun c i e => by
  obtain ⟨r, hr⟩ := mthOf_cls e
  have := List.all_eq_true.mp h c (List.mem_range.mpr (List.getElem?_eq_some_iff.mp hr).1)
  rw [e] at this
  exact beq_iff_eq.mp this
theorem prp_one {ct : List CR} {P : Nat → Bool} (h : ((List.range ct.length).all fun c => match prpOf ct mn c with | none => true | some i => P i) = true) : ∀ c i, prpOf ct mn c = some i → P i = true := fun c i e => by
  have hlt : c < ct.length := by
    unfold prpOf at e
    cases q : ct[c]? with
    | none => rw [q] at e; cases e
    | some r => exact (List.getElem?_eq_some_iff.mp q).1
  have := List.all_eq_true.mp h c (List.mem_range.mpr hlt)
  rw [e] at this
  exact this
theorem q_meth (G : Gd X W k) (tk : Takes X Wx) (j : Nat) {ct : List CR} {fn : Nat → Addr} {call : Nat → List D → AH → Res D} {nps : Nat → Nat} (CT : CtOk X.K W ct fn) (F : FnG X.prog X.w X.K X.mg X.base lv (fn j) fd ps (spI W (nps j) (call j))) (hb : Binds X.K fd ps []) (hk : PySem.W.keepIn X.K (.ref (fn j)) = true)
    {pl : Sem Bool} (he : PE X o (tI W Wx fo)) (ha : PA X (e :: es) (tA W Wx fa)) (hl : lv ≤ k := by decide) (hj : ((List.range ct.length).all fun c => match mthOf ct mn c with | none => true | some i => i == j) = true := by decide +kernel)
    (hst : starEach (e :: es) X.env = (false, eval e X.env) :: starEach es X.env := by rfl) (hpl : (backTo pos (starEach es X.env)).any (·.1) = false := by rfl)
    (ht : eval (.Call (.Attribute o mn apos) (e :: es) [] pos) X.env = (do
      let ov ← eval o X.env
      standAt apos.atName
      let (f, first) ← holding [ov] (getMethod ov mn pl)
      callWith pos f first (backTo pos (starEach (e :: es) X.env)) (backToKw pos (keywordEach [] X.env))) := by rfl) :
    PE X (.Call (.Attribute o mn apos) (e :: es) [] pos) (tI W Wx (cMeth ct call nps mn fo fa)) :=
  pi_meth (n := fun i => i = j) CT ⟨fun i e => by subst e; exact ⟨fd, ps, F.mono hl, hb, hk⟩⟩ (mth_one hj) G.room G.gd tk he ha hst hpl ht
theorem q_fld (G : Gd X W (k + 1)) {g : Str} {ct : List CR} {fn : Nat → Addr} {call : Nat → List D → AH → Res D} {nps : Nat → Nat} (CT : CtOk X.K W ct fn) (he : PE X o (tI W Wx fo)) (hj : ((List.range ct.length).all fun c => match prpOf ct g c with | none => true | some _ => false) = true := by decide +kernel)
    (hab : attributeBase o g X.env (eval o X.env) = eval o X.env := by rfl) : PE X (.Attribute o g pos) (tI W Wx (cAttr ct call nps g fo)) :=
  pi_attr (k := k) (n := fun _ => False) CT ⟨fun i e => e.elim⟩ (fun c i e => Bool.noConfusion (prp_one (P := fun _ => false) hj c i e)) G.room G.gd he hab
theorem q_prop (G : Gd X W (k + 1)) (j : Nat) {g : Str} {ct : List CR} {fn : Nat → Addr} {call : Nat → List D → AH → Res D} {nps : Nat → Nat} (CT : CtOk X.K W ct fn) (F : FnG X.prog X.w X.K X.mg X.base lv (fn j) fd ps (spI W (nps j) (call j))) (hb : Binds X.K fd ps []) (hk : PySem.W.keepIn X.K (.ref (fn j)) = true)
    (he : PE X o (tI W Wx fo)) (hl : lv ≤ k := by decide) (hj : ((List.range ct.length).all fun c => match prpOf ct g c with | none => true | some i => i == j) = true := by decide +kernel)
    (hab : attributeBase o g X.env (eval o X.env) = eval o X.env := by rfl) : PE X (.Attribute o g pos) (tI W Wx (cAttr ct call nps g fo)) :=
  pi_attr (k := k) (n := fun i => i = j) CT ⟨fun i e => by subst e; exact ⟨fd, ps, F.mono hl, hb, hk⟩⟩ (fun c i e => beq_iff_eq.mp (prp_one (P := fun i => i == j) hj c i e)) G.room G.gd he hab
theorem q_sfld {value : Expr} {g : Str} {pos' : Pos} {ct : List CR} {fn : Nat → Addr} (G : Gd X W k) (CT : CtOk X.K W ct fn) (ho : PE X o (tI W Wx fo)) (hv : PE X value (tI W Wx fe)) (hs : swapsWith value (some (.Attribute o g pos')) pos.line X.env = pure false := by rfl) :
    PS X (.Assign [.Attribute o g pos'] value pos) (tS W Wx (cFld ct g fo fe)) := si_fld G.K CT ho hv hs
theorem q_bm (G : Gd X W k) {op : OpL} {id T : String} {name : Str} (pa : PlainAttrs T) (slot : Slot T name id) (hty : typeOf (.builtin id) = pure (.type "method_descriptor")) (hm : MthI X W id op) (ho : PE X o (tI W Wx fo)) (ha : PA X (e :: es) (tA W Wx fa))
    (hbase : attributeBase o name X.env (eval o X.env) = eval o X.env := by rfl)
    (hfew : ((backTo pos (starEach (e :: es) X.env)).all (fun x => !x.1) && (backToKw pos (keywordEach [] X.env)).all (fun x => x.1.isSome)
      && decide ((e :: es).length + ([] : List Keyword).length + (if ([] : List Keyword).isEmpty then 0 else 1) < 30)) = true := by rfl)
    (hline : (apos.endLine == pos.line) = true := by rfl) (hs : starEach (e :: es) X.env = (false, eval e X.env) :: starEach es X.env := by rfl) (hplain : (backTo pos (starEach es X.env)).any (·.1) = false := by rfl) :
    PE X (.Call (.Attribute o name apos) (e :: es) [] pos) (tI W Wx (cBM T op fo fa)) := pi_bm G.K pa slot hty hm ho ha hbase hfew hline hs hplain
theorem q_bm0 (G : Gd X W k) {op : OpL} {id T : String} {name : Str} (pa : PlainAttrs T) (slot : Slot T name id) (hty : typeOf (.builtin id) = pure (.type "method_descriptor")) (hm : MthI X W id op) (ho : PE X o (tI W Wx fo))
    (hbase : attributeBase o name X.env (eval o X.env) = eval o X.env := by rfl) (hline : (apos.endLine == pos.line) = true := by rfl) : PE X (.Call (.Attribute o name apos) [] [] pos) (tI W Wx (cBM T op fo aNil)) := pi_bm0 G.K pa slot hty hm ho hbase hline
end
end
/-! ### the facts of the classes, from lists -/
theorem lookup_mem' {β : Type} {m : Str} {b : β} : ∀ {l : List (Str × β)}, l.lookup m = some b → (m, b) ∈ l
  | [], h => by cases h
  | (k, c) :: r, h => by
    rw [List.lookup_cons] at h
    split at h
    · rename_i q
      cases h
      rw [eq_of_beq q]
      exact List.mem_cons_self
    · exact List.mem_cons_of_mem _ (lookup_mem' h)
structure CtL (K : PySem.W.Frag) (W : Wd) (fa : Nat → Addr) (c : Nat) (r : CR) : Prop where
  cls : Cls K (W.cl c)
  fld : ∀ f ∈ r.fields, NoAttr K (W.cl c) f
  mth : ∀ p ∈ r.meths, Meth K (W.cl c) p.1 (fa p.2)
  prp : ∀ p ∈ r.props, ∃ q, PropOf K (W.cl c) p.1 q (fa p.2)
  ini : ∀ i, r.ini = some i → Mk K (W.cl c) (fa i)
theorem CtOk.of {K : PySem.W.Frag} {W : Wd} {ct : List CR} {fa : Nat → Addr} (h : ∀ c r, ct[c]? = some r → CtL K W fa c r) : CtOk K W ct fa where
  cls := fun c r e => (h c r e).cls
  fld := fun c r f e hf => (h c r e).fld f hf
  mth := fun c m i e => by
    unfold mthOf at e
    split at e
    · rename_i r q
      exact (h c r q).mth (m, i) (lookup_mem' e)
    · cases e
  prp := fun c r f i e hl => (h c r e).prp (f, i) (lookup_mem' hl)
  ini := fun c r i e hi => (h c r e).ini i hi
end PI
/-! PJL: laws of the combinators (plain Lean): loops, comprehensions, leaving. -/
namespace PI
open PySem L2

/-! ### leaving -/
theorem fc_fz {W : Wd} {m : Nat → Addr} {h : AH} {H : Hp} {q : Res D} {Q : VK} {E : XK} (S : SR W m h H) (f : FC W m h H (fzR h q) Q E) : FC W m h H q Q E := by
  cases q with
  | ok d h' =>
    intro m' H' v S' e hv
    unfold fzR at f
    simp only at f
    split at f
    · rename_i ko
      obtain ⟨S2, e2⟩ := PI.leave S S' e ko
      split at f
      · rename_i d' ed
        refine f m H' v S2 e2 ?_
        have el : (h'.take h.length).length = h.length := by rw [List.length_take]; have := ko.1; omega
        rw [el]
        exact frz_ok S' e.fewer 9 d d' v ed hv
      · exact False.elim f
    · exact False.elim f
  | err c fs h' =>
    intro m' H' cls dd S' e x
    unfold fzR at f
    simp only at f
    split at f
    · rename_i ko
      obtain ⟨S2, e2⟩ := PI.leave S S' e ko
      split at f
      · rename_i l el'
        have el : (h'.take h.length).length = h.length := by rw [List.length_take]; have := ko.1; omega
        refine f m H' cls dd S2 e2 ?_
        rw [el]
        exact XR.leave S' e.fewer el' x
      · exact False.elim f
    · exact False.elim f
  | bad => exact f
/-- a def whose answer is given out as a value -/
noncomputable def fzF (cf : List D → AH → Res D) : List D → AH → Res D := fun ds h => fzR h (cf ds h)
theorem spI_fz {W : Wd} {np : Nat} {cf : List D → AH → Res D} {vs : List V} {H : Hp} {Q : VK} {E : XK} (s : spI W np (fzF cf) vs H Q E) : spI W np cf vs H Q E := by
  obtain ⟨m, h, ds, S, hv, hl, f⟩ := s
  exact ⟨m, h, ds, S, hv, hl, fc_fz S f⟩
theorem fzF_cl {cf : List D → AH → Res D} {ds : List D} {h j : AH} {d : D} (e : cf ds h = .ok d (h ++ j)) (c : clD h.length d = true) : fzF cf ds h = .ok d h := by
  unfold fzF
  rw [e, fzR_cl c]
theorem fzF_cl0 {cf : List D → AH → Res D} {ds : List D} {h : AH} {d : D} (e : cf ds h = .ok d h) (c : clD h.length d = true) : fzF cf ds h = .ok d h := by
  unfold fzF
  rw [e, fzR_cl0 c]
theorem fz_cl0 {f : Ev → AH → Res D} {r : Ev} {h : AH} {d : D} (e : f r h = .ok d h) (c : clD h.length d = true) : fz f r h = .ok d h := by
  unfold fz
  rw [e, fzR_cl0 c]
theorem fz_lst {f : Ev → AH → Res D} {r : Ev} {h : AH} {l : List D} (e : f r h = newL l h) (c : clDs h.length l = true) : fz f r h = .ok (.rl l) h := by
  unfold fz
  rw [e]
  exact fzR_lst c
theorem fzF_lst {cf : List D → AH → Res D} {ds : List D} {h j : AH} {l : List D} (e : cf ds h = .ok (.ref h.length) (h ++ O.lst l :: j)) (c : clDs h.length l = true) : fzF cf ds h = .ok (.rl l) h := by
  unfold fzF
  rw [e]
  exact fzR_lst c
theorem clDs_map {α : Type} {n : Nat} {F : α → D} : ∀ {l : List α}, (∀ x ∈ l, clD n (F x) = true) → clDs n (l.map F) = true
  | [], _ => rfl
  | x :: l, h => by
    simp only [List.map_cons, clDs, Bool.and_eq_true]
    exact ⟨h x List.mem_cons_self, clDs_map fun y hy => h y (List.mem_cons_of_mem _ hy)⟩
theorem clDs_all {n : Nat} : ∀ {l : List D}, (∀ x ∈ l, clD n x = true) → clDs n l = true
  | [], _ => rfl
  | x :: l, h => by
    simp only [clDs, Bool.and_eq_true]
    exact ⟨h x List.mem_cons_self, clDs_all fun y hy => h y (List.mem_cons_of_mem _ hy)⟩
/-! ### places in heaps -/
theorem get_app {h j : AH} {a : Nat} {o : O} (e : h[a]? = some o) : (h ++ j)[a]? = some o := by
  rw [List.getElem?_append_left (List.getElem?_eq_some_iff.mp e).1]
  exact e
theorem get_new {h j : AH} {o : O} : (h ++ o :: j)[h.length]? = some o := by
  rw [List.getElem?_append_right (Nat.le_refl _), Nat.sub_self]
  rfl
theorem set_new {h j : AH} {x y : O} : (h ++ x :: j).set h.length y = h ++ y :: j := by
  rw [List.set_append_right _ _ (Nat.le_refl _), Nat.sub_self]
  rfl
theorem get_set {h : AH} {o a : Nat} {x y : O} (ne : a ≠ o) (e : h[a]? = some y) : (h.set o x)[a]? = some y := by
  rw [List.getElem?_set_ne ne.symm]
  exact e
theorem get_setS {h : AH} {a : Nat} {x : O} (ha : a < h.length) : (h.set a x)[a]? = some x := by
  rw [List.getElem?_set_self ha]
theorem sizeLine_big : (1000000 : Nat) ≤ sizeLine := by decide +kernel

/-! ### comprehensions -/
theorem lcl_run {α : Type} {g : D → Ev → AH → GR} {ct : Ev → AH → Res Bool} {ce : Ev → AH → Res D} {it : Iq} {r : Ev} {h : AH} {l : List α} {G F : α → D} {p : α → Bool} (hit : ∀ acc i, nextI it i (h ++ [O.lst acc]) = some (l[i]?.map G))
    (step : ∀ x ∈ l, ∀ acc, ∃ r1, g (G x) r (h ++ [O.lst acc]) = some (r1, h ++ [O.lst acc]) ∧ ct r1 (h ++ [O.lst acc]) = .ok (p x) (h ++ [O.lst acc]) ∧ (p x = true → ce r1 (h ++ [O.lst acc]) = .ok (F x) (h ++ [O.lst acc]))) :
    ∀ (n i : Nat) (acc : List D), l.length - i < n → acc.length + (l.length - i) < sizeLine → cLcL g ct ce h.length n it i r (h ++ [O.lst acc]) = .ok () (h ++ [O.lst (acc ++ ((l.drop i).filter p).map F)])
  | 0, i, acc, hn, _ => absurd hn (Nat.not_lt_zero _)
  | n + 1, i, acc, hn, hs => by
    unfold cLcL
    rw [hit]
    cases e : l[i]? with
    | none =>
      have : l.length ≤ i := List.getElem?_eq_none_iff.mp e
      simp only [Option.map_none, List.append_nil, List.drop_eq_nil_of_le this, List.filter_nil, List.map_nil]
    | some x =>
      obtain ⟨hi, rfl⟩ := List.getElem?_eq_some_iff.mp e
      obtain ⟨r1, e1, e2, e3⟩ := step _ (List.getElem_mem hi) acc
      rw [List.drop_eq_getElem_cons hi]
      cases hp : p l[i] with
      | false =>
        rw [hp] at e2
        simp only [Option.map_some, e1, e2]
        rw [lcl_run hit step n (i + 1) acc (by omega) (by omega), List.filter_cons_of_neg (by rw [hp]; exact Bool.false_ne_true)]
      | true =>
        rw [hp] at e2
        have ih := lcl_run hit step n (i + 1) (acc ++ [F l[i]]) (by omega) (by rw [List.length_append, List.length_singleton]; omega)
        simp only [Option.map_some, e1, e2, e3 hp, get_new, set_new]
        rw [if_pos (show acc.length < sizeLine by omega), ih, List.filter_cons_of_pos hp, List.map_cons, List.append_assoc, List.singleton_append]
theorem lc_if {α : Type} {fi : Ev → AH → Res Iq} {g : D → Ev → AH → GR} {ct : Ev → AH → Res Bool} {ce : Ev → AH → Res D} {vs : List Nat} {n : Nat} {it : Iq} {r : Ev} {h : AH} (l : List α) (G F : α → D) (p : α → Bool) (hf : fi r h = .ok it h) (hn : l.length < n) (hn2 : n ≤ 1000000)
    (hit : ∀ acc i, nextI it i (h ++ [O.lst acc]) = some (l[i]?.map G))
    (step : ∀ x ∈ l, ∀ acc, ∃ r1, g (G x) (wipeD r vs) (h ++ [O.lst acc]) = some (r1, h ++ [O.lst acc]) ∧ ct r1 (h ++ [O.lst acc]) = .ok (p x) (h ++ [O.lst acc]) ∧ (p x = true → ce r1 (h ++ [O.lst acc]) = .ok (F x) (h ++ [O.lst acc]))) :
    cLc fi g ct ce vs n r h = newL ((l.filter p).map F) h := by
  unfold cLc newL
  have e := lcl_run hit step n 0 [] (by omega) (by have := sizeLine_big; rw [List.length_nil]; omega)
  simp only [List.drop_zero, List.nil_append] at e
  simp only [hf, Res.bind, e]
theorem lc_map {α : Type} {fi : Ev → AH → Res Iq} {g : D → Ev → AH → GR} {ce : Ev → AH → Res D} {vs : List Nat} {n : Nat} {it : Iq} {r : Ev} {h : AH} (l : List α) (G F : α → D) (hf : fi r h = .ok it h) (hn : l.length < n) (hn2 : n ≤ 1000000)
    (hit : ∀ acc i, nextI it i (h ++ [O.lst acc]) = some (l[i]?.map G))
    (step : ∀ x ∈ l, ∀ acc, ∃ r1, g (G x) (wipeD r vs) (h ++ [O.lst acc]) = some (r1, h ++ [O.lst acc]) ∧ ce r1 (h ++ [O.lst acc]) = .ok (F x) (h ++ [O.lst acc])) :
    cLc fi g cYes ce vs n r h = newL (l.map F) h := by
  have e := lc_if l G F (fun _ => true) hf hn hn2 hit fun x hx acc => by
    obtain ⟨r1, e1, e2⟩ := step x hx acc
    exact ⟨r1, e1, rfl, fun _ => e2⟩
  rw [List.filter_eq_self.mpr (fun _ _ => rfl)] at e
  exact e
/-- .. whose answer leaves as a value -/
theorem fz_lc_if {α : Type} {fi : Ev → AH → Res Iq} {g : D → Ev → AH → GR} {ct : Ev → AH → Res Bool} {ce : Ev → AH → Res D} {vs : List Nat} {n : Nat} {it : Iq} {r : Ev} {h : AH} (l : List α) (G F : α → D) (p : α → Bool) (hf : fi r h = .ok it h) (hn : l.length < n) (hn2 : n ≤ 1000000)
    (hit : ∀ acc i, nextI it i (h ++ [O.lst acc]) = some (l[i]?.map G)) (hF : ∀ x ∈ l, clD h.length (F x) = true)
    (step : ∀ x ∈ l, ∀ acc, ∃ r1, g (G x) (wipeD r vs) (h ++ [O.lst acc]) = some (r1, h ++ [O.lst acc]) ∧ ct r1 (h ++ [O.lst acc]) = .ok (p x) (h ++ [O.lst acc]) ∧ (p x = true → ce r1 (h ++ [O.lst acc]) = .ok (F x) (h ++ [O.lst acc]))) :
    fz (cLc fi g ct ce vs n) r h = .ok (.rl ((l.filter p).map F)) h :=
  fz_lst (lc_if l G F p hf hn hn2 hit step) (clDs_map fun x hx => hF x (List.mem_filter.mp hx).1)
theorem fz_lc {α : Type} {fi : Ev → AH → Res Iq} {g : D → Ev → AH → GR} {ce : Ev → AH → Res D} {vs : List Nat} {n : Nat} {it : Iq} {r : Ev} {h : AH} (l : List α) (G F : α → D) (hf : fi r h = .ok it h) (hn : l.length < n) (hn2 : n ≤ 1000000)
    (hit : ∀ acc i, nextI it i (h ++ [O.lst acc]) = some (l[i]?.map G)) (hF : ∀ x ∈ l, clD h.length (F x) = true)
    (step : ∀ x ∈ l, ∀ acc, ∃ r1, g (G x) (wipeD r vs) (h ++ [O.lst acc]) = some (r1, h ++ [O.lst acc]) ∧ ce r1 (h ++ [O.lst acc]) = .ok (F x) (h ++ [O.lst acc])) :
    fz (cLc fi g cYes ce vs n) r h = .ok (.rl (l.map F)) h :=
  fz_lst (lc_map l G F hf hn hn2 hit step) (clDs_map hF)
/-- a comprehension that changes the heap below by an invariant; its items are F y with Q y -/
theorem lcl_inv {α β : Type} {g : D → Ev → AH → GR} {ce : Ev → AH → Res D} {it : Iq} {r : Ev} {N : Nat} {l : List α} {G : α → D} {F : β → D} (Q : Nat → β → Prop) (P : Nat → AH → Prop) (hN : ∀ i X, P i X → X.length = N) (hit : ∀ i X acc, P i X → nextI it i (X ++ [O.lst acc]) = some (l[i]?.map G))
    (step : ∀ (i : Nat) (hi : i < l.length) (X : AH) (acc : List D), P i X → ∃ r1 y X2, g (G l[i]) r (X ++ [O.lst acc]) = some (r1, X ++ [O.lst acc]) ∧ Q i y ∧ ce r1 (X ++ [O.lst acc]) = .ok (F y) (X2 ++ [O.lst acc]) ∧ P (i + 1) X2) :
    ∀ (n i : Nat) (X : AH) (acc : List D), l.length - i < n → i ≤ l.length → acc.length + (l.length - i) < sizeLine → P i X → ∃ (ys : List β) (X' : AH), ys.length = l.length - i ∧ (∀ (k : Nat) (y : β), ys[k]? = some y → Q (i + k) y) ∧ cLcL g cYes ce N n it i r (X ++ [O.lst acc]) = .ok () (X' ++ [O.lst (acc ++ ys.map F)]) ∧ P l.length X'
  | 0, i, X, acc, hn, _, _, _ => absurd hn (Nat.not_lt_zero _)
  | n + 1, i, X, acc, hn, hle, hs, p => by
    unfold cLcL
    rw [hit i X acc p]
    cases e : l[i]? with
    | none =>
      have hl : l.length ≤ i := List.getElem?_eq_none_iff.mp e
      have hi : i = l.length := Nat.le_antisymm hle hl
      subst hi
      exact ⟨[], X, by simp, fun k y hy => by simp at hy, by simp, p⟩
    | some x =>
      obtain ⟨hi, rfl⟩ := List.getElem?_eq_some_iff.mp e
      obtain ⟨r1, y, X2, e1, q, e2, p2⟩ := step i hi X acc p
      obtain ⟨ys, X3, el, qs, e3, p3⟩ := lcl_inv Q P hN hit step n (i + 1) X2 (acc ++ [F y]) (by omega) hi (by rw [List.length_append, List.length_singleton]; omega) p2
      refine ⟨y :: ys, X3, by rw [List.length_cons, el]; omega, fun k z hz => ?_, ?_, p3⟩
      · cases k with
        | zero => simp at hz; subst hz; exact q
        | succ k =>
          have := qs k z (by simpa using hz)
          rwa [show i + 1 + k = i + (k + 1) by omega] at this
      · have l2 := hN _ _ p2
        have gn : (X2 ++ [O.lst acc])[N]? = some (.lst acc) := by rw [← l2]; exact get_new
        have sn : (X2 ++ [O.lst acc]).set N (.lst (acc ++ [F y])) = X2 ++ [O.lst (acc ++ [F y])] := by rw [← l2]; exact set_new
        simp only [Option.map_some, e1, cYes, e2, gn, sn]
        rw [if_pos (show acc.length < sizeLine by omega), e3, List.append_assoc, List.map_cons, List.singleton_append]
theorem fz_lc_inv {α β : Type} {fi : Ev → AH → Res Iq} {g : D → Ev → AH → GR} {ce : Ev → AH → Res D} {vs : List Nat} {n : Nat} {it : Iq} {r : Ev} {h h1 : AH} (l : List α) (G : α → D) (F : β → D) (Q : Nat → β → Prop) (P : Nat → AH → Prop) (hf : fi r h = .ok it h1) (hn : l.length < n) (hn2 : n ≤ 1000000) (p0 : P 0 h1) (hN : ∀ i X, P i X → X.length = h.length)
    (hK : ∀ i X, P i X → KO h X) (hit : ∀ i X acc, P i X → nextI it i (X ++ [O.lst acc]) = some (l[i]?.map G)) (hF : ∀ i y, Q i y → clD h.length (F y) = true)
    (step : ∀ (i : Nat) (hi : i < l.length) (X : AH) (acc : List D), P i X → ∃ r1 y X2, g (G l[i]) (wipeD r vs) (X ++ [O.lst acc]) = some (r1, X ++ [O.lst acc]) ∧ Q i y ∧ ce r1 (X ++ [O.lst acc]) = .ok (F y) (X2 ++ [O.lst acc]) ∧ P (i + 1) X2) :
    ∃ (ys : List β) (X' : AH), ys.length = l.length ∧ (∀ (k : Nat) (y : β), ys[k]? = some y → Q k y) ∧ fz (cLc fi g cYes ce vs n) r h = .ok (.rl (ys.map F)) X' ∧ P l.length X' := by
  obtain ⟨ys, X', el, qs, e, p'⟩ := lcl_inv (N := h.length) Q P hN hit step n 0 h1 [] (by omega) (Nat.zero_le _) (by have := sizeLine_big; rw [List.length_nil]; omega) p0
  have qs' : ∀ (k : Nat) (y : β), ys[k]? = some y → Q k y := fun k y hy => by have := qs k y hy; rwa [Nat.zero_add] at this
  refine ⟨ys, X', by omega, qs', ?_, p'⟩
  have l1 := hN _ _ p0
  have lX := hN _ _ p'
  rw [List.nil_append] at e
  have ec : cLc fi g cYes ce vs n r h = .ok (.ref h.length) (X' ++ [O.lst (ys.map F)]) := by
    unfold cLc
    simp only [hf, Res.bind, l1, e]
  have cl : clDs h.length (ys.map F) = true := clDs_map fun y hy => by
    obtain ⟨k, hk, rfl⟩ := List.mem_iff_getElem.mp hy
    exact hF k _ (qs' k _ (List.getElem?_eq_getElem hk))
  have gn : (X' ++ [O.lst (ys.map F)])[h.length]? = some (.lst (ys.map F)) := by rw [← lX]; exact get_new
  have cf : ¬ clD h.length (.ref h.length) = true := by simp [clD]
  have ef : frzD (X' ++ [O.lst (ys.map F)]) h.length 9 (.ref h.length) = some (.rl (ys.map F)) := by
    unfold frzD
    rw [if_neg cf]
    simp only [gn, mapP_cl cl, Option.map_some]
  unfold fz
  rw [ec]
  simp only [fzR, if_pos ((hK _ _ p').app2 [O.lst (ys.map F)]), ef]
  rw [← lX, take_app]
/-! ### for, while -/
theorem forl {α : Type} {g : D → Ev → AH → GR} {b : Ev → AH → RS} {it : Iq} {l : List α} {G : α → D} (P : Nat → Ev → AH → Prop) (hit : ∀ i r h, P i r h → nextI it i h = some (l[i]?.map G))
    (step : ∀ (i : Nat) (hi : i < l.length) (r : Ev) (h : AH), P i r h → ∃ r1 h1 r2 h2, g (G l[i]) r h = some (r1, h1) ∧ (b r1 h1 = .nx r2 h2 ∨ b r1 h1 = .ct r2 h2) ∧ P (i + 1) r2 h2) :
    ∀ (n i : Nat) (r : Ev) (h : AH), l.length - i < n → i ≤ l.length → P i r h → ∃ r' h', cForL g b n it i r h = .nx r' h' ∧ P l.length r' h'
  | 0, i, r, h, hn, _, _ => absurd hn (Nat.not_lt_zero _)
  | n + 1, i, r, h, hn, hle, p => by
    unfold cForL
    rw [hit i r h p]
    cases e : l[i]? with
    | none =>
      have hl : l.length ≤ i := List.getElem?_eq_none_iff.mp e
      have : i = l.length := Nat.le_antisymm hle hl
      subst this
      exact ⟨r, h, rfl, p⟩
    | some x =>
      obtain ⟨hi, rfl⟩ := List.getElem?_eq_some_iff.mp e
      obtain ⟨r1, h1, r2, h2, e1, e2, p2⟩ := step i hi r h p
      obtain ⟨r3, h3, e3, p3⟩ := forl P hit step n (i + 1) r2 h2 (by omega) hi p2
      refine ⟨r3, h3, ?_, p3⟩
      simp only [Option.map_some, e1]
      rcases e2 with e2 | e2
      · simp only [e2]
        exact e3
      · simp only [e2]
        exact e3
theorem forl0 {α : Type} {g : D → Ev → AH → GR} {b : Ev → AH → RS} {it : Iq} {l : List α} {G : α → D} {n : Nat} {r : Ev} {h : AH} (P : Nat → Ev → AH → Prop) (hit : ∀ i r h, P i r h → nextI it i h = some (l[i]?.map G))
    (step : ∀ (i : Nat) (hi : i < l.length) (r : Ev) (h : AH), P i r h → ∃ r1 h1 r2 h2, g (G l[i]) r h = some (r1, h1) ∧ (b r1 h1 = .nx r2 h2 ∨ b r1 h1 = .ct r2 h2) ∧ P (i + 1) r2 h2) (hn : l.length < n) (p : P 0 r h) :
    ∃ r' h', cForL g b n it 0 r h = .nx r' h' ∧ P l.length r' h' := forl P hit step n 0 r h (by omega) (Nat.zero_le _) p
/-- a for that may return, by a test of the items: before the first item that has q it goes on -/
theorem forlR {α : Type} {g : D → Ev → AH → GR} {b : Ev → AH → RS} {it : Iq} {l : List α} {G : α → D} (P : Nat → Ev → AH → Prop) (R : RS → Prop) (hit : ∀ i r h, P i r h → nextI it i h = some (l[i]?.map G))
    (step : ∀ (i : Nat) (hi : i < l.length) (r : Ev) (h : AH), P i r h → ∃ r1 h1, g (G l[i]) r h = some (r1, h1) ∧ ((∃ r2 h2, (b r1 h1 = .nx r2 h2 ∨ b r1 h1 = .ct r2 h2) ∧ P (i + 1) r2 h2) ∨ (∃ d h2, b r1 h1 = .rt d h2 ∧ R (.rt d h2)) ∨ (∃ r2 h2, b r1 h1 = .bk r2 h2 ∧ R (.nx r2 h2)) ∨ ∃ c fs r2 h2, b r1 h1 = .er c fs r2 h2 ∧ R (.er c fs r2 h2))) :
    ∀ (n i : Nat) (r : Ev) (h : AH), l.length - i < n → i ≤ l.length → P i r h → R (cForL g b n it i r h) ∨ ∃ r' h', cForL g b n it i r h = .nx r' h' ∧ P l.length r' h'
  | 0, i, r, h, hn, _, _ => absurd hn (Nat.not_lt_zero _)
  | n + 1, i, r, h, hn, hle, p => by
    unfold cForL
    rw [hit i r h p]
    cases e : l[i]? with
    | none =>
      have hl : l.length ≤ i := List.getElem?_eq_none_iff.mp e
      have : i = l.length := Nat.le_antisymm hle hl
      subst this
      exact .inr ⟨r, h, rfl, p⟩
    | some x =>
      obtain ⟨hi, rfl⟩ := List.getElem?_eq_some_iff.mp e
      obtain ⟨r1, h1, e1, e2⟩ := step i hi r h p
      simp only [Option.map_some, e1]
      rcases e2 with ⟨r2, h2, e2, p2⟩ | ⟨d, h2, e2, q⟩ | ⟨r2, h2, e2, q⟩ | ⟨c, fs, r2, h2, e2, q⟩
      · have ih := forlR P R hit step n (i + 1) r2 h2 (by omega) hi p2
        rcases e2 with e2 | e2
        · simp only [e2]
          exact ih
        · simp only [e2]
          exact ih
      · simp only [e2]
        exact .inl q
      · simp only [e2]
        exact .inl q
      · simp only [e2]
        exact .inl q
/-- a while by an invariant with a falling number -/
theorem whl0 {c : Ev → AH → Res Bool} {b : Ev → AH → RS} (P : Nat → Ev → AH → Prop) (step : ∀ n r h, P n r h → c r h = .ok false h ∨ (c r h = .ok true h ∧ ∃ n' r2 h2, n' < n ∧ b r h = .nx r2 h2 ∧ P n' r2 h2)) :
    ∀ (N n : Nat) (r : Ev) (h : AH), n < N → P n r h → ∃ n' r' h', cWhl c b N r h = .nx r' h' ∧ P n' r' h' ∧ c r' h' = .ok false h'
  | 0, n, r, h, hn, _ => absurd hn (Nat.not_lt_zero _)
  | N + 1, n, r, h, hn, p => by
    unfold cWhl
    rcases step n r h p with e | ⟨e, n', r2, h2, hlt, e2, p2⟩
    · refine ⟨n, r, h, ?_, p, e⟩
      simp only [e, onRes, Bool.false_eq_true, if_false]
    · obtain ⟨n3, r3, h3, e3, p3, q3⟩ := whl0 P step N n' r2 h2 (by omega) p2
      refine ⟨n3, r3, h3, ?_, p3, q3⟩
      simp only [e, onRes, if_true, e2, e3]
/-- a range, as its items -/
theorem next_rng (lo : Int) (n i : Nat) (h : AH) : nextI (.rng lo n) i h = some ((List.range n)[i]?.map fun (k : Nat) => D.int (lo + (k : Int))) := by
  simp only [nextI]
  by_cases e : i < n
  · rw [if_pos e, List.getElem?_range e]; rfl
  · rw [if_neg e, List.getElem?_eq_none (by rw [List.length_range]; omega)]; rfl
theorem next_rng0 (n i : Nat) (h : AH) : nextI (.rng 0 n) i h = some ((List.range n)[i]?.map fun (k : Nat) => D.int (k : Int)) := by
  have := next_rng 0 n i h
  simp only [Int.zero_add] at this
  exact this
theorem next_lst {α : Type} {h : AH} {a : Nat} {l : List α} {G : α → D} (e : h[a]? = some (.lst (l.map G))) (i : Nat) : nextI (.lst a) i h = some (l[i]?.map G) := by
  simp only [nextI, e, List.getElem?_map]
theorem next_tup {α : Type} {h : AH} {l : List α} {G : α → D} (i : Nat) : nextI (.tup (l.map G)) i h = some (l[i]?.map G) := by
  simp only [nextI, List.getElem?_map]
theorem next_rl {α : Type} {h : AH} {l : List α} {G : α → D} (i : Nat) : nextI (.rl (l.map G)) i h = some (l[i]?.map G) := by
  simp only [nextI, List.getElem?_map]
theorem atI_nat {α : Type} (l : List α) (k : Nat) : atI l (k : Int) = l[k]? := by
  unfold atI ixN
  by_cases h : k < l.length
  · have h1 : (0 : Int) ≤ k := by omega
    have h2 : (k : Int) < l.length := by omega
    simp [h2]
  · have h1 : (0 : Int) ≤ k := by omega
    have h2 : ¬ (k : Int) < l.length := by omega
    simp [h2]
    omega
theorem atI_last {α : Type} (l : List α) (h : 0 < l.length) : atI l (-1) = l[l.length - 1]? := by
  unfold atI ixN
  have h1 : ¬ (0 : Int) ≤ -1 := by omega
  have h2 : -(l.length : Int) ≤ -1 := by omega
  simp [h2]
  first
    | rfl
    | (congr 1; omega)
theorem ix_lst {h : AH} {a : Nat} {l : List D} (k : Nat) {d : D} (e : h[a]? = some (.lst l)) (hd : l[k]? = some d) : ixD (.ref a) (.int (k : Int)) h = .ok d h := by
  simp only [ixD, e, atI_nat l k, hd]
theorem ix_tup {h : AH} {l : List D} (k : Nat) {d : D} (hd : l[k]? = some d) : ixD (.tup l) (.int (k : Int)) h = .ok d h := by
  simp only [ixD, atI_nat l k, hd]
theorem ix_rl {h : AH} {l : List D} (k : Nat) {d : D} (hd : l[k]? = some d) : ixD (.rl l) (.int (k : Int)) h = .ok d h := by
  simp only [ixD, atI_nat l k, hd]
theorem mapO_map {α β γ : Type} {f : β → Option γ} {g : α → β} {k : α → γ} (e : ∀ x, f (g x) = some (k x)) : ∀ l : List α, mapO f (l.map g) = some (l.map k)
  | [] => rfl
  | x :: l => by
    simp only [List.map_cons, mapO, e, mapO_map e l, Option.bind_some]
end PI
/-! PJM: more constructs: three names at once, d.get. -/
namespace PI
open PySem L2 PyProof.Rows
section
variable {X : Cx} {W : Wd} {Wx : WX} {pos : Pos} {k : Nat}
def cPar3 (i j l : Nat) (fa : Ev → AH → Res (List D)) : Ev → AH → RS := fun r h => onRes (fa r h) r fun ds h1 => match ds with
  | [x, y, z] => .nx (((r.set i (some x)).set j (some y)).set l (some z)) h1
  | _ => .bad
theorem VRs.three {m : Nat → Addr} {n : Nat} {H : Hp} {a b c : D} {xs : List V} (h : VRs W m n H [a, b, c] xs) : ∃ x y z, xs = [x, y, z] ∧ VR W m n H a x ∧ VR W m n H b y ∧ VR W m n H c z := by
  simp only [VRs] at h
  obtain ⟨x, r, rfl, h1, y, r2, rfl, h2, z, r3, rfl, h3, rfl⟩ := h
  exact ⟨x, y, z, rfl, h1, h2, h3⟩
theorem q_par3 (G : Gd X W k) (i j l : Nat) {x y z : Str} {a b c : Expr} {fa : Ev → AH → Res (List D)} {px py pz pt : Pos} {kt k2 pt2} (ha : PA X [a, b, c] (tA W Wx fa)) (hi : X.N[i]? = some x := by rfl) (hj : X.N[j]? = some y := by rfl) (hl : X.N[l]? = some z := by rfl) (hij : i ≠ j := by decide) (hil : i ≠ l := by decide) (hjl : j ≠ l := by decide)
    (hx : X.env.scope.names.lookup x = some .local := by rfl) (hy : X.env.scope.names.lookup y = some .local := by rfl) (hz : X.env.scope.names.lookup z = some .local := by rfl)
    (hw : swappedStores [.Tuple [.Name x px, .Name y py, .Name z pz] kt pt] (.Tuple [a, b, c] k2 pt2) X.env = pure (some [x, y, z]) := by rfl)
    (hs : swapsWithSole [.Tuple [.Name x px, .Name y py, .Name z pz] kt pt] (.Tuple [a, b, c] k2 pt2) pos.line X.env = pure false := by rfl) :
    PS X (.Assign [.Tuple [.Name x px, .Name y py, .Name z pz] kt pt] (.Tuple [a, b, c] k2 pt2) pos) (tS W Wx (cPar3 i j l fa)) := by
  refine (ps_par3 G.calm G.nd hi hj hl hij hil hjl hx hy hz ha hw hs).imp fun Dn s H ⟨m, h, r, S, E, f⟩ => ⟨m, h, r, S, E, (FS.on E f).imp fun m1 h1 H1 ds S1 e1 f1 vs hv => ?_⟩
  split at f1
  · obtain ⟨u, v, w, rfl, h1, h2, h3⟩ := VRs.three hv
    exact ⟨u, v, w, rfl, f1 m1 H1 _ S1 (Ext.refl _ _ _) ((((E.ext e1).set i h1).set j h2).set l h3)⟩
  · exact False.elim f1
/-- what a dict has at a key -/
def lookAt (h : AH) (o y : D) : Option (Option D) := match o with
  | .ref a => match h[a]? with
    | some ob => lookD ob y
    | none => none
  | .fd ks l => lookD (.dK (ks.zip l)) y
  | .ft ks l => lookD (.dT (ks.zip l)) y
  | _ => none
theorem lookAt_ok {m : Nat → Addr} {h : AH} {H : Hp} {o y : D} {u v : V} {r : Option D} (S : SR W m h H) (ho : VR W m h.length H o u) (hy : VR W m h.length H y v) (e : lookAt h o y = some r) :
    ∃ p q, u = .ref p ∧ DGet H p v q ∧ (∀ d', r = some d' → ∃ u, q = some u ∧ VR W m h.length H d' u) ∧ (r = none → q = none) := by
  cases o with
  | ref a =>
    simp only [VR] at ho
    obtain ⟨ha, rfl⟩ := ho
    simp only [lookAt] at e
    split at e
    · rename_i ob q
      obtain ⟨q2, g⟩ := look_get S q hy e
      exact ⟨m a, q2, rfl, g⟩
    · cases e
  | fd ks l => exact look_fd ho rfl hy e
  | ft ks l => exact look_fd ho rfl hy e
  | _ => cases e
def isDicD (h : AH) : D → Bool
  | .ref a => match h[a]? with
    | some ob => (dicOf ob).isSome
    | none => false
  | .fd _ _ => true
  | .ft _ _ => true
  | _ => false
theorem isDicD_ok {m : Nat → Addr} {h : AH} {H : Hp} {o : D} {u : V} (S : SR W m h H) (ho : VR W m h.length H o u) (e : isDicD h o = true) : ∃ a, u = .ref a ∧ IsD H a := by
  cases o with
  | ref a =>
    simp only [VR] at ho
    obtain ⟨ha, rfl⟩ := ho
    simp only [isDicD] at e
    split at e
    · rename_i ob q
      obtain ⟨u, q1, q2⟩ := S.obj a _ q
      refine ⟨m a, rfl, ?_⟩
      cases ob with
      | dK l => obtain ⟨ys, rfl, _⟩ := q2; exact .inl ⟨ys, .inl q1⟩
      | dT l => obtain ⟨ys, rfl, _⟩ := q2; exact .inr ⟨ys, .inl q1⟩
      | frz o =>
        obtain ⟨ob, u', rfl, q2⟩ := q2
        cases o with
        | dK l => obtain ⟨ys, rfl, _⟩ := q2; exact .inl ⟨ys, .inr ⟨ob, q1⟩⟩
        | dT l => obtain ⟨ys, rfl, _⟩ := q2; exact .inr ⟨ys, .inr ⟨ob, q1⟩⟩
        | _ => cases e
      | _ => cases e
    · cases e
  | fd ks l =>
    simp only [VR] at ho
    obtain ⟨p, ys, rfl, h2, _⟩ := ho
    exact ⟨p, rfl, .inl ⟨ys, h2.1⟩⟩
  | ft ks l =>
    simp only [VR] at ho
    obtain ⟨p, ys, rfl, h2, _⟩ := ho
    exact ⟨p, rfl, .inr ⟨ys, h2.1⟩⟩
  | _ => cases e
/-- d.get(y), d.get(y, z) -/
def cGet2 (fd fy fz : Ev → AH → Res D) : Ev → AH → Res D := fun r h => (fd r h).bind fun o h1 => if isDicD h1 o = true then (fy r h1).bind fun y h2 => (fz r h2).bind fun z h3 => match lookAt h3 o y with
  | some (some d) => .ok d h3
  | some none => .ok z h3
  | none => .bad else .bad
def cGet1 (fd fy : Ev → AH → Res D) : Ev → AH → Res D := fun r h => (fd r h).bind fun o h1 => if isDicD h1 o = true then (fy r h1).bind fun y h2 => match lookAt h2 o y with
  | some (some d) => .ok d h2
  | some none => .ok .non h2
  | none => .bad else .bad
theorem q_get2 (G : Gd X W k) {o e f : Expr} {apos : Pos} {fo fe ff : Ev → AH → Res D} (ho : PE X o (tI W Wx fo)) (he : PE X e (tI W Wx fe)) (hf : PE X f (tI W Wx ff)) (m : M2 X o "get" apos e f pos := by exact ⟨rfl, rfl, rfl, rfl⟩) :
    PE X (.Call (.Attribute o "get" apos) [e, f] [] pos) (tI W Wx (cGet2 fo fe ff)) := by
  refine (pe_dget2 (G.u 1) ho he hf m).imp fun s H Q ⟨m, h, r, S, E, y⟩ => ⟨m, h, r, S, E, (Fin.bind y).imp fun m1 h1 H1 d S1 e1 y1 v hv => ?_⟩
  split at y1
  · rename_i hd
    obtain ⟨a, rfl, isd⟩ := isDicD_ok S1 hv hd
    refine ⟨a, rfl, isd, m1, h1, r, S1, E.ext e1, (Fin.bind y1).imp fun m2 h2 H2 y S2 e2 y2 v hv2 => ⟨m2, h2, r, S2, (E.ext e1).ext e2, (Fin.bind y2).imp fun m3 h3 H3 z S3 e3 y3 w hw => ?_⟩⟩
    have hv3 := (hv.ext e2).ext e3
    have hy3 := hv2.ext e3
    cases q : lookAt h3 d y with
    | none => simp only [q] at y3; exact False.elim y3
    | some t =>
      obtain ⟨p, q2, e4, g, g1, g2⟩ := lookAt_ok S3 hv3 hy3 q
      cases e4
      refine ⟨q2, g, ?_⟩
      cases t with
      | none =>
        simp only [q] at y3
        rw [g2 rfl]
        exact y3.here S3 w hw
      | some d' =>
        simp only [q] at y3
        obtain ⟨x, rfl, hx⟩ := g1 d' rfl
        exact y3.here S3 x hx
  · exact False.elim y1
theorem q_get1 (G : Gd X W k) {o e : Expr} {apos : Pos} {fo fe : Ev → AH → Res D} (ho : PE X o (tI W Wx fo)) (he : PE X e (tI W Wx fe)) (m : M1 X o "get" apos e pos := by exact ⟨rfl, rfl, rfl, rfl⟩) :
    PE X (.Call (.Attribute o "get" apos) [e] [] pos) (tI W Wx (cGet1 fo fe)) := by
  refine (pe_dget1 (G.u 1) ho he m).imp fun s H Q ⟨m, h, r, S, E, y⟩ => ⟨m, h, r, S, E, (Fin.bind y).imp fun m1 h1 H1 d S1 e1 y1 v hv => ?_⟩
  split at y1
  · rename_i hd
    obtain ⟨a, rfl, isd⟩ := isDicD_ok S1 hv hd
    refine ⟨a, rfl, isd, m1, h1, r, S1, E.ext e1, (Fin.bind y1).imp fun m2 h2 H2 y S2 e2 y2 v hv2 => ?_⟩
    have hv3 := hv.ext e2
    cases q : lookAt h2 d y with
    | none => simp only [q] at y2; exact False.elim y2
    | some t =>
      obtain ⟨p, q2, e4, g, g1, g2⟩ := lookAt_ok S2 hv3 hv2 q
      cases e4
      refine ⟨q2, g, ?_⟩
      cases t with
      | none =>
        simp only [q] at y2
        rw [g2 rfl]
        exact y2.here S2 .non (by simp only [VR])
      | some d' =>
        simp only [q] at y2
        obtain ⟨x, rfl, hx⟩ := g1 d' rfl
        exact y2.here S2 x hx
  · exact False.elim y1
theorem q_setLcZ (G : Gd X W k) (n : Nat) (own : List (Str × Nat)) (i : Nat) {y : Str} {py : Pos} {spos : Pos} {elt tg iter : Expr} {ifs : List Expr} {scope : Scope} {ts : List Nat} {fi : Ev → AH → Res Iq} {g : D → Ev → AH → GR} {ct : Ev → AH → Res Bool} {ce : Ev → AH → Res D}
    (hi : L2.PI X tg iter (iI W Wx fi))
    (hg : ∀ (s : Shared) (H : Hp) (C : Addr) (cl : List (Str × Addr)) (fp : List Addr), PG (X.blk s H scope (compEnvC scope cl C X.env) fp) tg (tG W ts g))
    (ht : ∀ (s : Shared) (H : Hp) (C : Addr) (cl : List (Str × Addr)) (fp : List Addr), PTs (X.blk s H scope (compEnvC scope cl C X.env) fp) ifs (tT W (fun _ _ _ _ => False) ct))
    (he : ∀ (s : Shared) (H : Hp) (C : Addr) (cl : List (Str × Addr)) (fp : List Addr), PE (X.blk s H scope (compEnvC scope cl C X.env) fp) elt (tI W (fun _ _ _ _ => False) ce))
    (hn : n ≤ LIM := by decide) (hts : ∀ j ∈ ts, j ∈ own.map (·.2) := by decide) (ok : blkC X.N X.env.scope scope own = true := by first | kernel_rfl | rfl) (hy : X.N[i]? = some y := by rfl) (hyl : X.env.scope.names.lookup y = some .local := by rfl)
    (hsw : swapsWith (.ListComp elt [⟨tg, iter, ifs, 0⟩] scope pos) (some (.Name y py)) spos.line X.env = pure true := by rfl) (hs : ∀ x, foldedSetIterable iter X.env x = pure x := by intro _; rfl) :
    PS X (.Assign [.Name y py] (.ListComp elt [⟨tg, iter, ifs, 0⟩] scope pos) spos) (tS W Wx (cAsg (fz (cLc fi g ct ce (own.map (·.2)) n)) (gNm i))) := by
  refine (ps_setLc G.calm G.nd hy hyl hsw hi (blkOk_by ok) hg ht he hs).imp fun Dn s H ⟨m, h, r, S, E, f⟩ => ?_
  have f1 : Fin W Wx m h H s (fzR h (cLc fi g ct ce (own.map (·.2)) n r h)) (fun m' h' H' d => ∀ v, VR W m' h'.length H' d v → Dn.nx (s.set i (some v)) H') :=
    (FS.on E f).imp fun m1 h1 H1 d S1 e1 f1 v hv => f1 m1 H1 _ S1 (Ext.refl _ _ _) ((E.ext e1).set i hv)
  exact lc_read (iter := iter) (lim_le hn) hts ⟨m, h, r, S, E, fin_fz S f1⟩
end
end PI
/-! PJN: sorted(set(l)) of a list of whole numbers. -/
namespace PI
open PySem PySem.Spec L2 PyProof.Rows
section
variable {P : Program} {w : World} {A : Around} {E : Value → Shared → Prop} {s : Shared}
/-- the new set, empty -/
abbrev set0 (w : World) : Obj := { cls := .type "set", dict := none, data := .set #[] 0 (.fresh 0 0 (!w.params.followText "set-order")) }
/-- what stands behind set(l): the set is new, all else as before -/
def Made (w : World) (ns : List Int) (s s' : Shared) : Prop := ∃ h' tk c, s' = { s with heap := h', toks := tk } ∧ SetR w h' s.heap.objs.size (fun j => decide (j ∈ ns)) c ∧ c ≤ ns.length ∧ ∀ b o, s.heap.get? b = some o → h'.get? b = some o
/-- the body of set.__init__: the empty set at S is filled from the list -/
theorem fill_ints {l : Addr} {items : Array Value} (ns : List Int) (hA : A.handled = none) (hl : s.heap.IsList l items) (hi : IntsAre items.toList ns) (hb : ns.length + 1 < scanBound) :
    codeAny (model P w) A (.call (.builtin "set.__init__") ⟨[.ref s.heap.objs.size, .ref l], []⟩) (wants (fun r s' => r = .none ∧ Made w ns s s') E) { s with heap := s.heap.push (set0 w) } := by
  obtain ⟨⟨c, d, y, sl⟩, at0, rfl, n0, rfl⟩ := hl
  have lt : l < s.heap.objs.size := Heap.lt_size at0
  have at1 : (s.heap.push (set0 w)).get? l = some _ := Heap.get?_push_of_some _ at0
  have new : (s.heap.push (set0 w)).get? s.heap.objs.size = some (set0 w) := Heap.get?_push_size _ rfl
  have L : (s.heap.push (set0 w)).IsList l items := ⟨_, at1, rfl, n0, rfl⟩
  have z1 : (s.heap.push (set0 w)).objs.size = s.heap.objs.size + 1 := Heap.size_push ..
  have n1 := F.sub_list_set
  have n2 := F.sub_list_frozenset
  have n3 : (Value.type "list" == Value.type "dict") = false := by decide
  have len : items.size = ns.length := by rw [← Array.length_toList]; exact IntsAre.length hi
  refine codeAny_call_builtin F.called_set.init.plain F.entry_set_init (check_set_init_1 ⟨_, new, rfl⟩ ?_)
  unfold Builtin.«set.__init__» noKeywords Builtin.Frozenset.updateFrom
  generalize e : pyIter = it
  wp_walk
  subst e
  refine wpAny_pyIter_list L (wpAny_bind (wpAny_runValue ?_))
  have k1 : ∀ (i : Nat) (v : Value), items[i]? = some v → ∃ k t, ns[i]? = some k ∧ v = .int k t := fun i v e => by
    have b : i < ns.length := len ▸ (Array.getElem?_eq_some_iff.mp e).1
    obtain ⟨t, q⟩ := IntsAre.int_at hi i v (by rw [Array.getElem?_toList, e])
    exact ⟨ns[i], t, List.getElem?_eq_getElem b, by rw [q, List.getD_eq_getElem?_getD, List.getElem?_eq_getElem b]; rfl⟩
  have k2 : s.heap.objs.size ∉ [(s.heap.push (set0 w)).objs.size, l] := fun z => by
    rcases List.mem_cons.mp z with z | z
    · exact absurd (z.trans z1) (by omega)
    · exact Nat.ne_of_gt lt (List.mem_singleton.mp z)
  have k3 : l ≠ (s.heap.push (set0 w)).objs.size := fun z => Nat.ne_of_lt (Nat.lt_succ_of_lt lt) (z.trans z1)
  have Wk := (Walks.list (prog := P) (w := w) (A := A.in1.in1) (by simp [hA]) (s.heap.push (set0 w)).objs.size l k3 items).toS
  refine set_update_ints Wk s.heap.objs.size k2 ns len hb k1 items.size 0 _ (by omega) (Nat.zero_le _) ⟨⟨_, Heap.get?_push_size _ rfl, rfl, rfl⟩, L.push _⟩ ⟨0, Nat.le_refl 0, setR_new_at (Heap.get?_push_of_some _ new)⟩ fun s' c mv hc hS => ?_
  refine wpAny_pure ?_
  show wpAny _ _ (ret Value.none) _ _ _
  refine wpAny_pure ⟨rfl, s'.heap, s'.toks, c, ?_, hS, by omega, fun b o q => ?_⟩
  · obtain ⟨g1, g2, g3, g4, g5⟩ := s'
    have := mv.gens
    have := mv.drawn
    have := mv.os
    simp_all
  · have lb : b < s.heap.objs.size := Heap.lt_size q
    refine mv.heap b o (fun z => ?_) (Heap.get?_push_of_some _ (Heap.get?_push_of_some _ q))
    rcases List.mem_cons.mp z with z | z
    · exact Nat.ne_of_lt lb z
    · exact Nat.ne_of_lt (Nat.lt_succ_of_lt lb) ((List.mem_singleton.mp z).trans z1)
set_option maxHeartbeats 3200000 in
/-- set(l), l a list of whole numbers -/
theorem call_set_ints {l : Addr} {items : Array Value} (ns : List Int) {Q : Value → Shared → Prop} (hA : A.handled = none) (hl : s.heap.IsList l items) (hi : IntsAre items.toList ns) (hb : ns.length + 1 < scanBound)
    (K : ∀ s', Made w ns s s' → Q (.ref s.heap.objs.size) s') : wpAny (model P w) A (call (.type "set") [.ref l]) Q E s := by
  have T := F.called_set
  obtain ⟨c, tl, m1⟩ := T.mro
  have m2 := T.made
  have m3 := T.sub
  have m4 := T.notType
  have m5 := T.canCreate
  have m6 := F.typeCall_set_1 (.ref l)
  refine wpAny_call (codeAny_of_tree ?_)
  show wpAny _ _ (callAny (.type "set") _) _ _ _
  refine wpAny_pure ⟨Code.quiet_builtin _ (by decide +kernel), codeAny_builtin F.entry_type_call ?_⟩
  rw [Around.under_plain (weight_type_call_type "set" [.ref l] []) rfl]
  repeat (any_goals (first | assumption | wp_step))
  refine codeAny_mono (code_set_led1 (.ref l) (E := E) (Q₁ := fun v s1 => v = .ref s.heap.objs.size ∧ s1 = { s with heap := s.heap.push (set0 w) }) ⟨rfl, rfl⟩) fun r s1 q => ?_
  rcases r with x | y
  · exact q
  cases y with
  | ret v =>
    obtain ⟨rfl, rfl⟩ := q
    have t0 : Shared.TypeIs { s with heap := s.heap.push (set0 w) } (.ref s.heap.objs.size) "set" := ⟨_, Heap.get?_push_size _ rfl, rfl⟩
    have t1 := T.init.lookup
    have t2 := T.init.bind (.ref s.heap.objs.size)
    repeat (any_goals (first | assumption | wp_step))
    refine codeAny_mono (fill_ints (E := E) ns (by simp [hA]) hl hi hb) fun r s1 q => ?_
    rcases r with x | y
    · exact q
    cases y with
    | ret v =>
      obtain ⟨rfl, q⟩ := q
      repeat (any_goals (first | assumption | wp_step))
      exact K _ q
    | _ => exact q.elim
  | _ => exact q.elim
end
section
variable {X : Cx}
theorem upd_kept {H : Hp} {a : Addr} {u : HO} (ha : H a = none) : ∀ b o, H b = some o → upd H a u b = some o := fun b o e => by
  have ne : b ≠ a := fun z => by rw [z, ha] at e; cases e
  exact (if_neg ne).trans e
/-- set(l) as a rule -/
def rSetL (K : PySem.W.Frag) (w : World) : List V → Hp → VK → Prop := fun vs H Q => ∃ (l : Addr) (ns : List Int), vs = [V.ref l] ∧ SqL K H l (ns.map V.int) ∧ ns.length ≤ 1000 ∧
  ∀ (a : Addr) (c : Nat), H a = none → c ≤ ns.length → Q (.ref a) (upd H a (SetO w a (fun j => decide (j ∈ ns)) c))
theorem cr_setL (hc : X.calm = true) : CallR X (.type "set") (rSetL X.K X.w) := by
  intro pins s σ H vs us Q I r h
  obtain ⟨l, ns, rfl, hl, hn, q⟩ := h
  rw [Vals.ref1 r]
  obtain ⟨its, rl, at0, _⟩ := I.list hl
  have hb : ns.length + 1 < scanBound := by unfold scanBound; omega
  refine call_set_ints ns (I.ok.hd hc) at0.isList (Vals.ints rl) hb fun s' ⟨h', tk, c, e, R, hcn, kp⟩ => ?_
  subst e
  have free : H s.heap.objs.size = none := I.hok.fresh (Nat.le_refl _)
  exact ⟨.ref _, _, I.laid (t' := tk) kp (Nat.le_refl _) (setO_new R), rfl, q _ c free hcn⟩
end
/-! the plain side -/
/-- k in its place in an ascending list, once -/
def insI (k : Int) : List Int → List Int
  | [] => [k]
  | x :: l => if k < x then k :: x :: l else if x = k then x :: l else x :: insI k l
theorem insI_mem {k j : Int} : ∀ {l : List Int}, j ∈ insI k l ↔ j = k ∨ j ∈ l
  | [] => by simp [insI]
  | x :: l => by
    unfold insI
    split
    · simp
    · split
      · rename_i e
        subst e
        simp
      · simp only [List.mem_cons, insI_mem (l := l)]
        constructor
        · rintro (h | h | h) <;> simp [h]
        · rintro (h | h | h) <;> simp [h]
theorem insI_asc {k : Int} : ∀ {l : List Int}, l.Pairwise (· < ·) → (insI k l).Pairwise (· < ·)
  | [], _ => by simp [insI]
  | x :: l, p => by
    obtain ⟨p1, p2⟩ := List.pairwise_cons.mp p
    unfold insI
    split
    · rename_i lt
      exact List.pairwise_cons.mpr ⟨fun y hy => (List.mem_cons.mp hy).elim (fun e => e ▸ lt) fun e => Int.lt_trans lt (p1 y e), p⟩
    · split
      · exact p
      · refine List.pairwise_cons.mpr ⟨fun y hy => ?_, insI_asc p2⟩
        rcases insI_mem.mp hy with e | e
        · omega
        · exact p1 y e
/-- ascending, each once -/
def ascI (ns : List Int) : List Int := ns.foldr insI []
theorem ascI_mem {j : Int} : ∀ {l : List Int}, j ∈ ascI l ↔ j ∈ l
  | [] => by simp [ascI]
  | x :: l => by
    show j ∈ insI x (ascI l) ↔ _
    rw [insI_mem, ascI_mem, List.mem_cons]
theorem ascI_asc : ∀ {l : List Int}, (ascI l).Pairwise (· < ·)
  | [] => List.Pairwise.nil
  | x :: l => insI_asc ascI_asc
theorem asc_one : ∀ {a b : List Int}, a.Pairwise (· < ·) → b.Pairwise (· < ·) → (∀ k, k ∈ a ↔ k ∈ b) → a = b
  | [], [], _, _, _ => rfl
  | [], y :: _, _, _, e => absurd ((e y).mpr List.mem_cons_self) List.not_mem_nil
  | x :: _, [], _, _, e => absurd ((e x).mp List.mem_cons_self) List.not_mem_nil
  | x :: a, y :: b, p, q, e => by
    obtain ⟨p1, p2⟩ := List.pairwise_cons.mp p
    obtain ⟨q1, q2⟩ := List.pairwise_cons.mp q
    have xy : x = y := by
      rcases List.mem_cons.mp ((e x).mp List.mem_cons_self) with z | z
      · exact z
      · rcases List.mem_cons.mp ((e y).mpr List.mem_cons_self) with z2 | z2
        · exact z2.symm
        · have := q1 x z
          have := p1 y z2
          omega
    subst xy
    rw [asc_one p2 q2 fun k => ?_]
    constructor
    · intro h
      rcases List.mem_cons.mp ((e k).mp (List.mem_cons_of_mem _ h)) with z | z
      · have := p1 k h
        omega
      · exact z
    · intro h
      rcases List.mem_cons.mp ((e k).mpr (List.mem_cons_of_mem _ h)) with z | z
      · have := q1 k h
        omega
      · exact z
/-- sorted(set(l)) -/
def ssO : OpL := fun ds h => match ds with
  | [d] => match listD h d with
    | some l => match mapO dInt l with
      | some ns => if ns.length < 64 then some (.ref h.length, h ++ [.lst ((ascI ns).map D.int)]) else none
      | none => none
    | none => none
  | _ => none
theorem ints_of {W : Wd} {m : Nat → Addr} {n : Nat} {H : Hp} : ∀ {l : List D} {ns : List Int} {xs : List V}, mapO dInt l = some ns → VRs W m n H l xs → xs = ns.map V.int
  | [], ns, xs, e, r => by
    cases e
    simp only [VRs] at r
    exact r
  | d :: l, ns, xs, e, r => by
    simp only [VRs] at r
    obtain ⟨x, r', rfl, h1, h2⟩ := r
    simp only [mapO] at e
    cases z : dInt d with
    | none => rw [z] at e; cases e
    | some i =>
      cases z2 : mapO dInt l with
      | none => rw [z, z2] at e; cases e
      | some js =>
        rw [z, z2] at e
        cases e
        cases d <;> simp only [dInt, reduceCtorEq] at z
        cases z
        simp only [VR] at h1
        rw [h1, ints_of z2 h2]
        rfl
section
variable {X : Cx} {W : Wd} {Wx : WX} {p q pos pos2 : Pos} {e : Expr} {fa : Ev → AH → Res (List D)}
/-- sorted(set(e)) -/
theorem pi_ss (hK : X.K = W.K) (hc : X.calm = true) (hu : X.A.units + 100 < cLine) (hg : Gl X "sorted") (hm : X.mg "sorted" = none) (hg2 : Gl X "set") (hm2 : X.mg "set" = none) (ha : PA X [e] (tA W Wx fa)) (he : starEach [e] X.env = [(false, eval e X.env)])
    (he2 : starEach [.Call (.Name "set" q) [e] [] pos2] X.env = [(false, eval (.Call (.Name "set" q) [e] [] pos2) X.env)]) :
    PE X (.Call (.Name "sorted" p) [.Call (.Name "set" q) [e] [] pos2] [] pos) (tI W Wx (cB ssO fa)) := by
  have inner : PE X (.Call (.Name "set" q) [e] [] pos2) fun σ H Q => tA W Wx fa σ H fun vs H1 => rSetL X.K X.w vs H1 Q := ⟨fun pins s σ H Q I h => Call_ (ld_blt I hg2 hm2 PyProof.Rows.boot_set (callWith_type1 (thn (ha.run pos2 pins s σ H _ I h) fun us s1 ⟨vs, H1, I1, r1, q1⟩ => cr_setL hc pins s1 σ H1 vs us Q I1 r1 q1) he rfl))⟩
  refine ⟨fun pins s σ H Q I ⟨m, h, r, S, E, y⟩ => ?_⟩
  refine Call_ (ld_blt I hg hm (by decide +kernel) (callWith_builtin1 (thn ((pa_cons inner pa_nil he2).run pos pins s σ H _ I ?_) fun us s1 ⟨vs, H1, I1, r1, q1⟩ => cr_sortedSet hc pins s1 σ H1 vs us Q I1 r1 q1) he2 rfl))
  refine ⟨m, h, r, S, E, ?_⟩
  refine (args_fin y).imp fun m1 h1 H1 ds S1 e1 y1 vs hv => ?_
  obtain ⟨m, h, ds, d, h', S, hv, z, k⟩ := y1 vs hv
  unfold ssO at z
  split at z
  · rename_i d0
    obtain ⟨v, rfl, hv1⟩ := VRs.one hv
    split at z
    · rename_i l zl
      obtain ⟨a, xs, rfl, w1, w2⟩ := listD_ok S hv1 zl
      split at z
      · rename_i ns zn
        split at z
        · rename_i hn
          cases z
          obtain rfl := ints_of zn w2
          refine ⟨a, ns, rfl, hK ▸ w1, by omega, fun b c hb hcn => ?_⟩
          refine ⟨b, _, c, rfl, if_pos rfl, by omega, fun out o asc mem _ ho => ?_⟩
          have eo : out = ascI ns := asc_one asc ascI_asc fun k => by
            rw [mem k, ascI_mem, decide_eq_true_iff]
          subst eo
          have kp := upd_kept (u := SetO X.w b (fun j => decide (j ∈ ns)) c) hb
          have S2 := S.keep kp
          exact fin_lst S2 (ints_VRs _) ho fun m' H' v S' e' hv' => k m' H' v S' ((ext_of_keep S kp).trans e') hv'
        · cases z
      · cases z
    · cases z
  · cases z
end
end PI
/-! PJO: list(range(n)), tuple(range(n)), sorted(d) and list(d) of a dict that stays, and how they are called. -/
namespace PI
open PySem L2 PyProof.Rows
variable {X : Cx} {W : Wd} {Wx : WX}
/-- the numbers below n -/
def upTo (n : Int) : List D := (List.range n.toNat).map fun (k : Nat) => D.int (k : Int)
def cLR (fe : Ev → AH → Res D) : Ev → AH → Res D := fun r h => (fe r h).bind fun d h1 => match d with
  | .int n => if inR 1000000 n = true then newL (upTo n) h1 else .bad
  | _ => .bad
def cTR (fe : Ev → AH → Res D) : Ev → AH → Res D := fun r h => (fe r h).bind fun d h1 => match d with
  | .int n => if inR 1000000 n = true then .ok (.tup (upTo n)) h1 else .bad
  | _ => .bad
theorem upTo_VRs {m : Nat → Addr} {k : Nat} {H : Hp} (n : Int) : VRs W m k H (upTo n) (rgV 0 n) := by
  have e1 : upTo n = ((List.range n.toNat).map fun (k : Nat) => (k : Int)).map D.int := by
    unfold upTo
    rw [List.map_map]
    rfl
  have e2 : rgV 0 n = ((List.range n.toNat).map fun (k : Nat) => (k : Int)).map V.int := by
    unfold rgV
    rw [List.map_map, Int.sub_zero]
    exact List.map_congr_left fun k _ => by
      show V.int (0 + (k : Int)) = V.int (k : Int)
      rw [Int.zero_add]
  rw [e1, e2]
  exact ints_VRs _
theorem rg_ok {n : Int} (b : inR 1000000 n = true) : RgOk 0 n := by
  have := inR_ok.mp b
  exact ⟨by omega, by omega, by omega, by omega, by omega⟩
section
variable {a : Expr} {p q pos pos2 : Pos} {fe : Ev → AH → Res D}
theorem pi_lr (hc : X.calm = true) (hl : Gl X "list") (hl2 : X.mg "list" = none) (hr : Gl X "range") (hr2 : X.mg "range" = none) (ha : PE X a (tI W Wx fe)) (na : starEach [a] X.env = (false, eval a X.env) :: starEach [] X.env)
    (nb : starEach [.Call (.Name "range" q) [a] [] pos2] X.env = (false, eval (.Call (.Name "range" q) [a] [] pos2) X.env) :: starEach [] X.env) : PE X (.Call (.Name "list" p) [.Call (.Name "range" q) [a] [] pos2] [] pos) (tI W Wx (cLR fe)) := by
  refine (pe_listRg hc hl hl2 (prg_1 hr hr2 ha na) nb).imp fun s H Q ⟨m, h, r, S, E, y⟩ => ⟨m, h, r, S, E, (Fin.bind y).imp fun m1 h1 H1 d S1 e1 y1 v hv => ?_⟩
  cases d with
  | int n =>
    simp only [VR] at hv
    simp only at y1
    split at y1
    · rename_i b
      exact ⟨n, hv, rg_ok b, fun c hc => new_lst S1 (upTo_VRs n) hc y1⟩
    · exact False.elim y1
  | _ => exact False.elim y1
theorem pi_tr (hc : X.calm = true) (hl : Gl X "tuple") (hl2 : X.mg "tuple" = none) (hr : Gl X "range") (hr2 : X.mg "range" = none) (ha : PE X a (tI W Wx fe)) (na : starEach [a] X.env = (false, eval a X.env) :: starEach [] X.env)
    (nb : starEach [.Call (.Name "range" q) [a] [] pos2] X.env = (false, eval (.Call (.Name "range" q) [a] [] pos2) X.env) :: starEach [] X.env) : PE X (.Call (.Name "tuple" p) [.Call (.Name "range" q) [a] [] pos2] [] pos) (tI W Wx (cTR fe)) := by
  refine (pe_tupRg hc hl hl2 (prg_1 hr hr2 ha na) nb).imp fun s H Q ⟨m, h, r, S, E, y⟩ => ⟨m, h, r, S, E, (Fin.bind y).imp fun m1 h1 H1 d S1 e1 y1 v hv => ?_⟩
  cases d with
  | int n =>
    simp only [VR] at hv
    simp only at y1
    split at y1
    · rename_i b
      exact ⟨n, hv, rg_ok b, fun c hc => new_tup S1 (upTo_VRs n) hc y1⟩
    · exact False.elim y1
  | _ => exact False.elim y1
end
/-! the order of texts -/
def leS (x y : Str) : Bool := !Spec.ltCps y.cps.toList x.cps.toList
theorem leS_iff {x y : Str} : leS x y = true ↔ x.cps.toList ≤ y.cps.toList := by
  unfold leS
  rw [ltCps_eq, Bool.not_eq_true', decide_eq_false_iff_not]
  exact List.not_lt
theorem leS_total : PySem.W.TotalLe leS where
  trans a b c h1 h2 := leS_iff.mpr (List.le_trans (leS_iff.mp h1) (leS_iff.mp h2))
  total a b := (List.le_total a.cps.toList b.cps.toList).imp leS_iff.mpr leS_iff.mpr
theorem leS_anti {x y : Str} (h1 : leS x y = true) (h2 : leS y x = true) : x = y := by
  have := List.le_antisymm (leS_iff.mp h1) (leS_iff.mp h2)
  cases x
  cases y
  simp only at this
  rw [Array.toList_inj.mp this]
theorem pw_rising : ∀ {p : Str} {l : List Str}, risingS p l = true → (p :: l).Pairwise fun a b => leS a b = true
  | p, [], _ => List.pairwise_cons.mpr ⟨fun _ h => (List.not_mem_nil h).elim, List.Pairwise.nil⟩
  | p, x :: l, h => by
    simp only [risingS, Bool.and_eq_true] at h
    have q := pw_rising h.2
    refine List.pairwise_cons.mpr ⟨fun y hy => ?_, q⟩
    rcases List.mem_cons.mp hy with e | e
    · exact e ▸ h.1
    · exact leS_total.trans _ _ _ h.1 ((List.pairwise_cons.mp q).1 y e)
theorem pw_sortedS {l : List Str} (h : sortedS l = true) : l.Pairwise fun a b => leS a b = true := by
  cases l with
  | nil => exact List.Pairwise.nil
  | cons x l => exact pw_rising h
theorem asc_perm {α : Type} {le : α → α → Bool} : ∀ {l m : List α}, l.Perm m → l.Pairwise (fun a b => le a b = true) → m.Pairwise (fun a b => le a b = true) → (∀ a b, le a b = true → le b a = true → a = b) → l = m
  | [], m, p, _, _, _ => (List.nil_perm.mp p).symm
  | x :: l, [], p, _, _, _ => absurd p.length_eq (by simp)
  | x :: l, y :: m, p, h1, h2, an => by
    have p1 := List.pairwise_cons.mp h1
    have p2 := List.pairwise_cons.mp h2
    have e : x = y := by
      rcases List.mem_cons.mp (p.mem_iff.mp List.mem_cons_self : x ∈ y :: m) with e | hx
      · exact e
      · rcases List.mem_cons.mp (p.mem_iff.mpr List.mem_cons_self : y ∈ x :: l) with e | hy
        · exact e.symm
        · exact an x y (p1.1 y hy) (p2.1 x hx)
    subst e
    rw [asc_perm (List.Perm.cons_inv p) p1.2 p2.2 an]
def kStr : Key → Option Str
  | .inr x => some x
  | .inl _ => none
theorem keys_str : ∀ {ks : List Key} {xs : List Str}, mapO kStr ks = some xs → ks = xs.map Sum.inr
  | [], xs, e => by cases e; rfl
  | k :: ks, xs, e => by
    simp only [mapO] at e
    cases z : kStr k with
    | none => rw [z] at e; cases e
    | some x =>
      cases z2 : mapO kStr ks with
      | none => rw [z, z2] at e; cases e
      | some r =>
        rw [z, z2] at e
        cases e
        cases k with
        | inl _ => cases z
        | inr y =>
          cases z
          rw [keys_str z2]
          rfl
theorem strs_VRs {m : Nat → Addr} {n : Nat} {H : Hp} : ∀ {l : List Str}, VRs W m n H (l.map D.str) (l.map V.str)
  | [] => VRs.nil
  | k :: l => VRs.cons (by simp only [VR]) strs_VRs
/-- sorted(d), all keys texts -/
def srtFO : OpL := fun ds h => match ds with
  | [.fd ks l] => match mapO kStr ks with
    | some xs => if xs.length < 64 then some (.ref h.length, h ++ [.lst ((srtL leS xs).map D.str)]) else none
    | none => none
  | _ => none
theorem ci_sortedF (hc : X.calm = true) : CallI X W (.builtin "sorted") srtFO := CallI.of (call_sortedD hc) fun H vs Q m h ds d h' S hv e q => by
  unfold srtFO at e
  split at e
  · rename_i ks l
    obtain ⟨v, rfl, hv1⟩ := VRs.one hv
    simp only [VR] at hv1
    obtain ⟨p, ys, rfl, h1, h2, h3⟩ := hv1
    split at e
    · rename_i xs zk
      split at e
      · rename_i lt
        cases e
        refine ⟨p, ys, xs, rfl, h1.1, by rw [h2, keys_str zk], lt, fun out o pm asc ho => ?_⟩
        have eo : out = srtL leS xs := asc_perm (pm.trans srtL_perm.symm) (pw_sortedS asc) (srtL_pw leS_total) fun _ _ => leS_anti
        subst eo
        exact fin_lst S strs_VRs ho q
      · cases e
    · cases e
  · cases e
/-- list(d) -/
def listFO : OpL := fun ds h => match ds with
  | [.fd ks l] => some (.ref h.length, h ++ [.lst (ks.map kD)])
  | _ => none
theorem ci_listF (hc : X.calm = true) : CallI X W (.type "list") listFO := CallI.of (call_listD hc) fun H vs Q m h ds d h' S hv e q => by
  unfold listFO at e
  split at e
  · rename_i ks l
    obtain ⟨v, rfl, hv1⟩ := VRs.one hv
    simp only [VR] at hv1
    obtain ⟨p, ys, rfl, h1, h2, h3⟩ := hv1
    cases e
    refine ⟨p, ys, rfl, h1.1, fun c hc => ?_⟩
    have e2 : (ys.map fun kv => kV kv.1) = ks.map kV := by rw [← h2, List.map_map]; rfl
    rw [e2]
    exact fin_lst S (keys_VRs _) hc q
  · cases e
section
variable {k : Nat} {a : Expr} {p q pos pos2 : Pos} {fe : Ev → AH → Res D} {fa : Ev → AH → Res (List D)}
theorem q_ss (G : Gd X W k) (hm : X.mg "sorted" = none) (hm2 : X.mg "set" = none) (ha : PA X [a] (tA W Wx fa)) (hg : Gl X "sorted" := by rfl) (hg2 : Gl X "set" := by rfl) (he : starEach [a] X.env = [(false, eval a X.env)] := by rfl)
    (he2 : starEach [.Call (.Name "set" q) [a] [] pos2] X.env = [(false, eval (.Call (.Name "set" q) [a] [] pos2) X.env)] := by rfl) : PE X (.Call (.Name "sorted" p) [.Call (.Name "set" q) [a] [] pos2] [] pos) (tI W Wx (cB ssO fa)) := pi_ss G.K G.calm (G.u 100) hg hm hg2 hm2 ha he he2
theorem q_lr (G : Gd X W k) (hm : X.mg "list" = none) (hm2 : X.mg "range" = none) (ha : PE X a (tI W Wx fe)) (hg : Gl X "list" := by rfl) (hg2 : Gl X "range" := by rfl) (he : starEach [a] X.env = (false, eval a X.env) :: starEach [] X.env := by rfl)
    (he2 : starEach [.Call (.Name "range" q) [a] [] pos2] X.env = (false, eval (.Call (.Name "range" q) [a] [] pos2) X.env) :: starEach [] X.env := by rfl) : PE X (.Call (.Name "list" p) [.Call (.Name "range" q) [a] [] pos2] [] pos) (tI W Wx (cLR fe)) := pi_lr G.calm hg hm hg2 hm2 ha he he2
theorem q_tr (G : Gd X W k) (hm : X.mg "tuple" = none) (hm2 : X.mg "range" = none) (ha : PE X a (tI W Wx fe)) (hg : Gl X "tuple" := by rfl) (hg2 : Gl X "range" := by rfl) (he : starEach [a] X.env = (false, eval a X.env) :: starEach [] X.env := by rfl)
    (he2 : starEach [.Call (.Name "range" q) [a] [] pos2] X.env = (false, eval (.Call (.Name "range" q) [a] [] pos2) X.env) :: starEach [] X.env := by rfl) : PE X (.Call (.Name "tuple" p) [.Call (.Name "range" q) [a] [] pos2] [] pos) (tI W Wx (cTR fe)) := pi_tr G.calm hg hm hg2 hm2 ha he he2
end
end PI
/-! PJP: raise C() of an own class of exceptions, try .. except C: .. -/
namespace PI
open PySem PySem.Spec L2 PyProof.Rows
section
variable {X : Cx} {C : Addr} {bmB : List Value} {B newId initId : String}
/-- C(), C an own exception class without own __init__ -/
theorem pmk_own0 {x : Str} {p pos : Pos} (F : ExcBaseFacts B newId initId bmB) (q : PySem.W.excIn X.K C bmB newId = true) (gC : X.mg x = some (.ref C)) (kC : PySem.W.keepIn X.K (.ref C) = true) (r : Raises X (.ref C)) (hg : Gl X x) (hdb : (x == ("__debug__" : Str)) = false) :
    PMk X (.Call (.Name x p) [] [] pos) (fun _ H Q => Q (.ref C) none H) := by
  intro pins s σ H Q I h
  refine wpAny_Call_Name_kw (ld_glob I hg gC ?_ hdb)
  refine PySem.W.callWith_K0 I.kIn kC ?_
  obtain ⟨bm, N, nm, qn, bs, hdct, sn, sub, ab, col, dd, k0, k1, k2, k3, k5, mN, hC, hN, hni, T⟩ := exc_obj I.kIn q
  exact wpAny_call_exc_subT F T hC hN hni (fun h' e hm => mk_of I hm r h (I.hok.gone hm.new)) (Nat.zero_le _)
end
section
variable {X : Cx} {W : Wd} {Wx : WX} {pos pos' pos2 p np : Pos}
def cRai (c : Nat) : Ev → AH → RS := fun r h => .er c [] r h
/-- what is known of an own exception class without own __init__ -/
structure ExC (K : PySem.W.Frag) (C : Addr) (bmB : List Value) (newId : String) : Prop where
  ex : PySem.W.excIn K C bmB newId = true
  kp : PySem.W.keepIn K (.ref C) = true
  sb : PySem.W.subIn K (.ref C) (.type "BaseException") = some true
  ty : PySem.W.typeIn K (.ref C) = some (.type "type")
theorem si_rai {x : Str} {c : Nat} {bmB : List Value} {B newId initId : String} (hc : X.calm = true) (tk : Takes X Wx) (F : ExcBaseFacts B newId initId bmB) (M : ExC X.K (W.cl c) bmB newId) (gC : X.mg x = some (.ref (W.cl c))) (hg : Gl X x) (hdb : (x == ("__debug__" : Str)) = false) :
    PS X (.Raise (some (.Call (.Name x p) [] [] pos2)) none pos) (tS W Wx (cRai c)) :=
  (ps_raise hc tk (pmk_own0 F M.ex gC M.kp (raises_own M.sb M.ty) hg hdb)).imp fun Dn s H ⟨m, h, r, S, E, f⟩ => f m H s _ none S (Ext.refl _ _ _) E ⟨rfl, .inl ⟨rfl, rfl⟩⟩
/-- an except suite lets nothing out -/
def noEr : RS → RS
  | .er _ _ _ _ => .bad
  | q => q
theorem fs_noEr {m : Nat → Addr} {h : AH} {H : Hp} {q : RS} {Dn : Ends} (f : FS W Wx m h H (noEr q) Dn) : FS W (fun _ _ _ _ => False) m h H q Dn := by
  cases q with
  | er c fs r1 h1 => exact False.elim f
  | nx r1 h1 => exact f
  | rt r1 h1 => exact f
  | bk r1 h1 => exact f
  | ct r1 h1 => exact f
  | bad => exact f
/-- try: .. except C: .. -/
def cTry (fb : Ev → AH → RS) (cs : List (Nat × Bool)) (fh : Ev → AH → RS) : Ev → AH → RS := fun r h => match fb r h with
  | .er c fs r1 h1 => match cs.lookup c with
    | some true => noEr (fh r1 h1)
    | some false => .er c fs r1 h1
    | none => .bad
  | q => q
theorem si_try {x : Str} {cv : Value} {body suite : List Stmt} {b₀ : Stmt} {fb fh : Ev → AH → RS} {cs : List (Nat × Bool)} (hs : X.stack = X.env :: X.outer) (hf : X.env.frame = some X.env.locals) (hc : Names X x cv) (tk : Takes X Wx)
    (hb : ∀ (W' : WX) (pn : List (Addr × Obj)) (xe : Value → Shared → Prop), Takes (X.tr pn xe) W' → PassesOwn (model X.prog X.w) X.A X.env xe → PSs (X.tr pn xe) body (tS W W' fb))
    (hsu : ∀ (a : Addr) (oe : Obj) (pn : List (Addr × Obj)), PSs (X.suite a ((a, oe) :: pn)) (b₀ :: suite) (tS W (fun _ _ _ _ => False) fh)) (hx : ∀ c b, cs.lookup c = some b → PySem.W.exmOne X.K (.ref (W.cl c)) cv = some b) :
    PS X (.Try body [.ExceptHandler (some (.Name x np)) none (b₀ :: suite) pos'] [] [] pos) (tS W Wx (cTry fb cs fh)) := by
  refine (ps_try_only (tb := fun W' => tS W W' fb) (ts := fun _ _ _ => tS W (fun _ _ _ _ => False) fh) (Wout := Wx) hs hf hc tk hb (fun a oe cls d pn _ _ => hsu a oe pn)).imp fun Dn s H ⟨m, h, r, S, E, f⟩ => ⟨m, h, r, S, E, ?_⟩
  unfold cTry at f
  cases q : fb r h with
  | er c fs r1 h1 =>
    rw [q] at f
    simp only at f
    intro m' H' s' cls dd S' e' E' x'
    cases z : cs.lookup c with
    | none => rw [z] at f; exact False.elim f
    | some b =>
      rw [z] at f
      obtain ⟨ec, _⟩ := id x'
      refine ⟨b, ec ▸ hx c b z, fun eb a _ => ?_, fun eb => ?_⟩
      · subst eb
        exact ⟨m', h1, r1, S', E', fs_noEr (f.shift e')⟩
      · subst eb
        exact f m' H' s' cls dd S' e' E' x'
  | nx r1 h1 => rw [q] at f; exact f
  | rt r1 h1 => rw [q] at f; exact f
  | bk r1 h1 => rw [q] at f; exact f
  | ct r1 h1 => rw [q] at f; exact f
  | bad => rw [q] at f; exact f
end
/-! how it is called -/
theorem exm_of {K : PySem.W.Frag} {S T : Addr} {b : Bool} (h1 : PySem.W.subIn K (.ref T) (.type "BaseException") = some true) (h2 : PySem.W.isClsIn K T = true) (h3 : PySem.W.typeIn K (.ref T) = some (.type "type")) (h4 : PySem.W.subIn K (.ref S) (.ref T) = some b) : PySem.W.exmOne K (.ref S) (.ref T) = some b := by
  unfold PySem.W.exmOne
  rw [if_pos (by rw [h1]; rfl)]
  show (if ((PySem.W.clsIn K T).isSome && PySem.W.typeIn K (.ref T) == some (.type "type")) = true then PySem.W.subIn K (.ref S) (.ref T) else none) = some b
  rw [if_pos (by
    have h2' : (PySem.W.clsIn K T).isSome = true := h2
    rw [h2', h3]
    rfl)]
  exact h4
theorem lk_nil {P : Nat → Bool → Prop} : ∀ c b, ([] : List (Nat × Bool)).lookup c = some b → P c b := fun _ _ h => by cases h
theorem lk_cons {P : Nat → Bool → Prop} {c0 : Nat} {b0 : Bool} {l : List (Nat × Bool)} (h : P c0 b0) (t : ∀ c b, l.lookup c = some b → P c b) : ∀ c b, ((c0, b0) :: l).lookup c = some b → P c b := fun c b e => by
  rw [List.lookup_cons] at e
  split at e
  · rename_i q
    have := beq_iff_eq.mp q
    cases e
    exact this ▸ h
  · exact t c b e
theorem Gd.tr {X : Cx} {W : Wd} {k : Nat} (G : Gd X W k) (pn : List (Addr × Obj)) (xe : Value → Shared → Prop) : Gd (X.tr pn xe) W k := ⟨G.K, G.room, G.gd, G.calm, G.nd⟩
section
variable {X : Cx} {W : Wd} {Wx : WX} {k : Nat} {pos pos' pos2 p np : Pos}
theorem q_rai (G : Gd X W k) (tk : Takes X Wx) (c : Nat) {x : Str} {bmB : List Value} {B newId initId : String} (F : ExcBaseFacts B newId initId bmB) (M : ExC X.K (W.cl c) bmB newId) (gC : X.mg x = some (.ref (W.cl c))) (hg : Gl X x := by rfl) (hdb : (x == ("__debug__" : Str)) = false := by rfl) :
    PS X (.Raise (some (.Call (.Name x p) [] [] pos2)) none pos) (tS W Wx (cRai c)) := si_rai G.calm tk F M gC hg hdb
theorem q_try (G : Gd X W k) (tk : Takes X Wx) {x : Str} {C : Addr} {body suite : List Stmt} {b₀ : Stmt} {fb fh : Ev → AH → RS} (cs : List (Nat × Bool)) (gC : X.mg x = some (.ref C)) (hx : ∀ c b, cs.lookup c = some b → PySem.W.exmOne X.K (.ref (W.cl c)) (.ref C) = some b)
    (hb : ∀ (W' : WX) (pn : List (Addr × Obj)) (xe : Value → Shared → Prop), Takes (X.tr pn xe) W' → PassesOwn (model X.prog X.w) X.A X.env xe → PSs (X.tr pn xe) body (tS W W' fb))
    (hsu : ∀ (a : Addr) (oe : Obj) (pn : List (Addr × Obj)), PSs (X.suite a ((a, oe) :: pn)) (b₀ :: suite) (tS W (fun _ _ _ _ => False) fh)) (hs : X.stack = X.env :: X.outer := by rfl) (hf : X.env.frame = some X.env.locals := by rfl) (hg : Gl X x := by rfl) (hdb : (x == ("__debug__" : Str)) = false := by rfl) :
    PS X (.Try body [.ExceptHandler (some (.Name x np)) none (b₀ :: suite) pos'] [] [] pos) (tS W Wx (cTry fb cs fh)) := si_try hs hf ⟨hg, hdb, .inl gC⟩ tk hb hsu hx
end
end PI
/-! PJQ: list(text). -/
namespace PI
open PySem PySem.Spec L2 PyProof.Rows
variable {X : Cx} {W : Wd}
/-- the signs of a text -/
def sgs (x : Str) : List Str := x.cps.toList.map fun c => ⟨#[c]⟩
theorem vals_sgs : ∀ (l : List Nat) (us : List Value), us.length = l.length → (∀ (j : Nat) (u : Value), us[j]? = some u → ∃ (c : Nat) (t : Tok), l[j]? = some c ∧ u = Value.str ⟨#[c]⟩ t) → Vals ((l.map fun c => (⟨#[c]⟩ : Str)).map V.str) us
  | [], [], _, _ => .nil
  | [], _ :: _, e, _ => by simp at e
  | _ :: _, [], e, _ => by simp at e
  | c :: l, u :: us, e, f => by
    obtain ⟨c', t, e1, e2⟩ := f 0 u rfl
    cases e1
    exact .cons ⟨t, e2⟩ (vals_sgs l us (by simpa using e) fun j v h => f (j + 1) v h)
theorem cr_listS (hc : X.calm = true) : CallR X (.type "list") fun xs H Q => ∃ x : Str, xs = [V.str x] ∧ x.cps.size ≤ 1000000 ∧ ∀ p, H p = none → Q (.ref p) (upd H p (.lst ((sgs x).map V.str))) := by
  intro pins s σ H xs us Q I r ⟨x, ex, hz, q⟩
  subst ex
  obtain ⟨u, eu, rx⟩ := vals1 r
  subst eu
  obtain ⟨t, rfl⟩ := rx
  have big : x.cps.size ≤ sizeLine := by rw [sizeLine_eq]; omega
  refine call_list_str (I.ok.hd hc) x t (fun h' tk acc c' hk e' hi => ?_) big
  have la : acc.toList.length = x.cps.toList.length := by rw [Array.length_toList, Array.length_toList]; exact hi.1
  have vs : Vals ((sgs x).map V.str) acc.toList := vals_sgs _ _ la fun j v hv => by
    obtain ⟨c, t, h1, h2⟩ := hi.2 j v (by rw [← Array.getElem?_toList]; exact hv)
    exact ⟨c, t, by rw [Array.getElem?_toList]; exact h1, h2⟩
  refine ⟨.ref s.heap.objs.size, upd H s.heap.objs.size (.lst ((sgs x).map V.str)), I.laid hk (Nat.le_refl _) (show ObjOk X.prog X.w _ _ _ (.lst _) from ⟨?_, acc.toList, c', vs, ?_⟩), rfl, q _ (I.hok.fresh (Nat.le_refl _))⟩
  · unfold sgs
    rw [List.length_map, List.length_map, Array.length_toList]
    exact big
  · rw [Array.toArray_toList]; exact e'
def listSO : OpL := fun ds h => match ds with
  | [.str x] => if x.cps.size ≤ 1000000 then some (.ref h.length, h ++ [.lst ((sgs x).map D.str)]) else none
  | _ => none
theorem ci_listS (hc : X.calm = true) : CallI X W (.type "list") listSO := CallI.of (cr_listS hc) fun H vs Q m h ds d h' S hv e q => by
  unfold listSO at e
  split at e
  · rename_i x
    obtain ⟨v, rfl, hv1⟩ := VRs.one hv
    simp only [VR] at hv1
    split at e
    · rename_i lx
      cases e
      exact ⟨x, by rw [hv1], lx, fun c hc => fin_lst S strs_VRs hc q⟩
    · cases e
  · cases e
end PI
/-! PJR: == of instances without an own __eq__, bool(instance), o[:] = list. -/
namespace PIR
open PySem PySem.Spec PyProof.Rows PySem.SeqAt
section
variable {M : Model} {prog : Program} {w : World} {A : Around} {E : Value → Shared → Prop} {s : Shared} {K : PySem.W.Frag} {x y C : Addr} {ox oy : Obj} {od od' : Option Obj}
/-- what is known of a class whose == is the object's -/
structure PlainC (K : PySem.W.Frag) (C : Addr) : Prop where
  eq : PySem.W.findIn K (.ref C) "__eq__" = some (some (.builtin "object.__eq__"))
  mo : PySem.W.mroIn K C (.type "object") = some true
theorem ask_self (kin : K.In s.heap) (ia : PySem.W.InstAt s.heap x ox C od) (p : PlainC K C) : wpAny (model prog w) A (tryCompare (.ref x) "__eq__" (.ref x)) (fun q t => q = some (.bool true) ∧ t = s) E s := by
  unfold tryCompare
  refine wpAny_bind (HN.ifBound_objEq kin ia p.eq ?_)
  exact wpAny_call (codeAny_call_builtin F.cmp_object.eq.plain F.cmpEntry_eq (PySem.W.check_slot F.cmpKind_eq F.cmpSplit_eq (ia.type.andThen (PySem.W.looks_mroIn kin p.mo)) (F.cmpArgs_eq _ _) (objEq_entry_same (wpAny_pure ⟨rfl, rfl⟩))))
theorem ask_other (kin : K.In s.heap) (ia : PySem.W.InstAt s.heap x ox C od) (ib : PySem.W.InstAt s.heap y oy C od') (ne : x ≠ y) (p : PlainC K C) : wpAny (model prog w) A (tryCompare (.ref x) "__eq__" (.ref y)) (fun q t => q = none ∧ t = s) E s := by
  unfold tryCompare
  refine wpAny_bind (HN.ifBound_objEq kin ia p.eq ?_)
  exact wpAny_call (codeAny_call_builtin F.cmp_object.eq.plain F.cmpEntry_eq (PySem.W.check_slot F.cmpKind_eq F.cmpSplit_eq (ia.type.andThen (PySem.W.looks_mroIn kin p.mo)) (F.cmpArgs_eq _ _)
    (objEq_entry_other ne ia.at_ ib.at_ (by rw [ia.cls]; exact fun z => nomatch z) (wpAny_pure ⟨rfl, rfl⟩))))
theorem rich_self {Q : Value → Shared → Prop} (hu : A.units < cLine) (kin : K.In s.heap) (ia : PySem.W.InstAt s.heap x ox C od) (p : PlainC K C) (q : Q (.bool true) s) : wpAny (model prog w) A (richCompare .Eq (.ref x) (.ref x)) Q E s := by
  simp only [richCompare, cmpInfo_Eq, oneThing_ref]
  refine wpAny_holding (wpAny_bind (wpAny_cRoomFor hu ?_))
  refine wpAny_bind (ia.type.here (wpAny_bind (ia.type.here ?_)))
  rw [show (Value.ref C != Value.ref C) = false from by simp]
  refine wpAny_bind (wpAny_pure ?_)
  simp only [Bool.false_eq_true, if_false]
  refine wpAny_bind (wpAny_mono (ask_self kin ia p) (fun r t z => ?_) fun _ _ z => z)
  obtain ⟨rfl, rfl⟩ := z
  exact wpAny_pure q
theorem rich_other {Q : Value → Shared → Prop} (hu : A.units < cLine) (kin : K.In s.heap) (ia : PySem.W.InstAt s.heap x ox C od) (ib : PySem.W.InstAt s.heap y oy C od') (ne : x ≠ y) (p : PlainC K C) (q : Q (.bool false) s) : wpAny (model prog w) A (richCompare .Eq (.ref x) (.ref y)) Q E s := by
  simp only [richCompare, cmpInfo_Eq, oneThing_ref]
  refine wpAny_holding (wpAny_bind (wpAny_cRoomFor hu ?_))
  refine wpAny_bind (ia.type.here (wpAny_bind (ib.type.here ?_)))
  rw [show (Value.ref C != Value.ref C) = false from by simp]
  refine wpAny_bind (wpAny_pure ?_)
  simp only [Bool.false_eq_true, if_false]
  refine wpAny_bind (wpAny_mono (ask_other kin ia ib ne p) (fun r t z => ?_) fun _ _ z => z)
  obtain ⟨rfl, rfl⟩ := z
  refine wpAny_bind (wpAny_mono (ask_other kin ib ia ne.symm p) (fun r t z => ?_) fun _ _ z => z)
  obtain ⟨rfl, rfl⟩ := z
  exact wpAny_bind (wpAny_rule (wpAny_bind (wpAny_isSame_ref_other ne ia.at_ ib.at_ (by rw [ia.cls]; exact fun z => nomatch z) (wpAny_pure q))))
/-- bool(o), o an instance of a class that tells nothing of truth -/
structure TrueC (K : PySem.W.Frag) (C : Addr) : Prop where
  bo : PySem.W.findIn K (.ref C) "__bool__" = some none
  le : PySem.W.findIn K (.ref C) "__len__" = some none
theorem is_true {Q : Bool → Shared → Prop} (kin : K.In s.heap) (ia : PySem.W.InstAt s.heap x ox C od) (p : TrueC K C) (q : Q true s) : wpAny M A (truthy (.ref x)) Q E s := by
  unfold truthy
  refine wpAny_bind (m := callSpecial? (.ref x) (Str.ofString "__bool__")) (wpAny_bind (wpAny_bind (ia.type.here ((PySem.W.looks_findIn kin p.bo).here (wpAny_pure ?_)))))
  refine wpAny_bind (wpAny_bind (ia.type.here ((PySem.W.looks_findIn kin p.le).here ?_)))
  exact wpAny_pure q
theorem meets_boolI (p : TrueC K C) : Meets (Builtin.«bool.__new__» ⟨[.type "bool", .ref x], []⟩) (fun _ R s => K.In s.heap ∧ PySem.W.InstAt s.heap x ox C od ∧ R (.ok (.ret (.bool true))) s) :=
  Meets.of_wp fun prog w A R s hs => by
    obtain ⟨kin, ia, hq⟩ := hs
    have f1 := F.conv_sub_bool
    repeat (any_goals (first | assumption | (with_reducible refine is_true kin ia p ?_) | wp_step))
    all_goals first | exact ⟨_, rfl, hq⟩ | exact hq | skip
theorem call_boolI {Q : Value → Shared → Prop} (p : TrueC K C) (kin : K.In s.heap) (ia : PySem.W.InstAt s.heap x ox C od) (q : Q (.bool true) s) : wpAny (model prog w) A (call (.type "bool") [.ref x]) Q E s :=
  call_bool_1 (meets_boolI p) ⟨kin, ia, rfl, q⟩
end
/-! ### list[:] = list -/
section
variable {prog : Program} {w : World} {A : Around} {E : Value → Shared → Prop} {s : Shared}
theorem whole (n : Nat) : sliceBounds none none none n = ((0 : Int), (n : Int), 1) := by simp [sliceBounds]
set_option maxRecDepth 100000 in
theorem store_whole {a b c : Addr} {us vs : Array Value} {n k : Nat} {Q : Unit → Shared → Prop} (ga : s.heap.get? a = some { cls := .type "list", data := .seq us n }) (gb : s.heap.get? b = some { cls := .type "list", data := .seq vs k }) (ne : a ≠ b)
    (hc : s.heap.IsSliceOf c .none .none .none) (few : us.size + vs.size ≤ sizeLine) (q : Q () { s with heap := s.heap.update a (Obj.mapSeq fun xs => xs.extract 0 0 ++ vs ++ xs.extract us.size xs.size) }) :
    wpAny (model prog w) A (setItem (.ref a) (.ref c) (.ref b)) Q E s := by
  have la : s.heap.IsList a us := PySem.IsL.isList ga
  have lb : s.heap.IsList b vs := PySem.IsL.isList gb
  obtain ⟨oc, goc, coc, doc⟩ := id hc
  have tc : s.TypeIs (.ref c) "slice" := ⟨oc, goc, coc⟩
  have st0 : ¬ ((rawPart none == rawInt 0) = true) := Bool.false_ne_true
  have un : Builtin.List.listSameRef (.ref a) (.ref b) = false := by
    unfold Builtin.List.listSameRef
    exact beq_eq_false_iff_ne.mpr ne
  have big : (max (0 : Int) (us.size : Int)).toNat = us.size := by omega
  have lz : ((fun xs : Array Value => xs.extract 0 0 ++ vs ++ xs.extract us.size xs.size) us).size ≤ sizeLine + 1 := by
    simp only [Array.size_append, Array.size_extract]
    omega
  unfold setItem
  try with_reducible refine wpAny_holding ?_
  first | refine wpAny_bind (wpAny_pure ?_) | skip
  refine wpAny_bind (wpAny_sequenceKey la.typeIs (by decide) ?_)
  refine wpAny_bind (wpAny_callSpecial?_slot (name := Str.ofString "__setitem__") la.typeIs slot_list_setitem
    (wpAny_call_entry slot_list_setitem la.typeIs entry_list_setitem ?_ (args_list_setitem _ _ _)))
  show wpAny _ _ (Builtin.List.listSubscript? (.ref c) >>= _) _ _ s
  refine wpAny_bind ?_
  unfold Builtin.List.listSubscript?
  refine wpAny_bind (wpAny_specialOf tc slice_no_index ?_)
  simp only [Option.isNone_none, if_true]
  refine wpAny_pure ?_
  show wpAny _ _ (typeOf (.ref c) >>= _) _ _ s
  refine wpAny_bind (wpAny_typeOf tc ?_)
  first
    | rw [if_neg (by decide)]
    | refine PySem.W.KFB.if_not (by decide) ?_
  rw [listSliceParts_eq]
  refine wpAny_bind (wpAny_bind (wpAny_field goc doc (x := .none) rfl (wpAny_bind (wpAny_listPart .none ?_))))
  rw [if_neg st0]
  refine wpAny_bind (wpAny_field goc doc (x := .none) rfl (wpAny_bind (wpAny_listPart .none ?_)))
  refine wpAny_bind (wpAny_field goc doc (x := .none) rfl (wpAny_bind (wpAny_listPart .none (wpAny_pure ?_))))
  first
    | simp only [un, Bool.false_eq_true, if_false]
    | refine PySem.W.KFB.if_not un ?_
    | (dsimp only
       rw [if_neg (by rw [un]; exact Bool.false_ne_true)])
  refine wpAny_bind (m := Builtin.List.listAllItems (.ref b) "must assign iterable to extended slice") ?_
  unfold Builtin.List.listAllItems
  refine wpAny_bind (wpAny_typeOf lb.typeIs ?_)
  first
    | refine PySem.W.KFB.if_so (by decide) ?_
    | rw [if_pos (by decide)]
    | simp only [beq_self_eq_true, Bool.true_or, if_true]
  unfold Builtin.List.listItems
  refine wpAny_bind (wpAny_seqItems gb rfl (wpAny_pure ?_))
  refine wpAny_bind (wpAny_bind (wpAny_seqItems ga rfl (wpAny_pure ?_)))
  refine wpAny_bind (wpAny_of_eq ((sliceIndices_raw none none none us.size (by simp)).trans (congrArg (pure : Int × Int × Int → Sem (Int × Int × Int)) (whole us.size))) ?_)
  show wpAny _ _ (if ((1 : Int) == 1) = true then _ else _) _ _ s
  rw [if_pos (by decide)]
  refine wpAny_bind (wpAny_rule ?_)
  first
    | simp only [L2.notLongL few, Bool.false_eq_true, if_false]
    | refine PySem.W.KFB.if_not (L2.notLongL few) ?_
  first | refine wpAny_bind (wpAny_pure ?_) | skip
  show wpAny _ _ (updateSeq a (fun xs => xs.extract 0 ((0 : Int)).toNat ++ vs ++ xs.extract (max (0 : Int) (us.size : Int)).toNat xs.size) >>= _) _ _ s
  rw [big]
  refine wpAny_bind (wpAny_updateSeq (hz := Nat.le_trans (Nat.le_add_right _ _) few) (_hz' := lz) ga rfl ?_)
  refine wpAny_bind (wpAny_letGo ?_)
  first
    | exact wpAny_bind (wpAny_pure (wpAny_pure ⟨.none, rfl, wpAny_pure q⟩))
    | exact wpAny_pure ⟨.none, rfl, wpAny_pure q⟩
end
end PIR
namespace PI
open PySem L2 PyProof.Rows
section
variable {X : Cx} {W : Wd} {Wx : WX} {k : Nat} {pos p2 : Pos} {C : Addr}
/-- == of two instances of one class whose == is the object's -/
def rInE (C : Addr) : R2 := fun x y H Q => ∃ a b dx dy fs gs, x = .ref a ∧ y = .ref b ∧ H a = some (.ins C dx fs) ∧ H b = some (.ins C dy gs) ∧ Q (.bl (decide (a = b))) H
theorem or_inE (hu : X.A.units < cLine) (p : PIR.PlainC X.K C) : OpR X (compareOp .Eq) (rInE C) := by
  intro pins s σ H x y v u Q I rx ry h
  obtain ⟨a, b, dx, dy, fs, gs, rfl, rfl, ha, hb, q⟩ := h
  cases rx
  cases ry
  obtain ⟨mA, J, _⟩ := ins_get I.hok ha
  obtain ⟨mB, J', _⟩ := ins_get I.hok hb
  obtain ⟨od, J, _⟩ := J.look
  obtain ⟨od', J', _⟩ := J'.look
  show wpAny (model X.prog X.w) X.A (richCompare .Eq (.ref a) (.ref b)) (EP X pins σ Q) X.xe s
  by_cases e : a = b
  · subst e
    rw [decide_eq_true rfl] at q
    exact PIR.rich_self hu I.kIn J p ⟨.bl true, H, I, rfl, q⟩
  · rw [decide_eq_false e] at q
    exact PIR.rich_other hu I.kIn J J' e p ⟨.bl false, H, I, rfl, q⟩
def inED (c : Nat) (x y : D) (h : AH) : Res D := match x, y with
  | .ref a, .ref b => match h[a]?, h[b]? with
    | some (.ins c1 _), some (.ins c2 _) => if c1 = c ∧ c2 = c then .ok (.bl (decide (a = b))) h else .bad
    | _, _ => .bad
  | _, _ => .bad
theorem os_inE {c : Nat} : OpS W (rInE (W.cl c)) (inED c) := fun Wx m h H s x y v u Q S hx hy f => by
  unfold inED at f
  split at f
  · rename_i a b
    split at f
    · rename_i c1 f1 c2 f2 z1 z2
      split at f
      · rename_i hc
        obtain ⟨rfl, rfl⟩ := hc
        obtain ⟨_, p1, dx, ys, rfl, r1⟩ := S.obj a _ z1
        obtain ⟨_, p2, dy, zs, rfl, r2⟩ := S.obj b _ z2
        simp only [VR] at hx hy
        obtain ⟨la, rfl⟩ := hx
        obtain ⟨lb, rfl⟩ := hy
        refine ⟨m a, m b, dx, dy, ys, zs, rfl, rfl, p1, p2, ?_⟩
        have e : decide (m a = m b) = decide (a = b) := by
          by_cases z : a = b
          · subst z; simp
          · rw [decide_eq_false z, decide_eq_false fun q => z (S.inj a b la lb q)]
        rw [e]
        exact f m H S (Ext.refl _ _ _) _ (by simp only [VR])
      · exact False.elim f
    · exact False.elim f
  · exact False.elim f
/-! ### bool(o) -/
def boolIO (c : Nat) : OpL := fun ds h => match ds with
  | [.ref a] => match h[a]? with
    | some (.ins c1 _) => if c1 = c then some (.bl true, h) else none
    | _ => none
  | _ => none
theorem ci_boolI {c : Nat} (hK : X.K = W.K) (p : PIR.TrueC X.K (W.cl c)) : CallI X W (.type "bool") (boolIO c) := fun pins s σ H vs us Q m h ds d h' I S hv rv e q => by
  unfold boolIO at e
  split at e
  · rename_i a
    split at e
    · rename_i c1 f1 z1
      split at e
      · rename_i hc
        subst hc
        cases e
        obtain ⟨v, rfl, hv1⟩ := VRs.one hv
        obtain ⟨_, p1, dx, ys, rfl, r1⟩ := S.obj a _ z1
        simp only [VR] at hv1
        obtain ⟨la, rfl⟩ := hv1
        obtain rfl := Vals.ref1 rv
        obtain ⟨mA, J, _⟩ := ins_get I.hok p1
        obtain ⟨od, J, _⟩ := J.look
        exact PIR.call_boolI p I.kIn J ⟨.bl true, H, I, rfl, q m H _ S (Ext.refl _ _ _) (by simp only [VR])⟩
      · cases e
    · cases e
  · cases e
/-! ### o[:] = list -/
def gSA (fo : Ev → AH → Res D) : D → Ev → AH → GR := fun v r h => match fo r h with
  | .ok (.ref a) h1 => match h1[a]?, v with
    | some (.lst l), .rl l' => if l.length + l'.length ≤ LIM then some (r, h1.set a (.lst l')) else none
    | _, _ => none
  | _ => none
theorem gi_sA {o : Expr} {ts : List Nat} {fo : Ev → AH → Res D} (ho : PE X o (tI W Wx fo))
    (ha : ∀ v, assign (.Subscript o (.Slice none none none p2) pos) X.env v = (do
      let ov ← holding [v] (eval o X.env)
      let iv ← holding [v, ov] (eval (.Slice none none none p2) X.env)
      standAt pos
      holding [v, ov, iv] (setItem ov iv v)
      release [iv, v, ov] [])) : PG X (.Subscript o (.Slice none none none p2) pos) (tG W ts (gSA fo)) := by
  refine ⟨fun pins s σ H v u Q I rv hh => ?_⟩
  obtain ⟨m, h, r, d, S, E, hv, f⟩ := hh
  unfold gSA at f
  rw [ha]
  cases z1 : fo r h with
  | bad => rw [z1] at f; exact False.elim f
  | err c fs h1 => rw [z1] at f; exact False.elim f
  | ok od h1 =>
    rw [z1] at f
    cases od with
    | ref a =>
      simp only at f
      split at f
      · rename_i l l' q1
        split at f
        · rename_i few
          refine wpAny_bind (wpAny_holding (thn (ho.run pins s σ H (fun x H1 => ∃ m1, x = .ref (m1 a) ∧ a < h1.length ∧ SR W m1 h1 H1 ∧ Ext m h.length H m1 h1.length H1) I ⟨m, h, r, S, E, by
            rw [z1]
            intro m1 H1 S1 e1 ov hov
            simp only [VR] at hov
            exact ⟨m1, hov.2, hov.1, S1, e1⟩⟩) fun ov s1 ⟨x, H1, I1, r1, m1, ex, la, S1, e1⟩ => ?_))
          subst ex
          obtain rfl : ov = Value.ref (m1 a) := r1
          refine wpAny_bind (wpAny_holding (wpAny_Slice ?_))
          rw [evalPart_none]
          refine wpAny_pure (wpAny_pure (wpAny_pure ?_))
          refine wpAny_bind (wpAny_standAt ?_)
          have I2 : Inv X pins σ H1 { s1 with heap := s1.heap.push { cls := .type "slice", data := .fields #[.none, .none, .none] } } := I1.kept (t' := s1.toks) fun b ob q => Heap.get?_push_of_some _ q
          have hs : Heap.IsSliceOf (s1.heap.push { cls := .type "slice", data := .fields #[.none, .none, .none] }) s1.heap.objs.size .none .none .none := Heap.IsSliceOf.new ..
          obtain ⟨_, p1, xs, rfl, rr⟩ := S1.obj a _ q1
          have hv1 := hv.ext e1
          simp only [VR] at hv1
          obtain ⟨p, ys, rfl, hp, hr⟩ := hv1
          obtain rfl : u = Value.ref p := rv
          obtain ⟨zA, its, n, ra, hl, gA⟩ := I2.lstM p1
          obtain ⟨zB, its2, n2, rb, hl2, gB⟩ := I2.lstM hp.1
          have len1 : its.length = l.length := by rw [← hl, rr.length]
          have len2 : its2.length = l'.length := by rw [← hl2, hr.length]
          have ne : m1 a ≠ p := hp.2 a la
          have LM := lim_le few
          refine wpAny_bind (wpAny_holding (PIR.store_whole gA gB ne hs (by rw [List.size_toArray, List.size_toArray]; omega) ?_))
          refine wpAny_release ?_
          have eq1 : (fun xs : Array Value => xs.extract 0 0 ++ its2.toArray ++ xs.extract its.toArray.size xs.size) its.toArray = its2.toArray := by
            apply Array.toList_inj.mp
            simp
          have I3 := I2.lset (f := fun xs : Array Value => xs.extract 0 0 ++ its2.toArray ++ xs.extract its.toArray.size xs.size) (its' := its2) (t' := s1.toks) p1 gA eq1 rb (by rw [hl2]; omega)
          have ex := ext_upd (u := .lst ys) S1 la
          have S3 : SR W m1 (h1.set a (.lst l')) (upd H1 (m1 a) (.lst ys)) := S1.upd la ⟨ys, rfl, hr.ext ex⟩
          have ex' : Ext m1 h1.length H1 m1 (h1.set a (O.lst l')).length (upd H1 (m1 a) (.lst ys)) := by rw [List.length_set]; exact ex
          exact ⟨σ, _, I3, f m1 _ σ S3 (e1.trans ex') (E.ext (e1.trans ex')) (Off.refl _ _)⟩
        · exact False.elim f
      · exact False.elim f
    | _ => exact False.elim f
theorem q_gsA (G : Gd X W k) {o : Expr} {fo : Ev → AH → Res D} (ts : List Nat) (ho : PE X o (tI W Wx fo)) (ha : ∀ v, assign (.Subscript o (.Slice none none none p2) pos) X.env v = (do
      let ov ← holding [v] (eval o X.env)
      let iv ← holding [v, ov] (eval (.Slice none none none p2) X.env)
      standAt pos
      holding [v, ov, iv] (setItem ov iv v)
      release [iv, v, ov] []) := by intro _; rfl) : PG X (.Subscript o (.Slice none none none p2) pos) (tG W ts (gSA fo)) := gi_sA ho ha
end
end PI
/-! PJT: repr of data: what is asked, by its parts. -/
namespace PI
open PySem L2
structure ShOk (p : PyData) (k w : Nat) : Prop where
  sh : p.showable = true
  nd : p.hasDict = false
  dp : p.depth ≤ k
  ls : p.leavesShort 13 = true
  wt : p.weight ≤ w
theorem ShOk.mono {p : PyData} {k w k' w' : Nat} (s : ShOk p k w) (hk : k ≤ k') (hw : w ≤ w') : ShOk p k' w' := ⟨s.sh, s.nd, Nat.le_trans s.dp hk, s.ls, Nat.le_trans s.wt hw⟩
theorem ShOk.non : ShOk .none 0 0 := ⟨rfl, rfl, Nat.le_refl _, rfl, Nat.le_refl _⟩
theorem ShOk.bool (b : Bool) : ShOk (.bool b) 0 0 := ⟨by cases b <;> rfl, rfl, Nat.le_refl _, rfl, Nat.le_refl _⟩
theorem ShOk.int {i : Int} (h : i.natAbs < 1000) : ShOk (.int i) 0 11 := by
  have l : i.natAbs.log2 ≤ 10 := by
    by_cases z : i.natAbs = 0
    · rw [z]; decide
    · have := (Nat.log2_lt z (k := 10)).mpr (by omega)
      omega
  refine ⟨?_, rfl, Nat.le_refl _, ?_, ?_⟩
  · simp only [PyData.showable, decide_eq_true_eq]
    omega
  · have := PyData.shown_int_le (i := i) (by omega)
    simp only [PyData.leavesShort, decide_eq_true_eq]
    exact this
  · simp only [PyData.weight]
    split <;> omega
theorem ShOk.str {x : Str} {w : Nat} (h : x.cps.size ≤ w) (a : ∀ c ∈ x.cps.toList, c < 16 ^ 8) : ShOk (.str x) 0 w := by
  refine ⟨rfl, rfl, Nat.le_refl _, ?_, h⟩
  simp only [PyData.leavesShort, List.all_eq_true, decide_eq_true_eq]
  exact a
section
variable {α : Type} {f : α → PyData} {k w : Nat}
theorem sh_all : ∀ {l : List α}, (∀ x ∈ l, ShOk (f x) k w) → PyData.showableAll (l.map f) = true ∧ PyData.hasDictAll (l.map f) = false ∧ PyData.depthAll (l.map f) ≤ k ∧ PyData.leavesShortAll 13 (l.map f) = true ∧ PyData.weightAll (l.map f) ≤ (w + 1) * l.length
  | [], _ => ⟨rfl, rfl, Nat.zero_le _, rfl, Nat.le_refl _⟩
  | x :: l, h => by
    obtain ⟨a, b, c, d, e⟩ := sh_all (l := l) fun y hy => h y (List.mem_cons_of_mem _ hy)
    have s := h x List.mem_cons_self
    simp only [List.map_cons, PyData.showableAll, PyData.hasDictAll, PyData.depthAll, PyData.leavesShortAll, PyData.weightAll, s.sh, s.nd, s.ls, a, b, d, Bool.and_self, Bool.or_self, List.length_cons, Nat.mul_add, Nat.mul_one]
    refine ⟨trivial, trivial, Nat.max_le.mpr ⟨s.dp, c⟩, trivial, ?_⟩
    have := s.wt
    omega
theorem ShOk.tup {n : Nat} {l : List α} (h : ∀ x ∈ l, ShOk (f x) k w) (hl : l.length ≤ n) : ShOk (.tuple (l.map f)) (k + 1) ((w + 1) * n) := by
  obtain ⟨a, b, c, d, e⟩ := sh_all h
  exact ⟨a, b, Nat.succ_le_succ c, d, Nat.le_trans e (Nat.mul_le_mul_left _ hl)⟩
theorem ShOk.lst {n : Nat} {l : List α} (h : ∀ x ∈ l, ShOk (f x) k w) (hl : l.length ≤ n) : ShOk (.list (l.map f)) (k + 1) ((w + 1) * n) := by
  obtain ⟨a, b, c, d, e⟩ := sh_all h
  exact ⟨a, b, Nat.succ_le_succ c, d, Nat.le_trans e (Nat.mul_le_mul_left _ hl)⟩
theorem ShOk.lst' {n : Nat} {l : List PyData} (h : ∀ x ∈ l, ShOk x k w) (hl : l.length ≤ n) : ShOk (.list l) (k + 1) ((w + 1) * n) := by
  have := ShOk.lst (f := fun x : PyData => x) h hl
  rwa [List.map_id'] at this
theorem ShOk.tup' {n : Nat} {l : List PyData} (h : ∀ x ∈ l, ShOk x k w) (hl : l.length ≤ n) : ShOk (.tuple l) (k + 1) ((w + 1) * n) := by
  have := ShOk.tup (f := fun x : PyData => x) h hl
  rwa [List.map_id'] at this
end
/-- repr -/
theorem repr_ok {d : D} {p : PyData} {w : Nat} {h : AH} (e : toP 8 h d = some p) (s : ShOk p 20 w) (hw : w ≤ 60000) (nf : flatC d = none) : reprO [d] h = some (.str p.shown, h) := by
  have l := PyData.shown_le 13 (by decide) p s.ls
  have l2 : p.shown.length ≤ LIM := by
    refine Nat.le_trans l ?_
    have := s.wt
    show _ ≤ 1000000
    omega
  cases d with
  | non => cases nf
  | bl b => cases nf
  | int i => cases nf
  | str x => cases nf
  | _ =>
    simp only [reprO, e]
    rw [if_pos ⟨s.sh, s.nd, s.dp, l2⟩]
end PI
/-! PJU: except suites: what is read there; defs that are called there. -/
namespace PI
open PySem L2 PyProof.Rows
/-- room where an exception may be handled -/
structure RoomQ (k : Nat) (A : Around) : Prop where
  dp : A.depth + 3 * k + 5 < recursionLimit
  un : A.units + 16 * k + 200 < cLine
theorem RoomQ.of {k : Nat} {A : Around} (r : Room k A) : RoomQ k A := ⟨r.dp, r.un⟩
theorem RoomQ.mono {j k : Nat} {A : Around} (r : RoomQ k A) (h : j ≤ k) : RoomQ j A := ⟨by have := r.dp; omega, by have := r.un; omega⟩
theorem RoomQ.deep {k : Nat} {A : Around} (r : RoomQ (k + 1) A) (env : Env) : RoomQ k (A.deeper env) :=
  ⟨(by have := r.dp; show A.depth + 1 + 3 * k + 5 < _; omega), by have := r.un; show A.units + 3 + 16 * k + 200 < _; omega⟩
theorem RoomQ.in1 {k : Nat} {A : Around} (r : RoomQ (k + 1) A) : RoomQ k A.in1 :=
  ⟨(by have := r.dp; show A.depth + 3 * k + 5 < _; omega), by have := r.un; show A.units + 1 + 16 * k + 200 < _; omega⟩
structure Gh (X : Cx) (W : Wd) (k : Nat) : Prop where
  K : X.K = W.K
  room : RoomQ k X.A
  gd : X.A.guards = some []
  nd : X.N.Nodup
theorem Gh.u {X : Cx} {W : Wd} {k : Nat} (G : Gh X W k) (n : Nat) (h : n ≤ 200 := by decide) : X.A.units + n < cLine := by have := G.room.un; omega
theorem Gd.suite {X : Cx} {W : Wd} {k : Nat} (G : Gd X W k) (a : Addr) (pn : List (Addr × Obj)) : Gh (X.suite a pn) W k := ⟨G.K, ⟨G.room.dp, G.room.un⟩, G.gd, G.nd⟩
/-- a def that may be called while an exception is handled; it lets nothing out -/
structure FnQ (P : Program) (w : World) (K : PySem.W.Frag) (mg : Str → Option Value) (base : Heap) (k : Nat) (f : Addr) (fd : FuncData) (ps : List Str) (sp : Sp) : Prop where
  len : ∀ vs H Q E, sp vs H Q E → vs.length = ps.length
  go : ∀ (A : Around) (outer : List Env) (s : Shared) (H : Hp) (args : Args) (us : List Value) (vs : List V) (Q : VK), RoomQ k A → A.guards = some [] → Env0 P w K mg base A outer s H → BindsTo s fd args (ps.zip us) → Vals vs us →
    sp vs H Q E0 → codeAny (model P w) A (.call (.ref f) args) (L2.CR (L2.CX P w) outer P w H s Q E0) s
theorem FnQ.mono {P : Program} {w : World} {K : PySem.W.Frag} {mg : Str → Option Value} {base : Heap} {j k : Nat} {f : Addr} {fd : FuncData} {ps : List Str} {sp : Sp} (F : FnQ P w K mg base j f fd ps sp) (h : j ≤ k) : FnQ P w K mg base k f fd ps sp :=
  ⟨F.len, fun A outer s H args us vs Q hr => F.go A outer s H args us vs Q (hr.mono h)⟩
/-- such a def's body -/
abbrev cxQ (P : Program) (w : World) (K : PySem.W.Frag) (mg : Str → Option Value) (base : Heap) (N : List Str) (qual : Str) (scope : Scope) (f : Addr) (cdv : Value) (A : Around) (outer : List Env) (s : Shared) (H : Hp) : Cx :=
  { cxOf (L2.CX P w) P w K mg base N qual scope f cdv A outer s H E0 with calm := false }
theorem Fun_okQ {P : Program} {w : World} {K : PySem.W.Frag} {mg : Str → Option Value} {base : Heap} {x qual : Str} {st : Stmt} {f : Addr} {fd : FuncData} {N ps : List Str} {k : Nat} {sp : Sp} (F : L2.Fun K x qual st f fd) (S : FnScope N ps (defScope st))
    (len : ∀ vs H Q E, sp vs H Q E → vs.length = ps.length)
    (body : ∀ (cdv : Value) (A : Around) (outer : List Env) (s : Shared) (H : Hp) (vs : List V) (Q : VK), RoomQ k (A.deeper (envOfC qual (defScope st) s.heap.objs.size f cdv)) → A.guards = some [] → sp vs H Q E0 →
      ∃ t, PSs (cxQ P w K mg base N qual (defScope st) f cdv A outer s H) (defBody st) t ∧ t { nx := fun _ H' => Q .non H', rt := Q } (start N vs) H) : FnQ P w K mg base (k + 1) f fd ps sp := by
  obtain ⟨oc, od, kV, doc, pm, an, cdv, ct, osl, rfl, lk, hcd⟩ := F.ex
  refine ⟨len, fun A outer s H args us vs Q hr hgd e0 hb r hsp => ?_⟩
  have hlen := len _ _ _ _ hsp
  have inK : K.In s.heap := e0.mod.kin.keeps fun b o e => (e0.bs b o e).1
  have nolim : s.heap.NoLimit := e0.mod.nolimit.keeps fun b o e => (e0.bs b o e).1
  have kinds : ∀ y ∈ ps.zip us, (defScope st).names.lookup y.1 = some .local ∨ ((defScope st).names.lookup y.1 = some .cell ∧ ((cellsFrom (s.heap.objs.size + 1) (defScope st).names []).lookup y.1).isSome = true) := fun ⟨n, v⟩ hy =>
    (S.par n (List.of_mem_zip hy).1).imp id fun q => ⟨q, PySem.W.cellsFrom_some _ _ _ (.inl q)⟩
  refine codeAny_call_function (by have := hr.dp; omega) (inK _ _ lk) rfl S.co S.gen rfl (PySem.W.codeRec_of inK hcd) (hb _ _ _ _ (wpAny_newFunctionEnv_cells S.kind kinds fun env he s1 z => ?_))
  subst he
  refine ⟨nolim.keeps z.toInCall.keep, codeAny_func ?_⟩
  obtain ⟨t, ht, hq⟩ := body cdv A outer s H vs Q (hr.deep _) hgd hsp
  have eM : Env0 P w K mg base { A with handled := none } outer s H := ⟨e0.frames, e0.mod, e0.bs, e0.bsz, e0.funs, e0.frf, e0.hok, e0.bare⟩
  have J := inv_start (CX := L2.CX P w) (E := E0) (A := { A with handled := none }) (f := f) (qual := qual) (cd := cdv) S rfl eM hlen r z
  have I : Inv (cxQ P w K mg base N qual (defScope st) f cdv A outer s H) [] (start N vs) H s1 :=
    ⟨⟨J.ok.mod, J.ok.kind, J.ok.glob, J.ok.blt, J.ok.above, J.ok.inj, J.ok.has, J.ok.cab, fun z => Bool.noConfusion (show false = true from z), J.ok.frames, J.ok.stk, J.ok.exf, J.ok.bs, J.ok.bsz, J.ok.noex, J.ok.exfs, J.ok.funs, J.ok.frf⟩,
      J.os, J.bare, J.base, J.loc, J.cell, J.free, J.freeC, J.pin, J.hok, J.len⟩
  refine wpAny_mono (ht.run [] s1 (start N vs) H _ I hq) (fun fl s' hs => ?_) fun _ _ z => z
  cases fl with
  | next =>
    obtain ⟨_, H', J, q⟩ := hs
    exact ⟨.non, H', J.os, J.bare, J.base, J.hok, rfl, q⟩
  | ret u =>
    obtain ⟨v, _, H', J, rv, q⟩ := hs
    exact ⟨v, H', J.os, J.bare, J.base, J.hok, rv, q⟩
  | brk => exact hs.elim fun _ z => z.elim fun _ z => False.elim z.2
  | cont => exact hs.elim fun _ z => z.elim fun _ z => False.elim z.2
section
variable {X : Cx} {W : Wd} {Wx : WX} {k : Nat} {f C : Addr} {fd : FuncData} {ps : List Str} {sp : Sp} {pins : List (Addr × Obj)} {σ : L2.St} {H : Hp} {s : Shared} {Q : VK} {o e : Expr} {fo fe : Ev → AH → Res D} {pos : Pos} {lv : Nat}
theorem propQ {a dx p : Addr} {fs : List (Str × V)} {g : Str} {b : Bool} {E' : Value → Shared → Prop} (I : Inv X pins σ H s) (ea : H a = some (.ins C dx fs)) (c : Cls X.K C) (hp : PropOf X.K C g p f) (F : FnQ X.prog X.w X.K X.mg X.base k f fd ps sp) (hr : RoomQ (k + 1) X.A) (hg : X.A.guards = some [])
    (hb : Binds X.K fd ps []) (h : sp [.ref a] H Q E0) : wpAny (model X.prog X.w) X.A (getAttr (.ref a) g b) (EP X pins σ Q) E' s := by
  obtain ⟨mA, O, _⟩ := ins_get I.hok ea
  obtain ⟨od, J, _⟩ := O.look
  obtain ⟨rest, hrec⟩ := hp.rec_
  have I1 := I.tok (s.toks + 1)
  have e : [Value.ref a].length = ps.length := F.len _ _ _ _ h
  have hc : (PySem.W.clsIn X.K C).isSome = true := by
    obtain ⟨cd, hc, _⟩ := PySem.W.any_some c.hd
    rw [hc]
    rfl
  have b0 := hb { s with toks := s.toks + 1 } [.ref a] I1.kIn (by rw [List.append_nil]; exact e)
  rw [List.append_nil] at b0
  refine PySem.W.get_bind I.kIn J (PySem.W.plainGet_of (c.get g)).1 (PySem.W.findObj_data hc hp.at_ hp.get hp.tak) (PySem.W.plainGet_of (c.get g)).2 (wpAny_call (PySem.W.prop_get (s := { s with toks := s.toks + 1 }) I.kIn hrec
    (codeAny_mono (F.go X.A.in1 X.stack { s with toks := s.toks + 1 } H ⟨[.ref a], []⟩ [.ref a] [.ref a] Q hr.in1 hg I1.env0.in1 b0 (.cons rfl .nil) h) fun r s' hq => ?_)))
  cases r with
  | error er =>
    obtain ⟨_, _, _, _, _, _, _, _, _, _, _, _, z⟩ := hq
    exact z.elim
  | ok fl =>
    cases fl with
    | ret u =>
      obtain ⟨v, H', I3, rv, q3⟩ := I1.after hq
      show wpAny _ _ (handedOut u) _ _ _
      rw [PySem.W.handedOut_of (handed_of rv)]
      exact wpAny_pure ⟨v, H', I3, rv, q3⟩
    | _ => exact False.elim hq
theorem pe_propQ {q g : Addr} {ff : Str} {ta : TE} (he : PE X e ta) (c : Cls X.K C) (hp : PropOf X.K C ff q g) (F : FnQ X.prog X.w X.K X.mg X.base k g fd ps sp) (hr : RoomQ (k + 1) X.A) (hgd : X.A.guards = some []) (hb : Binds X.K fd ps [])
    (hab : attributeBase e ff X.env (eval e X.env) = eval e X.env) : PE X (.Attribute e ff pos) (tProp C sp [] E0 ta) := by
  refine ⟨fun pins s σ H Q I h => attr_of hab (thn (he.run pins s σ H _ I h) fun u s1 z => ?_)⟩
  obtain ⟨x, H1, I1, rx, a, dx, fs, ex, ea, q⟩ := z
  subst ex
  have eu : u = Value.ref a := rx
  subst eu
  exact propQ I1 ea c hp F hr hgd hb q
theorem qh_prop (G : Gh X W (k + 1)) (j : Nat) {g : Str} {ct : List CR} {fn : Nat → Addr} {call : Nat → List D → AH → Res D} {nps : Nat → Nat} (CT : CtOk X.K W ct fn) (F : FnQ X.prog X.w X.K X.mg X.base lv (fn j) fd ps (spI W (nps j) (call j))) (hb : Binds X.K fd ps []) (hk : PySem.W.keepIn X.K (.ref (fn j)) = true)
    (he : PE X o (tI W Wx fo)) (hl : lv ≤ k := by decide) (hj : ((List.range ct.length).all fun c => match prpOf ct g c with | none => true | some i => i == j) = true := by decide +kernel)
    (hab : attributeBase o g X.env (eval o X.env) = eval o X.env := by rfl) : PE X (.Attribute o g pos) (tI W Wx (cAttr ct call nps g fo)) :=
  pi_attrP CT (fun ci hci => by
    have ej : ci.2 = j := beq_iff_eq.mp (prp_one (P := fun i => i == j) hj _ _ hci)
    unfold prpOf at hci
    split at hci
    · rename_i cr q
      split at hci
      · cases hci
      · obtain ⟨p, hp⟩ := CT.prp _ _ _ _ q hci
        rw [ej] at hp ⊢
        exact pe_propQ he (CT.cls _ _ q) hp (F.mono hl) G.room G.gd hb hab
    · cases hci) he hab
theorem qh_fld (G : Gh X W (k + 1)) {g : Str} {ct : List CR} {fn : Nat → Addr} {call : Nat → List D → AH → Res D} {nps : Nat → Nat} (CT : CtOk X.K W ct fn) (he : PE X o (tI W Wx fo)) (hj : ((List.range ct.length).all fun c => match prpOf ct g c with | none => true | some _ => false) = true := by decide +kernel)
    (hab : attributeBase o g X.env (eval o X.env) = eval o X.env := by rfl) : PE X (.Attribute o g pos) (tI W Wx (cAttr ct call nps g fo)) :=
  pi_attrP CT (fun ci hci => Bool.noConfusion (prp_one (P := fun _ => false) hj _ _ hci)) he hab
theorem qh_tru (G : Gh X W k) (p : PE X e (tI W Wx fe)) (he : ∀ whole, isTrue e X.env whole = (do let v ← whole; standAt e.pos; holding [v] (truthy v)) := by intro _; rfl) : PT X e (tT W Wx (cTru fe)) := pt_tru G.K p he
theorem qh_ix (G : Gh X W k) {a b : Expr} {fa fb : Ev → AH → Res D} (ha : PE X a (tI W Wx fa)) (hb : PE X b (tI W Wx fb)) (hs : PlainIx b := by intro _ _; with_unfolding_all rfl) : PE X (.Subscript a b pos) (tI W Wx (cBin ixD fa fb)) := pi_ix G.K (G.u 1) ha hb hs
theorem qh_set (G : Gh X W k) (i : Nat) {x : Str} {pos' : Pos} (he : PE X e (tI W Wx fe)) (hi : X.N[i]? = some x := by rfl) (hx : Loc X.env.scope x := by first | exact .inl rfl | exact .inr rfl) (hs : swapsWith e (some (.Name x pos')) pos.line X.env = pure false := by rfl)
    (hf : X.fn x = true ∨ X.env.scope.names.lookup x = some .local := by first | exact .inr rfl | exact .inl rfl) : PS X (.Assign [.Name x pos'] e pos) (tS W Wx (cAsg fe (gNm i))) := si_set G.nd hi hx he hs hf
theorem qh_bm (G : Gh X W k) {es : List Expr} {fa : Ev → AH → Res (List D)} {apos : Pos} {op : OpL} {id T : String} {name : Str} (pa : PlainAttrs T) (slot : Slot T name id) (hty : typeOf (.builtin id) = pure (.type "method_descriptor")) (hm : MthI X W id op) (ho : PE X o (tI W Wx fo)) (ha : PA X (e :: es) (tA W Wx fa))
    (hbase : attributeBase o name X.env (eval o X.env) = eval o X.env := by rfl)
    (hfew : ((backTo pos (starEach (e :: es) X.env)).all (fun x => !x.1) && (backToKw pos (keywordEach [] X.env)).all (fun x => x.1.isSome)
      && decide ((e :: es).length + ([] : List Keyword).length + (if ([] : List Keyword).isEmpty then 0 else 1) < 30)) = true := by rfl)
    (hline : (apos.endLine == pos.line) = true := by rfl) (hs : starEach (e :: es) X.env = (false, eval e X.env) :: starEach es X.env := by rfl) (hplain : (backTo pos (starEach es X.env)).any (·.1) = false := by rfl) :
    PE X (.Call (.Attribute o name apos) (e :: es) [] pos) (tI W Wx (cBM T op fo fa)) := pi_bm G.K pa slot hty hm ho ha hbase hfew hline hs hplain
theorem q_meth0 (G : Gd X W k) (tk : Takes X Wx) (j : Nat) {mn : Str} {apos : Pos} {ct : List CR} {fn : Nat → Addr} {call : Nat → List D → AH → Res D} {nps : Nat → Nat} (CT : CtOk X.K W ct fn) (F : FnG X.prog X.w X.K X.mg X.base lv (fn j) fd ps (spI W (nps j) (call j))) (hb : Binds X.K fd ps []) (hk : PySem.W.keepIn X.K (.ref (fn j)) = true)
    {pl : Sem Bool} (he : PE X o (tI W Wx fo)) (hl : lv ≤ k := by decide) (hj : ((List.range ct.length).all fun c => match mthOf ct mn c with | none => true | some i => i == j) = true := by decide +kernel)
    (ht : eval (.Call (.Attribute o mn apos) [] [] pos) X.env = (do
      let ov ← eval o X.env
      standAt apos.atName
      let (f, first) ← holding [ov] (getMethod ov mn pl)
      callWith pos f first (backTo pos (starEach [] X.env)) (backToKw pos (keywordEach [] X.env))) := by rfl) :
    PE X (.Call (.Attribute o mn apos) [] [] pos) (tI W Wx (cMeth ct call nps mn fo aNil)) :=
  pi_meth0 (n := fun i => i = j) CT ⟨fun i e => by subst e; exact ⟨fd, ps, F.mono hl, hb, hk⟩⟩ (mth_one hj) G.room G.gd tk he ht
end
end PI
/-! PJV: sorted(set(l)) of a list of pairs of small whole numbers. -/
namespace PI
open PySem PySem.Spec L2 PyProof.Rows
/-- a pair as one number -/
def dPr : D → Option Int
  | .tup [.int x, .int y] => if 0 ≤ x ∧ x < 64 ∧ 0 ≤ y ∧ y < 64 then some (x * 64 + y) else none
  | _ => none
def decP (n : Int) : D := .tup [.int (n / 64), .int (n % 64)]
/-- sorted(set(l)) of pairs -/
def ssTO : OpL := fun ds h => match ds with
  | [d] => match listD h d with
    | some l => match mapO dPr l with
      | some ns => if ns.length < 64 then some (.ref h.length, h ++ [.lst ((ascI ns).map decP)]) else none
      | none => none
    | none => none
  | _ => none
def PrOk (m : Nat → Addr) (k : Nat) (H : Hp) (p : Addr × List Int) : Prop := TTr m k H p.1 (p.2.map V.int) ∧ ∃ x y : Int, p.2 = [x, y] ∧ 0 ≤ x ∧ x < 64 ∧ 0 ≤ y ∧ y < 64
theorem dPr_ok {W : Wd} {m : Nat → Addr} {k : Nat} {H : Hp} {d : D} {v : V} {n : Int} (e : dPr d = some n) (r : VR W m k H d v) : ∃ p, PrOk m k H p ∧ v = .ref p.1 ∧ n = TS.code 64 p.2 := by
  unfold dPr at e
  split at e
  · rename_i x y
    split at e
    · rename_i b
      cases e
      simp only [VR] at r
      obtain ⟨p, xs, rfl, h2, h3⟩ := r
      obtain ⟨v, u, rfl, h4, h5⟩ := VRs.two h3
      simp only [VR] at h4 h5
      subst h4 h5
      exact ⟨(p, [x, y]), ⟨h2, x, y, rfl, b⟩, rfl, (code_pair x y).symm⟩
    · cases e
  · cases e
theorem prs_of {W : Wd} {m : Nat → Addr} {k : Nat} {H : Hp} : ∀ {l : List D} {ns : List Int} {xs : List V}, mapO dPr l = some ns → VRs W m k H l xs → ∃ ks : List (Addr × List Int), xs = ks.map (fun p => V.ref p.1) ∧ (∀ p ∈ ks, PrOk m k H p) ∧ ns = ks.map (fun p => TS.code 64 p.2)
  | [], ns, xs, e, r => by
    cases e
    simp only [VRs] at r
    exact ⟨[], r, fun p hp => absurd hp List.not_mem_nil, rfl⟩
  | d :: l, ns, xs, e, r => by
    simp only [VRs] at r
    obtain ⟨x, r', rfl, h1, h2⟩ := r
    simp only [mapO] at e
    cases z : dPr d with
    | none => rw [z] at e; cases e
    | some i =>
      cases z2 : mapO dPr l with
      | none => rw [z, z2] at e; cases e
      | some js =>
        rw [z, z2] at e
        cases e
        obtain ⟨p, ok, rfl, rfl⟩ := dPr_ok z h1
        obtain ⟨ks, rfl, oks, rfl⟩ := prs_of z2 h2
        exact ⟨p :: ks, rfl, fun q hq => (List.mem_cons.mp hq).elim (fun e => e ▸ ok) (oks q), rfl⟩
theorem VR_dec {W : Wd} {m : Nat → Addr} {k : Nat} {H : Hp} {p : Addr × List Int} (ok : PrOk m k H p) : VR W m k H (decP (TS.code 64 p.2)) (.ref p.1) := by
  obtain ⟨h, x, y, e, b1, b2, b3, b4⟩ := ok
  rw [e] at h
  rw [e, code_pair]
  have e1 : (x * 64 + y) / 64 = x := by omega
  have e2 : (x * 64 + y) % 64 = y := by omega
  simp only [decP, VR, e1, e2]
  refine ⟨p.1, _, rfl, h, ?_⟩
  simp only [VRs, VR, List.map_cons, List.map_nil]
  exact ⟨_, _, rfl, rfl, _, _, rfl, rfl, rfl⟩
theorem VRs_dec {W : Wd} {m : Nat → Addr} {k : Nat} {H : Hp} : ∀ {L : List (Addr × List Int)}, (∀ p ∈ L, PrOk m k H p) → VRs W m k H ((L.map fun p => TS.code 64 p.2).map decP) (L.map fun p => V.ref p.1)
  | [], _ => by simp only [List.map_nil, VRs]
  | p :: L, h => by
    simp only [List.map_cons, VRs]
    exact ⟨_, _, rfl, VR_dec (h p List.mem_cons_self), VRs_dec fun q hq => h q (List.mem_cons_of_mem _ hq)⟩
theorem prs_asc {m : Nat → Addr} {k : Nat} {H : Hp} {L : List (Addr × List Int)} (h : ∀ p ∈ L, PrOk m k H p) (nd : (L.map (·.2)).Nodup) (pw : L.Pairwise (fun q r => TS.code 64 q.2 ≤ TS.code 64 r.2)) : (L.map fun p => TS.code 64 p.2).Pairwise (· < ·) := by
  rw [List.pairwise_map]
  have nd' : L.Pairwise (fun q r => q.2 ≠ r.2) := List.pairwise_map.mp nd
  refine List.Pairwise.imp_of_mem (fun {p q} hp hq ⟨h1, h2⟩ => ?_) (pw.and nd')
  obtain ⟨_, x, y, e, _, _, _, _⟩ := h p hp
  obtain ⟨_, x', y', e', _, _, _, _⟩ := h q hq
  rw [e, e', code_pair, code_pair] at h1
  rw [e, e', code_pair, code_pair]
  rcases Int.lt_or_eq_of_le h1 with c | c
  · exact c
  · refine absurd ?_ h2
    have : x = x' := by omega
    have : y = y' := by omega
    rw [e, e']
    subst_vars
    rfl
theorem PrOk.keep {m : Nat → Addr} {k : Nat} {H H' : Hp} {p : Addr × List Int} (ok : PrOk m k H p) (kp : ∀ b o, H b = some o → H' b = some o) : PrOk m k H' p := ⟨⟨kp _ _ ok.1.1, ok.1.2⟩, ok.2⟩
section
variable {X : Cx} {W : Wd} {Wx : WX} {p q pos pos2 : Pos} {e : Expr} {fa : Ev → AH → Res (List D)}
/-- sorted(set(e)), pairs -/
theorem pi_ssT (hK : X.K = W.K) (hc : X.calm = true) (hu : X.A.units + 100 < cLine) (hg : Gl X "sorted") (hm : X.mg "sorted" = none) (hg2 : Gl X "set") (hm2 : X.mg "set" = none) (ha : PA X [e] (tA W Wx fa)) (he : starEach [e] X.env = [(false, eval e X.env)])
    (he2 : starEach [.Call (.Name "set" q) [e] [] pos2] X.env = [(false, eval (.Call (.Name "set" q) [e] [] pos2) X.env)]) :
    PE X (.Call (.Name "sorted" p) [.Call (.Name "set" q) [e] [] pos2] [] pos) (tI W Wx (cB ssTO fa)) := by
  have inner : PE X (.Call (.Name "set" q) [e] [] pos2) fun σ H Q => tA W Wx fa σ H fun vs H1 => rSetOfT X.K X.prog X.w vs H1 Q := ⟨fun pins s σ H Q I h => Call_ (ld_blt I hg2 hm2 PyProof.Rows.boot_set (callWith_type1 (thn (ha.run pos2 pins s σ H _ I h) fun us s1 ⟨vs, H1, I1, r1, q1⟩ => cr_setOfT hc (by omega) pins s1 σ H1 vs us Q I1 r1 q1) he rfl))⟩
  refine ⟨fun pins s σ H Q I ⟨m, h, r, S, E, y⟩ => ?_⟩
  refine Call_ (ld_blt I hg hm (by decide +kernel) (callWith_builtin1 (thn ((pa_cons inner pa_nil he2).run pos pins s σ H _ I ?_) fun us s1 ⟨vs, H1, I1, r1, q1⟩ => cr_sortedT hc pins s1 σ H1 vs us Q I1 r1 q1) he2 rfl))
  refine ⟨m, h, r, S, E, ?_⟩
  refine (args_fin y).imp fun m1 h1 H1 ds S1 e1 y1 vs hv => ?_
  obtain ⟨m, h, ds, d, h', S, hv, z, k⟩ := y1 vs hv
  unfold ssTO at z
  split at z
  · rename_i d0
    obtain ⟨v, rfl, hv1⟩ := VRs.one hv
    split at z
    · rename_i l zl
      obtain ⟨a, xs, rfl, w1, w2⟩ := listD_ok S hv1 zl
      split at z
      · rename_i ns zn
        split at z
        · rename_i hn
          cases z
          obtain ⟨ks, rfl, oks, rfl⟩ := prs_of zn w2
          refine ⟨a, ks, rfl, hK ▸ w1, fun p hp => (oks p hp).1.sq, by simpa using hn, fun b L hb sub all => ?_⟩
          have kp := upd_kept (u := SetTO X.prog X.w b L) hb
          refine ⟨b, L, 2, 64, rfl, if_pos rfl, fun p hp => ((oks p (sub p hp)).keep kp).1.sq, by omega, fun p hp => ?_, fun L' o pm nd _ pw ho => ?_⟩
          · obtain ⟨_, x, y, e, b1, b2, b3, b4⟩ := oks p (sub p hp)
            rw [e]
            refine ⟨rfl, fun j hj => ?_⟩
            rcases List.mem_cons.mp hj with z | hj
            · subst z; exact ⟨b1, b2⟩
            · rw [List.mem_singleton.mp hj]; exact ⟨b3, b4⟩
          · have okL : ∀ p ∈ L', PrOk m h.length H1 p := fun p hp => oks p (sub p (pm.mem_iff.mp hp))
            have eo : L'.map (fun p => TS.code 64 p.2) = ascI (ks.map fun p => TS.code 64 p.2) := asc_one (prs_asc okL nd pw) ascI_asc fun j => by
              rw [ascI_mem, List.mem_map, List.mem_map]
              constructor
              · rintro ⟨p, hp, e⟩
                exact ⟨p, sub p (pm.mem_iff.mp hp), e⟩
              · rintro ⟨p, hp, e⟩
                obtain ⟨p', hp', e'⟩ := List.mem_map.mp (all p hp)
                exact ⟨p', pm.mem_iff.mpr hp', by rw [e']; exact e⟩
            have S2 := S.keep kp
            rw [← eo] at k
            exact fin_lst S2 (VRs_dec fun p hp => (okL p hp).keep kp) ho fun m' H' v S' e' hv' => k m' H' v S' ((ext_of_keep S kp).trans e') hv'
        · cases z
      · cases z
    · cases z
  · cases z
end
section
variable {X : Cx} {W : Wd} {Wx : WX} {k : Nat} {a : Expr} {p q pos pos2 : Pos} {fa : Ev → AH → Res (List D)}
theorem q_ssT (G : Gd X W k) (hm : X.mg "sorted" = none) (hm2 : X.mg "set" = none) (ha : PA X [a] (tA W Wx fa)) (hg : Gl X "sorted" := by rfl) (hg2 : Gl X "set" := by rfl) (he : starEach [a] X.env = [(false, eval a X.env)] := by rfl)
    (he2 : starEach [.Call (.Name "set" q) [a] [] pos2] X.env = [(false, eval (.Call (.Name "set" q) [a] [] pos2) X.env)] := by rfl) : PE X (.Call (.Name "sorted" p) [.Call (.Name "set" q) [a] [] pos2] [] pos) (tI W Wx (cB ssTO fa)) := pi_ssT G.K G.calm (G.u 100) hg hm hg2 hm2 ha he he2
end
end PI
namespace K05
open PySem L2 PI
def k_MARKS : D := .str "abcdefghijkl"
def k_MOST_HOUSES : D := .int 10
def k_MOST_WORD : D := .int 200
def k_NUMBERS : D := .kt [.str "0", .str "1", .str "2", .str "3", .str "4", .str "5", .str "6", .str "7", .str "8", .str "9"]
def ct : List CR := [⟨["text", "rows", "quadruples", "ways", "lines", "letters"], [], [("houses", 18), ("marks", 30)], some 8⟩]
def tb_Web : List (Tg × Bool) := [(.ty "NoneType", false), (.ty "bool", false), (.ty "int", false), (.ty "str", false), (.ty "tuple", false), (.ty "list", false), (.ty "dict", false), (.own 0, true)]
def tb_bool : List (Tg × Bool) := [(.ty "NoneType", false), (.ty "bool", true), (.ty "int", false), (.ty "str", false), (.ty "tuple", false), (.ty "list", false), (.ty "dict", false), (.own 0, false)]
def tb_int : List (Tg × Bool) := [(.ty "NoneType", false), (.ty "bool", true), (.ty "int", true), (.ty "str", false), (.ty "tuple", false), (.ty "list", false), (.ty "dict", false), (.own 0, false)]
def tb_str : List (Tg × Bool) := [(.ty "NoneType", false), (.ty "bool", false), (.ty "int", false), (.ty "str", true), (.ty "tuple", false), (.ty "list", false), (.ty "dict", false), (.own 0, false)]
def tb_tuple : List (Tg × Bool) := [(.ty "NoneType", false), (.ty "bool", false), (.ty "int", false), (.ty "str", false), (.ty "tuple", true), (.ty "list", false), (.ty "dict", false), (.own 0, false)]
def nps : Nat → Nat
  | 0 => 2
  | 1 => 1
  | 2 => 2
  | 3 => 1
  | 4 => 1
  | 5 => 1
  | 6 => 1
  | 7 => 1
  | 8 => 2
  | 9 => 1
  | 10 => 1
  | 11 => 1
  | 12 => 3
  | 13 => 2
  | 14 => 2
  | 15 => 3
  | 16 => 2
  | 17 => 2
  | 18 => 1
  | 19 => 2
  | 20 => 2
  | 21 => 3
  | 22 => 3
  | 23 => 2
  | 24 => 2
  | 25 => 2
  | 26 => 1
  | 27 => 3
  | 28 => 3
  | 29 => 1
  | 30 => 1
  | 31 => 1
  | 32 => 2
  | 33 => 1
  | _ => 0
noncomputable def call0 : Nat → List D → AH → Res D
  | _ => fun _ _ => .bad
noncomputable def f_tie_of : Ev → AH → RS :=
    (cSeq
    (cAsg (fz (cBM "str" splitO (cVar 0) (aCons (cCon (.str " ")) aNil))) (gNm 2))
    (cSeq
    (cIf (tOrF (cTst (cBin neD (cB lenO (aCons (cVar 2) aNil)) (cCon (.int 4)))) (tOrF (cTst (cBin ninD (cBin ixD (cVar 2) (cCon (.int 0))) (cCon k_NUMBERS))) (tOrF (cTst (cBin ninD (cBin ixD (cVar 2) (cCon (.int 2))) (cCon k_NUMBERS))) (cTst (cBin eqD (cBin ixD (cVar 2) (cCon (.int 0))) (cBin ixD (cVar 2) (cCon (.int 2)))))))) (cSeq
      (cRet (cCon .non))
      cPass) cPass)
    (cSeq
    (cIf (tNotF (cTru (cB (anyO fun l => l.all id) (aCons (fz (cLc (cIter (cTup (aCons (cBin ixD (cVar 2) (cCon (.int 1))) (aCons (cBin ixD (cVar 2) (cCon (.int 3))) aNil)))) (gNm 5) cYes (vAnd (cBin eqD (cB lenO (aCons (cVar 5) aNil)) (cCon (.int 1))) (cBin inD (cVar 5) (cVar 1))) [5] 1000)) aNil)))) (cSeq
      (cRet (cCon .non))
      cPass) cPass)
    (cSeq
    (cPar 3 4 (aCons (cBM "tuple" tupIxO (cCon k_NUMBERS) (aCons (cBin ixD (cVar 2) (cCon (.int 0))) aNil)) (aCons (cBM "tuple" tupIxO (cCon k_NUMBERS) (aCons (cBin ixD (cVar 2) (cCon (.int 2))) aNil)) aNil)))
    (cSeq
    (cIf (cTst (cBin gtD (cVar 3) (cVar 4))) (cSeq
      (cRet (cTup (aCons (cVar 4) (aCons (cBin ixD (cVar 2) (cCon (.int 3))) (aCons (cVar 3) (aCons (cBin ixD (cVar 2) (cCon (.int 1))) aNil))))))
      cPass) cPass)
    (cSeq
    (cRet (cTup (aCons (cVar 3) (aCons (cBin ixD (cVar 2) (cCon (.int 1))) (aCons (cVar 4) (aCons (cBin ixD (cVar 2) (cCon (.int 3))) aNil))))))
    cPass))))))
noncomputable def cb_tie_of (ds : List D) (h : AH) : Res D := runB f_tie_of 6 2 ds h
noncomputable def cf_tie_of : List D → AH → Res D := fzF cb_tie_of
noncomputable def f_places_of : Ev → AH → RS :=
    (cSeq
    (cRet (cTup (aCons (cBin ixD (cVar 0) (cCon (.int 0))) (aCons (cBin ixD (cVar 0) (cCon (.int 2))) aNil))))
    cPass)
noncomputable def cb_places_of (ds : List D) (h : AH) : Res D := runB f_places_of 1 1 ds h
noncomputable def cf_places_of : List D → AH → Res D := fzF cb_places_of
noncomputable def f_ties_in : Ev → AH → RS :=
    (cSeq
    (cAsg (fz (cLc (cIter (fz (cBM "str" splitO (cVar 0) (aCons (cCon (.str "\n")) aNil)))) (gNm 4) cYes (cCall 2 cf_tie_of (aCons (cVar 4) (aCons (cVar 1) aNil))) [4] 1000)) (gNm 2))
    (cSeq
    (cIf (cTru (cB (anyO fun l => l.any id) (aCons (fz (cLc (cIter (cVar 2)) (gNm 5) cYes (cBin isD (cVar 5) (cCon .non)) [5] 1000)) aNil))) (cSeq
      (cRet (cCon .non))
      cPass) cPass)
    (cSeq
    (cAsg (fz (cSortK (cVar 2))) (gNm 2))
    (cSeq
    (cFor (cRng1 (aCons (cBin subD (cB lenO (aCons (cVar 2) aNil)) (cCon (.int 1))) aNil)) (gNm 3) (cSeq
      (cIf (cTst (cBin eqD (cCall 1 cf_places_of (aCons (cBin ixD (cVar 2) (cVar 3)) aNil)) (cCall 1 cf_places_of (aCons (cBin ixD (cVar 2) (cBin addD (cVar 3) (cCon (.int 1)))) aNil)))) (cSeq
        (cRet (cCon .non))
        cPass) cPass)
      cPass) 1000)
    (cSeq
    (cRet (cVar 2))
    cPass)))))
noncomputable def cb_ties_in (ds : List D) (h : AH) : Res D := runB f_ties_in 6 2 ds h
noncomputable def cf_ties_in : List D → AH → Res D := fzF cb_ties_in
noncomputable def f_are_together : Ev → AH → RS :=
    (cSeq
    (cAsg (cBin addD (cCon (.int 1)) (cB maxLO (aCons (fz (cLc (cIter (cVar 0)) (gNm 10) cYes (cBin ixD (cVar 10) (cCon (.int 2))) [10] 1000)) aNil))) (gNm 1))
    (cSeq
    (cAsg (cLst (aCons (cCon (.int 0)) aNil)) (gNm 2))
    (cSeq
    (cAsg (cCon (.int 0)) (gNm 3))
    (cSeq
    (cWhl (cTst (cBin ltD (cVar 3) (cB lenO (aCons (cVar 2) aNil)))) (cSeq
      (cFor (cIter (cVar 0)) (gTp 4 (gsCons (gNm 4) (gsCons (gNm 5) (gsCons (gNm 6) (gsCons (gNm 7) gsNil))))) (cSeq
        (cFor (cIter (cTup (aCons (cTup (aCons (cVar 4) (aCons (cVar 6) aNil))) (aCons (cTup (aCons (cVar 6) (aCons (cVar 4) aNil))) aNil)))) (gTp 2 (gsCons (gNm 8) (gsCons (gNm 9) gsNil))) (cSeq
          (cIf (tAndF (cTst (cBin eqD (cVar 8) (cBin ixD (cVar 2) (cVar 3)))) (cTst (cBin ninD (cVar 9) (cVar 2)))) (cSeq
            (cExp (cBM "list" appO (cVar 2) (aCons (cVar 9) aNil)))
            cPass) cPass)
          cPass) 1000)
        cPass) 1000)
      (cSeq
      (cAug 3 (· + ·) (cCon (.int 1)))
      cPass)) 1000)
    (cSeq
    (cRet (cBin eqD (cB lenO (aCons (cVar 2) aNil)) (cVar 1)))
    cPass)))))
noncomputable def cb_are_together (ds : List D) (h : AH) : Res D := runB f_are_together 11 1 ds h
noncomputable def cf_are_together : List D → AH → Res D := fzF cb_are_together
noncomputable def f_ways_of : Ev → AH → RS :=
    (cSeq
    (cAsg (cBin addD (cCon (.int 1)) (cB maxLO (aCons (fz (cLc (cIter (cVar 0)) (gNm 8) cYes (cBin ixD (cVar 8) (cCon (.int 2))) [8] 1000)) aNil))) (gNm 1))
    (cSeq
    (cAsg ((cLc (cRng1 (aCons (cVar 1) aNil)) (gNm 7) cYes (cDic (.dK [])) [7] 1000)) (gNm 2))
    (cSeq
    (cFor (cIter (cVar 0)) (gTp 4 (gsCons (gNm 3) (gsCons (gNm 4) (gsCons (gNm 5) (gsCons (gNm 6) gsNil))))) (cSeq
      (cIf (tOrF (cTst (cBin inD (cVar 4) (cBin ixD (cVar 2) (cVar 3)))) (cTst (cBin inD (cVar 6) (cBin ixD (cVar 2) (cVar 5))))) (cSeq
        (cRet (cCon .non))
        cPass) cPass)
      (cSeq
      (cAsg (cVar 5) (gSb (cBin ixD (cVar 2) (cVar 3)) (cVar 4)))
      (cSeq
      (cAsg (cVar 3) (gSb (cBin ixD (cVar 2) (cVar 5)) (cVar 6)))
      cPass))) 1000)
    (cSeq
    (cRet (cVar 2))
    cPass))))
noncomputable def cb_ways_of (ds : List D) (h : AH) : Res D := runB f_ways_of 9 1 ds h
noncomputable def cf_ways_of : List D → AH → Res D := fzF cb_ways_of
noncomputable def f_web_ties : Ev → AH → RS :=
    (cSeq
    (cIf (tNotF (cTru (cIsi tb_str (cVar 0)))) (cSeq
      (cRet (cCon .non))
      cPass) cPass)
    (cSeq
    (cAsg (cCall 2 cf_ties_in (aCons (cVar 0) (aCons (cCon k_MARKS) aNil))) (gNm 1))
    (cSeq
    (cIf (tOrF (cTst (cBin isD (cVar 1) (cCon .non))) (tOrF (tNotF (cTru (cCall 1 cf_are_together (aCons (cVar 1) aNil)))) (tOrF (cTst (cBin isD (cCall 1 cf_ways_of (aCons (cVar 1) aNil)) (cCon .non))) (cTst (cBin geD (cBin ixD (cBin ixD (cVar 1) (cNeg (cCon (.int 1)))) (cCon (.int 2))) (cCon k_MOST_HOUSES)))))) (cSeq
      (cRet (cCon .non))
      cPass) cPass)
    (cSeq
    (cRet (cVar 1))
    cPass))))
noncomputable def cb_web_ties (ds : List D) (h : AH) : Res D := runB f_web_ties 2 1 ds h
noncomputable def cf_web_ties : List D → AH → Res D := fzF cb_web_ties
noncomputable def f_plain_text : Ev → AH → RS :=
    (cSeq
    (cRet (cBM "str" joinO (cCon (.str "\n")) (aCons (fz (cLc (cIter (cVar 0)) (gTp 4 (gsCons (gNm 1) (gsCons (gNm 2) (gsCons (gNm 3) (gsCons (gNm 4) gsNil))))) cYes (cJs [(fmtD (cVar 1)), (cCon (.str " ")), (fmtD (cVar 2)), (cCon (.str " ")), (fmtD (cVar 3)), (cCon (.str " ")), (fmtD (cVar 4))] Str.empty) [1, 2, 3, 4] 1000)) aNil)))
    cPass)
noncomputable def cb_plain_text (ds : List D) (h : AH) : Res D := runB f_plain_text 5 1 ds h
noncomputable def cf_plain_text : List D → AH → Res D := fzF cb_plain_text
noncomputable def f_letters_of : Ev → AH → RS :=
    (cSeq
    (cRet (cBM "str" joinO (cCon (.str "")) (aCons (fz (cLc (cIter (cCon k_MARKS)) (gNm 1) (cTru (cB (anyO fun l => l.any id) (aCons (fz (cLc (cIter (cVar 0)) (gNm 2) cYes (cBin inD (cVar 1) (cTup (aCons (cBin ixD (cVar 2) (cCon (.int 1))) (aCons (cBin ixD (cVar 2) (cCon (.int 3))) aNil)))) [2] 1000)) aNil))) (cVar 1) [1] 1000)) aNil)))
    cPass)
noncomputable def cb_letters_of (ds : List D) (h : AH) : Res D := runB f_letters_of 3 1 ds h
noncomputable def cf_letters_of : List D → AH → Res D := fzF cb_letters_of
noncomputable def f_Web___init__ : Ev → AH → RS :=
    (cSeq
    (cAsg (cCall 1 cf_web_ties (aCons (cVar 1) aNil)) (gNm 2))
    (cSeq
    (cIf (cTst (cBin isD (cVar 2) (cCon .non))) (cSeq
      cBad
      cPass) cPass)
    (cSeq
    (cFld ct "text" (cVar 0) (cVar 1))
    (cSeq
    (cFld ct "rows" (cVar 0) (cB tupO (aCons (cVar 2) aNil)))
    (cSeq
    (cFld ct "quadruples" (cVar 0) (cB tupO (aCons (fz (cB srtO (aCons (cVar 2) aNil))) aNil)))
    (cSeq
    (cFld ct "ways" (cVar 0) (cCall 1 cf_ways_of (aCons (cVar 2) aNil)))
    (cSeq
    (cFld ct "lines" (cVar 0) (cCall 1 cf_plain_text (aCons (cVar 2) aNil)))
    (cSeq
    (cFld ct "letters" (cVar 0) (cCall 1 cf_letters_of (aCons (cVar 2) aNil)))
    cPass))))))))
noncomputable def cb_Web___init__ (ds : List D) (h : AH) : Res D := runB f_Web___init__ 3 2 ds h
noncomputable def cf_Web___init__ : List D → AH → Res D := fzF cb_Web___init__
noncomputable def f_check_web : Ev → AH → RS :=
    (cSeq
    (cIf (tNotF (cTru (cIsi tb_Web (cVar 0)))) (cSeq
      cBad
      cPass) cPass)
    cPass)
noncomputable def cb_check_web (ds : List D) (h : AH) : Res D := runB f_check_web 1 1 ds h
noncomputable def cf_check_web : List D → AH → Res D := fzF cb_check_web
noncomputable def f_is_word : Ev → AH → RS :=
    (cSeq
    (cIf (tOrF (tNotF (cTru (cIsi tb_str (cVar 0)))) (tNotF (cTst (cChain leD leD (cCon (.int 1)) (cB lenO (aCons (cVar 0) aNil)) (cCon k_MOST_WORD))))) (cSeq
      (cRet (cCon (.bl false)))
      cPass) cPass)
    (cSeq
    (cRet (cB (anyO fun l => l.all id) (aCons (fz (cLc (cIter (cVar 0)) (gNm 1) cYes (cBin inD (cVar 1) (cCon k_MARKS)) [1] 1000)) aNil)))
    cPass))
noncomputable def cb_is_word (ds : List D) (h : AH) : Res D := runB f_is_word 2 1 ds h
noncomputable def cf_is_word : List D → AH → Res D := fzF cb_is_word
noncomputable def f_check_word : Ev → AH → RS :=
    (cSeq
    (cIf (tNotF (cTru (cCall 1 cf_is_word (aCons (cVar 0) aNil)))) (cSeq
      cBad
      cPass) cPass)
    cPass)
noncomputable def cb_check_word (ds : List D) (h : AH) : Res D := runB f_check_word 1 1 ds h
noncomputable def cf_check_word : List D → AH → Res D := fzF cb_check_word
noncomputable def f_end_of : Ev → AH → RS :=
    (cSeq
    (cFor (cIter (cVar 2)) (gNm 3) (cSeq
      (cIf (cTst (cBin ninD (cVar 3) (cBin ixD (cVar 0) (cVar 1)))) (cSeq
        (cRet (cCon .non))
        cPass) cPass)
      (cSeq
      (cAsg (cBin ixD (cBin ixD (cVar 0) (cVar 1)) (cVar 3)) (gNm 1))
      cPass)) 1000)
    (cSeq
    (cRet (cVar 1))
    cPass))
noncomputable def cb_end_of (ds : List D) (h : AH) : Res D := runB f_end_of 4 3 ds h
noncomputable def cf_end_of : List D → AH → Res D := fzF cb_end_of
noncomputable def f_led_by : Ev → AH → RS :=
    (cSeq
    (cAsg (fz (cLc (cRng1 (aCons (cB lenO (aCons (cVar 0) aNil)) aNil)) (gNm 3) cYes (cTup (aCons (cVar 3) (aCons (cCall 3 cf_end_of (aCons (cVar 0) (aCons (cVar 3) (aCons (cVar 1) aNil)))) aNil))) [3] 1000)) (gNm 2))
    (cSeq
    (cRet (fz (cLc (cIter (cVar 2)) (gNm 4) (cTst (cBin isntD (cBin ixD (cVar 4) (cCon (.int 1))) (cCon .non))) (cVar 4) [4] 1000)))
    cPass))
noncomputable def cb_led_by (ds : List D) (h : AH) : Res D := runB f_led_by 5 2 ds h
noncomputable def cf_led_by : List D → AH → Res D := fzF cb_led_by
noncomputable def f_led : Ev → AH → RS :=
    (cSeq
    (cExp (cCall 1 cf_check_web (aCons (cVar 0) aNil)))
    (cSeq
    (cExp (cCall 1 cf_check_word (aCons (cVar 1) aNil)))
    (cSeq
    (cRet (cB tupO (aCons (cCall 2 cf_led_by (aCons (cAttr ct call0 nps "ways" (cVar 0)) (aCons (cVar 1) aNil))) aNil)))
    cPass)))
noncomputable def cb_led (ds : List D) (h : AH) : Res D := runB f_led 2 2 ds h
noncomputable def cf_led : List D → AH → Res D := fzF cb_led
noncomputable def f_is_between : Ev → AH → RS :=
    (cSeq
    (cIf (tOrF (tNotF (cTru (cIsi tb_int (cVar 0)))) (tOrF (cTru (cIsi tb_bool (cVar 0))) (cTst (cBin ltD (cVar 0) (cVar 1))))) (cSeq
      (cRet (cCon (.bl false)))
      cPass) cPass)
    (cSeq
    (cRet (vOr (cBin isD (cVar 2) (cCon .non)) (cBin leD (cVar 0) (cVar 2))))
    cPass))
noncomputable def cb_is_between (ds : List D) (h : AH) : Res D := runB f_is_between 3 3 ds h
noncomputable def cf_is_between : List D → AH → Res D := fzF cb_is_between
noncomputable def f_is_pair : Ev → AH → RS :=
    (cSeq
    (cIf (tOrF (tNotF (cTru (cIsi tb_tuple (cVar 0)))) (cTst (cBin neD (cB lenO (aCons (cVar 0) aNil)) (cCon (.int 2))))) (cSeq
      (cRet (cCon (.bl false)))
      cPass) cPass)
    (cSeq
    (cRet (cB (anyO fun l => l.all id) (aCons (fz (cLc (cIter (cVar 0)) (gNm 2) cYes (cCall 3 cf_is_between (aCons (cVar 2) (aCons (cCon (.int 0)) (aCons (cBin subD (cVar 1) (cCon (.int 1))) aNil)))) [2] 1000)) aNil)))
    cPass))
noncomputable def cb_is_pair (ds : List D) (h : AH) : Res D := runB f_is_pair 3 2 ds h
noncomputable def cf_is_pair : List D → AH → Res D := fzF cb_is_pair
noncomputable def f_check_pair : Ev → AH → RS :=
    (cSeq
    (cIf (tNotF (cTru (cCall 2 cf_is_pair (aCons (cVar 0) (aCons (cVar 1) aNil))))) (cSeq
      cBad
      cPass) cPass)
    cPass)
noncomputable def cb_check_pair (ds : List D) (h : AH) : Res D := runB f_check_pair 2 2 ds h
noncomputable def cf_check_pair : List D → AH → Res D := fzF cb_check_pair
noncomputable def f_Web_houses : Ev → AH → RS :=
    (cSeq
    (cRet (cB lenO (aCons (cAttr ct call0 nps "ways" (cVar 0)) aNil)))
    cPass)
noncomputable def cb_Web_houses (ds : List D) (h : AH) : Res D := runB f_Web_houses 1 1 ds h
noncomputable def cf_Web_houses : List D → AH → Res D := fzF cb_Web_houses
noncomputable def call1 : Nat → List D → AH → Res D
  | 18 => cf_Web_houses
  | _ => fun _ _ => .bad
noncomputable def f_steps_of_two : Ev → AH → RS :=
    (cSeq
    (cAsg (cVar 1) (gTp 2 (gsCons (gNm 3) (gsCons (gNm 4) gsNil))))
    (cSeq
    (cAsg (fz (cB srtO (aCons (fz (cLc (cIter (cBin ixD (cVar 0) (cVar 3))) (gNm 5) (cTst (cBin inD (cVar 5) (cBin ixD (cVar 0) (cVar 4)))) (cVar 5) [5] 1000)) aNil))) (gNm 2))
    (cSeq
    (cRet (fz (cLc (cIter (cVar 2)) (gNm 5) cYes (cTup (aCons (cVar 5) (aCons (cTup (aCons (cBin ixD (cBin ixD (cVar 0) (cVar 3)) (cVar 5)) (aCons (cBin ixD (cBin ixD (cVar 0) (cVar 4)) (cVar 5)) aNil))) aNil))) [5] 1000)))
    cPass)))
noncomputable def cb_steps_of_two (ds : List D) (h : AH) : Res D := runB f_steps_of_two 6 2 ds h
noncomputable def cf_steps_of_two : List D → AH → Res D := fzF cb_steps_of_two
noncomputable def f_words_of_two : Ev → AH → RS :=
    (cSeq
    (cAsg (cDic (.dT [])) (gNm 2))
    (cSeq
    (cAsg (cLst (aCons (cTup (aCons (cCon (.str "")) (aCons (cVar 1) aNil))) aNil)) (gNm 3))
    (cSeq
    (cAsg (cCon (.int 0)) (gNm 4))
    (cSeq
    (cWhl (cTst (cBin ltD (cVar 4) (cB lenO (aCons (cVar 3) aNil)))) (cSeq
      (cAsg (cBin ixD (cVar 3) (cVar 4)) (gTp 2 (gsCons (gNm 5) (gsCons (gNm 6) gsNil))))
      (cSeq
      (cFor (cIter (cCall 2 cf_steps_of_two (aCons (cVar 0) (aCons (cVar 6) aNil)))) (gTp 2 (gsCons (gNm 7) (gsCons (gNm 8) gsNil))) (cSeq
        (cIf (cTst (cBin ninD (cVar 8) (cVar 2))) (cSeq
          (cAsg (cBin addD (cVar 5) (cVar 7)) (gSb (cVar 2) (cVar 8)))
          (cSeq
          (cExp (cBM "list" appO (cVar 3) (aCons (cTup (aCons (cBin addD (cVar 5) (cVar 7)) (aCons (cVar 8) aNil))) aNil)))
          cPass)) cPass)
        cPass) 1000)
      (cSeq
      (cAug 4 (· + ·) (cCon (.int 1)))
      cPass))) 1000)
    (cSeq
    (cRet (cVar 2))
    cPass)))))
noncomputable def cb_words_of_two (ds : List D) (h : AH) : Res D := runB f_words_of_two 9 2 ds h
noncomputable def cf_words_of_two : List D → AH → Res D := fzF cb_words_of_two
noncomputable def f_joined : Ev → AH → RS :=
    (cSeq
    (cExp (cCall 1 cf_check_web (aCons (cVar 0) aNil)))
    (cSeq
    (cExp (cCall 2 cf_check_pair (aCons (cVar 1) (aCons (cAttr ct call1 nps "houses" (cVar 0)) aNil))))
    (cSeq
    (cExp (cCall 2 cf_check_pair (aCons (cVar 2) (aCons (cAttr ct call1 nps "houses" (cVar 0)) aNil))))
    (cSeq
    (cAsg (cCall 2 cf_words_of_two (aCons (cAttr ct call1 nps "ways" (cVar 0)) (aCons (cTup (aCons (cBin ixD (cVar 1) (cCon (.int 0))) (aCons (cBin ixD (cVar 2) (cCon (.int 0))) aNil))) aNil))) (gNm 3))
    (cSeq
    (cRet (cGet1 (cVar 3) (cTup (aCons (cBin ixD (cVar 1) (cCon (.int 1))) (aCons (cBin ixD (cVar 2) (cCon (.int 1))) aNil)))))
    cPass)))))
noncomputable def cb_joined (ds : List D) (h : AH) : Res D := runB f_joined 4 3 ds h
noncomputable def cf_joined : List D → AH → Res D := fzF cb_joined
noncomputable def f_unlike : Ev → AH → RS :=
    (cSeq
    (cExp (cCall 1 cf_check_web (aCons (cVar 0) aNil)))
    (cSeq
    (cExp (cCall 1 cf_check_word (aCons (cVar 1) aNil)))
    (cSeq
    (cExp (cCall 1 cf_check_word (aCons (cVar 2) aNil)))
    (cSeq
    (cAsg (cLst aNil) (gNm 3))
    (cSeq
    (cFor (cRng1 (aCons (cAttr ct call1 nps "houses" (cVar 0)) aNil)) (gNm 4) (cSeq
      (cPar 5 6 (aCons (cCall 3 cf_end_of (aCons (cAttr ct call1 nps "ways" (cVar 0)) (aCons (cVar 4) (aCons (cVar 1) aNil)))) (aCons (cCall 3 cf_end_of (aCons (cAttr ct call1 nps "ways" (cVar 0)) (aCons (cVar 4) (aCons (cVar 2) aNil)))) aNil)))
      (cSeq
      (cIf (tAndF (cTst (cBin isntD (cVar 5) (cCon .non))) (tAndF (cTst (cBin isntD (cVar 6) (cCon .non))) (cTst (cBin neD (cVar 5) (cVar 6))))) (cSeq
        (cExp (cBM "list" appO (cVar 3) (aCons (cVar 4) aNil)))
        cPass) cPass)
      cPass)) 1000)
    (cSeq
    (cRet (cB tupO (aCons (cVar 3) aNil)))
    cPass))))))
noncomputable def cb_unlike (ds : List D) (h : AH) : Res D := runB f_unlike 7 3 ds h
noncomputable def cf_unlike : List D → AH → Res D := fzF cb_unlike
noncomputable def f__law_sip : Ev → AH → RS :=
    (cSeq
    (cAsg (cBin modD (cB intO (aCons (cBin addD (cBin mulD (cBin ixD (cVar 0) (cCon (.int 0))) (cCon (.int 48271))) (cCon (.int 13))) aNil)) (cCon (.int 2147483629))) (gSb (cVar 0) (cCon (.int 0))))
    (cSeq
    (cIf (cTst (cBin gtD (cBin ixD (cVar 0) (cCon (.int 1))) (cCon (.int 0)))) (cSeq
      (cAsg (cB dmO (aCons (cBin ixD (cVar 0) (cCon (.int 1))) (aCons (cVar 1) aNil))) (gTp 2 (gsCons (gSb (cVar 0) (cCon (.int 1))) (gsCons (gNm 2) gsNil))))
      (cSeq
      (cRet (cVar 2))
      cPass)) cPass)
    (cSeq
    (cRet (cBin modD (cB intO (aCons (cBin fdivD (cBin ixD (cVar 0) (cCon (.int 0))) (cCon (.int 1019))) aNil)) (cVar 1)))
    cPass)))
noncomputable def cb__law_sip (ds : List D) (h : AH) : Res D := runB f__law_sip 3 2 ds h
noncomputable def cf__law_sip : List D → AH → Res D := fzF cb__law_sip
noncomputable def f__law_pick : Ev → AH → RS :=
    (cSeq
    (cRet (cBin ixD (cVar 1) (cCall 2 cf__law_sip (aCons (cVar 0) (aCons (cB lenO (aCons (cVar 1) aNil)) aNil)))))
    cPass)
noncomputable def cb__law_pick (ds : List D) (h : AH) : Res D := runB f__law_pick 2 2 ds h
noncomputable def cf__law_pick : List D → AH → Res D := fzF cb__law_pick
noncomputable def f__law_drawn : Ev → AH → RS :=
    (cSeq
    (cAsg (cBin addD (cCon (.int 2)) (cCall 2 cf__law_sip (aCons (cVar 0) (aCons (cBin subD (cVar 1) (cCon (.int 1))) aNil)))) (gNm 2))
    (cSeq
    (cAsg (fz (cLc (cRng2 (aCons (cCon (.int 1)) (aCons (cVar 2) aNil))) (gNm 5) cYes (cTup (aCons (cCall 2 cf__law_sip (aCons (cVar 0) (aCons (cVar 5) aNil))) (aCons (cVar 5) aNil))) [5] 1000)) (gNm 3))
    (cSeq
    (cFor (cRng1 (aCons (cCall 2 cf__law_sip (aCons (cVar 0) (aCons (cCon (.int 3)) aNil))) aNil)) (gNm 4) (cSeq
      (cAsg (cBin addD (cCon (.int 1)) (cCall 2 cf__law_sip (aCons (cVar 0) (aCons (cBin subD (cVar 2) (cCon (.int 1))) aNil)))) (gNm 5))
      (cSeq
      (cAsg (cTup (aCons (cCall 2 cf__law_sip (aCons (cVar 0) (aCons (cVar 5) aNil))) (aCons (cVar 5) aNil))) (gNm 6))
      (cSeq
      (cAsg (cIte (cTst (cBin inD (cVar 6) (cVar 3))) (cVar 3) (fz (cBin addD (cVar 3) (fz (cLst (aCons (cVar 6) aNil)))))) (gNm 3))
      cPass))) 1000)
    (cSeq
    (cAsg (cTup (aCons (cLc (cRng1 (aCons (cVar 2) aNil)) (gNm 13) cYes (cLst aNil) [13] 1000) (aCons (cLst aNil) aNil))) (gTp 2 (gsCons (gNm 7) (gsCons (gNm 8) gsNil))))
    (cSeq
    (cFor (cIter (fz (cB srtO (aCons (cVar 3) aNil)))) (gTp 2 (gsCons (gNm 9) (gsCons (gNm 5) gsNil))) (cSeq
      (cAsg (fz (cLc (cIter (fz (cLst (aCons (cVar 9) (aCons (cVar 5) aNil))))) (gNm 13) cYes (fz (cSl (fz (cLc (cIter (cCon (.str "abcdefghijkl"))) (gNm 14) (cTst (cBin ninD (cVar 14) (cBin ixD (cVar 7) (cVar 13)))) (cVar 14) [14] 1000)) oNo (oInt (cBin addD (cCon (.int 2)) (cCall 2 cf__law_sip (aCons (cVar 0) (aCons (cCon (.int 2)) aNil))))))) [13] 1000)) (gNm 10))
      (cSeq
      (cPar 11 12 (aCons (cCall 2 cf__law_pick (aCons (cVar 0) (aCons (cBin ixD (cVar 10) (cCon (.int 0))) aNil))) (aCons (cCall 2 cf__law_pick (aCons (cVar 0) (aCons (cBin ixD (cVar 10) (cCon (.int 1))) aNil))) aNil)))
      (cSeq
      (cExp (cBM "list" appO (cBin ixD (cVar 7) (cVar 9)) (aCons (cVar 11) aNil)))
      (cSeq
      (cExp (cBM "list" appO (cBin ixD (cVar 7) (cVar 5)) (aCons (cVar 12) aNil)))
      (cSeq
      (cExp (cBM "list" appO (cVar 8) (aCons (cTup (aCons (cVar 9) (aCons (cVar 11) (aCons (cVar 5) (aCons (cVar 12) aNil))))) aNil)))
      cPass))))) 1000)
    (cSeq
    (cRet (cVar 8))
    cPass))))))
noncomputable def cb__law_drawn (ds : List D) (h : AH) : Res D := runB f__law_drawn 15 2 ds h
noncomputable def cf__law_drawn : List D → AH → Res D := fzF cb__law_drawn
noncomputable def f__law_ways : Ev → AH → RS :=
    (cSeq
    (cAsg ((cLc (cRng1 (aCons (cBin addD (cCon (.int 1)) (cB maxLO (aCons (fz (cLc (cIter (cVar 0)) (gNm 7) cYes (cBin ixD (cVar 7) (cCon (.int 2))) [7] 1000)) aNil))) aNil)) (gNm 6) cYes (cDic (.dK [])) [6] 1000)) (gNm 1))
    (cSeq
    (cFor (cIter (cVar 0)) (gTp 4 (gsCons (gNm 2) (gsCons (gNm 3) (gsCons (gNm 4) (gsCons (gNm 5) gsNil))))) (cSeq
      (cAsg (cVar 4) (gSb (cBin ixD (cVar 1) (cVar 2)) (cVar 3)))
      (cSeq
      (cAsg (cVar 2) (gSb (cBin ixD (cVar 1) (cVar 4)) (cVar 5)))
      cPass)) 1000)
    (cSeq
    (cRet (cVar 1))
    cPass)))
noncomputable def cb__law_ways (ds : List D) (h : AH) : Res D := runB f__law_ways 8 1 ds h
noncomputable def cf__law_ways : List D → AH → Res D := fzF cb__law_ways
noncomputable def f__law_walk : Ev → AH → RS :=
    (cSeq
    (cFor (cIter (cVar 2)) (gNm 3) (cSeq
      (cIf (cTst (cBin ninD (cVar 3) (cBin ixD (cVar 0) (cVar 1)))) (cSeq
        (cRet (cCon .non))
        cPass) cPass)
      (cSeq
      (cAsg (cBin ixD (cBin ixD (cVar 0) (cVar 1)) (cVar 3)) (gNm 1))
      cPass)) 1000)
    (cSeq
    (cRet (cVar 1))
    cPass))
noncomputable def cb__law_walk (ds : List D) (h : AH) : Res D := runB f__law_walk 4 3 ds h
noncomputable def cf__law_walk : List D → AH → Res D := fzF cb__law_walk
noncomputable def f__law_shortest : Ev → AH → RS :=
    (cSeq
    (cAsg (cTup (aCons (fz (cLst (aCons (cTup (aCons (cBin ixD (cVar 1) (cCon (.int 0))) (aCons (cBin ixD (cVar 2) (cCon (.int 0))) aNil))) aNil))) (aCons (fz (cLst aNil)) aNil))) (gTp 2 (gsCons (gNm 4) (gsCons (gNm 5) gsNil))))
    (cSeq
    (cFor (cRng2 (aCons (cCon (.int 1)) (aCons (cCon (.int 40)) aNil))) (gNm 3) (cSeq
      (cAsg (cLst aNil) (gNm 6))
      (cSeq
      (cFor (cIter (cVar 4)) (gTp 2 (gsCons (gNm 7) (gsCons (gNm 8) gsNil))) (cSeq
        (cFor (cIter (cCon (.str "abcdefghijkl"))) (gNm 9) (cSeq
          (cIf (tAndF (cTst (cBin inD (cVar 9) (cBin ixD (cVar 0) (cVar 7)))) (cTst (cBin inD (cVar 9) (cBin ixD (cVar 0) (cVar 8))))) (cSeq
            (cExp (cBM "list" appO (cVar 6) (aCons (cTup (aCons (cBin ixD (cBin ixD (cVar 0) (cVar 7)) (cVar 9)) (aCons (cBin ixD (cBin ixD (cVar 0) (cVar 8)) (cVar 9)) aNil))) aNil)))
            cPass) cPass)
          cPass) 1000)
        cPass) 1000)
      (cSeq
      (cIf (cTst (cBin inD (cTup (aCons (cBin ixD (cVar 1) (cCon (.int 1))) (aCons (cBin ixD (cVar 2) (cCon (.int 1))) aNil))) (cVar 6))) (cSeq
        (cRet (cVar 3))
        cPass) cPass)
      (cSeq
      (cAsg (fz (cLc (cIter (fz (cB ssTO (aCons (cVar 6) aNil)))) (gNm 8) (cTst (cBin ninD (cVar 8) (cVar 5))) (cVar 8) [8] 1000)) (gNm 4))
      (cSeq
      (cAsg (fz (cBin addD (cVar 5) (cVar 4))) (gNm 5))
      cPass))))) 1000)
    (cSeq
    (cRet (cCon (.int 0)))
    cPass)))
noncomputable def cb__law_shortest (ds : List D) (h : AH) : Res D := runB f__law_shortest 10 3 ds h
noncomputable def cf__law_shortest : List D → AH → Res D := fzF cb__law_shortest
noncomputable def f__law_text : Ev → AH → RS :=
    (cSeq
    (cRet (cBM "str" joinO (cCon (.str "\n")) (aCons (fz (cLc (cIter (cVar 0)) (gNm 1) cYes (cBM "str" joinO (cCon (.str " ")) (aCons (fz (cLc (cIter (cVar 1)) (gNm 2) cYes (cB strO (aCons (cVar 2) aNil)) [2] 1000)) aNil)) [1] 1000)) aNil)))
    cPass)
noncomputable def cb__law_text (ds : List D) (h : AH) : Res D := runB f__law_text 3 1 ds h
noncomputable def cf__law_text : List D → AH → Res D := fzF cb__law_text
noncomputable def f_Web_marks : Ev → AH → RS :=
    (cSeq
    (cRet (cAttr ct call1 nps "letters" (cVar 0)))
    cPass)
noncomputable def cb_Web_marks (ds : List D) (h : AH) : Res D := runB f_Web_marks 1 1 ds h
noncomputable def cf_Web_marks : List D → AH → Res D := fzF cb_Web_marks
noncomputable def call2 : Nat → List D → AH → Res D
  | 18 => cf_Web_houses
  | 30 => cf_Web_marks
  | _ => fun _ _ => .bad
noncomputable def f__law_right : Ev → AH → RS :=
    (cSeq
    (cFor (cRng1 (aCons (cCon (.int 6)) aNil)) (gNm 1) (cSeq
      (cAsg (cCall 2 cf__law_drawn (aCons (cVar 0) (aCons (cCon (.int 4)) aNil))) (gNm 2))
      (cSeq
      (cAsg (cTup (aCons (fz (cMake 0 2 cf_Web___init__ (aCons (cCall 1 cf__law_text (aCons (cVar 2) aNil)) aNil))) (aCons (cCall 1 cf__law_ways (aCons (cVar 2) aNil)) aNil))) (gTp 2 (gsCons (gNm 11) (gsCons (gNm 12) gsNil))))
      (cSeq
      (cAsg (cBM "str" joinO (cCon (.str "")) (aCons (fz (cLc (cRng1 (aCons (cBin addD (cCon (.int 1)) (cCall 2 cf__law_sip (aCons (cVar 0) (aCons (cCon (.int 4)) aNil)))) aNil)) (gNm 16) cYes (cCall 2 cf__law_pick (aCons (cVar 0) (aCons (fz (cB listSO (aCons (cAttr ct call2 nps "marks" (cVar 11)) aNil))) aNil))) [16] 1000)) aNil)) (gNm 3))
      (cSeq
      (cAsg (cBM "str" joinO (cCon (.str "")) (aCons (fz (cLc (cRng1 (aCons (cBin addD (cCon (.int 1)) (cCall 2 cf__law_sip (aCons (cVar 0) (aCons (cCon (.int 4)) aNil)))) aNil)) (gNm 16) cYes (cCall 2 cf__law_pick (aCons (cVar 0) (aCons (fz (cB listSO (aCons (cAttr ct call2 nps "marks" (cVar 11)) aNil))) aNil))) [16] 1000)) aNil)) (gNm 4))
      (cSeq
      (cAsg (fz (cLc (cRng1 (aCons (cAttr ct call2 nps "houses" (cVar 11)) aNil)) (gNm 15) cYes (cCall 3 cf__law_walk (aCons (cVar 12) (aCons (cVar 15) (aCons (cVar 3) aNil)))) [15] 1000)) (gNm 5))
      (cSeq
      (cAsg (fz (cLc (cRng1 (aCons (cAttr ct call2 nps "houses" (cVar 11)) aNil)) (gNm 15) cYes (cCall 3 cf__law_walk (aCons (cVar 12) (aCons (cVar 15) (aCons (cVar 4) aNil)))) [15] 1000)) (gNm 6))
      (cSeq
      (cAsg (cB tupO (aCons (fz (cLc (cRng1 (aCons (cAttr ct call2 nps "houses" (cVar 11)) aNil)) (gNm 15) (cTst (cBin isntD (cBin ixD (cVar 5) (cVar 15)) (cCon .non))) (cTup (aCons (cVar 15) (aCons (cBin ixD (cVar 5) (cVar 15)) aNil))) [15] 1000)) aNil)) (gNm 7))
      (cSeq
      (cIf (cTst (cBin neD (fz (cLst (aCons (cCall 2 cf_led (aCons (cVar 11) (aCons (cVar 3) aNil))) (aCons (cCallK 2 0 2 [1, 0] cf_led aNil (aCons (cVar 3) (aCons (cVar 11) aNil))) aNil)))) (fz (cLst (aCons (cVar 7) (aCons (cVar 7) aNil)))))) (cSeq
        (cRet (cCon (.bl false)))
        cPass) cPass)
      (cSeq
      (cAsg (fz (cLc (cRng1 (aCons (cAttr ct call2 nps "houses" (cVar 11)) aNil)) (gNm 15) (tAndF (cTst (cBin isntD (cBin ixD (cVar 5) (cVar 15)) (cCon .non))) (cTst (cBin isntD (cBin ixD (cVar 6) (cVar 15)) (cCon .non)))) (cVar 15) [15] 1000)) (gNm 8))
      (cSeq
      (cAsg (cB tupO (aCons (fz (cLc (cIter (cVar 8)) (gNm 15) (cTst (cBin neD (cBin ixD (cVar 5) (cVar 15)) (cBin ixD (cVar 6) (cVar 15)))) (cVar 15) [15] 1000)) aNil)) (gNm 8))
      (cSeq
      (cIf (cTst (cBin neD (fz (cLst (aCons (cCall 3 cf_unlike (aCons (cVar 11) (aCons (cVar 3) (aCons (cVar 4) aNil)))) (aCons (cCallK 3 0 3 [2, 1, 0] cf_unlike aNil (aCons (cVar 3) (aCons (cVar 4) (aCons (cVar 11) aNil)))) aNil)))) (fz (cLst (aCons (cVar 8) (aCons (cVar 8) aNil)))))) (cSeq
        (cRet (cCon (.bl false)))
        cPass) cPass)
      (cSeq
      (cAsg (cTup (aCons (cCall 2 cf__law_sip (aCons (cVar 0) (aCons (cAttr ct call2 nps "houses" (cVar 11)) aNil))) (aCons (cCall 2 cf__law_sip (aCons (cVar 0) (aCons (cAttr ct call2 nps "houses" (cVar 11)) aNil))) aNil))) (gNm 9))
      (cSeq
      (cAsg (cTup (aCons (cCall 2 cf__law_sip (aCons (cVar 0) (aCons (cAttr ct call2 nps "houses" (cVar 11)) aNil))) (aCons (cCall 2 cf__law_sip (aCons (cVar 0) (aCons (cAttr ct call2 nps "houses" (cVar 11)) aNil))) aNil))) (gNm 10))
      (cSeq
      (cPar 13 14 (aCons (cCall 3 cf_joined (aCons (cVar 11) (aCons (cVar 9) (aCons (cVar 10) aNil)))) (aCons (cCall 3 cf__law_shortest (aCons (cVar 12) (aCons (cVar 9) (aCons (cVar 10) aNil)))) aNil)))
      (cSeq
      (cIf (tOrF (cTst (cBin neD (cBin isD (cVar 13) (cCon .non)) (cBin eqD (cVar 14) (cCon (.int 0))))) (cTst (cBin neD (cBin isD (cCallK 3 0 3 [2, 1, 0] cf_joined aNil (aCons (cVar 9) (aCons (cVar 10) (aCons (cVar 11) aNil)))) (cCon .non)) (cBin eqD (cVar 14) (cCon (.int 0)))))) (cSeq
        (cRet (cCon (.bl false)))
        cPass) cPass)
      (cSeq
      (cIf (tAndF (cTst (cBin isntD (cVar 13) (cCon .non))) (tOrF (cTst (cBin neD (cB lenO (aCons (cVar 13) aNil)) (cVar 14))) (tOrF (cTst (cBin ninD (cVar 9) (cCall 2 cf_led (aCons (cVar 11) (aCons (cVar 13) aNil))))) (cTst (cBin ninD (cVar 10) (cCall 2 cf_led (aCons (cVar 11) (aCons (cVar 13) aNil)))))))) (cSeq
        (cRet (cCon (.bl false)))
        cPass) cPass)
      cPass)))))))))))))))) 1000)
    (cSeq
    (cRet (cCon (.bl true)))
    cPass))
noncomputable def cb__law_right (ds : List D) (h : AH) : Res D := runB f__law_right 17 1 ds h
noncomputable def cf__law_right : List D → AH → Res D := fzF cb__law_right
noncomputable def f__law_cup : Ev → AH → RS :=
    (cSeq
    (cAsg (cIte (cTst (cBin ltD (cVar 1) (cB lenO (aCons (cVar 0) aNil)))) (cBin ixD (cVar 0) (cVar 1)) (cBin addD (cBin mulD (cCon (.int 5167)) (cVar 1)) (cCon (.int 90173)))) (gNm 2))
    (cSeq
    (cFor (cIter (cIte (cTst (cBin geD (cVar 1) (cB lenO (aCons (cVar 0) aNil)))) (fz (cSl (cVar 0) oNo (oInt (cCon (.int 2))))) (fz (cLst aNil)))) (gNm 3) (cSeq
      (cAsg (cBin modD (cB intO (aCons (cBin addD (cBin mulD (cVar 2) (cCon (.int 31))) (cVar 3)) aNil)) (cCon (.int 1000000007))) (gNm 2))
      cPass) 1000)
    (cSeq
    (cRet (cLst (aCons (cBin modD (cB intO (aCons (cBin addD (cBin addD (cBin mulD (cVar 2) (cCon (.int 4093))) (cBin mulD (cCon (.int 269)) (cVar 1))) (cCon (.int 19))) aNil)) (cCon (.int 2147483629))) (aCons (cIte (tOrF (cTst (cBin ltD (cVar 2) (cCon (.int 0)))) (cTst (cBin geD (cVar 2) (cBin powD (cCon (.int 10)) (cCon (.int 18)))))) (cB absO (aCons (cVar 2) aNil)) (cCon (.int 0))) aNil))))
    cPass)))
noncomputable def cb__law_cup (ds : List D) (h : AH) : Res D := runB f__law_cup 4 2 ds h
noncomputable def cf__law_cup : List D → AH → Res D := cb__law_cup
noncomputable def f_law : Ev → AH → RS :=
    (cSeq
    (cAsg (fz (cMake 0 2 cf_Web___init__ (aCons (cCon (.str "0 a 1 a\n1 b 2 a")) aNil))) (gNm 1))
    (cSeq
    (cIf (cTst (cBin neD (fz (cLst (aCons (cCall 2 cf_led (aCons (cVar 1) (aCons (cCon (.str "ab")) aNil))) (aCons (cCall 3 cf_joined (aCons (cVar 1) (aCons (cTup (aCons (cCon (.int 0)) (aCons (cCon (.int 1)) aNil))) (aCons (cTup (aCons (cCon (.int 2)) (aCons (cCon (.int 1)) aNil))) aNil)))) (aCons (cCall 3 cf_joined (aCons (cVar 1) (aCons (cTup (aCons (cCon (.int 0)) (aCons (cCon (.int 0)) aNil))) (aCons (cTup (aCons (cCon (.int 1)) (aCons (cCon (.int 2)) aNil))) aNil)))) aNil))))) (fz (cLst (aCons (cTup (aCons (cTup (aCons (cCon (.int 0)) (aCons (cCon (.int 2)) aNil))) (aCons (cTup (aCons (cCon (.int 2)) (aCons (cCon (.int 2)) aNil))) aNil))) (aCons (cCon (.str "a")) (aCons (cCon .non) aNil))))))) (cSeq
      (cRet (cCon (.bl false)))
      cPass) cPass)
    (cSeq
    (cIf (tOrF (cTst (cBin neD (cB lenO (aCons (cCall 3 cf_joined (aCons (cVar 1) (aCons (cTup (aCons (cCon (.int 1)) (aCons (cCon (.int 1)) aNil))) (aCons (cTup (aCons (cCon (.int 1)) (aCons (cCon (.int 1)) aNil))) aNil)))) aNil)) (cCon (.int 2)))) (tOrF (cTst (cBin isntD (cCall 3 cf_joined (aCons (cVar 1) (aCons (cTup (aCons (cCon (.int 0)) (aCons (cCon (.int 1)) aNil))) (aCons (cTup (aCons (cCon (.int 0)) (aCons (cCon (.int 2)) aNil))) aNil)))) (cCon .non))) (cTst (cBin neD (cCall 3 cf_unlike (aCons (cVar 1) (aCons (cCon (.str "a")) (aCons (cCon (.str "ab")) aNil)))) (cTup (aCons (cCon (.int 0)) (aCons (cCon (.int 2)) aNil))))))) (cSeq
      (cRet (cCon (.bl false)))
      cPass) cPass)
    (cSeq
    (cRet (cB (anyO fun l => l.all id) (aCons (fz (cLc (cRng1 (aCons (cB maxO (aCons (cCon (.int 2)) (aCons (cB minO (aCons (cB lenO (aCons (cVar 0) aNil)) (aCons (cCon (.int 5)) aNil))) aNil))) aNil)) (gNm 2) cYes (fz (cCall 1 cf__law_right (aCons (cCall 2 cf__law_cup (aCons (cVar 0) (aCons (cVar 2) aNil))) aNil))) [2] 1000)) aNil)))
    cPass))))
noncomputable def cb_law (ds : List D) (h : AH) : Res D := runB f_law 3 1 ds h
noncomputable def cf_law : List D → AH → Res D := fzF cb_law
end K05
namespace K05
open PySem L2 PI
/-! numbers of this law -/
abbrev iHouses : Nat := 18
abbrev iMarks : Nat := 30

end K05
namespace K05
open PySem L2 PI
theorem lm0 : ((0 : Nat) ≤ LIM) = True := eq_true (by decide)
theorem lm1 : ((0 + 1 : Nat) ≤ LIM) = True := eq_true (by decide)
theorem lm2 : ((0 + 1 + 1 : Nat) ≤ LIM) = True := eq_true (by decide)
theorem lm3 : ((0 + 1 + 1 + 1 : Nat) ≤ LIM) = True := eq_true (by decide)
theorem lm4 : ((0 + 1 + 1 + 1 + 1 : Nat) ≤ LIM) = True := eq_true (by decide)
theorem lk2 : tb_str.lookup (.ty "str") = some true := by decide +kernel
theorem ty_str {h : AH} {x : Str} : tyD "str" h (.str x) = true := rfl
theorem ty_num {h : AH} : tyD "tuple" h k_NUMBERS = true := rfl
/-! ### ties as data -/
def dg (i : Nat) : Str := toString (i : Int)
def ltr (a : Nat) : Str := ⟨#[97 + a]⟩
def MK : Str := "abcdefghijkl"
structure T4 where
  i : Nat
  a : Nat
  j : Nat
  b : Nat
  deriving DecidableEq
def T4.ok (t : T4) : Prop := t.i < 10 ∧ t.j < 10 ∧ t.a < 12 ∧ t.b < 12 ∧ t.i ≠ t.j
def T4.turn (t : T4) : T4 := ⟨t.j, t.b, t.i, t.a⟩
def T4.norm (t : T4) : T4 := if t.j < t.i then t.turn else t
def T4.d (t : T4) : D := .tup [.int t.i, .str (ltr t.a), .int t.j, .str (ltr t.b)]
def T4.words (t : T4) : List Str := [dg t.i, ltr t.a, dg t.j, ltr t.b]
def T4.line (t : T4) : Str := Txt.join " " t.words
theorem cl_d (n : Nat) (t : T4) : clD n t.d = true := rfl
theorem dg_any : ∀ i : Fin 10, ([.str "0", .str "1", .str "2", .str "3", .str "4", .str "5", .str "6", .str "7", .str "8", .str "9"].any fun y => eqF y (.str (dg i))) = true := by decide +kernel
theorem dg_idx : ∀ i : Fin 10, tupIxO [k_NUMBERS, .str (dg i)] [] = some (.int (i : Nat), []) := by intro i; revert i; intro ⟨i, hi⟩; match i, hi with
  | 0, _ => kernel_rfl
  | 1, _ => kernel_rfl
  | 2, _ => kernel_rfl
  | 3, _ => kernel_rfl
  | 4, _ => kernel_rfl
  | 5, _ => kernel_rfl
  | 6, _ => kernel_rfl
  | 7, _ => kernel_rfl
  | 8, _ => kernel_rfl
  | 9, _ => kernel_rfl
theorem dg_ix {i : Nat} (hi : i < 10) (h : AH) : tupIxO [k_NUMBERS, .str (dg i)] h = some (.int (i : Nat), h) := by
  have e := dg_idx ⟨i, hi⟩
  unfold tupIxO at e ⊢
  simp only [k_NUMBERS, tupD] at e ⊢
  split at e
  · rename_i ys z
    split at e
    · rename_i hc
      simp only [hc, if_true]
      have := congrArg (Option.map Prod.fst) e
      simp only [Option.map_some] at this
      rw [Option.some.injEq] at this ⊢
      exact Prod.ext this rfl
    · cases e
  · cases e
theorem dg_inj : ∀ i j : Fin 10, dg i = dg j → i = j := by decide +kernel
theorem dg_noSp : ∀ i : Fin 10, 32 ∉ TL.tl (dg i) ∧ 10 ∉ TL.tl (dg i) ∧ (dg i).length = 1 := by decide +kernel
theorem mk_in : ∀ a : Fin 12, (97 + (a : Nat)) ∈ MK.cps.toList := by decide +kernel
theorem split_line {t : T4} (ht : t.ok) : Txt.split t.line " " = t.words := by
  unfold T4.line
  have tlsp : TL.tl (" " : Str) = [32] := by decide +kernel
  refine TL.split_join (s := 32) (S := []) tlsp (by decide +kernel) (by simp [T4.words]) fun p hp => ?_
  obtain ⟨h1, h2, h3, h4, _⟩ := ht
  simp only [T4.words, List.mem_cons, List.not_mem_nil, or_false] at hp
  rcases hp with rfl | rfl | rfl | rfl
  · exact (dg_noSp ⟨_, h1⟩).1
  · simp [TL.tl, ltr]; omega
  · exact (dg_noSp ⟨_, h2⟩).1
  · simp [TL.tl, ltr]; omega
theorem dg_len {i : Nat} (h : i < 10) : (dg i).length = 1 := (dg_noSp ⟨i, h⟩).2.2
theorem ltr_len (a : Nat) : (ltr a).length = 1 := rfl
theorem line_len {t : T4} (ht : t.ok) : t.line.length = 7 := by
  obtain ⟨h1, h2, h3, h4, _⟩ := ht
  have l1 := dg_len h1
  have l2 := dg_len h2
  unfold T4.line
  show (Txt.join " " t.words).cps.size = 7
  have e1 : (dg t.i).cps.size = 1 := l1
  have e2 : (dg t.j).cps.size = 1 := l2
  have e3 : (" " : Str).cps.size = 1 := by decide +kernel
  simp [Txt.join, Builtin.Str.glued, T4.words, ltr, e1, e2, e3]
/-- a text cut at a sign, as a value -/
theorem fz_split {r : Ev} {h : AH} {i : Nat} {x sep : Str} {parts : List Str} (hr : r[i]? = some (some (.str x))) (hs : sep.length ≠ 0 ∧ x.length ≤ LIM) (hp : Txt.split x sep = parts) :
    fz (cBM "str" splitO (cVar i) (aCons (cCon (.str sep)) aNil)) r h = .ok (.rl (parts.map D.str)) h := by
  refine fz_lst ?_ (clDs_map fun _ _ => rfl)
  simp only [cSeq, cAsg, cPar, cPar3, cIf, cRet, cRetN, cExp, cPass, cTst, cTru, cVar, cCon, cBin, cB, cBM, cTup, cCall, aCons, aNil, gNm, gTp, gsCons, gsNil, gSb, tAndF, tOrF, tNotF, vAnd, vOr, vNot, cIte, Res.bind, onRes, endB, List.getElem?_cons_zero, List.getElem?_cons_succ, List.set_cons_succ, List.set_cons_zero, List.length_cons, List.length_nil, if_true, if_false, Bool.false_eq_true, Bool.not_true, Bool.not_false, hr, ty_str, splitO, if_pos hs, hp, newL]
theorem mk_mem {a : Nat} (h : a < 12) : inB (.str (ltr a)) (.str MK) = fun _ => some true := by
  funext _
  simp only [inB, ltr]
  exact congrArg some (decide_eq_true (mk_in ⟨_, h⟩))
theorem dg_mem {i : Nat} (h1 : i < 10) : ∀ h, inB (.str (dg i)) k_NUMBERS h = some true := fun h => by
  unfold inB
  simp only [k_NUMBERS]
  rw [if_pos ⟨rfl, by decide +kernel⟩]
  exact congrArg some (dg_any ⟨_, h1⟩)
theorem tie_of_spec {t : T4} (ht : t.ok) (h : AH) : cf_tie_of [.str t.line, .str MK] h = .ok t.norm.d h := by
  have hl := line_len ht
  have sp : ((" " : Str).length ≠ 0 ∧ t.line.length ≤ LIM) := ⟨by decide +kernel, by rw [hl]; decide⟩
  have s1 := fz_split (h := h) (r := [some (.str t.line), some (.str MK), none, none, none, none]) (i := 0) rfl sp (split_line ht)
  obtain ⟨h1, h2, h3, h4, h5⟩ := ht
  have x1 := fun h => dg_ix h1 h
  have x2 := fun h => dg_ix h2 h
  have n1 := dg_mem h1
  have n2 := dg_mem h2
  have c1 := mk_mem h3
  have c2 := mk_mem h4
  have ne : ∀ X, eqB (.str (dg t.i)) (.str (dg t.j)) X = some false := fun X => by
    simp only [eqB, scalD]
    congr 1
    exact decide_eq_false fun e => h5 (by have := dg_inj ⟨_, h1⟩ ⟨_, h2⟩ e; simpa using this)
  have i0 : ∀ X, ixD (.rl (t.words.map D.str)) (.int 0) X = .ok (.str (dg t.i)) X := fun X => ix_rl 0 rfl
  have i1 : ∀ X, ixD (.rl (t.words.map D.str)) (.int 1) X = .ok (.str (ltr t.a)) X := fun X => ix_rl 1 rfl
  have i2 : ∀ X, ixD (.rl (t.words.map D.str)) (.int 2) X = .ok (.str (dg t.j)) X := fun X => ix_rl 2 rfl
  have i3 : ∀ X, ixD (.rl (t.words.map D.str)) (.int 3) X = .ok (.str (ltr t.b)) X := fun X => ix_rl 3 rfl
  have l1 : ∀ X, lenO [.rl (t.words.map D.str)] X = some (.int 4, X) := fun X => rfl
  have l3 : ∀ a X, lenO [.str (ltr a)] X = some (.int 1, X) := fun a X => rfl
  have e4 : ∀ X, eqB (.int 4) (.int 4) X = some true := fun X => rfl
  have e1 : ∀ X, eqB (.int 1) (.int 1) X = some true := fun X => rfl
  have lc := fz_lc (h := h) (vs := [5]) (n := 1000) (g := gNm 5) (ce := vAnd (cBin eqD (cB lenO (aCons (cVar 5) aNil)) (cCon (.int 1))) (cBin inD (cVar 5) (cVar 1))) (r := [some (.str t.line), some (.str MK), some (.rl (t.words.map D.str)), none, none, none])
    (fi := cIter (cTup (aCons (cBin ixD (cVar 2) (cCon (.int 1))) (aCons (cBin ixD (cVar 2) (cCon (.int 3))) aNil)))) (it := .tup [.str (ltr t.a), .str (ltr t.b)]) [t.a, t.b] (fun a => .str (ltr a)) (fun _ => .bl true)
    (by simp only [cIter, cSeq, cAsg, cPar, cPar3, cIf, cRet, cRetN, cExp, cPass, cTst, cTru, cVar, cCon, cBin, cB, cBM, cTup, cCall, aCons, aNil, gNm, gTp, gsCons, gsNil, gSb, tAndF, tOrF, tNotF, vAnd, vOr, vNot, cIte, Res.bind, onRes, endB, List.getElem?_cons_zero, List.getElem?_cons_succ, List.set_cons_succ, List.set_cons_zero, List.length_cons, List.length_nil, if_true, if_false, Bool.false_eq_true, Bool.not_true, Bool.not_false, i1, i3, lm2]) (by show 2 < 1000; omega) (by decide) (fun _ i => next_tup (l := [t.a, t.b]) (G := fun a => .str (ltr a)) i) (fun _ _ => rfl) (fun a ha acc => ⟨_, rfl, by
      have c : inB (.str (ltr a)) (.str MK) = fun _ => some true := by
        simp only [List.mem_cons, List.not_mem_nil, or_false] at ha
        rcases ha with rfl | rfl
        · exact c1
        · exact c2
      simp only [cSeq, cAsg, cPar, cPar3, cIf, cRet, cRetN, cExp, cPass, cTst, cTru, cVar, cCon, cBin, cB, cBM, cTup, cCall, aCons, aNil, gNm, gTp, gsCons, gsNil, gSb, tAndF, tOrF, tNotF, vAnd, vOr, vNot, cIte, Res.bind, onRes, endB, List.getElem?_cons_zero, List.getElem?_cons_succ, List.set_cons_succ, List.set_cons_zero, List.length_cons, List.length_nil, if_true, if_false, Bool.false_eq_true, Bool.not_true, Bool.not_false, wipeD, l3, eqD, e1, inD, c]⟩)
  have al : ∀ X, anyO (fun l => l.all id) [.rl ([t.a, t.b].map fun _ => .bl true)] X = some (.bl true, X) := fun X => rfl
  refine fzF_cl0 (show endB (f_tie_of [some (.str t.line), some (.str MK), none, none, none, none] h) = _ from ?_) (cl_d _ _)
  by_cases hc : t.j < t.i
  · have hc' : decide ((t.j : Int) < t.i) = true := decide_eq_true (by omega)
    have e : t.norm.d = .tup [.int t.j, .str (ltr t.b), .int t.i, .str (ltr t.a)] := by simp [T4.norm, hc, T4.turn, T4.d]
    rw [e]
    simp only [f_tie_of, cSeq, cAsg, cPar, cPar3, cIf, cRet, cRetN, cExp, cPass, cTst, cTru, cVar, cCon, cBin, cB, cBM, cTup, cCall, aCons, aNil, gNm, gTp, gsCons, gsNil, gSb, tAndF, tOrF, tNotF, vAnd, vOr, vNot, cIte, Res.bind, onRes, endB, List.getElem?_cons_zero, List.getElem?_cons_succ, List.set_cons_succ, List.set_cons_zero, List.length_cons, List.length_nil, if_true, if_false, Bool.false_eq_true, Bool.not_true, Bool.not_false, s1, l1, neD, eqD, e4, i0, i1, i2, i3, ninD, n1, n2, ne, lc, al, truD, x1, x2, ty_num, gtD, hc', lm2, lm4]
  · have hc' : decide ((t.j : Int) < t.i) = false := decide_eq_false (by omega)
    have e : t.norm.d = .tup [.int t.i, .str (ltr t.a), .int t.j, .str (ltr t.b)] := by simp [T4.norm, hc, T4.d]
    rw [e]
    simp only [f_tie_of, cSeq, cAsg, cPar, cPar3, cIf, cRet, cRetN, cExp, cPass, cTst, cTru, cVar, cCon, cBin, cB, cBM, cTup, cCall, aCons, aNil, gNm, gTp, gsCons, gsNil, gSb, tAndF, tOrF, tNotF, vAnd, vOr, vNot, cIte, Res.bind, onRes, endB, List.getElem?_cons_zero, List.getElem?_cons_succ, List.set_cons_succ, List.set_cons_zero, List.length_cons, List.length_nil, if_true, if_false, Bool.false_eq_true, Bool.not_true, Bool.not_false, s1, l1, neD, eqD, e4, i0, i1, i2, i3, ninD, n1, n2, ne, lc, al, truD, x1, x2, ty_num, gtD, hc', lm2, lm4]

end K05
namespace K05
open PySem L2 PI
/-! ### texts of ties -/
def textL (L : List T4) : Str := Txt.join "\n" (L.map T4.line)
theorem nl_tl : TL.tl ("\n" : Str) = [10] := by decide +kernel
theorem sp_tl : TL.tl (" " : Str) = [32] := by decide +kernel
theorem line_nl {t : T4} (ht : t.ok) : 10 ∉ TL.tl t.line := by
  obtain ⟨h1, h2, h3, h4, _⟩ := ht
  have a1 := (dg_noSp ⟨_, h1⟩).2.1
  have a2 := (dg_noSp ⟨_, h2⟩).2.1
  unfold T4.line
  rw [TL.join_eq, TL.tl_join, sp_tl]
  simp only [T4.words, List.map_cons, List.map_nil, TL.joinL, List.mem_append, List.mem_cons, List.not_mem_nil, or_false]
  simp only [TL.tl, ltr] at *
  simp
  refine ⟨by simpa using a1, by omega, by simpa using a2, by omega⟩
theorem joinL_len {s : List Nat} {n : Nat} (hs : s.length = 1) : ∀ (ps : List (List Nat)), (∀ p ∈ ps, p.length = n) → (TL.joinL s ps).length ≤ (n + 1) * ps.length
  | [], _ => by simp [TL.joinL]
  | [p], h => by
    have := h p (List.mem_singleton.mpr rfl)
    simp [TL.joinL]
    omega
  | p :: q :: r, h => by
    have e := h p List.mem_cons_self
    have ih := joinL_len hs (q :: r) (fun x hx => h x (List.mem_cons_of_mem _ hx))
    simp only [TL.joinL, List.length_append, List.length_cons, hs, Nat.mul_add] at ih ⊢
    omega
theorem text_len {L : List T4} (hL : ∀ t ∈ L, t.ok) : (textL L).length ≤ 8 * L.length := by
  show (TL.tl (textL L)).length ≤ _
  unfold textL
  rw [TL.join_eq, TL.tl_join, nl_tl]
  refine Nat.le_trans (joinL_len (n := 7) rfl _ fun p hp => ?_) (by rw [List.length_map, List.length_map]; exact Nat.le_refl _)
  obtain ⟨x, hx, rfl⟩ := List.mem_map.mp hp
  obtain ⟨t, ht, rfl⟩ := List.mem_map.mp hx
  exact line_len (hL t ht)
theorem text_split {L : List T4} (hL : ∀ t ∈ L, t.ok) (hne : L ≠ []) : Txt.split (textL L) "\n" = L.map T4.line :=
  TL.split_join (s := 10) (S := []) nl_tl (by decide +kernel) (by simp [hne]) fun p hp => by
    obtain ⟨t, ht, rfl⟩ := List.mem_map.mp hp
    exact line_nl (hL t ht)
/-! ### sorted ties -/
def leT (s t : T4) : Bool := decide (s.i < t.i ∨ (s.i = t.i ∧ s.j ≤ t.j))
theorem insL_map {α β : Type} {le : α → α → Bool} {le' : β → β → Bool} {f : β → α} (h : ∀ a b, le (f a) (f b) = le' a b) (x : β) : ∀ l : List β, insL le (f x) (l.map f) = (insL le' x l).map f
  | [] => rfl
  | y :: r => by
    unfold insL
    simp only [List.map_cons, h]
    split
    · rfl
    · rw [List.map_cons, insL_map h x r]
theorem srtL_map {α β : Type} {le : α → α → Bool} {le' : β → β → Bool} {f : β → α} (h : ∀ a b, le (f a) (f b) = le' a b) : ∀ l : List β, srtL le (l.map f) = (srtL le' l).map f
  | [] => rfl
  | x :: r => by
    show insL le (f x) (srtL le (r.map f)) = _
    rw [srtL_map h r, insL_map h]
    rfl
theorem leI_d (s t : T4) : leI s.d t.d = leT s t := by
  unfold leI leT T4.d
  simp only [kI]
  refine decide_eq_decide.mpr ?_
  omega
theorem tieB_d (t : T4) : tieB t.d = true := rfl
def S4 (L : List T4) : List T4 := srtL leT (L.map T4.norm)
theorem srt_d (L : List T4) : srtL leI ((L.map T4.norm).map T4.d) = (S4 L).map T4.d := srtL_map leI_d _
theorem ix_d (t : T4) (h : AH) : ixD t.d (.int 0) h = .ok (.int t.i) h ∧ ixD t.d (.int 1) h = .ok (.str (ltr t.a)) h ∧ ixD t.d (.int 2) h = .ok (.int t.j) h ∧ ixD t.d (.int 3) h = .ok (.str (ltr t.b)) h := ⟨ix_tup 0 rfl, ix_tup 1 rfl, ix_tup 2 rfl, ix_tup 3 rfl⟩
theorem places_spec (t : T4) (h : AH) : cf_places_of [t.d] h = .ok (.tup [.int t.i, .int t.j]) h := by
  refine fzF_cl0 (show endB (f_places_of [some t.d] h) = _ from ?_) rfl
  simp only [f_places_of, cSeq, cAsg, cPar, cPar3, cIf, cRet, cRetN, cExp, cPass, cTst, cTru, cVar, cCon, cBin, cB, cBM, cTup, cCall, aCons, aNil, gNm, gTp, gsCons, gsNil, gSb, tAndF, tOrF, tNotF, vAnd, vOr, vNot, cIte, Res.bind, onRes, endB, List.getElem?_cons_zero, List.getElem?_cons_succ, List.set_cons_succ, List.set_cons_zero, List.length_cons, List.length_nil, if_true, if_false, Bool.false_eq_true, Bool.not_true, Bool.not_false, (ix_d t h).1, (ix_d t h).2.2.1, lm2]
theorem eq2 (a b c d : Int) (h : AH) : eqB (.tup [.int a, .int b]) (.tup [.int c, .int d]) h = some (decide (a = c) && decide (b = d)) := by
  have s : ∀ x y : Int, SeqAt.shaped (.tuple [.int x, .int y]) = true := fun x y => rfl
  simp only [eqB, scalD, toP, mapO, Option.bind_some, Option.map_some, s, and_self, if_true, PyData.eqv, PyData.eqvAll, Bool.and_true]
  rfl
structure GoodL (L : List T4) : Prop where
  ok : ∀ t ∈ L, t.ok
  ne : L ≠ []
  few : L.length ≤ 100
  apart : ∀ (k : Nat) (s t : T4), (S4 L)[k]? = some s → (S4 L)[k + 1]? = some t → ¬ (s.i = t.i ∧ s.j = t.j)
theorem norm_len {L : List T4} : (S4 L).length = L.length := by
  unfold S4
  rw [srtL_perm.length_eq, List.length_map]
theorem cl_ties (n : Nat) (S : List T4) : clD n (.rl (S.map T4.d)) = true := by
  simp only [clD]
  exact clDs_map fun _ _ => rfl
theorem len_rl {l : List D} (h : AH) : lenO [.rl l] h = some (.int (l.length : Nat), h) := rfl
theorem any_false {α : Type} (l : List α) (h : AH) : anyO (fun l => l.any id) [.rl (l.map fun _ => D.bl false)] h = some (.bl false, h) := by
  have m1 : mapO dBl (l.map fun _ => D.bl false) = some (l.map fun _ => false) := mapO_map (g := fun _ => D.bl false) (k := fun _ => false) (fun _ => rfl) l
  have a1 : (l.map fun _ => false).any id = false := by simp
  simp only [anyO, listD, m1, a1]
theorem any_map {α : Type} (l : List α) (p : α → Bool) (h : AH) : anyO (fun l => l.any id) [.rl (l.map fun x => D.bl (p x))] h = some (.bl (l.any p), h) := by
  have m1 : mapO dBl (l.map fun x => D.bl (p x)) = some (l.map p) := mapO_map (g := fun x => D.bl (p x)) (k := p) (fun _ => rfl) l
  have a1 : (l.map p).any id = l.any p := by rw [List.any_map]; rfl
  simp only [anyO, listD, m1, a1]
theorem all_map {α : Type} (l : List α) (p : α → Bool) (h : AH) : anyO (fun l => l.all id) [.rl (l.map fun x => D.bl (p x))] h = some (.bl (l.all p), h) := by
  have m1 : mapO dBl (l.map fun x => D.bl (p x)) = some (l.map p) := mapO_map (g := fun x => D.bl (p x)) (k := p) (fun _ => rfl) l
  have a1 : (l.map p).all id = l.all p := by rw [List.all_map]; rfl
  simp only [anyO, listD, m1, a1]
theorem ties_in_spec {L : List T4} (G : GoodL L) (h : AH) : cf_ties_in [.str (textL L), .str MK] h = .ok (.rl ((S4 L).map T4.d)) h := by
  have few := G.few
  have sp : ("\n" : Str).length ≠ 0 ∧ (textL L).length ≤ LIM := ⟨by decide +kernel, Nat.le_trans (text_len G.ok) (by show 8 * L.length ≤ 1000000; omega)⟩
  have s1 := fz_split (h := h) (r := [some (.str (textL L)), some (.str MK), none, none, none, none]) (i := 0) rfl sp (text_split G.ok G.ne)
  rw [List.map_map] at s1
  have e1 := fz_lc (h := h) (vs := [4]) (n := 1000) (g := gNm 4) (ce := cCall 2 cf_tie_of (aCons (cVar 4) (aCons (cVar 1) aNil))) (fi := cIter (fz (cBM "str" splitO (cVar 0) (aCons (cCon (.str "\n")) aNil)))) (it := .rl (L.map fun t => D.str t.line)) (r := [some (.str (textL L)), some (.str MK), none, none, none, none])
    L (fun t => D.str t.line) (fun t => t.norm.d) (by simp only [cIter, s1, Res.bind]; rfl) (by omega) (by decide) (fun _ i => next_rl i) (fun t _ => cl_d _ _) (fun t ht acc => ⟨_, rfl, by
      simp only [cSeq, cAsg, cPar, cPar3, cIf, cRet, cRetN, cExp, cPass, cTst, cTru, cVar, cCon, cBin, cB, cBM, cTup, cCall, aCons, aNil, gNm, gTp, gsCons, gsNil, gSb, tAndF, tOrF, tNotF, vAnd, vOr, vNot, cIte, Res.bind, onRes, endB, List.getElem?_cons_zero, List.getElem?_cons_succ, List.set_cons_succ, List.set_cons_zero, List.length_cons, List.length_nil, if_true, if_false, Bool.false_eq_true, Bool.not_true, Bool.not_false, wipeD]
      exact tie_of_spec (G.ok t ht) _⟩)
  have e2 := fz_lc (h := h) (vs := [5]) (n := 1000) (g := gNm 5) (ce := cBin isD (cVar 5) (cCon .non)) (fi := cIter (cVar 2)) (it := .rl (L.map fun t => t.norm.d)) (r := [some (.str (textL L)), some (.str MK), some (.rl (L.map fun t => t.norm.d)), none, none, none])
    L (fun t => t.norm.d) (fun _ => D.bl false) rfl (by omega) (by decide) (fun _ i => next_rl i) (fun t _ => rfl) (fun t ht acc => ⟨_, rfl, rfl⟩)
  have a2 := any_false L h
  have t2 : (L.map fun t => t.norm.d).all tieB = true := by simp [tieB_d]
  have s2 : srtL leI (L.map fun t => t.norm.d) = (S4 L).map T4.d := by
    rw [← srt_d, List.map_map]
    rfl
  have e3 : fz (cSortK (cVar 2)) [some (.str (textL L)), some (.str MK), some (.rl (L.map fun t => t.norm.d)), none, none, none] h = .ok (.rl ((S4 L).map T4.d)) h := by
    refine fz_lst ?_ (clDs_map fun _ _ => rfl)
    simp only [cSortK, cVar, Res.bind, List.getElem?_cons_zero, List.getElem?_cons_succ, listD, t2, if_true, s2]
  have hlen : (S4 L).length = L.length := norm_len
  have h1l : 1 ≤ L.length := List.length_pos_iff.mpr G.ne
  obtain ⟨r4, h4, e4, x4, rfl, rfl⟩ := forl0 (g := gNm 3) (b := cSeq (cIf (cTst (cBin eqD (cCall 1 cf_places_of (aCons (cBin ixD (cVar 2) (cVar 3)) aNil)) (cCall 1 cf_places_of (aCons (cBin ixD (cVar 2) (cBin addD (cVar 3) (cCon (.int 1)))) aNil)))) (cSeq (cRet (cCon .non)) cPass) cPass) cPass)
    (it := .rng 0 (L.length - 1)) (l := List.range (L.length - 1)) (G := fun (k : Nat) => D.int (k : Int)) (n := 1000) (r := [some (.str (textL L)), some (.str MK), some (.rl ((S4 L).map T4.d)), none, none, none]) (h := h)
    (fun _ r h' => ∃ x, r = [some (.str (textL L)), some (.str MK), some (.rl ((S4 L).map T4.d)), x, none, none] ∧ h = h') (fun i r h _ => next_rng0 _ i h)
    (fun i hi r h' ⟨x, er, eh⟩ => by
      subst er eh
      rw [List.length_range] at hi
      have hi1 : i < (S4 L).length := by omega
      have hi2 : i + 1 < (S4 L).length := by omega
      have is : ixD (.rl ((S4 L).map T4.d)) (.int (i : Int)) h = .ok (S4 L)[i].d h := ix_rl i (by rw [List.getElem?_map, List.getElem?_eq_getElem hi1]; rfl)
      have it : ixD (.rl ((S4 L).map T4.d)) (.int ((i : Int) + 1)) h = .ok (S4 L)[i + 1].d h := ix_rl (i + 1) (by rw [List.getElem?_map, List.getElem?_eq_getElem hi2]; rfl)
      have ap := G.apart i _ _ (List.getElem?_eq_getElem hi1) (List.getElem?_eq_getElem hi2)
      have ef : ∀ h, eqB (.tup [.int (S4 L)[i].i, .int (S4 L)[i].j]) (.tup [.int (S4 L)[i + 1].i, .int (S4 L)[i + 1].j]) h = some false := fun h => by
        rw [eq2]
        congr 1
        rw [Bool.and_eq_false_iff, decide_eq_false_iff_not, decide_eq_false_iff_not]
        omega
      refine ⟨[some (.str (textL L)), some (.str MK), some (.rl ((S4 L).map T4.d)), some (.int (i : Int)), none, none], _, _, _, by rw [List.getElem_range]; rfl, .inl ?_, some (.int (i : Int)), rfl, rfl⟩
      simp only [cSeq, cAsg, cPar, cPar3, cIf, cRet, cRetN, cExp, cPass, cTst, cTru, cVar, cCon, cBin, cB, cBM, cTup, cCall, aCons, aNil, gNm, gTp, gsCons, gsNil, gSb, tAndF, tOrF, tNotF, vAnd, vOr, vNot, cIte, Res.bind, onRes, endB, List.getElem?_cons_zero, List.getElem?_cons_succ, List.set_cons_succ, List.set_cons_zero, List.length_cons, List.length_nil, if_true, if_false, Bool.false_eq_true, Bool.not_true, Bool.not_false, addD, is, it, places_spec, eqD, ef]) (by rw [List.length_range]; omega) ⟨_, rfl, rfl⟩
  have rg : cRng1 (aCons (cBin subD (cB lenO (aCons (cVar 2) aNil)) (cCon (.int 1))) aNil) [some (.str (textL L)), some (.str MK), some (.rl ((S4 L).map T4.d)), none, none, none] h = .ok (.rng 0 (L.length - 1)) h := by
    have b1 : inR (2 ^ 62 - 1) ((L.length : Int) - 1) = true := inR_ok.mpr (by omega)
    have b2 : ((L.length : Int) - 1).toNat = L.length - 1 := by omega
    simp only [cRng1, cSeq, cAsg, cPar, cPar3, cIf, cRet, cRetN, cExp, cPass, cTst, cTru, cVar, cCon, cBin, cB, cBM, cTup, cCall, aCons, aNil, gNm, gTp, gsCons, gsNil, gSb, tAndF, tOrF, tNotF, vAnd, vOr, vNot, cIte, Res.bind, onRes, endB, List.getElem?_cons_zero, List.getElem?_cons_succ, List.set_cons_succ, List.set_cons_zero, List.length_cons, List.length_nil, if_true, if_false, Bool.false_eq_true, Bool.not_true, Bool.not_false, len_rl, List.length_map, hlen, subD, b1, b2]
  refine fzF_cl0 (show endB (f_ties_in [some (.str (textL L)), some (.str MK), none, none, none, none] h) = _ from ?_) (cl_ties _ _)
  simp only [f_ties_in, cSeq, cAsg, cPar, cPar3, cIf, cRet, cRetN, cExp, cPass, cTst, cTru, cVar, cCon, cBin, cB, cBM, cTup, cCall, aCons, aNil, gNm, gTp, gsCons, gsNil, gSb, tAndF, tOrF, tNotF, vAnd, vOr, vNot, cIte, Res.bind, onRes, endB, List.getElem?_cons_zero, List.getElem?_cons_succ, List.set_cons_succ, List.set_cons_zero, List.length_cons, List.length_nil, if_true, if_false, Bool.false_eq_true, Bool.not_true, Bool.not_false, e1, e2, a2, truD, e3, cFor, rg, e4]

end K05
namespace K05
open PySem L2 PI
def mj (S : List T4) : Nat := (topI (S.map fun t => (t.j : Int))).toNat
theorem top_mj {S : List T4} (hne : S ≠ []) : topI (S.map fun t => (t.j : Int)) = (mj S : Int) := by
  obtain ⟨h1, _⟩ := topI_is (l := S.map fun t => (t.j : Int)) (by simpa using hne)
  obtain ⟨t, _, e⟩ := List.mem_map.mp h1
  unfold mj
  rw [← e]
  rfl
theorem le_mj {S : List T4} {t : T4} (ht : t ∈ S) : t.j ≤ mj S := by
  have hne : S ≠ [] := fun e => by rw [e] at ht; cases ht
  obtain ⟨_, h2⟩ := topI_is (l := S.map fun t => (t.j : Int)) (by simpa using hne)
  have := h2 _ (List.mem_map_of_mem ht)
  rw [top_mj hne] at this
  omega
theorem mj_mem {S : List T4} (hne : S ≠ []) : ∃ t ∈ S, t.j = mj S := by
  obtain ⟨h1, _⟩ := topI_is (l := S.map fun t => (t.j : Int)) (by simpa using hne)
  rw [top_mj hne] at h1
  obtain ⟨t, ht, e⟩ := List.mem_map.mp h1
  exact ⟨t, ht, by omega⟩
theorem many_spec {S : List T4} (hne : S ≠ []) (hfew : S.length < 1000) {s : Nat} {r : Ev} (h : AH) (h0 : r[0]? = some (some (.rl (S.map T4.d)))) (hs : s < r.length) :
    cBin addD (cCon (.int 1)) (cB maxLO (aCons (fz (cLc (cIter (cVar 0)) (gNm s) cYes (cBin ixD (cVar s) (cCon (.int 2))) [s] 1000)) aNil)) r h = .ok (.int (1 + (mj S : Int))) h := by
  have e1 := fz_lc (h := h) (vs := [s]) (n := 1000) (g := gNm s) (ce := cBin ixD (cVar s) (cCon (.int 2))) (fi := cIter (cVar 0)) (it := .rl (S.map T4.d)) (r := r) S T4.d (fun t => D.int t.j)
    (by simp only [cIter, cVar, h0, Res.bind]) hfew (by decide) (fun _ i => next_rl i) (fun _ _ => rfl) (fun t ht acc => ⟨_, rfl, by
      have i2 := fun X => (ix_d t X).2.2.1
      simp [cBin, cVar, cCon, Res.bind, wipeD, List.getElem?_set_self, List.length_set, hs, i2]⟩)
  have m1 : mapO dInt (S.map fun t => D.int t.j) = some (S.map fun t => (t.j : Int)) := mapO_map (g := fun t : T4 => D.int t.j) (k := fun t => (t.j : Int)) (fun _ => rfl) S
  have ne1 : (S.map fun t => (t.j : Int)).isEmpty = false := by cases S with | nil => exact absurd rfl hne | cons _ _ => rfl
  simp only [cSeq, cAsg, cPar, cPar3, cIf, cRet, cRetN, cExp, cPass, cTst, cTru, cVar, cCon, cBin, cB, cBM, cTup, cCall, aCons, aNil, gNm, gTp, gsCons, gsNil, gSb, tAndF, tOrF, tNotF, vAnd, vOr, vNot, cIte, Res.bind, onRes, endB, List.getElem?_cons_zero, List.getElem?_cons_succ, List.set_cons_succ, List.set_cons_zero, List.length_cons, List.length_nil, if_true, if_false, Bool.false_eq_true, Bool.not_true, Bool.not_false, e1, maxLO, listD, m1, ne1, top_mj hne, addD]
/-- what stands at a house, behind some ties -/
def entr (t : T4) (k : Nat) : List (Key × D) := (if t.i = k then [(.inr (ltr t.a), D.int t.j)] else []) ++ (if t.j = k then [(.inr (ltr t.b), D.int t.i)] else [])
def marksAt (T : List T4) (k : Nat) : List (Key × D) := T.flatMap fun t => entr t k
theorem marksAt_snoc (T : List T4) (t : T4) (k : Nat) : marksAt (T ++ [t]) k = marksAt T k ++ entr t k := by
  simp [marksAt]
def dictsOf (T : List T4) (m : Nat) : List (List (Key × D)) := (List.range m).map (marksAt T)
theorem findD_none {κ : Type} [DecidableEq κ] {d : List (κ × D)} {k : κ} (h : k ∉ d.map (·.1)) : findD d k = none := by
  unfold findD
  rw [List.find?_eq_none.mpr]
  · rfl
  · intro x hx
    simp only [decide_eq_true_eq]
    exact fun e => h (e ▸ List.mem_map_of_mem hx)
theorem putD_new {κ : Type} [DecidableEq κ] {d : List (κ × D)} {k : κ} {v : D} (h : k ∉ d.map (·.1)) : putD d k v = d ++ [(k, v)] := by
  unfold putD
  rw [if_neg]
  intro e
  obtain ⟨x, hx, e⟩ := List.any_eq_true.mp e
  exact h (of_decide_eq_true e ▸ List.mem_map_of_mem hx)
structure InW (S : List T4) : Prop where
  ok : ∀ t ∈ S, t.ok
  lt : ∀ t ∈ S, t.i < t.j
  ne : S ≠ []
  few : S.length ≤ 100
  nd : ∀ k, ((marksAt S k).map (·.1)).Nodup
theorem entr_len (t : T4) (k : Nat) : (entr t k).length ≤ 2 := by
  unfold entr
  rw [List.length_append]
  split <;> split <;> simp
theorem marks_len (T : List T4) (k : Nat) : (marksAt T k).length ≤ 2 * T.length := by
  induction T with
  | nil => simp [marksAt]
  | cons t T ih =>
    have e : marksAt (t :: T) k = entr t k ++ marksAt T k := rfl
    have := entr_len t k
    rw [e, List.length_append, List.length_cons]
    omega
theorem new_mark {S : List T4} (I : InW S) {i : Nat} {t : T4} (ht : S[i]? = some t) (k : Nat) : ∀ p ∈ entr t k, p.1 ∉ (marksAt (S.take i) k).map (·.1) := by
  intro p hp hm
  have hd : S = S.take i ++ t :: S.drop (i + 1) := by
    obtain ⟨hi, rfl⟩ := List.getElem?_eq_some_iff.mp ht
    rw [← List.drop_eq_getElem_cons hi, List.take_append_drop]
  have nd := I.nd k
  rw [hd] at nd
  have e : marksAt (S.take i ++ t :: S.drop (i + 1)) k = marksAt (S.take i) k ++ (entr t k ++ marksAt (S.drop (i + 1)) k) := by
    simp [marksAt]
  rw [e, List.map_append, List.nodup_append] at nd
  exact nd.2.2 _ hm _ (List.mem_map_of_mem (List.mem_append_left _ hp)) rfl
theorem dicts_step {T : List T4} {t : T4} {m : Nat} (hi : t.i < m) (hj : t.j < m) (hij : t.i ≠ t.j) :
    ((dictsOf T m).set t.i (marksAt T t.i ++ [(.inr (ltr t.a), D.int t.j)])).set t.j (marksAt T t.j ++ [(.inr (ltr t.b), D.int t.i)]) = dictsOf (T ++ [t]) m := by
  unfold dictsOf
  refine List.ext_getElem (by simp) fun k h1 h2 => ?_
  simp only [List.length_set, List.length_map, List.length_range] at h1 h2
  rw [List.getElem_set, List.getElem_map, List.getElem_range, marksAt_snoc]
  unfold entr
  by_cases hk : t.j = k
  · subst hk
    rw [if_pos rfl, if_neg hij, if_pos rfl, List.nil_append]
  · rw [if_neg hk, if_neg hk, List.append_nil, List.getElem_set]
    by_cases hk2 : t.i = k
    · subst hk2
      rw [if_pos rfl, if_pos rfl]
    · rw [if_neg hk2, if_neg hk2, List.append_nil, List.getElem_map, List.getElem_range]
theorem dictsOf_len (T : List T4) (m : Nat) : (dictsOf T m).length = m := by simp [dictsOf]
theorem dictsOf_at {T : List T4} {m k : Nat} (h : k < (dictsOf T m).length) : (dictsOf T m)[k] = marksAt T k := by simp [dictsOf]
/-! ### what is reached -/
def step1 (x : Nat) (R : List Nat) (p : Nat × Nat) : List Nat := if p.1 = x ∧ p.2 ∉ R then R ++ [p.2] else R
def prs (t : T4) : List (Nat × Nat) := [(t.i, t.j), (t.j, t.i)]
def growT (x : Nat) (R : List Nat) (t : T4) : List Nat := (prs t).foldl (step1 x) R
def growL (x : Nat) (R : List Nat) (S : List T4) : List Nat := S.foldl (growT x) R
theorem step1_pre (x : Nat) (R : List Nat) (p : Nat × Nat) : ∃ E, step1 x R p = R ++ E := by
  unfold step1
  split
  · exact ⟨_, rfl⟩
  · exact ⟨[], (List.append_nil _).symm⟩
theorem growT_pre (x : Nat) (R : List Nat) (t : T4) : ∃ E, growT x R t = R ++ E := by
  obtain ⟨E1, e1⟩ := step1_pre x R (t.i, t.j)
  obtain ⟨E2, e2⟩ := step1_pre x (step1 x R (t.i, t.j)) (t.j, t.i)
  refine ⟨E1 ++ E2, ?_⟩
  show step1 x (step1 x R (t.i, t.j)) (t.j, t.i) = _
  rw [e2, e1, List.append_assoc]
theorem growL_pre (x : Nat) : ∀ (S : List T4) (R : List Nat), ∃ E, growL x R S = R ++ E
  | [], R => ⟨[], (List.append_nil _).symm⟩
  | t :: S, R => by
    obtain ⟨E1, e1⟩ := growT_pre x R t
    obtain ⟨E2, e2⟩ := growL_pre x S (growT x R t)
    refine ⟨E1 ++ E2, ?_⟩
    show growL x (growT x R t) S = _
    rw [e2, e1, List.append_assoc]
structure Rch (m : Nat) (R : List Nat) : Prop where
  nd : R.Nodup
  lt : ∀ k ∈ R, k < m
theorem step1_ok {m x : Nat} {R : List Nat} {p : Nat × Nat} (h : Rch m R) (hp : p.2 < m) : Rch m (step1 x R p) ∧ (p.1 = x → p.2 ∈ step1 x R p) ∧ ∀ k ∈ R, k ∈ step1 x R p := by
  unfold step1
  split
  · rename_i q
    refine ⟨⟨?_, fun k hk => ?_⟩, fun _ => List.mem_append_right _ (List.mem_singleton.mpr rfl), fun k hk => List.mem_append_left _ hk⟩
    · rw [List.nodup_append]
      exact ⟨h.nd, by simp, fun a ha b hb e => q.2 (by rw [List.mem_singleton] at hb; rw [← hb, ← e]; exact ha)⟩
    · rcases List.mem_append.mp hk with hk | hk
      · exact h.lt k hk
      · rw [List.mem_singleton.mp hk]; exact hp
  · rename_i q
    exact ⟨h, fun e => Decidable.byContradiction fun z => q ⟨e, z⟩, fun k hk => hk⟩
theorem growT_ok {m x : Nat} {R : List Nat} {t : T4} (h : Rch m R) (hi : t.i < m) (hj : t.j < m) : Rch m (growT x R t) ∧ (t.i = x → t.j ∈ growT x R t) ∧ (t.j = x → t.i ∈ growT x R t) ∧ ∀ k ∈ R, k ∈ growT x R t := by
  obtain ⟨a1, a2, a3⟩ := step1_ok (x := x) (p := (t.i, t.j)) h hj
  obtain ⟨b1, b2, b3⟩ := step1_ok (x := x) (p := (t.j, t.i)) a1 hi
  exact ⟨b1, fun e => b3 _ (a2 e), fun e => b2 e, fun k hk => b3 _ (a3 k hk)⟩
theorem growL_ok {m x : Nat} : ∀ {S : List T4} {R : List Nat}, Rch m R → (∀ t ∈ S, t.i < m ∧ t.j < m) → Rch m (growL x R S) ∧ (∀ t ∈ S, (t.i = x → t.j ∈ growL x R S) ∧ (t.j = x → t.i ∈ growL x R S)) ∧ ∀ k ∈ R, k ∈ growL x R S
  | [], R, h, _ => ⟨h, fun t ht => absurd ht List.not_mem_nil, fun k hk => hk⟩
  | t :: S, R, h, hS => by
    obtain ⟨a1, a2, a3, a4⟩ := growT_ok (x := x) h (hS t List.mem_cons_self).1 (hS t List.mem_cons_self).2
    obtain ⟨b1, b2, b3⟩ := growL_ok (S := S) a1 (fun u hu => hS u (List.mem_cons_of_mem _ hu))
    refine ⟨b1, fun u hu => ?_, fun k hk => b3 _ (a4 k hk)⟩
    rcases List.mem_cons.mp hu with e | hu
    · subst e
      exact ⟨fun e => b3 _ (a2 e), fun e => b3 _ (a3 e)⟩
    · exact b2 u hu
/-- one comes from 0 to all houses -/
def Con (S : List T4) (m : Nat) : Prop := ∀ P : Nat → Prop, P 0 → (∀ t ∈ S, (P t.i → P t.j) ∧ (P t.j → P t.i)) → ∀ k, k < m → P k
theorem sub_len {α : Type} [DecidableEq α] : ∀ {l l' : List α}, l.Nodup → (∀ x ∈ l, x ∈ l') → l.length ≤ l'.length
  | [], _, _, _ => Nat.zero_le _
  | a :: l, l', nd, h => by
    have hd := List.nodup_cons.mp nd
    have ha := h a List.mem_cons_self
    have ih := sub_len (l := l) (l' := l'.erase a) hd.2 fun x hx => (List.mem_erase_of_ne (show x ≠ a from fun e => hd.1 (by rw [← e]; exact hx))).mpr (h x (List.mem_cons_of_mem _ hx))
    rw [List.length_erase_of_mem ha] at ih
    have := List.length_pos_of_mem ha
    rw [List.length_cons]
    omega
theorem all_reached {S : List T4} {m : Nat} {R : List Nat} (hc : Con S m) (h : Rch m R) (h0 : 0 ∈ R) (cl : ∀ (p x : Nat), R[p]? = some x → ∀ t ∈ S, (t.i = x → t.j ∈ R) ∧ (t.j = x → t.i ∈ R)) : R.length = m := by
  have all := hc (fun k => k ∈ R) h0 fun t ht => ⟨fun hi => by
    obtain ⟨p, hp⟩ := List.getElem?_of_mem hi
    exact (cl p _ hp t ht).1 rfl, fun hj => by
    obtain ⟨p, hp⟩ := List.getElem?_of_mem hj
    exact (cl p _ hp t ht).2 rfl⟩
  have l1 := sub_len h.nd (l' := List.range m) fun k hk => List.mem_range.mpr (h.lt k hk)
  have l2 := sub_len (l := List.range m) (l' := R) List.nodup_range fun k hk => all k (List.mem_range.mp hk)
  rw [List.length_range] at l1 l2
  omega
/-! ### the loops -/
def dN (k : Nat) : D := .int (k : Int)
def rh (hb : AH) (R : List Nat) : AH := hb ++ [O.lst (R.map dN)]
theorem rh_at (hb : AH) (R : List Nat) : (rh hb R)[hb.length]? = some (.lst (R.map dN)) := get_new
theorem rh_ix {hb : AH} {R : List Nat} {s x : Nat} (h : R[s]? = some x) : ixD (.ref hb.length) (.int s) (rh hb R) = .ok (.int x) (rh hb R) := ix_lst s (rh_at hb R) (by rw [List.getElem?_map, h]; rfl)
theorem rh_in (hb : AH) (R : List Nat) (k : Nat) : inB (.int k) (.ref hb.length) (rh hb R) = some (decide (k ∈ R)) := by
  have f1 : (R.map dN).all flatD = true := by simp [flatD, dN]
  have e : ((R.map dN).any fun y => eqF y (.int k)) = decide (k ∈ R) := by
    rw [Bool.eq_iff_iff, List.any_eq_true, decide_eq_true_iff]
    constructor
    · rintro ⟨y, hy, e⟩
      obtain ⟨n, hn, rfl⟩ := List.mem_map.mp hy
      have : (n : Int) = k := by simpa [eqF, dN] using e
      have : n = k := by omega
      rw [← this]; exact hn
    · intro hk
      exact ⟨.int k, List.mem_map_of_mem (f := dN) hk, by simp [eqF, dN]⟩
  simp only [inB, rh_at, inLst, f1]
  rw [if_pos ⟨rfl, trivial⟩, e]
theorem rh_app {hb : AH} {R : List Nat} {k : Nat} (hl : R.length < 1000000) : appO [.ref hb.length, .int k] (rh hb R) = some (.non, rh hb (R ++ [k])) := by
  have hl' : (R.map dN).length < LIM := by rw [List.length_map]; exact hl
  simp only [appO, rh_at, if_pos hl']
  unfold rh
  rw [List.set_append_right _ _ (Nat.le_refl _), Nat.sub_self, List.map_append]
  rfl
abbrev bIn : Ev → AH → RS := cSeq (cIf (tAndF (cTst (cBin eqD (cVar 8) (cBin ixD (cVar 2) (cVar 3)))) (cTst (cBin ninD (cVar 9) (cVar 2)))) (cSeq (cExp (cBM "list" appO (cVar 2) (aCons (cVar 9) aNil))) cPass) cPass) cPass
theorem ty_rh (hb : AH) (R : List Nat) : tyD "list" (rh hb R) (.ref hb.length) = true := by
  simp only [tyD, rh_at]
  rfl
theorem bIn_spec {hb : AH} {R : List Nat} {s x p q : Nat} (hs : R[s]? = some x) (hl : R.length < 1000000) (y0 y1 y4 y5 y6 y7 y10 : Option D) :
    bIn [y0, y1, some (.ref hb.length), some (.int s), y4, y5, y6, y7, some (.int p), some (.int q), y10] (rh hb R) = .nx [y0, y1, some (.ref hb.length), some (.int s), y4, y5, y6, y7, some (.int p), some (.int q), y10] (rh hb (step1 x R (p, q))) := by
  have e1 : ∀ h, eqB (.int p) (.int x) h = some (decide (p = x)) := fun h => by
    simp only [eqB, scalD]
    congr 1
    refine decide_eq_decide.mpr ?_
    omega
  by_cases hp : p = x
  · subst hp
    have e2 : ∀ h, eqB (.int p) (.int p) h = some true := fun h => by rw [e1]; simp
    by_cases hq : q ∈ R
    · have st : step1 p R (p, q) = R := by unfold step1; rw [if_neg fun z => z.2 hq]
      rw [st]
      simp only [bIn, cSeq, cIf, tAndF, cTst, cBin, cVar, List.getElem?_cons_zero, List.getElem?_cons_succ, Res.bind, rh_ix hs, eqD, e2, if_true, decide_true, ninD, rh_in, hq, Bool.not_true, onRes, Bool.false_eq_true, if_false, cPass]
    · have st : step1 p R (p, q) = R ++ [q] := by unfold step1; rw [if_pos ⟨rfl, hq⟩]
      rw [st]
      simp only [bIn, cSeq, cIf, tAndF, cTst, cBin, cVar, List.getElem?_cons_zero, List.getElem?_cons_succ, Res.bind, rh_ix hs, eqD, e2, if_true, decide_true, ninD, rh_in, hq, decide_false, Bool.not_false, onRes, cExp, cBM, ty_rh, aCons, aNil, rh_app hl, cPass]
  · have st : step1 x R (p, q) = R := by unfold step1; rw [if_neg fun z => hp z.1]
    rw [st]
    simp only [bIn, cSeq, cIf, tAndF, cTst, cBin, cVar, List.getElem?_cons_zero, List.getElem?_cons_succ, Res.bind, rh_ix hs, eqD, e1, hp, decide_false, Bool.false_eq_true, if_false, onRes, cPass]
abbrev bMid : Ev → AH → RS := cSeq (cFor (cIter (cTup (aCons (cTup (aCons (cVar 4) (aCons (cVar 6) aNil))) (aCons (cTup (aCons (cVar 6) (aCons (cVar 4) aNil))) aNil)))) (gTp 2 (gsCons (gNm 8) (gsCons (gNm 9) gsNil))) bIn 1000) cPass
theorem for2 {g : D → Ev → AH → GR} {b : Ev → AH → RS} {x y : D} {r r1 r2 r3 r4 : Ev} {h h1 h2 h3 h4 : AH} (n : Nat) (e1 : g x r h = some (r1, h1)) (e2 : b r1 h1 = .nx r2 h2) (e3 : g y r2 h2 = some (r3, h3)) (e4 : b r3 h3 = .nx r4 h4) : cForL g b (n + 3) (.tup [x, y]) 0 r h = .nx r4 h4 := by
  simp only [cForL, nextI, List.getElem?_cons_zero, List.getElem?_cons_succ, e1, e2, e3, e4, Nat.zero_add, List.getElem?_nil]
theorem bMid_spec {hb : AH} {R : List Nat} {s x i j : Nat} (hs : R[s]? = some x) (hl : R.length < 999998) (y0 y1 y5 y7 y8 y9 y10 : Option D) :
    ∃ z8 z9, bMid [y0, y1, some (.ref hb.length), some (.int s), some (.int i), y5, some (.int j), y7, y8, y9, y10] (rh hb R) = .nx [y0, y1, some (.ref hb.length), some (.int s), some (.int i), y5, some (.int j), y7, z8, z9, y10] (rh hb (step1 x (step1 x R (i, j)) (j, i))) := by
  obtain ⟨E, eE⟩ := step1_pre x R (i, j)
  have hs2 : (step1 x R (i, j))[s]? = some x := by rw [eE, List.getElem?_append_left (List.getElem?_eq_some_iff.mp hs).1]; exact hs
  have hl2 : (step1 x R (i, j)).length < 1000000 := by
    unfold step1
    split
    · rw [List.length_append, List.length_singleton]; omega
    · omega
  have s1 := bIn_spec (hb := hb) (p := i) (q := j) hs (by omega) y0 y1 (some (.int i)) y5 (some (.int j)) y7 y10
  have s2 := bIn_spec (hb := hb) (p := j) (q := i) hs2 hl2 y0 y1 (some (.int i)) y5 (some (.int j)) y7 y10
  refine ⟨some (.int j), some (.int i), ?_⟩
  have f : cForL (gTp 2 (gsCons (gNm 8) (gsCons (gNm 9) gsNil))) bIn 1000 (.tup [.tup [.int i, .int j], .tup [.int j, .int i]]) 0 [y0, y1, some (.ref hb.length), some (.int s), some (.int i), y5, some (.int j), y7, y8, y9, y10] (rh hb R) = .nx [y0, y1, some (.ref hb.length), some (.int s), some (.int i), y5, some (.int j), y7, some (.int j), some (.int i), y10] (rh hb (step1 x (step1 x R (i, j)) (j, i))) := for2 997 rfl s1 rfl s2
  have it : cIter (cTup (aCons (cTup (aCons (cVar 4) (aCons (cVar 6) aNil))) (aCons (cTup (aCons (cVar 6) (aCons (cVar 4) aNil))) aNil))) [y0, y1, some (.ref hb.length), some (.int s), some (.int i), y5, some (.int j), y7, y8, y9, y10] (rh hb R) = .ok (.tup [.tup [.int i, .int j], .tup [.int j, .int i]]) (rh hb R) := rfl
  simp only [cSeq, cFor, it, onRes, f, cPass]
abbrev bWh : Ev → AH → RS := cSeq (cFor (cIter (cVar 0)) (gTp 4 (gsCons (gNm 4) (gsCons (gNm 5) (gsCons (gNm 6) (gsCons (gNm 7) gsNil))))) bMid 1000) (cSeq (cAug 3 (· + ·) (cCon (.int 1))) cPass)
theorem bWh_spec {S : List T4} {hb : AH} {m : Nat} {R : List Nat} {s x : Nat} (few : S.length ≤ 100) (hS : ∀ t ∈ S, t.i < m ∧ t.j < m) (hm : m < 900) (hr : Rch m R) (hs : R[s]? = some x) (y1 : Option D) (y4 y5 y6 y7 y8 y9 y10 : Option D) :
    ∃ z4 z5 z6 z7 z8 z9 z10, bWh [some (.rl (S.map T4.d)), y1, some (.ref hb.length), some (.int s), y4, y5, y6, y7, y8, y9, y10] (rh hb R) = .nx [some (.rl (S.map T4.d)), y1, some (.ref hb.length), some (.int ((s + 1 : Nat) : Int)), z4, z5, z6, z7, z8, z9, z10] (rh hb (growL x R S)) := by
  obtain ⟨r', h', e, ⟨z4, z5, z6, z7, z8, z9, z10, rfl⟩, rfl⟩ := forl0 (g := gTp 4 (gsCons (gNm 4) (gsCons (gNm 5) (gsCons (gNm 6) (gsCons (gNm 7) gsNil))))) (b := bMid) (it := .rl (S.map T4.d)) (l := S) (G := T4.d) (n := 1000)
    (r := [some (.rl (S.map T4.d)), y1, some (.ref hb.length), some (.int s), y4, y5, y6, y7, y8, y9, y10]) (h := rh hb R)
    (fun i r h => (∃ z4 z5 z6 z7 z8 z9 z10, r = [some (.rl (S.map T4.d)), y1, some (.ref hb.length), some (.int s), z4, z5, z6, z7, z8, z9, z10]) ∧ h = rh hb (growL x R (S.take i)))
    (fun i r h ⟨_, eh⟩ => by
      rw [eh]
      exact next_rl i)
    (fun i hi r h ⟨⟨z4, z5, z6, z7, z8, z9, z10, er⟩, eh⟩ => by
      subst er eh
      have hmem := List.getElem_mem hi
      have ht := List.getElem?_eq_getElem hi
      generalize S[i] = t at *
      have hT : ∀ u ∈ S.take i, u.i < m ∧ u.j < m := fun u hu => hS u (List.mem_of_mem_take hu)
      obtain ⟨g1, _, _⟩ := growL_ok (x := x) hr hT
      obtain ⟨E, eE⟩ := growL_pre x (S.take i) R
      have hs2 : (growL x R (S.take i))[s]? = some x := by rw [eE, List.getElem?_append_left (List.getElem?_eq_some_iff.mp hs).1]; exact hs
      have l1 := sub_len g1.nd (l' := List.range m) fun k hk => List.mem_range.mpr (g1.lt k hk)
      rw [List.length_range] at l1
      obtain ⟨a8, a9, sp⟩ := bMid_spec (hb := hb) (i := t.i) (j := t.j) hs2 (by omega) (some (.rl (S.map T4.d))) y1 (some (.str (ltr t.a))) (some (.str (ltr t.b))) z8 z9 z10
      have eg : growL x R (S.take (i + 1)) = step1 x (step1 x (growL x R (S.take i)) (t.i, t.j)) (t.j, t.i) := by
        rw [List.take_succ, ht]
        show growL x R (S.take i ++ [t]) = _
        unfold growL
        rw [List.foldl_append]
        rfl
      rw [eg]
      exact ⟨_, _, _, _, rfl, .inl sp, ⟨some (.int t.i), some (.str (ltr t.a)), some (.int t.j), some (.str (ltr t.b)), a8, a9, z10, rfl⟩, rfl⟩) (by omega) ⟨⟨y4, y5, y6, y7, y8, y9, y10, rfl⟩, rfl⟩
  rw [List.take_length] at e
  refine ⟨z4, z5, z6, z7, z8, z9, z10, ?_⟩
  have it : cIter (cVar 0) [some (.rl (S.map T4.d)), y1, some (.ref hb.length), some (.int s), y4, y5, y6, y7, y8, y9, y10] (rh hb R) = .ok (.rl (S.map T4.d)) (rh hb R) := by
    simp only [cIter, cVar, Res.bind, List.getElem?_cons_zero]
  simp only [cSeq, cFor, it, onRes, e, cAug, List.getElem?_cons_zero, List.getElem?_cons_succ, cCon, List.set_cons_succ, List.set_cons_zero, cPass]
  rfl
abbrev tWh : Ev → AH → Res Bool := cTst (cBin ltD (cVar 3) (cB lenO (aCons (cVar 2) aNil)))
theorem rh_len (hb : AH) (R : List Nat) : lenO [.ref hb.length] (rh hb R) = some (.int (R.length : Nat), rh hb R) := by
  simp only [lenO, listD, rh_at, Option.some_or, List.length_map]
theorem tWh_spec {hb : AH} {R : List Nat} {s : Nat} (y0 y1 y4 y5 y6 y7 y8 y9 y10 : Option D) : tWh [y0, y1, some (.ref hb.length), some (.int s), y4, y5, y6, y7, y8, y9, y10] (rh hb R) = .ok (decide (s < R.length)) (rh hb R) := by
  have e : decide ((s : Int) < ((R.length : Nat) : Int)) = decide (s < R.length) := decide_eq_decide.mpr (by omega)
  simp only [tWh, cTst, cBin, cVar, cB, aCons, aNil, Res.bind, List.getElem?_cons_zero, List.getElem?_cons_succ, rh_len, ltD, e]
theorem while_spec {S : List T4} {hb : AH} {m : Nat} (few : S.length ≤ 100) (hS : ∀ t ∈ S, t.i < m ∧ t.j < m) (hm : m < 900) (h0 : 0 < m) (hc : Con S m) (y1 : Option D) :
    ∃ R s z4 z5 z6 z7 z8 z9 z10, cWhl tWh bWh 1000 [some (.rl (S.map T4.d)), y1, some (.ref hb.length), some (.int 0), none, none, none, none, none, none, none] (rh hb [0]) = .nx [some (.rl (S.map T4.d)), y1, some (.ref hb.length), some (.int (s : Nat)), z4, z5, z6, z7, z8, z9, z10] (rh hb R) ∧ R.length = m := by
  obtain ⟨n', r', h', e, ⟨R, s, ⟨z4, z5, z6, z7, z8, z9, z10, rfl⟩, rfl, hr, m0, hs, cl, _⟩, ec⟩ := whl0 (c := tWh) (b := bWh)
    (fun n r h => ∃ R s, (∃ z4 z5 z6 z7 z8 z9 z10, r = [some (.rl (S.map T4.d)), y1, some (.ref hb.length), some (.int (s : Nat)), z4, z5, z6, z7, z8, z9, z10]) ∧ h = rh hb R ∧ Rch m R ∧ 0 ∈ R ∧ s ≤ R.length ∧
      (∀ (p x : Nat), p < s → R[p]? = some x → ∀ t ∈ S, (t.i = x → t.j ∈ R) ∧ (t.j = x → t.i ∈ R)) ∧ n = m - s)
    (fun n r h ⟨R, s, ⟨z4, z5, z6, z7, z8, z9, z10, er⟩, eh, hr, m0, hs, cl, en⟩ => by
      subst er eh
      rw [tWh_spec]
      by_cases hlt : s < R.length
      · right
        have l1 := sub_len hr.nd (l' := List.range m) fun k hk => List.mem_range.mpr (hr.lt k hk)
        rw [List.length_range] at l1
        have hx := List.getElem?_eq_getElem hlt
        generalize R[s] = x at *
        obtain ⟨a4, a5, a6, a7, a8, a9, a10, sp⟩ := bWh_spec (hb := hb) (S := S) few hS hm hr hx y1 z4 z5 z6 z7 z8 z9 z10
        obtain ⟨g1, g2, g3⟩ := growL_ok (x := x) hr hS
        obtain ⟨E, eE⟩ := growL_pre x S R
        refine ⟨by rw [decide_eq_true hlt], m - (s + 1), _, _, by omega, sp, growL x R S, s + 1, ⟨a4, a5, a6, a7, a8, a9, a10, rfl⟩, rfl, g1, g3 _ m0, by rw [eE, List.length_append]; omega, fun p x' hp hpx t ht => ?_, rfl⟩
        have hpR : R[p]? = some x' := by
          rw [eE, List.getElem?_append_left (by omega)] at hpx
          exact hpx
        by_cases hps : p = s
        · subst hps
          rw [hx] at hpR
          cases hpR
          exact g2 t ht
        · obtain ⟨c1, c2⟩ := cl p x' (by omega) hpR t ht
          exact ⟨fun e => g3 _ (c1 e), fun e => g3 _ (c2 e)⟩
      · left
        rw [decide_eq_false hlt]) 1000 m _ _ (by omega) ⟨[0], 0, ⟨none, none, none, none, none, none, none, rfl⟩, rfl, ⟨by simp, fun k hk => by rw [List.mem_singleton.mp hk]; exact h0⟩, List.mem_singleton.mpr rfl, Nat.zero_le _, fun p x hp => absurd hp (Nat.not_lt_zero _), rfl⟩
  rw [tWh_spec] at ec
  have hge : ¬ s < R.length := fun z => by
    rw [decide_eq_true z] at ec
    cases ec
  refine ⟨R, s, z4, z5, z6, z7, z8, z9, z10, e, all_reached hc hr m0 fun p x hp t ht => cl p x ?_ hp t ht⟩
  have := (List.getElem?_eq_some_iff.mp hp).1
  omega
theorem together_spec {S : List T4} (I : InW S) (hc : Con S (mj S + 1)) (h : AH) (few : mj S < 800) : cf_are_together [.rl (S.map T4.d)] h = .ok (.bl true) h := by
  have e1 := many_spec (s := 10) (r := [some (.rl (S.map T4.d)), none, none, none, none, none, none, none, none, none, none]) I.ne (by have := I.few; omega) h rfl (by show 10 < 11; decide)
  have em : (1 + (mj S : Int)) = ((mj S + 1 : Nat) : Int) := by omega
  rw [em] at e1
  have hS : ∀ t ∈ S, t.i < mj S + 1 ∧ t.j < mj S + 1 := fun t ht => by
    have a := le_mj ht
    have b := I.lt t ht
    omega
  generalize mj S + 1 = m at *
  have hm0 : 0 < m := by
    obtain ⟨t, ht⟩ := List.exists_mem_of_ne_nil S I.ne
    have := (hS t ht).1
    omega
  obtain ⟨R, s, z4, z5, z6, z7, z8, z9, z10, e2, e3⟩ := while_spec (hb := h) I.few hS (by omega) hm0 hc (some (.int m))
  have ls : cLst (aCons (cCon (.int 0)) aNil) [some (.rl (S.map T4.d)), some (.int m), none, none, none, none, none, none, none, none, none] h = .ok (.ref h.length) (rh h [0]) := rfl
  have ee : eqB (.int (R.length : Nat)) (.int m) (rh h R) = some true := by
    simp only [eqB, scalD, e3]
    simp
  refine fzF_cl (j := [O.lst (R.map dN)]) (show endB (f_are_together [some (.rl (S.map T4.d)), none, none, none, none, none, none, none, none, none, none] h) = .ok (.bl true) (rh h R) from ?_) rfl
  simp only [f_are_together, cSeq, cAsg, e1, onRes, gNm, List.set_cons_succ, List.set_cons_zero, ls, cCon]
  simp only [e2, cRet, cBin, cB, aCons, aNil, cVar, Res.bind, List.getElem?_cons_zero, List.getElem?_cons_succ, rh_len, eqD, ee, onRes, endB]

end K05
namespace K05
open PySem L2 PI
/-! ### dicts, one a house -/
def dictD (l : List (Key × D)) : D := .fd (l.map (·.1)) (l.map (·.2))
theorem zip_fs {κ : Type} : ∀ l : List (κ × D), (l.map (·.1)).zip (l.map (·.2)) = l
  | [] => rfl
  | x :: l => by simp only [List.map_cons, List.zip_cons_cons, zip_fs l]
def refsN (b m : Nat) : List D := (List.range m).map fun k => D.ref (b + 1 + k)
def wayH (hb : AH) (Ds : List (List (Key × D))) (m : Nat) : AH := hb ++ O.lst (refsN hb.length m) :: Ds.map O.dK
theorem refsN_snoc (b m : Nat) : refsN b (m + 1) = refsN b m ++ [D.ref (b + 1 + m)] := by
  unfold refsN
  rw [List.range_succ, List.map_append]
  rfl
theorem dicts_lay (s : Nat) (hb : AH) (r : Ev) (m : Nat) (few : m < 1000) : ∀ (n i : Nat), m - i < n → i ≤ m → cLcL (gNm s) cYes (cDic (.dK [])) hb.length n (.rng 0 m) i r (wayH hb (List.replicate i []) i) = .ok () (wayH hb (List.replicate m []) m)
  | 0, i, hn, _ => absurd hn (Nat.not_lt_zero _)
  | n + 1, i, hn, hle => by
    unfold cLcL
    simp only [nextI]
    by_cases hi : i < m
    · have ih := dicts_lay s hb r m few n (i + 1) (by omega) hi
      have g1 : (wayH hb (List.replicate i []) i ++ [O.dK []])[hb.length]? = some (.lst (refsN hb.length i)) := by
        unfold wayH
        exact get_app get_new
      have ll : (refsN hb.length i).length < sizeLine := by
        unfold refsN
        rw [List.length_map, List.length_range]
        have := sizeLine_big
        omega
      have e1 : (wayH hb (List.replicate i []) i).length = hb.length + 1 + i := by
        unfold wayH
        simp
        omega
      have e2 : (wayH hb (List.replicate i []) i ++ [O.dK []]).set hb.length (.lst (refsN hb.length i ++ [D.ref (wayH hb (List.replicate i []) i).length])) = wayH hb (List.replicate (i + 1) []) (i + 1) := by
        rw [e1]
        unfold wayH
        rw [List.append_assoc, List.cons_append, set_new, refsN_snoc, List.replicate_succ', List.map_append]
        rfl
      simp only [if_pos hi, gNm, cYes, cDic, g1, if_pos ll, e2]
      exact ih
    · have e : i = m := by omega
      rw [if_neg hi, e]
theorem wayH_refs {hb : AH} {Ds : List (List (Key × D))} {m : Nat} : (wayH hb Ds m)[hb.length]? = some (.lst (refsN hb.length m)) := get_new
theorem wayH_dict {hb : AH} {Ds : List (List (Key × D))} {m k : Nat} (hl : Ds.length = m) (hk : k < m) : (wayH hb Ds m)[hb.length + 1 + k]? = some (.dK (Ds[k]'(hl ▸ hk))) := by
  unfold wayH
  rw [List.getElem?_append_right (by omega), show hb.length + 1 + k - hb.length = k + 1 by omega, List.getElem?_cons_succ, List.getElem?_map, List.getElem?_eq_getElem (hl ▸ hk)]
  rfl
theorem wayH_set {hb : AH} {Ds : List (List (Key × D))} {m k : Nat} {d : List (Key × D)} (hl : Ds.length = m) (hk : k < m) : (wayH hb Ds m).set (hb.length + 1 + k) (.dK d) = wayH hb (Ds.set k d) m := by
  unfold wayH
  rw [List.set_append_right _ _ (by omega), show hb.length + 1 + k - hb.length = k + 1 by omega, List.set_cons_succ, List.map_set]
theorem in_dK {h : AH} {a : Nat} {d : List (Key × D)} {x : Str} (e : h[a]? = some (.dK d)) : inB (.str x) (.ref a) h = some (findD d (.inr x)).isSome := by
  simp only [inB, e, lookD, dicOf, PI.keyOf, Option.map_some, Option.bind_some]
theorem set_dK {h : AH} {a : Nat} {d : List (Key × D)} {x : Str} {v : D} (e : h[a]? = some (.dK d)) (hl : d.length < LIM) (hn : (Sum.inr x : Key) ∉ d.map (·.1)) : setD (.ref a) (.str x) v h = some (h.set a (.dK (d ++ [(.inr x, v)]))) := by
  simp only [setD, e, PI.keyOf, if_pos hl, putD_new hn]
abbrev wB : Ev → AH → RS := cSeq
      (cIf (tOrF (cTst (cBin inD (cVar 4) (cBin ixD (cVar 2) (cVar 3)))) (cTst (cBin inD (cVar 6) (cBin ixD (cVar 2) (cVar 5))))) (cSeq
        (cRet (cCon .non))
        cPass) cPass)
      (cSeq
      (cAsg (cVar 5) (gSb (cBin ixD (cVar 2) (cVar 3)) (cVar 4)))
      (cSeq
      (cAsg (cVar 3) (gSb (cBin ixD (cVar 2) (cVar 5)) (cVar 6)))
      cPass))
theorem ways_loop {S : List T4} (I : InW S) {m : Nat} (hm : ∀ t ∈ S, t.j < m) (hb : AH) (mm : D) :
    ∃ x3 x4 x5 x6, cForL (gTp 4 (gsCons (gNm 3) (gsCons (gNm 4) (gsCons (gNm 5) (gsCons (gNm 6) gsNil))))) wB 1000 (.rl (S.map T4.d)) 0 [some (.rl (S.map T4.d)), some mm, some (.ref hb.length), none, none, none, none, none, none] (wayH hb (dictsOf [] m) m) =
      .nx [some (.rl (S.map T4.d)), some mm, some (.ref hb.length), x3, x4, x5, x6, none, none] (wayH hb (dictsOf S m) m) := by
  obtain ⟨r', h', e, ⟨x3, x4, x5, x6, rfl⟩, rfl⟩ := forl0 (g := gTp 4 (gsCons (gNm 3) (gsCons (gNm 4) (gsCons (gNm 5) (gsCons (gNm 6) gsNil))))) (b := wB) (it := .rl (S.map T4.d)) (l := S) (G := T4.d) (n := 1000) (r := [some (.rl (S.map T4.d)), some mm, some (.ref hb.length), none, none, none, none, none, none]) (h := wayH hb (dictsOf [] m) m)
    (fun i r h => (∃ x3 x4 x5 x6, r = [some (.rl (S.map T4.d)), some mm, some (.ref hb.length), x3, x4, x5, x6, none, none]) ∧ h = wayH hb (dictsOf (S.take i) m) m)
    (fun i r h _ => next_rl i)
    (fun i hi r h ⟨⟨x3, x4, x5, x6, er⟩, eh⟩ => by
      subst er eh
      have ht := List.getElem?_eq_getElem hi
      have hmem := List.getElem_mem hi
      generalize ht0 : S[i] = t at *
      obtain ⟨h1, h2, h3, h4, h5⟩ := I.ok t hmem
      have lt := I.lt t hmem
      have hj : t.j < m := hm t hmem
      have hi' : t.i < m := by omega
      have few := I.few
      have tl : (S.take i).length ≤ 100 := by rw [List.length_take]; omega
      have l1 := dictsOf_len (S.take i) m
      have gr := wayH_refs (hb := hb) (Ds := dictsOf (S.take i) m) (m := m)
      have gi := wayH_dict (hb := hb) l1 hi'
      have gj := wayH_dict (hb := hb) l1 hj
      rw [dictsOf_at] at gi gj
      have n1 : (Sum.inr (ltr t.a) : Key) ∉ (marksAt (S.take i) t.i).map (·.1) := new_mark I ht t.i (.inr (ltr t.a), D.int t.j) (by unfold entr; rw [if_pos rfl]; exact List.mem_append_left _ (List.mem_singleton.mpr rfl))
      have n2 : (Sum.inr (ltr t.b) : Key) ∉ (marksAt (S.take i) t.j).map (·.1) := new_mark I ht t.j (.inr (ltr t.b), D.int t.i) (by unfold entr; rw [if_pos (rfl : t.j = t.j)]; exact List.mem_append_right _ (List.mem_singleton.mpr rfl))
      have rx : ∀ (Ds : List (List (Key × D))) (k : Nat), k < m → ixD (.ref hb.length) (.int (k : Nat)) (wayH hb Ds m) = .ok (.ref (hb.length + 1 + k)) (wayH hb Ds m) := fun Ds k hk => ix_lst k wayH_refs (by unfold refsN; rw [List.getElem?_map, List.getElem?_range hk]; rfl)
      have i1 := rx (dictsOf (S.take i) m) t.i hi'
      have i2 := rx (dictsOf (S.take i) m) t.j hj
      have b1 : inB (.str (ltr t.a)) (.ref (hb.length + 1 + t.i)) (wayH hb (dictsOf (S.take i) m) m) = some false := by rw [in_dK gi, findD_none n1]; rfl
      have b2 : inB (.str (ltr t.b)) (.ref (hb.length + 1 + t.j)) (wayH hb (dictsOf (S.take i) m) m) = some false := by rw [in_dK gj, findD_none n2]; rfl
      have ml := marks_len (S.take i)
      have s1 : setD (.ref (hb.length + 1 + t.i)) (.str (ltr t.a)) (.int t.j) (wayH hb (dictsOf (S.take i) m) m) = some (wayH hb ((dictsOf (S.take i) m).set t.i (marksAt (S.take i) t.i ++ [(.inr (ltr t.a), D.int t.j)])) m) := by
        rw [set_dK gi (by have := ml t.i; show _ < 1000000; omega) n1, wayH_set l1 hi']
      have l2 : ((dictsOf (S.take i) m).set t.i (marksAt (S.take i) t.i ++ [(.inr (ltr t.a), D.int t.j)])).length = m := by rw [List.length_set, l1]
      have gj2 := wayH_dict (hb := hb) l2 hj
      rw [List.getElem_set_ne (by omega), dictsOf_at] at gj2
      have i3 := rx ((dictsOf (S.take i) m).set t.i (marksAt (S.take i) t.i ++ [(.inr (ltr t.a), D.int t.j)])) t.j hj
      have s2 : setD (.ref (hb.length + 1 + t.j)) (.str (ltr t.b)) (.int t.i) (wayH hb ((dictsOf (S.take i) m).set t.i (marksAt (S.take i) t.i ++ [(.inr (ltr t.a), D.int t.j)])) m) = some (wayH hb (dictsOf (S.take (i + 1)) m) m) := by
        rw [set_dK gj2 (by have := ml t.j; show _ < 1000000; omega) n2, wayH_set l2 hj, dicts_step hi' hj h5, List.take_succ, ht]
        rfl
      refine ⟨[some (.rl (S.map T4.d)), some mm, some (.ref hb.length), some (.int t.i), some (.str (ltr t.a)), some (.int t.j), some (.str (ltr t.b)), none, none], _, _, _, rfl, .inl ?_, ⟨some (.int t.i), some (.str (ltr t.a)), some (.int t.j), some (.str (ltr t.b)), rfl⟩, rfl⟩
      simp only [wB, cSeq, cAsg, cPar, cPar3, cIf, cRet, cRetN, cExp, cPass, cTst, cTru, cVar, cCon, cBin, cB, cBM, cTup, cCall, aCons, aNil, gNm, gTp, gsCons, gsNil, gSb, tAndF, tOrF, tNotF, vAnd, vOr, vNot, cIte, Res.bind, onRes, endB, List.getElem?_cons_zero, List.getElem?_cons_succ, List.set_cons_succ, List.set_cons_zero, List.length_cons, List.length_nil, if_true, if_false, Bool.false_eq_true, Bool.not_true, Bool.not_false, i1, i2, inD, b1, b2, s1, i3, s2, Option.map_some]) (by have := I.few; omega) ⟨⟨none, none, none, none, rfl⟩, rfl⟩
  rw [List.take_length] at e
  exact ⟨x3, x4, x5, x6, e⟩
theorem mapP_map {α : Type} {f : D → Option D} {G F : α → D} : ∀ {l : List α}, (∀ x ∈ l, f (G x) = some (F x)) → mapP f (l.map G) = some (l.map F)
  | [], _ => rfl
  | x :: l, h => by
    simp only [List.map_cons, mapP, h x List.mem_cons_self, mapP_map fun y hy => h y (List.mem_cons_of_mem _ hy)]
theorem cl_marks (n : Nat) (S : List T4) (k : Nat) : clDs n ((marksAt S k).map (·.2)) = true := clDs_all fun x hx => by
  obtain ⟨p, hp, rfl⟩ := List.mem_map.mp hx
  obtain ⟨t, _, ht⟩ := List.mem_flatMap.mp hp
  unfold entr at ht
  rcases List.mem_append.mp ht with ht | ht
  · split at ht
    · rw [List.mem_singleton.mp ht]; rfl
    · cases ht
  · split at ht
    · rw [List.mem_singleton.mp ht]; rfl
    · cases ht
def waysD (S : List T4) : D := .rl ((List.range (mj S + 1)).map fun k => dictD (marksAt S k))
theorem cl_ways (n : Nat) (S : List T4) : clD n (waysD S) = true := by
  unfold waysD
  simp only [clD]
  exact clDs_map fun k _ => cl_marks n S k
theorem ways_frz (hb : AH) (S : List T4) (m : Nat) : frzD (wayH hb (dictsOf S m) m) hb.length 9 (.ref hb.length) = some (.rl ((List.range m).map fun k => dictD (marksAt S k))) := by
  have cf : ∀ k, ¬ clD hb.length (.ref (hb.length + k)) = true := fun k => by simp [clD]
  unfold frzD
  rw [if_neg (show ¬ clD hb.length (.ref hb.length) = true from cf 0)]
  simp only [wayH_refs]
  unfold refsN
  rw [mapP_map (F := fun k => dictD (marksAt S k))]
  · rfl
  · intro k hk
    have hk' := List.mem_range.mp hk
    have g := wayH_dict (hb := hb) (dictsOf_len S m) hk'
    rw [dictsOf_at] at g
    unfold frzD
    rw [if_neg (by have := cf (1 + k); rwa [← Nat.add_assoc] at this)]
    simp only [g, mapP_cl (cl_marks _ _ _), Option.map_some]
    rfl
theorem ways_of_spec {S : List T4} (I : InW S) (h : AH) (few : mj S < 900) : cf_ways_of [.rl (S.map T4.d)] h = .ok (waysD S) h := by
  have e1 := many_spec (s := 8) (r := [some (.rl (S.map T4.d)), none, none, none, none, none, none, none, none]) I.ne (by have := I.few; omega) h rfl (by show 8 < 9; decide)
  generalize hm : mj S + 1 = m at *
  have em : (1 + (mj S : Int)) = (m : Int) := by omega
  rw [em] at e1
  have b1 : inR (2 ^ 62 - 1) (m : Int) = true := inR_ok.mpr (by omega)
  have e2 := dicts_lay 7 h [some (.rl (S.map T4.d)), some (.int m), none, none, none, none, none, none, none] m (by omega) 1000 0 (by omega) (Nat.zero_le _)
  have z0 : wayH h (List.replicate 0 []) 0 = h ++ [O.lst []] := rfl
  have zm : wayH h (List.replicate m []) m = wayH h (dictsOf [] m) m := by
    unfold dictsOf
    have : (List.range m).map (marksAt []) = List.replicate m [] := by
      have e : marksAt [] = fun _ => [] := rfl
      rw [e, List.map_const', List.length_range]
    rw [this]
  rw [z0, zm] at e2
  have c2 : cLc (cRng1 (aCons (cVar 1) aNil)) (gNm 7) cYes (cDic (.dK [])) [7] 1000 [some (.rl (S.map T4.d)), some (.int m), none, none, none, none, none, none, none] h = .ok (.ref h.length) (wayH h (dictsOf [] m) m) := by
    simp only [cLc, cRng1, aCons, aNil, cVar, Res.bind, List.getElem?_cons_zero, List.getElem?_cons_succ, if_pos b1, Int.toNat_natCast, wipeD, List.set_cons_succ, List.set_cons_zero, e2]
  obtain ⟨x3, x4, x5, x6, e3⟩ := ways_loop I (m := m) (fun t ht => by have := le_mj ht; omega) h (.int m)
  have eb : cb_ways_of [.rl (S.map T4.d)] h = .ok (.ref h.length) (wayH h (dictsOf S m) m) := by
    show endB (f_ways_of [some (.rl (S.map T4.d)), none, none, none, none, none, none, none, none] h) = _
    simp only [f_ways_of, cSeq, cAsg, e1, onRes, gNm, List.set_cons_succ, List.set_cons_zero, c2, cFor, cIter, cVar, List.getElem?_cons_zero, Res.bind]
    simp only [e3, cRet, cVar, List.getElem?_cons_zero, List.getElem?_cons_succ, onRes, endB]
  unfold cf_ways_of fzF
  rw [eb]
  have ko : KO h (wayH h (dictsOf S m) m) := KO.app h _
  have ht : (wayH h (dictsOf S m) m).take h.length = h := take_app
  simp only [fzR, if_pos ko, ways_frz, ht, waysD, hm]

end K05
namespace K05
open PySem L2 PI
structure WebL (L : List T4) : Prop where
  G : GoodL L
  I : InW (S4 L)
  C : Con (S4 L) (mj (S4 L) + 1)
theorem WebL.mj10 {L : List T4} (w : WebL L) : mj (S4 L) < 10 := by
  obtain ⟨t, ht, e⟩ := mj_mem w.I.ne
  have := (w.I.ok t ht).2.1
  omega
theorem ix_last {l : List D} {d : D} (h : AH) (hl : 0 < l.length) (hd : l[l.length - 1]? = some d) : ixD (.rl l) (.int (-1)) h = .ok d h := by
  simp only [ixD, atI_last l hl, hd]
theorem web_ties_spec {L : List T4} (w : WebL L) (h : AH) : cf_web_ties [.str (textL L)] h = .ok (.rl ((S4 L).map T4.d)) h := by
  have e1 := ties_in_spec w.G h
  have e2 := together_spec w.I w.C h (by have := w.mj10; omega)
  have e3 := ways_of_spec w.I h (by have := w.mj10; omega)
  have hpos : 0 < (S4 L).length := List.length_pos_iff.mpr w.I.ne
  have lt1 : (S4 L).length - 1 < (S4 L).length := by omega
  have i1 : ixD (.rl ((S4 L).map T4.d)) (.int (-1)) h = .ok ((S4 L)[(S4 L).length - 1]).d h := ix_last h (by rw [List.length_map]; exact hpos) (by rw [List.length_map, List.getElem?_map, List.getElem?_eq_getElem lt1]; rfl)
  have ok1 := w.I.ok _ (List.getElem_mem lt1)
  generalize (S4 L)[(S4 L).length - 1] = t at *
  have i2 := (ix_d t h).2.2.1
  have ge : ¬ ((10 : Int) ≤ t.j) := by have := ok1.2.1; omega
  have km : k_MARKS = .str MK := rfl
  have kh : k_MOST_HOUSES = .int 10 := rfl
  have wd : waysD (S4 L) = .rl ((List.range (mj (S4 L) + 1)).map fun k => dictD (marksAt (S4 L) k)) := rfl
  rw [wd] at e3
  refine fzF_cl0 (show endB (f_web_ties [some (.str (textL L)), none] h) = _ from ?_) (cl_ties _ _)
  simp only [f_web_ties, cSeq, cAsg, cPar, cPar3, cIf, cRet, cRetN, cExp, cPass, cTst, cTru, cVar, cCon, cBin, cB, cBM, cTup, cCall, aCons, aNil, gNm, gTp, gsCons, gsNil, gSb, tAndF, tOrF, tNotF, vAnd, vOr, vNot, cIte, Res.bind, onRes, endB, List.getElem?_cons_zero, List.getElem?_cons_succ, List.set_cons_succ, List.set_cons_zero, List.length_cons, List.length_nil, if_true, if_false, Bool.false_eq_true, Bool.not_true, Bool.not_false, cIsi, tgD, lk2, truD, km, kh, e1, isD, isNonD, e2, e3, cNeg, i1, i2, geD, decide_eq_false ge]
/-! ### plain texts -/
theorem str_len (x y : Str) : (x ++ y).length = x.length + y.length := by
  show (TL.tl (x ++ y)).length = _
  rw [TL.tl_append, List.length_append]
  rfl
theorem line_eq (t : T4) : Str.empty ++ dg t.i ++ " " ++ ltr t.a ++ " " ++ dg t.j ++ " " ++ ltr t.b = t.line := by
  refine TL.ext_tl ?_
  unfold T4.line
  rw [TL.join_eq, TL.tl_join]
  simp only [TL.tl_append, T4.words, List.map_cons, List.map_nil, TL.joinL, List.append_assoc]
  rfl
theorem fmt_int {r : Ev} {h : AH} {k i : Nat} (e : r[k]? = some (some (.int (i : Int)))) (hi : i < 1000) : fmtD (cVar k) r h = .ok (.str (dg i)) h := by
  have : ((i : Int)).natAbs < 2 ^ 64 := by omega
  simp only [fmtD, cVar, e, Res.bind, if_pos this]
  rfl
theorem fmt_ltr {r : Ev} {h : AH} {k a : Nat} (e : r[k]? = some (some (.str (ltr a)))) : fmtD (cVar k) r h = .ok (.str (ltr a)) h := by
  have : (ltr a).length ≤ LIM := by rw [ltr_len]; decide
  simp only [fmtD, cVar, e, Res.bind, if_pos this]
theorem js_line {t : T4} (ht : t.ok) (y0 : Option D) (h : AH) : cJs [(fmtD (cVar 1)), (cCon (.str " ")), (fmtD (cVar 2)), (cCon (.str " ")), (fmtD (cVar 3)), (cCon (.str " ")), (fmtD (cVar 4))] Str.empty [y0, some (.int t.i), some (.str (ltr t.a)), some (.int t.j), some (.str (ltr t.b))] h = .ok (.str t.line) h := by
  obtain ⟨h1, h2, h3, h4, h5⟩ := ht
  have f1 : fmtD (cVar 1) [y0, some (.int t.i), some (.str (ltr t.a)), some (.int t.j), some (.str (ltr t.b))] h = .ok (.str (dg t.i)) h := fmt_int rfl (by omega)
  have f2 : fmtD (cVar 2) [y0, some (.int t.i), some (.str (ltr t.a)), some (.int t.j), some (.str (ltr t.b))] h = .ok (.str (ltr t.a)) h := fmt_ltr rfl
  have f3 : fmtD (cVar 3) [y0, some (.int t.i), some (.str (ltr t.a)), some (.int t.j), some (.str (ltr t.b))] h = .ok (.str (dg t.j)) h := fmt_int rfl (by omega)
  have f4 : fmtD (cVar 4) [y0, some (.int t.i), some (.str (ltr t.a)), some (.int t.j), some (.str (ltr t.b))] h = .ok (.str (ltr t.b)) h := fmt_ltr rfl
  have l0 : Str.empty.length = 0 := rfl
  have ls : (" " : Str).length = 1 := by decide +kernel
  have L : ∀ n : Nat, n ≤ 10 → n ≤ LIM := fun n hn => Nat.le_trans hn (by decide)
  simp only [cJs, f1, f2, f3, f4, cCon, Res.bind, str_len, l0, ls, dg_len h1, dg_len h2, ltr_len]
  rw [if_pos (L _ (by omega)), if_pos (L _ (by omega)), if_pos (L _ (by omega)), if_pos (L _ (by omega)), if_pos (L _ (by omega)), if_pos (L _ (by omega)), if_pos (L _ (by omega)), line_eq]
theorem sum_lines {S : List T4} (h : ∀ t ∈ S, t.ok) : ((S.map T4.line).map (·.length)).sum = 7 * S.length := by
  induction S with
  | nil => rfl
  | cons t S ih =>
    rw [List.map_cons, List.map_cons, List.sum_cons, line_len (h t List.mem_cons_self), ih fun u hu => h u (List.mem_cons_of_mem _ hu), List.length_cons]
    omega
/-- texts of lines put together -/
theorem join_lines {S : List T4} (hS : ∀ t ∈ S, t.ok) (few : S.length ≤ 100) (h : AH) : joinO [.str "\n", .rl (S.map fun t => D.str t.line)] h = some (.str (textL S), h) := by
  have m1 : mapO dStr (S.map fun t => D.str t.line) = some (S.map T4.line) := mapO_map (g := fun t : T4 => D.str t.line) (k := T4.line) (fun _ => rfl) S
  have b1 : ((S.map T4.line).map (·.length)).sum + (S.map T4.line).length * ("\n" : Str).length ≤ LIM := by
    have e : ("\n" : Str).length = 1 := by decide +kernel
    rw [sum_lines hS, e, List.length_map]
    show _ ≤ 1000000
    omega
  simp only [joinO, listD, Option.some_or, m1, if_pos b1]
  rfl
theorem plain_spec {S : List T4} (hS : ∀ t ∈ S, t.ok) (few : S.length ≤ 100) (h : AH) : cf_plain_text [.rl (S.map T4.d)] h = .ok (.str (textL S)) h := by
  have e1 := fz_lc (h := h) (vs := [1, 2, 3, 4]) (n := 1000) (g := gTp 4 (gsCons (gNm 1) (gsCons (gNm 2) (gsCons (gNm 3) (gsCons (gNm 4) gsNil))))) (ce := cJs [(fmtD (cVar 1)), (cCon (.str " ")), (fmtD (cVar 2)), (cCon (.str " ")), (fmtD (cVar 3)), (cCon (.str " ")), (fmtD (cVar 4))] Str.empty)
    (fi := cIter (cVar 0)) (it := .rl (S.map T4.d)) (r := [some (.rl (S.map T4.d)), none, none, none, none]) S T4.d (fun t => D.str t.line) rfl (by omega) (by decide) (fun _ i => next_rl i) (fun _ _ => rfl) (fun t ht acc => ⟨_, rfl, js_line (hS t ht) _ _⟩)
  refine fzF_cl0 (show endB (f_plain_text [some (.rl (S.map T4.d)), none, none, none, none] h) = _ from ?_) rfl
  simp only [f_plain_text, cSeq, cAsg, cPar, cPar3, cIf, cRet, cRetN, cExp, cPass, cTst, cTru, cVar, cCon, cBin, cB, cBM, cTup, cCall, aCons, aNil, gNm, gTp, gsCons, gsNil, gSb, tAndF, tOrF, tNotF, vAnd, vOr, vNot, cIte, Res.bind, onRes, endB, List.getElem?_cons_zero, List.getElem?_cons_succ, List.set_cons_succ, List.set_cons_zero, List.length_cons, List.length_nil, if_true, if_false, Bool.false_eq_true, Bool.not_true, Bool.not_false, ty_str, e1, join_lines hS few]
/-! ### letters -/
def uses (S : List T4) (c : Nat) : Bool := S.any fun t => c == t.a || c == t.b
def lettersL (S : List T4) : Str := Txt.join "" (((List.range 12).filter (uses S)).map ltr)
theorem MK_at (i : Nat) : (MK.cps[i]?.map fun c => D.str ⟨#[c]⟩) = (List.range 12)[i]?.map fun c => D.str (ltr c) := by
  have e : MK.cps = #[97, 98, 99, 100, 101, 102, 103, 104, 105, 106, 107, 108] := by decide +kernel
  rw [e]
  match i with
  | 0 => rfl
  | 1 => rfl
  | 2 => rfl
  | 3 => rfl
  | 4 => rfl
  | 5 => rfl
  | 6 => rfl
  | 7 => rfl
  | 8 => rfl
  | 9 => rfl
  | 10 => rfl
  | 11 => rfl
  | i + 12 =>
    rw [List.getElem?_eq_none (by rw [List.length_range]; omega)]
    simp
theorem ltr_eq (a b : Nat) : (ltr a == ltr b) = (a == b) := by
  rw [Bool.eq_iff_iff, beq_iff_eq, beq_iff_eq]
  constructor
  · intro e
    unfold ltr at e
    have := congrArg (fun s : Str => s.cps.toList) e
    simp at this
    exact this
  · intro e
    rw [e]
theorem ltr_inj {a b : Nat} (e : ltr a = ltr b) : a = b := by
  have := ltr_eq a b
  rw [e] at this
  simpa using this.symm
theorem sum_ltr : ∀ l : List Nat, ((l.map ltr).map (·.length)).sum = l.length
  | [] => rfl
  | a :: l => by simp only [List.map_cons, List.sum_cons, sum_ltr l, ltr_len, List.length_cons]; omega
theorem dstr_map (ws : List Nat) : mapO dStr (ws.map fun x => D.str (ltr x)) = some (ws.map ltr) := mapO_map (g := fun x : Nat => D.str (ltr x)) (k := ltr) (fun _ => rfl) ws
theorem join_ltrs {l : List Nat} (few : l.length ≤ 1000) (h : AH) : joinO [.str "", .rl (l.map fun x => D.str (ltr x))] h = some (.str (Txt.join "" (l.map ltr)), h) := by
  have b1 : ((l.map ltr).map (·.length)).sum + (l.map ltr).length * ("" : Str).length ≤ LIM := by
    have e : ("" : Str).length = 0 := by decide +kernel
    rw [sum_ltr, e, Nat.mul_zero]
    show _ ≤ 1000000
    omega
  simp only [joinO, listD, Option.some_or, dstr_map, if_pos b1]
theorem in2 (c a b : Nat) (h : AH) : inB (.str (ltr c)) (.tup [.str (ltr a), .str (ltr b)]) h = some (c == a || c == b) := by
  simp only [inB, inTup]
  rw [if_pos ⟨rfl, rfl⟩]
  simp only [List.any_cons, List.any_nil, eqF, ltr_eq, Bool.or_false]
  rw [Bool.beq_comm (a := a), Bool.beq_comm (a := b)]
theorem letters_spec {S : List T4} (few : S.length ≤ 100) (h : AH) : cf_letters_of [.rl (S.map T4.d)] h = .ok (.str (lettersL S)) h := by
  have e1 := fz_lc_if (h := h) (vs := [1]) (n := 1000) (g := gNm 1) (ct := cTru (cB (anyO fun l => l.any id) (aCons (fz (cLc (cIter (cVar 0)) (gNm 2) cYes (cBin inD (cVar 1) (cTup (aCons (cBin ixD (cVar 2) (cCon (.int 1))) (aCons (cBin ixD (cVar 2) (cCon (.int 3))) aNil)))) [2] 1000)) aNil))) (ce := cVar 1)
    (fi := cIter (cCon k_MARKS)) (it := .str MK) (r := [some (.rl (S.map T4.d)), none, none]) (List.range 12) (fun c => D.str (ltr c)) (fun c => D.str (ltr c)) (uses S) rfl (by rw [List.length_range]; omega) (by decide) (fun _ i => by
      show some _ = some _
      rw [MK_at]) (fun _ _ => rfl) (fun c hc acc => ⟨_, rfl, by
      have e2 := fz_lc (h := h ++ [O.lst acc]) (vs := [2]) (n := 1000) (g := gNm 2) (ce := cBin inD (cVar 1) (cTup (aCons (cBin ixD (cVar 2) (cCon (.int 1))) (aCons (cBin ixD (cVar 2) (cCon (.int 3))) aNil)))) (fi := cIter (cVar 0)) (it := .rl (S.map T4.d)) (r := [some (.rl (S.map T4.d)), some (.str (ltr c)), none])
        S T4.d (fun t => D.bl (c == t.a || c == t.b)) rfl (by omega) (by decide) (fun _ i => next_rl i) (fun _ _ => rfl) (fun t ht acc => ⟨_, rfl, by
          have i1 := fun X => (ix_d t X).2.1
          have i3 := fun X => (ix_d t X).2.2.2
          simp only [cSeq, cAsg, cPar, cPar3, cIf, cRet, cRetN, cExp, cPass, cTst, cTru, cVar, cCon, cBin, cB, cBM, cTup, cCall, aCons, aNil, gNm, gTp, gsCons, gsNil, gSb, tAndF, tOrF, tNotF, vAnd, vOr, vNot, cIte, Res.bind, onRes, endB, List.getElem?_cons_zero, List.getElem?_cons_succ, List.set_cons_succ, List.set_cons_zero, List.length_cons, List.length_nil, if_true, if_false, Bool.false_eq_true, Bool.not_true, Bool.not_false, wipeD, i1, i3, lm2, inD, in2]⟩)
      have a2 := any_map S (fun t => c == t.a || c == t.b) (h ++ [O.lst acc])
      simp only [cSeq, cAsg, cPar, cPar3, cIf, cRet, cRetN, cExp, cPass, cTst, cTru, cVar, cCon, cBin, cB, cBM, cTup, cCall, aCons, aNil, gNm, gTp, gsCons, gsNil, gSb, tAndF, tOrF, tNotF, vAnd, vOr, vNot, cIte, Res.bind, onRes, endB, List.getElem?_cons_zero, List.getElem?_cons_succ, List.set_cons_succ, List.set_cons_zero, List.length_cons, List.length_nil, if_true, if_false, Bool.false_eq_true, Bool.not_true, Bool.not_false, wipeD, e2, a2, truD]
      rfl, fun _ => rfl⟩)
  have lf : (List.filter (uses S) (List.range 12)).length ≤ 1000 := by
    have := List.length_filter_le (uses S) (List.range 12)
    rw [List.length_range] at this
    omega
  refine fzF_cl0 (show endB (f_letters_of [some (.rl (S.map T4.d)), none, none] h) = _ from ?_) rfl
  simp only [f_letters_of, cSeq, cAsg, cPar, cPar3, cIf, cRet, cRetN, cExp, cPass, cTst, cTru, cVar, cCon, cBin, cB, cBM, cTup, cCall, aCons, aNil, gNm, gTp, gsCons, gsNil, gSb, tAndF, tOrF, tNotF, vAnd, vOr, vNot, cIte, Res.bind, onRes, endB, List.getElem?_cons_zero, List.getElem?_cons_succ, List.set_cons_succ, List.set_cons_zero, List.length_cons, List.length_nil, if_true, if_false, Bool.false_eq_true, Bool.not_true, Bool.not_false, ty_str, e1, join_ltrs lf]
  rfl

end K05
namespace K05
open PySem L2 PI
/-! ### webs as values -/
def pdT (t : T4) : PyData := .tuple [.int t.i, .str (ltr t.a), .int t.j, .str (ltr t.b)]
def Q4 (S : List T4) : List T4 := srtL (PySem.W.dataLe false pdT) S
theorem toP_d (t : T4) (h : AH) : toP 8 h t.d = some (pdT t) := rfl
theorem srt_spec {S : List T4} (h : AH) : srtO [.rl (S.map T4.d)] h = some (.ref h.length, h ++ [O.lst ((Q4 S).map T4.d)]) := by
  have m1 : mapO (toP 8 h) (S.map T4.d) = some (S.map pdT) := mapO_map (fun t => toP_d t h) S
  have c1 : ((S.map pdT).all fun p => (S.map pdT).all fun q => PySem.W.alike p q) = true := List.all_eq_true.mpr fun p hp => List.all_eq_true.mpr fun q hq => by
    obtain ⟨s, _, rfl⟩ := List.mem_map.mp hp
    obtain ⟨t, _, rfl⟩ := List.mem_map.mp hq
    rfl
  have c2 : ((S.map pdT).all fun p => decide (p.depth ≤ 20)) = true := by
    simp only [List.all_map, List.all_eq_true]
    intro t _
    rfl
  have c3 : ((S.map pdT).all fun p => match p with
      | .tuple (_ :: _) => true
      | _ => false) = true := by
    simp only [List.all_map, List.all_eq_true]
    intro t _
    rfl
  have e : srtL (PySem.W.dataLe false fun d => (toP 8 h d).getD .none) (S.map T4.d) = (Q4 S).map T4.d := srtL_map (fun s t => rfl) S
  simp only [srtO, listD, m1]
  rw [if_pos ⟨c1, c2, .inl c3⟩, e]
theorem fz_srt {S : List T4} {r : Ev} {h : AH} {fe : Ev → AH → Res D} (he : fe r h = .ok (.rl (S.map T4.d)) h) : fz (cB srtO (aCons fe aNil)) r h = .ok (.rl ((Q4 S).map T4.d)) h := by
  refine fz_lst ?_ (clDs_map fun _ _ => rfl)
  simp only [cSeq, cAsg, cPar, cPar3, cIf, cRet, cRetN, cExp, cPass, cTst, cTru, cVar, cCon, cBin, cB, cBM, cTup, cCall, aCons, aNil, gNm, gTp, gsCons, gsNil, gSb, tAndF, tOrF, tNotF, vAnd, vOr, vNot, cIte, Res.bind, onRes, endB, List.getElem?_cons_zero, List.getElem?_cons_succ, List.set_cons_succ, List.set_cons_zero, List.length_cons, List.length_nil, if_true, if_false, Bool.false_eq_true, Bool.not_true, Bool.not_false, he, srt_spec, newL]
def webG : List Str := ["text", "rows", "quadruples", "ways", "lines", "letters"]
def webV (L : List T4) : List D := [.str (textL L), .tup ((S4 L).map T4.d), .tup ((Q4 (S4 L)).map T4.d), waysD (S4 L), .str (textL (S4 L)), .str (lettersL (S4 L))]
/-- the web with a text -/
def webD (L : List T4) : D := .fi 0 webG (webV L)
theorem cl_tup (n : Nat) (S : List T4) : clDs n (S.map T4.d) = true := clDs_map fun _ _ => rfl
theorem cl_webV (n : Nat) (L : List T4) : clDs n (webV L) = true := by
  simp only [webV, clDs, clD, cl_tup, cl_ways, Bool.and_self]
theorem cl_web (n : Nat) (L : List T4) : clD n (webD L) = true := cl_webV n L
theorem set_fld {h : AH} {fs fs' : List (Str × D)} {g : Str} {d : D} (hg : webG.contains g = true) (hl : fs.length < 100) (hp : putFD g d fs = fs') : setFD ct g (.ref h.length) d (h ++ [O.ins 0 fs]) = some (h ++ [O.ins 0 fs']) := by
  have e : ct[0]? = some ct[0] := rfl
  have g0 : (h ++ [O.ins 0 fs])[h.length]? = some (.ins 0 fs) := get_new
  unfold setFD
  simp only [clsR, g0, e]
  rw [if_pos ⟨hg, hl⟩, hp, set_new]
theorem tup_rl {l : List D} (h : AH) : tupO [.rl l] h = some (.tup l, h) := rfl
theorem init_spec {L : List T4} (w : WebL L) (h : AH) : cf_Web___init__ [.ref h.length, .str (textL L)] (h ++ [O.ins 0 []]) = .ok .non (h ++ [O.ins 0 (webG.zip (webV L))]) := by
  have few : (S4 L).length ≤ 100 := w.I.few
  have ln : ∀ fs, (h ++ [O.ins 0 fs]).length = h.length + 1 := fun fs => by rw [List.length_append, List.length_singleton]
  have e1 := fun X => web_ties_spec w X
  have s1 : setFD ct "text" (.ref h.length) (.str (textL L)) (h ++ [O.ins 0 []]) = some (h ++ [O.ins 0 [("text", .str (textL L))]]) := set_fld (by decide +kernel) (by show 0 < 100; omega) rfl
  have s2 : setFD ct "rows" (.ref h.length) (.tup ((S4 L).map T4.d)) (h ++ [O.ins 0 [("text", .str (textL L))]]) = some (h ++ [O.ins 0 [("text", .str (textL L)), ("rows", .tup ((S4 L).map T4.d))]]) := set_fld (by decide +kernel) (by show 1 < 100; omega) (by kernel_rfl)
  have q3 := fun X => fz_srt (S := S4 L) (r := [some (.ref h.length), some (.str (textL L)), some (.rl ((S4 L).map T4.d))]) (h := X) (fe := cVar 2) rfl
  have s3 : setFD ct "quadruples" (.ref h.length) (.tup ((Q4 (S4 L)).map T4.d)) (h ++ [O.ins 0 [("text", .str (textL L)), ("rows", .tup ((S4 L).map T4.d))]]) = some (h ++ [O.ins 0 [("text", .str (textL L)), ("rows", .tup ((S4 L).map T4.d)), ("quadruples", .tup ((Q4 (S4 L)).map T4.d))]]) := set_fld (by decide +kernel) (by show 2 < 100; omega) (by kernel_rfl)
  have e4 := fun X => ways_of_spec w.I X (by have := w.mj10; omega)
  have s4 : setFD ct "ways" (.ref h.length) (waysD (S4 L)) (h ++ [O.ins 0 [("text", .str (textL L)), ("rows", .tup ((S4 L).map T4.d)), ("quadruples", .tup ((Q4 (S4 L)).map T4.d))]]) = some (h ++ [O.ins 0 [("text", .str (textL L)), ("rows", .tup ((S4 L).map T4.d)), ("quadruples", .tup ((Q4 (S4 L)).map T4.d)), ("ways", waysD (S4 L))]]) := set_fld (by decide +kernel) (by show 3 < 100; omega) (by kernel_rfl)
  have e5 := fun X => plain_spec w.I.ok few X
  have s5 : setFD ct "lines" (.ref h.length) (.str (textL (S4 L))) (h ++ [O.ins 0 [("text", .str (textL L)), ("rows", .tup ((S4 L).map T4.d)), ("quadruples", .tup ((Q4 (S4 L)).map T4.d)), ("ways", waysD (S4 L))]]) = some (h ++ [O.ins 0 [("text", .str (textL L)), ("rows", .tup ((S4 L).map T4.d)), ("quadruples", .tup ((Q4 (S4 L)).map T4.d)), ("ways", waysD (S4 L)), ("lines", .str (textL (S4 L)))]]) := set_fld (by decide +kernel) (by show 4 < 100; omega) (by kernel_rfl)
  have e6 := fun X => letters_spec (S := S4 L) few X
  have s6 : setFD ct "letters" (.ref h.length) (.str (lettersL (S4 L))) (h ++ [O.ins 0 [("text", .str (textL L)), ("rows", .tup ((S4 L).map T4.d)), ("quadruples", .tup ((Q4 (S4 L)).map T4.d)), ("ways", waysD (S4 L)), ("lines", .str (textL (S4 L)))]]) = some (h ++ [O.ins 0 (webG.zip (webV L))]) := set_fld (by decide +kernel) (by show 5 < 100; omega) (by kernel_rfl)
  have eb : cb_Web___init__ [.ref h.length, .str (textL L)] (h ++ [O.ins 0 []]) = .ok .non (h ++ [O.ins 0 (webG.zip (webV L))]) := by
    show endB (f_Web___init__ [some (.ref h.length), some (.str (textL L)), none] _) = _
    simp only [f_Web___init__, cSeq, cAsg, cPar, cPar3, cIf, cRet, cRetN, cExp, cPass, cTst, cTru, cVar, cCon, cBin, cB, cBM, cTup, cCall, aCons, aNil, gNm, gTp, gsCons, gsNil, gSb, tAndF, tOrF, tNotF, vAnd, vOr, vNot, cIte, Res.bind, onRes, endB, List.getElem?_cons_zero, List.getElem?_cons_succ, List.set_cons_succ, List.set_cons_zero, List.length_cons, List.length_nil, if_true, if_false, Bool.false_eq_true, Bool.not_true, Bool.not_false, e1, isD, isNonD, cFld, s1, s2, q3, tup_rl, s3, e4, s4, e5, s5, e6, s6]
  unfold cf_Web___init__ fzF
  rw [eb]
  have ko : KO (h ++ [O.ins 0 []]) (h ++ [O.ins 0 (webG.zip (webV L))]) := by
    have := (KO.refl (h ++ [O.ins 0 []])).set h.length (o := O.ins 0 (webG.zip (webV L))) (by
      show clDs _ ((webG.zip (webV L)).map (·.2)) = true
      rw [show (webG.zip (webV L)).map (·.2) = webV L from rfl]
      exact cl_webV _ _)
    rwa [set_new] at this
  have tk : (h ++ [O.ins 0 (webG.zip (webV L))]).take (h ++ [O.ins 0 []]).length = h ++ [O.ins 0 (webG.zip (webV L))] := List.take_of_length_le (by rw [ln, ln]; exact Nat.le_refl _)
  have fn : frzD (h ++ [O.ins 0 (webG.zip (webV L))]) (h ++ [O.ins 0 []]).length 9 .non = some .non := frzD_cl rfl
  simp only [fzR, if_pos ko, fn, tk]
theorem make_spec {L : List T4} (w : WebL L) {r : Ev} {h h1 : AH} {fa : Ev → AH → Res (List D)} (ha : fa r h = .ok [.str (textL L)] h1) (hl : h1.length = h.length) (ko : KO h h1) : fz (cMake 0 2 cf_Web___init__ fa) r h = .ok (webD L) h1 := by
  have e : cMake 0 2 cf_Web___init__ fa r h = .ok (.ref h1.length) (h1 ++ [O.ins 0 (webG.zip (webV L))]) := by
    simp only [cMake, ha, Res.bind, mkRun, List.length_cons, List.length_nil, if_true, init_spec w h1]
  unfold fz
  rw [e]
  have g : (h1 ++ [O.ins 0 (webG.zip (webV L))])[h.length]? = some (.ins 0 (webG.zip (webV L))) := by rw [← hl]; exact get_new
  have fr : frzD (h1 ++ [O.ins 0 (webG.zip (webV L))]) h.length 9 (.ref h1.length) = some (webD L) := by
    rw [hl]
    unfold frzD
    rw [if_neg (by simp [clD])]
    simp only [g]
    rw [show (webG.zip (webV L)).map (·.2) = webV L from rfl, show (webG.zip (webV L)).map (·.1) = webG from rfl, mapP_cl (cl_webV _ _)]
    rfl
  have tk : (h1 ++ [O.ins 0 (webG.zip (webV L))]).take h.length = h1 := by rw [← hl]; exact take_app
  simp only [fzR, if_pos (ko.app2 _), fr, tk]
/-! ### fields and properties -/
theorem fld_spec {L : List T4} {h h1 : AH} {r : Ev} {fo : Ev → AH → Res D} {call : Nat → List D → AH → Res D} {g : Str} {d : D} (hf : fo r h = .ok (webD L) h1)
    (hg : webG.contains g = true) (hd : (webG.zip (webV L)).lookup g = some d) : cAttr ct call nps g fo r h = .ok d h1 := by
  have e : ct[0]? = some ct[0] := rfl
  have hg' : ct[0].fields.contains g = true := hg
  simp only [cAttr, hf, Res.bind, webD, clsOf, e, hg', if_true, hd]
theorem prop_spec {L : List T4} {h h1 : AH} {i : Nat} {r : Ev} {fo : Ev → AH → Res D} {call : Nat → List D → AH → Res D} {g : Str} {d : D} (hf : fo r h = .ok (webD L) h1)
    (hg : webG.contains g = false) (hp : ct[0].props.lookup g = some i) (hn : nps i = 1) (hc : call i [webD L] h1 = .ok d h1) : cAttr ct call nps g fo r h = .ok d h1 := by
  have e : ct[0]? = some ct[0] := rfl
  have hg' : ct[0].fields.contains g = false := hg
  have hw : clsOf h1 (webD L) = some (0, webG.zip (webV L)) := rfl
  simp only [cAttr, hf, Res.bind, hw, e, hg', hp, hn, hc, Bool.false_eq_true, if_false, if_true]
theorem lk_rows (L : List T4) : (webG.zip (webV L)).lookup ("rows" : Str) = some (.tup ((S4 L).map T4.d)) := by kernel_rfl
theorem lk_quad (L : List T4) : (webG.zip (webV L)).lookup ("quadruples" : Str) = some (.tup ((Q4 (S4 L)).map T4.d)) := by kernel_rfl
theorem lk_ways (L : List T4) : (webG.zip (webV L)).lookup ("ways" : Str) = some (waysD (S4 L)) := by kernel_rfl
theorem lk_lines (L : List T4) : (webG.zip (webV L)).lookup ("lines" : Str) = some (.str (textL (S4 L))) := by kernel_rfl
theorem lk_letters (L : List T4) : (webG.zip (webV L)).lookup ("letters" : Str) = some (.str (lettersL (S4 L))) := by kernel_rfl
theorem len_ways (S : List T4) (h : AH) : lenO [waysD S] h = some (.int ((mj S + 1 : Nat) : Int), h) := by
  simp only [waysD, len_rl, List.length_map, List.length_range]
theorem is_web (L : List T4) (h : AH) : tgD h (webD L) = some (.own 0) := rfl
theorem lkw : tb_Web.lookup (.own 0) = some true := by decide +kernel
theorem check_web_spec (L : List T4) (h : AH) : cf_check_web [webD L] h = .ok .non h := by
  refine fzF_cl0 (show endB (f_check_web [some (webD L)] h) = _ from ?_) rfl
  simp only [f_check_web, cSeq, cAsg, cPar, cPar3, cIf, cRet, cRetN, cExp, cPass, cTst, cTru, cVar, cCon, cBin, cB, cBM, cTup, cCall, aCons, aNil, gNm, gTp, gsCons, gsNil, gSb, tAndF, tOrF, tNotF, vAnd, vOr, vNot, cIte, Res.bind, onRes, endB, List.getElem?_cons_zero, List.getElem?_cons_succ, List.set_cons_succ, List.set_cons_zero, List.length_cons, List.length_nil, if_true, if_false, Bool.false_eq_true, Bool.not_true, Bool.not_false, cIsi, is_web, lkw, truD]

end K05
namespace K05
open PySem L2 PI
/-! ### the cup (as a purse whose count says nothing) -/
def purseO (s f : Int) (c : Nat) : O := .lst [.int s, .int f]
def PurseOk (s f : Int) (c : Nat) : Prop := 0 ≤ s ∧ s < 2147483629 ∧ 0 ≤ f
theorem cl_purse (n : Nat) (s f : Int) (c : Nat) : clO n (purseO s f c) = true := rfl
theorem set_set {h : AH} {a : Nat} {x y : O} : (h.set a x).set a y = h.set a y := List.set_set ..
theorem st_at {X : AH} {a : Nat} {l : List D} (k : Nat) (v : D) (hx : X[a]? = some (.lst l)) (hk : k < l.length) : setD (.ref a) (.int (k : Nat)) v X = some (X.set a (.lst (l.set k v))) := by
  have e : ixN l.length (k : Int) = some k := by
    unfold ixN
    have h1 : (0 : Int) ≤ k := by omega
    have h2 : (k : Int) < l.length := by omega
    simp [h2]
  simp only [setD, hx, e, Option.map_some]
theorem no_long (x : Int) {n : Nat} (hn : n < 1073741824) : Builtin.divisionGoesByPylong x n = false := by
  have l : ((n : Int)).natAbs.log2 ≤ 30 := by
    rw [Int.natAbs_natCast]
    by_cases z : n = 0
    · subst z; decide
    · have := (Nat.log2_lt z (k := 30)).mpr hn
      omega
  have e : (if ((n : Int) == 0) = true then 0 else ((n : Int)).natAbs.log2 / 30 + 1) ≤ 2 := by
    split
    · omega
    · omega
  unfold Builtin.divisionGoesByPylong
  simp only [Bool.and_eq_false_iff, decide_eq_false_iff_not]
  left
  omega
theorem fzF_set {cf : List D → AH → Res D} {ds : List D} {h : AH} {a : Nat} {o : O} {d : D} (e : cf ds h = .ok d (h.set a o)) (c : clD h.length d = true) (co : clO h.length o = true) : fzF cf ds h = .ok d (h.set a o) := by
  unfold fzF
  rw [e]
  have ko := (KO.refl h).set a co
  have tk : (h.set a o).take h.length = h.set a o := List.take_of_length_le (by rw [List.length_set]; exact Nat.le_refl _)
  simp only [fzR, if_pos ko, frzD_cl c, tk]
theorem sip_spec {s f : Int} {n a : Nat} {h : AH} (hn : 1 ≤ n) (hn2 : n < 1000000) (ok : PurseOk s f 0) (ha : h[a]? = some (purseO s f 0)) :
    ∃ s' f' r, cf__law_sip [.ref a, .int (n : Nat)] h = .ok (.int (r : Nat)) (h.set a (purseO s' f' 0)) ∧ r < n ∧ PurseOk s' f' 0 := by
  obtain ⟨s0, s1, f0⟩ := ok
  have al : a < h.length := (List.getElem?_eq_some_iff.mp ha).1
  have i0 : ixD (.ref a) (.int 0) h = .ok (.int s) h := ix_lst (l := [.int s, .int f]) 0 ha rfl
  have np : (0 : Int) < (n : Nat) := by omega
  have nb : (n : Nat) < 1073741824 := by omega
  have pM : (0 : Int) < 2147483629 := by decide
  have p1019 : (0 : Int) < 1019 ∧ (1019 : Int) < 1073741824 := by decide
  have m1 : (inR (2 ^ 64 - 1) s || inR (2 ^ 64 - 1) 48271) = true := by rw [show inR (2 ^ 64 - 1) 48271 = true by decide +kernel, Bool.or_true]
  generalize hs : (s * 48271 + 13) % 2147483629 = s'
  have b0 : 0 ≤ s' := by rw [← hs]; exact Int.emod_nonneg _ (by decide)
  have b1 : s' < 2147483629 := by rw [← hs]; exact Int.emod_lt_of_pos _ (by decide)
  have st1 : setD (.ref a) (.int 0) (.int s') h = some (h.set a (purseO s' f 0)) := by
    simp only [setD, ha, purseO]
    rfl
  have g1 : (h.set a (purseO s' f 0))[a]? = some (.lst [.int s', .int f]) := get_setS al
  have j0 : ixD (.ref a) (.int 0) (h.set a (purseO s' f 0)) = .ok (.int s') (h.set a (purseO s' f 0)) := ix_lst 0 g1 rfl
  have j1 : ixD (.ref a) (.int 1) (h.set a (purseO s' f 0)) = .ok (.int f) (h.set a (purseO s' f 0)) := ix_lst 1 g1 rfl
  by_cases fp : 0 < f
  · have dm : dmO [.int f, .int (n : Nat)] (h.set a (purseO s' f 0)) = some (.tup [.int (f / (n : Nat)), .int (f % (n : Nat))], h.set a (purseO s' f 0)) := by
      simp only [dmO]
      rw [if_pos ⟨np, no_long f nb⟩]
    have d1 : decide ((0 : Int) < f) = true := decide_eq_true fp
    have st2 : setD (.ref a) (.int 1) (.int (f / (n : Nat))) (h.set a (purseO s' f 0)) = some (h.set a (purseO s' (f / (n : Nat)) 0)) := by
      rw [show D.int 1 = D.int ((1 : Nat) : Int) from rfl, st_at 1 _ g1 (show 1 < 2 by decide), set_set]
      rfl
    have em : f % (n : Nat) = (((f % (n : Nat)).toNat : Nat) : Int) := (Int.toNat_of_nonneg (Int.emod_nonneg _ (by omega))).symm
    refine ⟨s', f / (n : Nat), (f % (n : Nat)).toNat, ?_, ?_, b0, b1, Int.ediv_nonneg f0 (by omega)⟩
    · rw [← em]
      refine fzF_set (show endB (f__law_sip [some (.ref a), some (.int (n : Nat)), none] h) = _ from ?_) rfl (cl_purse _ _ _ _)
      have l2 : [D.int (f / (n : Nat)), D.int (f % (n : Nat))].length = 2 := rfl
      simp only [f__law_sip, cSeq, cAsg, cBin, cVar, cCon, List.getElem?_cons_zero, List.getElem?_cons_succ, Res.bind, i0, mulD, if_pos m1, addD, cB, aCons, aNil, intO, modD, if_pos pM, hs, onRes, gSb, st1, Option.map_some, cIf, cTst, j1, gtD, d1, if_true, dm, gTp, if_pos l2, gsCons, gsNil, Option.bind_some, st2, gNm, List.set_cons_succ, List.set_cons_zero, cRet, cPass, endB]
    · have := Int.emod_lt_of_pos f np
      omega
  · have d1 : decide ((0 : Int) < f) = false := decide_eq_false fp
    have em : s' / 1019 % (n : Nat) = (((s' / 1019 % (n : Nat)).toNat : Nat) : Int) := (Int.toNat_of_nonneg (Int.emod_nonneg _ (by omega))).symm
    refine ⟨s', f, (s' / 1019 % (n : Nat)).toNat, ?_, ?_, b0, b1, f0⟩
    · rw [← em]
      refine fzF_set (show endB (f__law_sip [some (.ref a), some (.int (n : Nat)), none] h) = _ from ?_) rfl (cl_purse _ _ _ _)
      simp only [f__law_sip, cSeq, cAsg, cBin, cVar, cCon, List.getElem?_cons_zero, List.getElem?_cons_succ, Res.bind, i0, mulD, if_pos m1, addD, cB, aCons, aNil, intO, modD, if_pos pM, hs, onRes, gSb, st1, Option.map_some, cIf, cTst, j1, gtD, d1, Bool.false_eq_true, if_false, j0, fdivD, if_pos p1019, if_pos np, cRet, cPass, endB]
    · have := Int.emod_lt_of_pos (s' / 1019) np
      omega
/-- the purse at a behind some draws: all else is as it was -/
def Dr (a : Nat) (h h' : AH) (c : Nat) : Prop := ∃ s f, h' = h.set a (purseO s f c) ∧ PurseOk s f c ∧ a < h.length
theorem Dr.at {a c : Nat} {h h' : AH} (d : Dr a h h' c) : ∃ s f, h'[a]? = some (purseO s f c) ∧ PurseOk s f c ∧ a < h'.length := by
  obtain ⟨s, f, rfl, ok, al⟩ := d
  exact ⟨s, f, get_setS al, ok, by rw [List.length_set]; exact al⟩
theorem Dr.len {a c : Nat} {h h' : AH} (d : Dr a h h' c) : h'.length = h.length := by
  obtain ⟨s, f, rfl, _⟩ := d
  exact List.length_set
theorem Dr.trans {a c c' : Nat} {h h1 h2 : AH} (d : Dr a h h1 c) (e : Dr a h1 h2 c') : Dr a h h2 c' := by
  obtain ⟨s, f, rfl, ok, al⟩ := d
  obtain ⟨s2, f2, rfl, ok2, al2⟩ := e
  exact ⟨s2, f2, set_set, ok2, al⟩
theorem Dr.ko {a c : Nat} {h h' : AH} (d : Dr a h h' c) : KO h h' := by
  obtain ⟨s, f, rfl, _⟩ := d
  exact (KO.refl h).set a (cl_purse _ _ _ _)
theorem Dr.app {a c : Nat} {h h' : AH} (d : Dr a h h' c) (j : AH) : Dr a (h ++ j) (h' ++ j) c := by
  obtain ⟨s, f, rfl, ok, al⟩ := d
  exact ⟨s, f, by rw [List.set_append_left _ _ al], ok, by rw [List.length_append]; omega⟩
/-- what stands behind the heap is not touched -/
theorem Dr.unapp {a c : Nat} {h X j : AH} (d : Dr a (h ++ j) X c) (al : a < h.length) : ∃ h', X = h' ++ j ∧ Dr a h h' c := by
  obtain ⟨s, f, rfl, ok, _⟩ := d
  exact ⟨h.set a (purseO s f c), by rw [List.set_append_left _ _ al], s, f, rfl, ok, al⟩
def Pu (a : Nat) (h : AH) (c : Nat) : Prop := ∃ s f, h[a]? = some (purseO s f c) ∧ PurseOk s f c
theorem Dr.pu {a c : Nat} {h h' : AH} (d : Dr a h h' c) : Pu a h' c := let ⟨s, f, e, ok, _⟩ := d.at; ⟨s, f, e, ok⟩
theorem Pu.lt {a c : Nat} {h : AH} (p : Pu a h c) : a < h.length := let ⟨_, _, e, _⟩ := p; (List.getElem?_eq_some_iff.mp e).1
theorem Pu.app {a c : Nat} {h : AH} (p : Pu a h c) (j : AH) : Pu a (h ++ j) c := let ⟨s, f, e, ok⟩ := p; ⟨s, f, get_app e, ok⟩
theorem Pu.dr {a c : Nat} {h : AH} (p : Pu a h c) : Dr a h h c := by
  obtain ⟨s, f, e, ok⟩ := p
  refine ⟨s, f, ?_, ok, (List.getElem?_eq_some_iff.mp e).1⟩
  refine List.ext_getElem? fun i => ?_
  by_cases z : a = i
  · subst z
    rw [get_setS (List.getElem?_eq_some_iff.mp e).1, e]
  · rw [List.getElem?_set_ne z]
/-- one draw -/
theorem sip_dr {n a : Nat} {h : AH} (hn : 1 ≤ n) (hn2 : n < 1000000) (p : Pu a h 0) : ∃ r h', r < n ∧ cf__law_sip [.ref a, .int (n : Nat)] h = .ok (.int (r : Nat)) h' ∧ Dr a h h' 0 := by
  obtain ⟨s, f, e, ok⟩ := p
  obtain ⟨s', f', r, e2, hr, ok'⟩ := sip_spec hn hn2 ok e
  exact ⟨r, _, hr, e2, s', f', rfl, ok', (List.getElem?_eq_some_iff.mp e).1⟩

end K05
namespace K05
open PySem L2 PI
theorem ix_kl {h : AH} {l : List D} (k : Nat) {d : D} (hd : l[k]? = some d) : ixD (.kl l) (.int (k : Int)) h = .ok d h := by
  simp only [ixD, atI_nat l k, hd]
theorem len_kl {l : List D} (h : AH) : lenO [.kl l] h = some (.int (l.length : Nat), h) := rfl
theorem cutL_map (l : List Int) : ∃ l' : List Int, cutL (l.map D.int) none (some 2) = l'.map D.int ∧ l'.length ≤ l.length := by
  refine ⟨cutL l none (some 2), ?_, ?_⟩
  · simp only [cutL, List.length_map, List.map_take, List.map_drop]
  · simp only [cutL, List.length_take, List.length_drop]
    omega
def pBody : Ev → AH → RS := (cSeq
      (cAsg (cBin modD (cB intO (aCons (cBin addD (cBin mulD (cVar 2) (cCon (.int 31))) (cVar 3)) aNil)) (cCon (.int 1000000007))) (gNm 2))
      cPass)
noncomputable def pA : Ev → AH → RS := (cAsg (cIte (cTst (cBin ltD (cVar 1) (cB lenO (aCons (cVar 0) aNil)))) (cBin ixD (cVar 0) (cVar 1)) (cBin addD (cBin mulD (cCon (.int 5167)) (cVar 1)) (cCon (.int 90173)))) (gNm 2))
noncomputable def pB : Ev → AH → RS := (cFor (cIter (cIte (cTst (cBin geD (cVar 1) (cB lenO (aCons (cVar 0) aNil)))) (fz (cSl (cVar 0) oNo (oInt (cCon (.int 2))))) (fz (cLst aNil)))) (gNm 3) pBody 1000)
theorem pA_spec {ns : List Int} {h : AH} {k : Nat} : ∃ v : Int, pA [some (.kl (ns.map D.int)), some (.int (k : Nat)), none, none] h = .nx [some (.kl (ns.map D.int)), some (.int (k : Nat)), some (.int v), none] h := by
  have ln := len_kl (l := ns.map D.int) h
  rw [List.length_map] at ln
  have m1 : (inR (2 ^ 64 - 1) 5167 || inR (2 ^ 64 - 1) (k : Nat)) = true := by rw [show inR (2 ^ 64 - 1) 5167 = true by decide +kernel, Bool.true_or]
  by_cases c : k < ns.length
  · have d1 : decide (((k : Nat) : Int) < (ns.length : Nat)) = true := decide_eq_true (by omega)
    have ix := ix_kl (h := h) (l := ns.map D.int) (d := .int ns[k]) k (by rw [List.getElem?_map, List.getElem?_eq_getElem c]; rfl)
    refine ⟨ns[k], ?_⟩
    simp only [pA, cAsg, cIte, cTst, cBin, cVar, cB, aCons, aNil, List.getElem?_cons_zero, List.getElem?_cons_succ, Res.bind, ln, ltD, d1, if_true, ix, onRes, gNm, List.set_cons_succ, List.set_cons_zero]
  · have d1 : decide (((k : Nat) : Int) < (ns.length : Nat)) = false := decide_eq_false (by omega)
    refine ⟨5167 * (k : Nat) + 90173, ?_⟩
    simp only [pA, cAsg, cIte, cTst, cBin, cVar, cCon, cB, aCons, aNil, List.getElem?_cons_zero, List.getElem?_cons_succ, Res.bind, ln, ltD, d1, Bool.false_eq_true, if_false, mulD, m1, if_true, addD, onRes, gNm, List.set_cons_succ, List.set_cons_zero]
theorem pB_it {ns : List Int} {h : AH} {k : Nat} (v : Int) : ∃ l' : List Int, l'.length ≤ ns.length ∧ (cIter (cIte (cTst (cBin geD (cVar 1) (cB lenO (aCons (cVar 0) aNil)))) (fz (cSl (cVar 0) oNo (oInt (cCon (.int 2))))) (fz (cLst aNil)))) [some (.kl (ns.map D.int)), some (.int (k : Nat)), some (.int v), none] h = .ok (.rl (l'.map D.int)) h := by
  have ln := len_kl (l := ns.map D.int) h
  rw [List.length_map] at ln
  by_cases c : k < ns.length
  · have d1 : decide (((ns.length : Nat) : Int) ≤ (k : Nat)) = false := decide_eq_false (by omega)
    have fe : fz (cLst aNil) [some (.kl (ns.map D.int)), some (.int (k : Nat)), some (.int v), none] h = .ok (.rl []) h := fz_lst rfl rfl
    refine ⟨[], Nat.zero_le _, ?_⟩
    simp only [cIter, cIte, cTst, cBin, cVar, cB, aCons, aNil, List.getElem?_cons_zero, List.getElem?_cons_succ, Res.bind, ln, geD, d1, Bool.false_eq_true, if_false, fe, List.map_nil]
  · have d1 : decide (((ns.length : Nat) : Int) ≤ (k : Nat)) = true := decide_eq_true (by omega)
    obtain ⟨l', el, ll⟩ := cutL_map ns
    have ct : fz (cSl (cVar 0) oNo (oInt (cCon (.int 2)))) [some (.kl (ns.map D.int)), some (.int (k : Nat)), some (.int v), none] h = .ok (.rl (l'.map D.int)) h := by
      refine fz_lst ?_ (clDs_map fun _ _ => rfl)
      simp only [cSl, cVar, List.getElem?_cons_zero, Res.bind, oNo, oInt, cCon, cutD, listD, el]
    refine ⟨l', ll, ?_⟩
    simp only [cIter, cIte, cTst, cBin, cVar, cB, aCons, aNil, List.getElem?_cons_zero, List.getElem?_cons_succ, Res.bind, ln, geD, d1, if_true, ct]
theorem pB_spec {ns : List Int} {h : AH} {k : Nat} (v : Int) (hl : ns.length ≤ 63) : ∃ (w : Int) (y : Option D), pB [some (.kl (ns.map D.int)), some (.int (k : Nat)), some (.int v), none] h = .nx [some (.kl (ns.map D.int)), some (.int (k : Nat)), some (.int w), y] h := by
  obtain ⟨l', ll, it⟩ := pB_it (ns := ns) (h := h) (k := k) v
  have m1 : ∀ w : Int, (inR (2 ^ 64 - 1) w || inR (2 ^ 64 - 1) 31) = true := fun w => by rw [show inR (2 ^ 64 - 1) 31 = true by decide +kernel, Bool.or_true]
  obtain ⟨r', h', e, w, y, q1, q2⟩ := forl0 (g := gNm 3) (b := pBody) (it := .rl (l'.map D.int)) (n := 1000) (r := [some (.kl (ns.map D.int)), some (.int (k : Nat)), some (.int v), none]) (h := h) (l := l') (G := D.int)
    (fun i r h' => ∃ (w : Int) (y : Option D), r = [some (.kl (ns.map D.int)), some (.int (k : Nat)), some (.int w), y] ∧ h = h')
    (fun i r h' _ => next_rl i)
    (fun i hi r h' q => by
      obtain ⟨w, y, rfl, rfl⟩ := q
      have pM : (0 : Int) < 1000000007 := by decide
      refine ⟨_, _, _, _, rfl, Or.inl ?_, (w * 31 + l'[i]) % 1000000007, some (.int l'[i]), rfl, rfl⟩
      simp only [pBody, cSeq, cAsg, cBin, cVar, cCon, cB, aCons, aNil, List.getElem?_cons_zero, List.getElem?_cons_succ, List.set_cons_succ, List.set_cons_zero, Res.bind, mulD, m1, if_true, addD, intO, modD, if_pos pM, onRes, gNm, cPass]) (by omega) ⟨v, none, rfl, rfl⟩
  subst q1 q2
  refine ⟨w, y, ?_⟩
  simp only [pB, cFor, it, onRes, e]
theorem cup_dr {ns : List Int} {h : AH} {k : Nat} (hk : k < 1000) (hl : ns.length ≤ 63) : ∃ o, cf__law_cup [.kl (ns.map D.int), .int (k : Nat)] h = .ok (.ref h.length) (h ++ [o]) ∧ Pu h.length (h ++ [o]) 0 := by
  obtain ⟨v, e1⟩ := pA_spec (ns := ns) (h := h) (k := k)
  obtain ⟨w, y, e2⟩ := pB_spec (ns := ns) (h := h) (k := k) v hl
  have pM : (0 : Int) < 2147483629 := by decide
  have m1 : (inR (2 ^ 64 - 1) w || inR (2 ^ 64 - 1) 4093) = true := by rw [show inR (2 ^ 64 - 1) 4093 = true by decide +kernel, Bool.or_true]
  have m2 : (inR (2 ^ 64 - 1) 269 || inR (2 ^ 64 - 1) (k : Nat)) = true := by rw [show inR (2 ^ 64 - 1) 269 = true by decide +kernel, Bool.true_or]
  have pw : ∀ X, powD (.int 10) (.int 18) X = .ok (.int (10 ^ 18)) X := fun X => by
    simp only [powD]
    rw [if_pos (by decide)]
    rfl
  have ab : ∃ f : Int, 0 ≤ f ∧ ∀ X, (cIte (tOrF (cTst (cBin ltD (cVar 2) (cCon (.int 0)))) (cTst (cBin geD (cVar 2) (cBin powD (cCon (.int 10)) (cCon (.int 18)))))) (cB absO (aCons (cVar 2) aNil)) (cCon (.int 0))) [some (.kl (ns.map D.int)), some (.int (k : Nat)), some (.int w), y] X = .ok (.int f) X := by
    by_cases c : w < 0
    · refine ⟨-w, by omega, fun X => ?_⟩
      simp only [cIte, tOrF, cTst, cBin, cVar, cCon, cB, aCons, aNil, List.getElem?_cons_zero, List.getElem?_cons_succ, Res.bind, ltD, decide_eq_true c, if_true, absO, if_pos c]
    · by_cases c2 : (10 : Int) ^ 18 ≤ w
      · refine ⟨w, by omega, fun X => ?_⟩
        simp only [cIte, tOrF, cTst, cBin, cVar, cCon, cB, aCons, aNil, List.getElem?_cons_zero, List.getElem?_cons_succ, Res.bind, ltD, decide_eq_false c, Bool.false_eq_true, if_false, pw, geD, decide_eq_true c2, if_true, absO, if_neg c]
      · refine ⟨0, by omega, fun X => ?_⟩
        simp only [cIte, tOrF, cTst, cBin, cVar, cCon, cB, aCons, aNil, List.getElem?_cons_zero, List.getElem?_cons_succ, Res.bind, ltD, decide_eq_false c, Bool.false_eq_true, if_false, pw, geD, decide_eq_false c2]
  obtain ⟨f, f0, e3⟩ := ab
  refine ⟨purseO ((w * 4093 + 269 * (k : Nat) + 19) % 2147483629) f 0, ?_, _, f, get_new, Int.emod_nonneg _ (by decide), Int.emod_lt_of_pos _ (by decide), f0⟩
  show endB (cSeq pA (cSeq pB _) [some (.kl (ns.map D.int)), some (.int (k : Nat)), none, none] h) = _
  simp only [cSeq, e1, e2]
  simp only [cRet, cLst, cBin, cB, cVar, cCon, aCons, aNil, List.getElem?_cons_zero, List.getElem?_cons_succ, Res.bind, mulD, if_pos m1, if_pos m2, addD, intO, modD, if_pos pM, e3, newL, List.length_cons, List.length_nil, lm2, if_true, onRes, endB]
  rfl

end K05
namespace K05
open PySem L2 PI
/-! ### orders -/
theorem srtL_id {α : Type} {le : α → α → Bool} : ∀ {l : List α}, l.Pairwise (fun a b => le a b = true) → srtL le l = l
  | [], _ => rfl
  | [x], _ => rfl
  | x :: y :: r, h => by
    have h2 := List.pairwise_cons.mp h
    show insL le x (srtL le (y :: r)) = _
    rw [srtL_id h2.2]
    unfold insL
    rw [if_pos (h2.1 y List.mem_cons_self)]
theorem srtL_pw {α : Type} {le : α → α → Bool} (T : PySem.W.TotalLe le) : ∀ l : List α, (srtL le l).Pairwise fun a b => le a b = true
  | [] => List.Pairwise.nil
  | x :: r => insL_pw T (srtL_pw T r)
theorem perm_eq {α : Type} {le : α → α → Bool} : ∀ {l m : List α}, l.Perm m → l.Pairwise (fun a b => le a b = true) → m.Pairwise (fun a b => le a b = true) → (∀ a ∈ m, ∀ b ∈ m, le a b = true → le b a = true → a = b) → l = m
  | [], m, p, _, _, _ => (List.nil_perm.mp p).symm
  | x :: l, [], p, _, _, _ => absurd p.length_eq (by simp)
  | x :: l, y :: m, p, h1, h2, an => by
    have p1 := List.pairwise_cons.mp h1
    have p2 := List.pairwise_cons.mp h2
    have hx : x ∈ y :: m := p.mem_iff.mp List.mem_cons_self
    have hy : y ∈ x :: l := p.mem_iff.mpr List.mem_cons_self
    have e : x = y := by
      rcases List.mem_cons.mp hx with e | hx'
      · exact e
      · rcases List.mem_cons.mp hy with e | hy'
        · exact e.symm
        · exact an x hx y List.mem_cons_self (p1.1 y hy') (p2.1 x hx')
    subst e
    rw [perm_eq (List.Perm.cons_inv p) p1.2 p2.2 fun a ha b hb => an a (List.mem_cons_of_mem _ ha) b (List.mem_cons_of_mem _ hb)]
theorem srtL_eq {α : Type} {le : α → α → Bool} (T : PySem.W.TotalLe le) {l S : List α} (p : l.Perm S) (hs : S.Pairwise fun a b => le a b = true) (an : ∀ a ∈ S, ∀ b ∈ S, le a b = true → le b a = true → a = b) : srtL le l = S :=
  perm_eq (srtL_perm.trans p) (srtL_pw T l) hs an
theorem leT_total : PySem.W.TotalLe leT where
  trans a b c h1 h2 := by
    simp only [leT, decide_eq_true_eq] at *
    omega
  total a b := by
    simp only [leT, Bool.or_eq_true, decide_eq_true_eq]
    omega
def leP (p q : Nat × Nat) : Bool := decide (p.1 < q.1 ∨ (p.1 = q.1 ∧ p.2 ≤ q.2))
theorem leP_total : PySem.W.TotalLe leP where
  trans a b c h1 h2 := by
    simp only [leP, decide_eq_true_eq] at *
    omega
  total a b := by
    simp only [leP, Bool.or_eq_true, decide_eq_true_eq]
    omega
theorem leP_anti {a b : Nat × Nat} (h1 : leP a b = true) (h2 : leP b a = true) : a = b := by
  simp only [leP, decide_eq_true_eq] at *
  exact Prod.ext (by omega) (by omega)
/-! ### pairs as data -/
def pairD (p : Nat × Nat) : D := .tup [.int p.1, .int p.2]
def pdP (p : Nat × Nat) : PyData := .tuple [.int p.1, .int p.2]
theorem dataLe_pair (p q : Nat × Nat) : PySem.W.dataLe false pdP p q = leP p q := by
  show (!(PyProof.Rows.lexLt PyProof.Rows.itemOrd [.inl 1, .inl (q.1 : Int), .inl 1, .inl (q.2 : Int), .inl 0] [.inl 1, .inl (p.1 : Int), .inl 1, .inl (p.2 : Int), .inl 0])) = _
  have b : ∀ x y : Int, PyProof.Rows.itemLt (.inl x) (.inl y) = decide (x < y) := fun _ _ => rfl
  have n : PyProof.Rows.lexLt PyProof.Rows.itemOrd [] [] = false := rfl
  have lc : ∀ (x y : Int ⊕ List Nat) (r t : List (Int ⊕ List Nat)), PyProof.Rows.lexLt PyProof.Rows.itemOrd (x :: r) (y :: t) = (PyProof.Rows.itemLt x y || (!PyProof.Rows.itemLt y x && PyProof.Rows.lexLt PyProof.Rows.itemOrd r t)) := fun x y r t => PyProof.Rows.lex_cons (O := PyProof.Rows.itemOrd) x y r t
  simp only [lc, b, n]
  simp only [Int.lt_irrefl, decide_false, Bool.not_false, Bool.true_and, Bool.false_or, Bool.and_false, Bool.or_false]
  unfold leP
  rw [Bool.eq_iff_iff]
  simp only [Bool.not_eq_true', Bool.or_eq_false_iff, Bool.and_eq_false_iff, Bool.not_eq_false', decide_eq_false_iff_not, decide_eq_true_eq]
  omega
theorem dataLe_int (a b : Nat) : PySem.W.dataLe false (fun k : Nat => PyData.int (k : Int)) a b = decide (a ≤ b) := by
  show (!(PyProof.Rows.lexLt PyProof.Rows.itemOrd [.inl (b : Int)] [.inl (a : Int)])) = _
  have bb : ∀ x y : Int, PyProof.Rows.itemLt (.inl x) (.inl y) = decide (x < y) := fun _ _ => rfl
  have n : PyProof.Rows.lexLt PyProof.Rows.itemOrd [] [] = false := rfl
  have lc : ∀ (x y : Int ⊕ List Nat) (r t : List (Int ⊕ List Nat)), PyProof.Rows.lexLt PyProof.Rows.itemOrd (x :: r) (y :: t) = (PyProof.Rows.itemLt x y || (!PyProof.Rows.itemLt y x && PyProof.Rows.lexLt PyProof.Rows.itemOrd r t)) := fun x y r t => PyProof.Rows.lex_cons (O := PyProof.Rows.itemOrd) x y r t
  simp only [lc, bb, n, Bool.and_false, Bool.or_false]
  rw [Bool.eq_iff_iff]
  simp only [Bool.not_eq_true', decide_eq_false_iff_not, decide_eq_true_eq]
  omega
/-- sorted(ints) -/
theorem srt_ints (l : List Nat) (h : AH) : srtO [.rl (l.map fun k : Nat => D.int (k : Int))] h = some (.ref h.length, h ++ [O.lst ((srtL (fun a b => decide (a ≤ b)) l).map fun k : Nat => D.int (k : Int))]) := by
  have m1 : mapO (toP 8 h) (l.map fun k : Nat => D.int (k : Int)) = some (l.map fun k : Nat => PyData.int (k : Int)) := mapO_map (g := fun k : Nat => D.int (k : Int)) (k := fun k : Nat => PyData.int (k : Int)) (fun t => rfl) l
  have c1 : ((l.map fun k : Nat => PyData.int (k : Int)).all fun p => (l.map fun k : Nat => PyData.int (k : Int)).all fun q => PySem.W.alike p q) = true := List.all_eq_true.mpr fun p hp => List.all_eq_true.mpr fun q hq => by
    obtain ⟨s, _, rfl⟩ := List.mem_map.mp hp
    obtain ⟨t, _, rfl⟩ := List.mem_map.mp hq
    rfl
  have c2 : ((l.map fun k : Nat => PyData.int (k : Int)).all fun p => decide (p.depth ≤ 20)) = true := by
    simp only [List.all_map, List.all_eq_true]
    intro t _
    rfl
  have c3 : ((l.map fun k : Nat => PyData.int (k : Int)).all fun p => match p with
      | .none => false
      | .tuple _ => false
      | _ => true) = true := by
    simp only [List.all_map, List.all_eq_true]
    intro t _
    rfl
  have e : srtL (PySem.W.dataLe false fun d => (toP 8 h d).getD .none) (l.map fun k : Nat => D.int (k : Int)) = (srtL (fun a b => decide (a ≤ b)) l).map fun k : Nat => D.int (k : Int) := srtL_map (f := fun k : Nat => D.int (k : Int)) (le' := fun a b => decide (a ≤ b)) (fun s t => dataLe_int s t) l
  simp only [srtO, listD, m1]
  rw [if_pos ⟨c1, c2, .inr c3⟩, e]
/-- sorted(pairs) -/
theorem srt_pairs {d : D} (l : List (Nat × Nat)) (h : AH) (hd : listD h d = some (l.map pairD)) : srtO [d] h = some (.ref h.length, h ++ [O.lst ((srtL leP l).map pairD)]) := by
  have m1 : mapO (toP 8 h) (l.map pairD) = some (l.map pdP) := mapO_map (g := pairD) (k := pdP) (fun t => rfl) l
  have c1 : ((l.map pdP).all fun p => (l.map pdP).all fun q => PySem.W.alike p q) = true := List.all_eq_true.mpr fun p hp => List.all_eq_true.mpr fun q hq => by
    obtain ⟨s, _, rfl⟩ := List.mem_map.mp hp
    obtain ⟨t, _, rfl⟩ := List.mem_map.mp hq
    rfl
  have c2 : ((l.map pdP).all fun p => decide (p.depth ≤ 20)) = true := by
    simp only [List.all_map, List.all_eq_true]
    intro t _
    rfl
  have c3 : ((l.map pdP).all fun p => match p with
      | .tuple (_ :: _) => true
      | _ => false) = true := by
    simp only [List.all_map, List.all_eq_true]
    intro t _
    rfl
  have e : srtL (PySem.W.dataLe false fun d => (toP 8 h d).getD .none) (l.map pairD) = (srtL leP l).map pairD := srtL_map (f := pairD) (le' := leP) (fun s t => dataLe_pair s t) l
  simp only [srtO, hd, m1]
  rw [if_pos ⟨c1, c2, .inl c3⟩, e]
/-! ### equal data -/
theorem canL {α : Type} {f : α → PyData} : ∀ {l : List α}, (∀ x ∈ l, (f x).canLay0 = true) → PyData.canLayAll0 (l.map f) = true
  | [], _ => rfl
  | x :: l, h => by
    simp only [List.map_cons, PyData.canLayAll0, Bool.and_eq_true]
    exact ⟨h x List.mem_cons_self, canL fun y hy => h y (List.mem_cons_of_mem _ hy)⟩
theorem depL {α : Type} {f : α → PyData} {n : Nat} : ∀ {l : List α}, (∀ x ∈ l, (f x).depth ≤ n) → PyData.depthAll (l.map f) ≤ n
  | [], _ => Nat.zero_le _
  | x :: l, h => by
    simp only [List.map_cons, PyData.depthAll]
    exact Nat.max_le.mpr ⟨h x List.mem_cons_self, depL fun y hy => h y (List.mem_cons_of_mem _ hy)⟩
theorem shL {α : Type} {f : α → PyData} {l : List α} (h : ∀ x ∈ l, (f x).canLay0 = true ∧ (f x).depth ≤ 60) : SeqAt.shaped (.list (l.map f)) = true := by
  simp only [SeqAt.shaped, PyData.canLay0, PyData.depth, Bool.and_eq_true, decide_eq_true_eq]
  refine ⟨canL fun x hx => (h x hx).1, ?_⟩
  have : PyData.depthAll (l.map f) ≤ 60 := depL fun x hx => (h x hx).2
  exact decide_eq_true (by omega)
theorem eqvL {α : Type} {f : α → PyData} {e : α → α → Bool} (he : ∀ a b, PyData.eqv (f a) (f b) = e a b) : ∀ (l m : List α), PyData.eqvAll (l.map f) (m.map f) = (l.length == m.length && (l.zip m).all fun p => e p.1 p.2)
  | [], [] => rfl
  | [], _ :: _ => rfl
  | _ :: _, [] => rfl
  | a :: l, b :: m => by
    simp only [List.map_cons, PyData.eqvAll, he, eqvL he l m, List.zip_cons_cons, List.all_cons, List.length_cons]
    rw [Bool.eq_iff_iff]
    simp only [Bool.and_eq_true, beq_iff_eq]
    constructor
    · rintro ⟨h1, h2, h3⟩
      exact ⟨by omega, h1, h3⟩
    · rintro ⟨h1, h2, h3⟩
      exact ⟨h2, by omega, h3⟩
theorem eqvL_dec {α : Type} [DecidableEq α] {f : α → PyData} (he : ∀ a b, PyData.eqv (f a) (f b) = decide (a = b)) (l m : List α) : PyData.eqvAll (l.map f) (m.map f) = decide (l = m) := by
  rw [eqvL he]
  induction l generalizing m with
  | nil => cases m <;> rfl
  | cons a l ih =>
    cases m with
    | nil => rfl
    | cons b m =>
      have := ih m
      rw [Bool.eq_iff_iff] at this ⊢
      simp only [List.length_cons, List.zip_cons_cons, List.all_cons, Bool.and_eq_true, beq_iff_eq, decide_eq_true_eq, List.cons.injEq] at this ⊢
      constructor
      · rintro ⟨h1, h2, h3⟩
        exact ⟨h2, this.mp ⟨by omega, h3⟩⟩
      · rintro ⟨h1, h2⟩
        have := this.mpr h2
        exact ⟨by omega, h1, this.2⟩
theorem eqv_pair (a b : Nat × Nat) : PyData.eqv (pdP a) (pdP b) = decide (a = b) := by
  simp only [pdP, PyData.eqv, PyData.eqvAll, Bool.and_true]
  rw [Bool.eq_iff_iff]
  simp only [Bool.and_eq_true, beq_iff_eq, decide_eq_true_eq]
  constructor
  · rintro ⟨h1, h2⟩
    exact Prod.ext (by omega) (by omega)
  · rintro rfl
    exact ⟨rfl, rfl⟩
theorem sh_pairs (l : List (Nat × Nat)) : SeqAt.shaped (.list (l.map pdP)) = true := shL fun x _ => ⟨rfl, by show 1 ≤ 60; omega⟩
theorem toP_pairs {h : AH} {d : D} {l : List (Nat × Nat)} (n : Nat) (hd : lstD h d = some (l.map pairD)) : toP (n + 3) h d = some (.list (l.map pdP)) := by
  have m1 : mapO (toP (n + 2) h) (l.map pairD) = some (l.map pdP) := mapO_map (g := pairD) (k := pdP) (fun t => rfl) l
  cases d with
  | rl l' =>
    simp only [lstD, Option.some.injEq] at hd
    subst hd
    show (mapO (toP (n + 2) h) (l.map pairD)).map PyData.list = _
    rw [m1]
    rfl
  | ref a =>
    simp only [lstD] at hd
    split at hd
    · rename_i l' q
      cases hd
      unfold toP
      simp only [q, m1, Option.map_some]
    · cases hd
  | _ => cases hd
/-- [pairs] == [pairs] -/
theorem eq_pairs {h : AH} {d e : D} {l m : List (Nat × Nat)} (hd : lstD h d = some (l.map pairD)) (he : lstD h e = some (m.map pairD)) : eqB d e h = some (decide (l = m)) := by
  have sc : scalD d e = none := by
    cases d <;> first | (cases e <;> first | rfl | (simp only [lstD, reduceCtorEq] at he)) | (simp only [lstD, reduceCtorEq] at hd)
  simp only [eqB, sc, toP_pairs 9 hd, toP_pairs 9 he, Option.bind_some, sh_pairs]
  rw [if_pos ⟨trivial, trivial⟩]
  simp only [PyData.eqv, eqvL_dec eqv_pair]
theorem any_eqv {α : Type} [DecidableEq α] {f : α → PyData} (he : ∀ a b, PyData.eqv (f a) (f b) = decide (a = b)) (l : List α) (p : α) : ((l.map f).any fun z => PyData.eqv z (f p)) = decide (p ∈ l) := by
  rw [Bool.eq_iff_iff, List.any_map, List.any_eq_true, decide_eq_true_iff]
  simp only [Function.comp, he, decide_eq_true_eq]
  constructor
  · rintro ⟨x, hx, rfl⟩
    exact hx
  · intro hp
    exact ⟨p, hp, rfl⟩
/-- pair in pairs -/
theorem in_pairs {h : AH} {b : Nat} {l : List (Nat × Nat)} (p : Nat × Nat) (hb : h[b]? = some (.lst (l.map pairD))) : inB (pairD p) (.ref b) h = some (decide (p ∈ l)) := by
  have t1 : toP 12 h (.ref b) = some (.list (l.map pdP)) := toP_pairs 9 (by simp only [lstD, hb])
  have t2 : toP 12 h (pairD p) = some (pdP p) := rfl
  have f1 : flatD (pairD p) = false := rfl
  simp only [inB, hb, inLst, f1, Bool.false_eq_true, false_and, if_false, t1, t2, Option.bind_some, sh_pairs]
  rw [if_pos ⟨rfl, trivial⟩, any_eqv eqv_pair]
  exact congrArg some (decide_eq_decide.mpr Iff.rfl)

end K05
namespace K05
open PySem L2 PI
/-- a new list leaves as a value, the heap below changed -/
theorem fz_lst_ko {f : Ev → AH → Res D} {r : Ev} {h h1 : AH} {l : List D} (e : f r h = newL l h1) (hl : h1.length = h.length) (ko : KO h h1) (c : clDs h.length l = true) : fz f r h = .ok (.rl l) h1 := by
  unfold fz
  rw [e]
  unfold newL
  have g : (h1 ++ [O.lst l])[h.length]? = some (.lst l) := by rw [← hl]; exact get_new
  have fr : frzD (h1 ++ [O.lst l]) h.length 9 (.ref h1.length) = some (.rl l) := by
    rw [hl]
    unfold frzD
    rw [if_neg (by simp [clD])]
    simp only [g, mapP_cl c, Option.map_some]
  have tk : (h1 ++ [O.lst l]).take h.length = h1 := by rw [← hl]; exact take_app
  simp only [fzR, if_pos (ko.app2 _), fr, tk]
theorem Dr.ko2 {a c c' : Nat} {h X Y j : AH} (d : Dr a h X c) (e : Dr a X Y c') : KO (X ++ j) (Y ++ j) := (e.app j).ko
theorem fzF_dr {cf : List D → AH → Res D} {ds : List D} {h X j : AH} {a c : Nat} {d : D} (e : cf ds h = .ok d (X ++ j)) (dr : Dr a h X c) (cl : clD h.length d = true) : fzF cf ds h = .ok d X := by
  unfold fzF
  rw [e]
  have tk : (X ++ j).take h.length = X := by rw [← dr.len]; exact take_app
  simp only [fzR, if_pos (dr.ko.app2 j), frzD_cl cl, tk]
theorem app_new {X : AH} {l : List D} {d : D} (b : Nat) (hb : b = X.length) (hl : l.length < 1000000) : appO [.ref b, d] (X ++ [O.lst l]) = some (.non, X ++ [O.lst (l ++ [d])]) := by
  subst hb
  have g : (X ++ [O.lst l])[X.length]? = some (.lst l) := get_new
  have hl' : l.length < LIM := hl
  simp only [appO, g, if_pos hl', set_new]
theorem ty_new {X : AH} {l : List D} {j : AH} (b : Nat) (hb : b = X.length) : tyD "list" (X ++ O.lst l :: j) (.ref b) = true := by
  subst hb
  have g : (X ++ O.lst l :: j)[X.length]? = some (.lst l) := get_new
  simp only [tyD, g]
  rfl
structure EdgesOk (m : Nat) (E : List (Nat × Nat)) : Prop where
  lt : ∀ p ∈ E, p.1 < p.2 ∧ p.2 < m
  tree : ∀ k, 1 ≤ k → k < m → ∃ p ∈ E, p.2 = k
  srt : E.Pairwise fun a b => leP a b = true
  nd : E.Nodup
  few : E.length ≤ 2 * m
structure EPre (m : Nat) (E : List (Nat × Nat)) : Prop where
  lt : ∀ p ∈ E, p.1 < p.2 ∧ p.2 < m
  tree : ∀ k, 1 ≤ k → k < m → ∃ p ∈ E, p.2 = k
  nd : E.Nodup
theorem EPre.snoc {m : Nat} {E : List (Nat × Nat)} (e : EPre m E) {p : Nat × Nat} (h1 : p.1 < p.2) (h2 : p.2 < m) (h3 : p ∉ E) : EPre m (E ++ [p]) where
  lt := fun q hq => by
    rcases List.mem_append.mp hq with hq | hq
    · exact e.lt q hq
    · rw [List.mem_singleton.mp hq]; exact ⟨h1, h2⟩
  tree := fun k a b => by
    obtain ⟨q, hq, z⟩ := e.tree k a b
    exact ⟨q, List.mem_append_left _ hq, z⟩
  nd := by
    rw [List.nodup_append]
    exact ⟨e.nd, by simp, fun a ha b hb z => h3 (by rw [List.mem_singleton] at hb; rw [← hb, ← z]; exact ha)⟩
theorem pre_of {m : Nat} {E : List (Nat × Nat)} (hm : 2 ≤ m) (e1 : E.map (·.2) = (List.range (m - 1)).map (· + 1)) (e2 : ∀ p ∈ E, p.1 < p.2) : EPre m E where
  lt := fun p hp => by
    have := List.mem_map_of_mem (f := fun p : Nat × Nat => p.2) hp
    rw [e1] at this
    obtain ⟨k, hk, z⟩ := List.mem_map.mp this
    have := List.mem_range.mp hk
    exact ⟨e2 p hp, by omega⟩
  tree := fun k a b => by
    have : k ∈ E.map (·.2) := by
      rw [e1]
      exact List.mem_map.mpr ⟨k - 1, List.mem_range.mpr (by omega), by omega⟩
    obtain ⟨p, hp, z⟩ := List.mem_map.mp this
    exact ⟨p, hp, z⟩
  nd := by
    have : (E.map (·.2)).Nodup := by
      rw [e1]
      exact List.Pairwise.map _ (fun a b h => by omega) (List.nodup_range (n := m - 1))
    exact List.Pairwise.of_map _ (fun a b h z => h (by rw [z])) this
theorem sip_new {a n : Nat} {h X j : AH} (hn : 1 ≤ n) (hn2 : n < 1000000) (dr : Dr a h X 0) : ∃ r X', r < n ∧ cf__law_sip [.ref a, .int (n : Nat)] (X ++ j) = .ok (.int (r : Nat)) (X' ++ j) ∧ Dr a h X' 0 := by
  obtain ⟨r, Y, hr, e, d⟩ := sip_dr hn hn2 (dr.pu.app j)
  obtain ⟨X', rfl, d'⟩ := d.unapp dr.pu.lt
  exact ⟨r, X', hr, e, dr.trans d'⟩
/-- one of some things -/
theorem pick_new {α : Type} {a : Nat} {h X j : AH} {l : List α} {G : α → D} (hl : l ≠ []) (hn : l.length < 1000000) (hG : ∀ x ∈ l, ∀ n, clD n (G x) = true) (dr : Dr a h X 0) : ∃ x X', x ∈ l ∧ cf__law_pick [.ref a, .rl (l.map G)] (X ++ j) = .ok (G x) (X' ++ j) ∧ Dr a h X' 0 := by
  obtain ⟨r, X', hr, e, d⟩ := sip_new (n := l.length) (j := j) (List.length_pos_iff.mpr hl) hn dr
  have ln : ∀ Y, lenO [.rl (l.map G)] Y = some (.int (l.length : Nat), Y) := fun Y => by rw [len_rl, List.length_map]
  have ix : ∀ Y, ixD (.rl (l.map G)) (.int (r : Nat)) Y = .ok (G l[r]) Y := fun Y => ix_rl r (by rw [List.getElem?_map, List.getElem?_eq_getElem hr]; rfl)
  have hm := List.getElem_mem hr
  refine ⟨l[r], X', hm, ?_, d⟩
  have d2 : Dr a (X ++ j) (X' ++ j) 0 := by
    obtain ⟨s, f, q, ok, al⟩ := d
    obtain ⟨s0, f0, q0, _, _⟩ := dr
    have d' : Dr a X X' 0 := ⟨s, f, by rw [q, q0, set_set], ok, by rw [q0, List.length_set]; exact al⟩
    exact d'.app j
  refine fzF_dr (j := []) (show endB (f__law_pick [some (.ref a), some (.rl (l.map G))] (X ++ j)) = .ok _ ((X' ++ j) ++ []) from ?_) d2 (hG _ hm _)
  rw [List.append_nil]
  simp only [f__law_pick, cSeq, cAsg, cPar, cPar3, cIf, cRet, cRetN, cExp, cPass, cTst, cTru, cVar, cCon, cBin, cB, cBM, cTup, cCall, aCons, aNil, gNm, gTp, gsCons, gsNil, gSb, tAndF, tOrF, tNotF, vAnd, vOr, vNot, cIte, Res.bind, onRes, endB, List.getElem?_cons_zero, List.getElem?_cons_succ, List.set_cons_succ, List.set_cons_zero, List.length_cons, List.length_nil, if_true, if_false, Bool.false_eq_true, Bool.not_true, Bool.not_false, ln, e, ix]

end K05
namespace K05
open PySem L2 PI
/-! ### letters that are free -/
def sl (x : Nat) : D := .str (ltr x)
def usO (us : List Nat) : O := .lst (us.map sl)
theorem in_ltrs {X : AH} {u : Nat} {us : List Nat} (c : Nat) (hu : X[u]? = some (usO us)) : inB (.str (ltr c)) (.ref u) X = some (decide (c ∈ us)) := by
  have f1 : (us.map sl).all flatD = true := by simp [flatD, sl]
  have e : ((us.map sl).any fun y => eqF y (.str (ltr c))) = decide (c ∈ us) := by
    rw [Bool.eq_iff_iff, List.any_eq_true, decide_eq_true_iff]
    constructor
    · rintro ⟨y, hy, e⟩
      obtain ⟨n, hn, rfl⟩ := List.mem_map.mp hy
      have : (ltr n == ltr c) = true := e
      rw [ltr_eq, beq_iff_eq] at this
      rw [← this]
      exact hn
    · intro hc
      exact ⟨sl c, List.mem_map_of_mem hc, by show (ltr c == ltr c) = true; simp⟩
  simp only [inB, hu, usO, inLst, f1]
  rw [if_pos ⟨rfl, trivial⟩, e]
def freeL (us : List Nat) : List Nat := (List.range 12).filter fun c => !decide (c ∈ us)
theorem free_pos {us : List Nat} (h : us.length < 12) : 1 ≤ (freeL us).length := by
  refine Decidable.byContradiction fun z => ?_
  have z' : freeL us = [] := List.length_eq_zero_iff.mp (by omega)
  have all : ∀ x ∈ List.range 12, x ∈ us := fun x hx => by
    have := List.filter_eq_nil_iff.mp z' x hx
    simpa using this
  have := sub_len (l := List.range 12) (l' := us) List.nodup_range all
  rw [List.length_range] at this
  omega
/-! ### marks used -/
def usedAt (T : List T4) (k : Nat) : List Nat := T.flatMap fun t => (if t.i = k then [t.a] else []) ++ (if t.j = k then [t.b] else [])
theorem usedAt_snoc (T : List T4) (t : T4) (k : Nat) : usedAt (T ++ [t]) k = usedAt T k ++ ((if t.i = k then [t.a] else []) ++ (if t.j = k then [t.b] else [])) := by
  simp [usedAt]
def oth (E : List (Nat × Nat)) (k : Nat) : List Nat := E.flatMap fun p => (if p.1 = k then [p.2] else []) ++ (if p.2 = k then [p.1] else [])
theorem oth_mem {E : List (Nat × Nat)} {k x : Nat} (h : x ∈ oth E k) : ∃ p ∈ E, (p.1 = k ∧ p.2 = x) ∨ (p.2 = k ∧ p.1 = x) := by
  obtain ⟨p, hp, hx⟩ := List.mem_flatMap.mp h
  refine ⟨p, hp, ?_⟩
  rcases List.mem_append.mp hx with hx | hx
  · split at hx
    · rename_i q
      exact .inl ⟨q, (List.mem_singleton.mp hx).symm⟩
    · cases hx
  · split at hx
    · rename_i q
      exact .inr ⟨q, (List.mem_singleton.mp hx).symm⟩
    · cases hx
theorem oth_nd {k : Nat} : ∀ {E : List (Nat × Nat)}, E.Nodup → (∀ p ∈ E, p.1 < p.2) → (oth E k).Nodup
  | [], _, _ => List.nodup_nil
  | p :: E, nd, lt => by
    have n := List.nodup_cons.mp nd
    have ih := oth_nd (k := k) n.2 fun q hq => lt q (List.mem_cons_of_mem _ hq)
    have l := lt p List.mem_cons_self
    show ((if p.1 = k then [p.2] else []) ++ (if p.2 = k then [p.1] else []) ++ oth E k).Nodup
    by_cases q1 : p.1 = k
    · have q2 : ¬ p.2 = k := by omega
      rw [if_pos q1, if_neg q2, List.append_nil, List.singleton_append, List.nodup_cons]
      refine ⟨fun hm => ?_, ih⟩
      obtain ⟨q, hq, ⟨a, b⟩ | ⟨a, b⟩⟩ := oth_mem hm
      · have : q = p := Prod.ext (by omega) (by omega)
        exact n.1 (this ▸ hq)
      · have := lt q (List.mem_cons_of_mem _ hq)
        omega
    · rw [if_neg q1, List.nil_append]
      by_cases q2 : p.2 = k
      · rw [if_pos q2, List.singleton_append, List.nodup_cons]
        refine ⟨fun hm => ?_, ih⟩
        obtain ⟨q, hq, ⟨a, b⟩ | ⟨a, b⟩⟩ := oth_mem hm
        · have := lt q (List.mem_cons_of_mem _ hq)
          omega
        · have : q = p := Prod.ext (by omega) (by omega)
          exact n.1 (this ▸ hq)
      · rw [if_neg q2, List.nil_append]
        exact ih
def ends (t : T4) : Nat × Nat := (t.i, t.j)
theorem used_len (k : Nat) : ∀ T : List T4, (usedAt T k).length = (oth (T.map ends) k).length
  | [] => rfl
  | t :: T => by
    have e1 : usedAt (t :: T) k = ((if t.i = k then [t.a] else []) ++ (if t.j = k then [t.b] else [])) ++ usedAt T k := rfl
    have e2 : oth ((t :: T).map ends) k = ((if t.i = k then [t.j] else []) ++ (if t.j = k then [t.i] else [])) ++ oth (T.map ends) k := rfl
    rw [e1, e2]
    simp only [List.length_append]
    rw [used_len k T]
    split <;> split <;> rfl
theorem used_few {T : List T4} {m k : Nat} (nd : (T.map ends).Nodup) (lt : ∀ p ∈ T.map ends, p.1 < p.2 ∧ p.2 < m) : (usedAt T k).length ≤ m := by
  rw [used_len]
  have := sub_len (l' := List.range m) (oth_nd (k := k) nd fun p hp => (lt p hp).1) fun x hx => by
    obtain ⟨p, hp, ⟨a, b⟩ | ⟨a, b⟩⟩ := oth_mem hx
    · have := lt p hp
      exact List.mem_range.mpr (by omega)
    · have := lt p hp
      exact List.mem_range.mpr (by omega)
  rwa [List.length_range] at this
/-! ### the lists of marks used, one a house -/
def usH (hb : AH) (Us : List (List Nat)) (m : Nat) : AH := hb ++ O.lst (refsN hb.length m) :: Us.map usO
theorem us_lay (s : Nat) (hb : AH) (r : Ev) (m : Nat) (few : m < 1000) : ∀ (n i : Nat), m - i < n → i ≤ m → cLcL (gNm s) cYes (cLst aNil) hb.length n (.rng 0 m) i r (usH hb (List.replicate i []) i) = .ok () (usH hb (List.replicate m []) m)
  | 0, i, hn, _ => absurd hn (Nat.not_lt_zero _)
  | n + 1, i, hn, hle => by
    unfold cLcL
    simp only [nextI]
    by_cases hi : i < m
    · have ih := us_lay s hb r m few n (i + 1) (by omega) hi
      have g1 : (usH hb (List.replicate i []) i ++ [O.lst []])[hb.length]? = some (.lst (refsN hb.length i)) := by
        unfold usH
        exact get_app get_new
      have ll : (refsN hb.length i).length < sizeLine := by
        unfold refsN
        rw [List.length_map, List.length_range]
        have := sizeLine_big
        omega
      have e1 : (usH hb (List.replicate i []) i).length = hb.length + 1 + i := by
        unfold usH
        simp
        omega
      have e2 : (usH hb (List.replicate i []) i ++ [O.lst []]).set hb.length (.lst (refsN hb.length i ++ [D.ref (usH hb (List.replicate i []) i).length])) = usH hb (List.replicate (i + 1) []) (i + 1) := by
        rw [e1]
        unfold usH
        rw [List.append_assoc, List.cons_append, set_new, refsN_snoc, List.replicate_succ', List.map_append]
        rfl
      have e3 : ∀ r' Y, cLst aNil r' Y = .ok (.ref Y.length) (Y ++ [O.lst []]) := fun _ _ => rfl
      simp only [if_pos hi, gNm, cYes, e3, g1, if_pos ll, e2]
      exact ih
    · have e : i = m := by omega
      rw [if_neg hi, e]
theorem usH_refs {hb : AH} {Us : List (List Nat)} {m : Nat} : (usH hb Us m)[hb.length]? = some (.lst (refsN hb.length m)) := get_new
theorem usH_at {hb : AH} {Us : List (List Nat)} {m k : Nat} (hl : Us.length = m) (hk : k < m) : (usH hb Us m)[hb.length + 1 + k]? = some (usO (Us[k]'(hl ▸ hk))) := by
  unfold usH
  rw [List.getElem?_append_right (by omega), show hb.length + 1 + k - hb.length = k + 1 by omega, List.getElem?_cons_succ, List.getElem?_map, List.getElem?_eq_getElem (hl ▸ hk)]
  rfl
theorem usH_set {hb : AH} {Us : List (List Nat)} {m k : Nat} {us : List Nat} (hl : Us.length = m) (hk : k < m) : (usH hb Us m).set (hb.length + 1 + k) (usO us) = usH hb (Us.set k us) m := by
  unfold usH
  rw [List.set_append_right _ _ (by omega), show hb.length + 1 + k - hb.length = k + 1 by omega, List.set_cons_succ, List.map_set]
def usOf (T : List T4) (m : Nat) : List (List Nat) := (List.range m).map (usedAt T)
theorem usOf_len (T : List T4) (m : Nat) : (usOf T m).length = m := by simp [usOf]
theorem usOf_at {T : List T4} {m k : Nat} (h : k < (usOf T m).length) : (usOf T m)[k] = usedAt T k := by simp [usOf]
theorem usOf_step {T : List T4} {t : T4} {m : Nat} (hi : t.i < m) (hj : t.j < m) (hij : t.i ≠ t.j) :
    ((usOf T m).set t.i (usedAt T t.i ++ [t.a])).set t.j (usedAt T t.j ++ [t.b]) = usOf (T ++ [t]) m := by
  unfold usOf
  refine List.ext_getElem (by simp) fun k h1 h2 => ?_
  simp only [List.length_set, List.length_map, List.length_range] at h1 h2
  rw [List.getElem_set, List.getElem_map, List.getElem_range, usedAt_snoc]
  by_cases hk : t.j = k
  · subst hk
    rw [if_pos rfl, if_neg hij, if_pos rfl, List.nil_append]
  · rw [if_neg hk, if_neg hk, List.append_nil, List.getElem_set]
    by_cases hk2 : t.i = k
    · subst hk2
      rw [if_pos rfl, if_pos rfl]
    · rw [if_neg hk2, if_neg hk2, List.append_nil, List.getElem_map, List.getElem_range]

end K05
namespace K05
open PySem L2 PI
/-! ### marks for ties, drawn: the lists at work -/
def mst (X : AH) (b : Nat) (F : List D) (Us : List (List Nat)) (m : Nat) : AH := X ++ (O.lst F :: O.lst (refsN (b + 1) m) :: Us.map usO)
section
variable {X : AH} {b m k : Nat} {F : List D} {Us : List (List Nat)}
theorem mst_F (hb : X.length = b) : (mst X b F Us m)[b]? = some (.lst F) := by
  subst hb
  exact get_new
theorem mst_R (hb : X.length = b) : (mst X b F Us m)[b + 1]? = some (.lst (refsN (b + 1) m)) := by
  subst hb
  unfold mst
  rw [List.getElem?_append_right (by omega), show X.length + 1 - X.length = 1 by omega]
  rfl
theorem mst_U (hb : X.length = b) (hl : Us.length = m) (hk : k < m) : (mst X b F Us m)[b + 1 + 1 + k]? = some (usO (Us[k]'(hl ▸ hk))) := by
  subst hb
  unfold mst
  rw [List.getElem?_append_right (by omega), show X.length + 1 + 1 + k - X.length = k + 1 + 1 by omega, List.getElem?_cons_succ, List.getElem?_cons_succ, List.getElem?_map, List.getElem?_eq_getElem (hl ▸ hk)]
  rfl
theorem mst_ix (hb : X.length = b) (hk : k < m) : ixD (.ref (b + 1)) (.int (k : Nat)) (mst X b F Us m) = .ok (.ref (b + 1 + 1 + k)) (mst X b F Us m) := ix_lst k (mst_R hb) (by unfold refsN; rw [List.getElem?_map, List.getElem?_range hk]; rfl)
theorem mst_setU (hb : X.length = b) (hl : Us.length = m) (hk : k < m) (us : List Nat) : (mst X b F Us m).set (b + 1 + 1 + k) (usO us) = mst X b F (Us.set k us) m := by
  subst hb
  unfold mst
  rw [List.set_append_right _ _ (by omega), show X.length + 1 + 1 + k - X.length = k + 1 + 1 by omega, List.set_cons_succ, List.set_cons_succ, List.map_set]
theorem mst_setF (hb : X.length = b) (F' : List D) : (mst X b F Us m).set b (.lst F') = mst X b F' Us m := by
  subst hb
  exact set_new
theorem mst_appU (hb : X.length = b) (hl : Us.length = m) (hk : k < m) (x : Nat) (few : (Us[k]'(hl ▸ hk)).length < 1000) : appO [.ref (b + 1 + 1 + k), .str (ltr x)] (mst X b F Us m) = some (.non, mst X b F (Us.set k (Us[k]'(hl ▸ hk) ++ [x])) m) := by
  have g := mst_U (F := F) hb hl hk
  have l : ((Us[k]'(hl ▸ hk)).map sl).length < LIM := by
    rw [List.length_map]
    show _ < 1000000
    omega
  have e : (Us[k]'(hl ▸ hk)).map sl ++ [.str (ltr x)] = (Us[k]'(hl ▸ hk) ++ [x]).map sl := by
    rw [List.map_append]
    rfl
  simp only [appO, g, usO, if_pos l, e]
  exact congrArg some (congrArg _ (mst_setU hb hl hk _))
theorem mst_appF (hb : X.length = b) (d : D) (few : F.length < 1000000) : appO [.ref b, d] (mst X b F Us m) = some (.non, mst X b (F ++ [d]) Us m) := by
  have g := mst_F (F := F) (Us := Us) (m := m) hb
  have l : F.length < LIM := few
  simp only [appO, g, if_pos l, mst_setF hb]
theorem mst_tyF (hb : X.length = b) : tyD "list" (mst X b F Us m) (.ref b) = true := by
  simp only [tyD, mst_F hb]
  rfl
theorem mst_tyU (hb : X.length = b) (hl : Us.length = m) (hk : k < m) : tyD "list" (mst X b F Us m) (.ref (b + 1 + 1 + k)) = true := by
  simp only [tyD, mst_U (F := F) hb hl hk, usO]
  rfl
theorem mst_eq (hb : X.length = b) : usH (X ++ [O.lst F]) Us m = mst X b F Us m := by
  subst hb
  unfold usH mst
  rw [List.length_append, List.length_singleton, List.append_assoc]
  rfl
end

end K05
namespace K05
open PySem L2 PI
/-- ties with marks: what is drawn -/
structure TiesOk (m : Nat) (E : List (Nat × Nat)) (T : List T4) : Prop where
  ends : T.map ends = E
  let_ : ∀ t ∈ T, t.a < 12 ∧ t.b < 12
  nd : ∀ k, (usedAt T k).Nodup
theorem marks_app {a b m : Nat} {h X : AH} {T : List T4} {i j x y : Nat} (lX : X.length = b) (hi : i < m) (hj : j < m) (hij : i ≠ j) (few : ∀ k, (usedAt T k).length ≤ 100) (fT : T.length < 1000) {r : Ev} {f2 f3 f4 f5 f6 : Ev → AH → Res D}
    (e2 : ∀ Y, f2 r Y = .ok (.ref b) Y) (e3 : ∀ Y, f3 r Y = .ok (.ref (b + 1)) Y) (e4 : ∀ Y, f4 r Y = .ok (.int (i : Nat)) Y) (e5 : ∀ Y, f5 r Y = .ok (.int (j : Nat)) Y) (e6 : ∀ Y, f6 r Y = .ok (.rl [.str (ltr x), .str (ltr y)]) Y) :
    cSeq
      (cExp (cBM "list" appO (cBin ixD f3 f4) (aCons (cBin ixD f6 (cCon (.int 0))) aNil)))
      (cSeq
      (cExp (cBM "list" appO (cBin ixD f3 f5) (aCons (cBin ixD f6 (cCon (.int 1))) aNil)))
      (cSeq
      (cExp (cBM "list" appO f2 (aCons (cTup (aCons f4 (aCons (cBin ixD f6 (cCon (.int 0))) (aCons f5 (aCons (cBin ixD f6 (cCon (.int 1))) aNil))))) aNil)))
      cPass)) r (mst X b (T.map T4.d) (usOf T m) m) = .nx r (mst X b ((T ++ [T4.mk i x j y]).map T4.d) (usOf (T ++ [T4.mk i x j y]) m) m) := by
  have l0 := usOf_len T m
  have l1 : ((usOf T m).set i (usedAt T i ++ [x])).length = m := by rw [List.length_set, l0]
  have i0 : ∀ Y, ixD (.rl [.str (ltr x), .str (ltr y)]) (.int 0) Y = .ok (.str (ltr x)) Y := fun Y => ix_rl 0 rfl
  have i1 : ∀ Y, ixD (.rl [.str (ltr x), .str (ltr y)]) (.int 1) Y = .ok (.str (ltr y)) Y := fun Y => ix_rl 1 rfl
  have x1 := mst_ix (F := T.map T4.d) (Us := usOf T m) lX hi
  have a1 := mst_appU (F := T.map T4.d) lX l0 hi x (by rw [usOf_at]; have := few i; omega)
  rw [usOf_at] at a1
  have t1 := mst_tyU (F := T.map T4.d) lX l0 hi
  have x2 := mst_ix (F := T.map T4.d) (Us := (usOf T m).set i (usedAt T i ++ [x])) lX hj
  have hjl : j < ((usOf T m).set i (usedAt T i ++ [x])).length := by rw [l1]; exact hj
  have eu : ((usOf T m).set i (usedAt T i ++ [x]))[j]'hjl = usedAt T j := by rw [List.getElem_set_ne hij, usOf_at]
  have a2 := mst_appU (F := T.map T4.d) lX l1 hj y (by rw [eu]; have := few j; omega)
  rw [eu] at a2
  have st := usOf_step (T := T) (t := T4.mk i x j y) hi hj hij
  simp only at st
  rw [st] at a2
  have t2 := mst_tyU (F := T.map T4.d) lX l1 hj
  have a3 := mst_appF (F := T.map T4.d) (Us := usOf (T ++ [⟨i, x, j, y⟩]) m) (m := m) lX (T4.mk i x j y).d (by rw [List.length_map]; omega)
  have t3 := mst_tyF (F := T.map T4.d) (Us := usOf (T ++ [⟨i, x, j, y⟩]) m) (m := m) lX
  have ed : D.tup [.int (i : Nat), .str (ltr x), .int (j : Nat), .str (ltr y)] = (T4.mk i x j y).d := rfl
  have ef : T.map T4.d ++ [(T4.mk i x j y).d] = (T ++ [T4.mk i x j y]).map T4.d := by rw [List.map_append]; rfl
  rw [ef] at a3
  simp only [cSeq, cAsg, cPar, cPar3, cIf, cRet, cRetN, cExp, cPass, cTst, cTru, cVar, cCon, cBin, cB, cBM, cTup, cCall, aCons, aNil, gNm, gTp, gsCons, gsNil, gSb, tAndF, tOrF, tNotF, vAnd, vOr, vNot, cIte, Res.bind, onRes, endB, List.getElem?_cons_zero, List.getElem?_cons_succ, List.set_cons_succ, List.set_cons_zero, List.length_cons, List.length_nil, if_true, if_false, Bool.false_eq_true, Bool.not_true, Bool.not_false, e2, e3, e4, e5, e6, i0, i1, x1, t1, a1, x2, t2, a2, lm4, ed, t3, a3]

end K05
namespace K05
open PySem L2 PI
theorem line_eq2 (t : T4) : dg t.i ++ " " ++ ltr t.a ++ " " ++ dg t.j ++ " " ++ ltr t.b = t.line := by
  rw [← line_eq]
  refine TL.ext_tl ?_
  simp only [TL.tl_append]
  rfl
theorem str_int {i : Nat} (hi : i < 1000) (h : AH) : strO [.int (i : Int)] h = some (.str (dg i), h) := by
  have : ((i : Int)).natAbs < 2 ^ 64 := by omega
  simp only [strO, if_pos this]
  rfl
theorem norm_turn {t : T4} (h : t.i < t.j) : t.norm = t ∧ t.turn.norm = t := by
  unfold T4.norm T4.turn
  constructor
  · rw [if_neg (by omega)]
  · simp only
    rw [if_pos (by omega)]

end K05
namespace K05
open PySem L2 PI
theorem used_mem {T : List T4} {k u : Nat} (h : u ∈ usedAt T k) : ∃ t ∈ T, (t.i = k ∧ u = t.a) ∨ (t.j = k ∧ u = t.b) := by
  obtain ⟨t, ht, hu⟩ := List.mem_flatMap.mp h
  refine ⟨t, ht, ?_⟩
  rcases List.mem_append.mp hu with q | q
  · split at q
    · rename_i z
      exact .inl ⟨z, List.mem_singleton.mp q⟩
    · cases q
  · split at q
    · rename_i z
      exact .inr ⟨z, List.mem_singleton.mp q⟩
    · cases q

end K05
namespace K05
open PySem L2 PI
/-! ### what is drawn is a web -/
theorem inj_of_nodup {α β : Type} {f : α → β} : ∀ {l : List α}, (l.map f).Nodup → ∀ a ∈ l, ∀ b ∈ l, f a = f b → a = b
  | [], _, a, ha, _, _, _ => absurd ha List.not_mem_nil
  | x :: l, nd, a, ha, b, hb, e => by
    rw [List.map_cons, List.nodup_cons] at nd
    rcases List.mem_cons.mp ha with za | ha'
    · rcases List.mem_cons.mp hb with zb | hb'
      · rw [za, zb]
      · exact absurd (by rw [← za, e]; exact List.mem_map_of_mem hb') nd.1
    · rcases List.mem_cons.mp hb with zb | hb'
      · exact absurd (by rw [← zb, ← e]; exact List.mem_map_of_mem ha') nd.1
      · exact inj_of_nodup nd.2 a ha' b hb' e
theorem nodup_map {α β : Type} {f : α → β} : ∀ {l : List α}, l.Nodup → (∀ a ∈ l, ∀ b ∈ l, f a = f b → a = b) → (l.map f).Nodup
  | [], _, _ => List.nodup_nil
  | x :: l, nd, inj => by
    have n := List.nodup_cons.mp nd
    rw [List.map_cons, List.nodup_cons]
    refine ⟨fun hm => ?_, nodup_map n.2 fun a ha b hb => inj a (List.mem_cons_of_mem _ ha) b (List.mem_cons_of_mem _ hb)⟩
    obtain ⟨y, hy, e⟩ := List.mem_map.mp hm
    have := inj y (List.mem_cons_of_mem _ hy) x List.mem_cons_self e
    exact n.1 (this ▸ hy)
theorem leT_ends (s t : T4) : leT s t = leP (ends s) (ends t) := rfl
section
variable {m : Nat} {E : List (Nat × Nat)} {T : List T4}
theorem ties_lt (hE : EdgesOk m E) (hT : TiesOk m E T) : ∀ t ∈ T, t.i < t.j ∧ t.j < m := fun t ht => hE.lt (ends t) (by rw [← hT.ends]; exact List.mem_map_of_mem ht)
theorem ties_ok (hm : m ≤ 10) (hE : EdgesOk m E) (hT : TiesOk m E T) : ∀ t ∈ T, t.ok := fun t ht => by
  have a := ties_lt hE hT t ht
  have b := hT.let_ t ht
  exact ⟨by omega, by omega, b.1, b.2, by omega⟩
theorem ties_srt (hE : EdgesOk m E) (hT : TiesOk m E T) : T.Pairwise fun a b => leT a b = true := by
  have := hE.srt
  rw [← hT.ends, List.pairwise_map] at this
  exact this
theorem ties_anti (hE : EdgesOk m E) (hT : TiesOk m E T) : ∀ a ∈ T, ∀ b ∈ T, leT a b = true → leT b a = true → a = b := fun a ha b hb h1 h2 => by
  have nd := hE.nd
  rw [← hT.ends] at nd
  exact inj_of_nodup nd a ha b hb (leP_anti h1 h2)
theorem ties_len (hE : EdgesOk m E) (hT : TiesOk m E T) : T.length ≤ 2 * m := by
  have := congrArg List.length hT.ends
  rw [List.length_map] at this
  have := hE.few
  omega
theorem ties_ne (hm : 2 ≤ m) (hE : EdgesOk m E) (hT : TiesOk m E T) : T ≠ [] := fun z => by
  obtain ⟨p, hp, _⟩ := hE.tree 1 (by omega) (by omega)
  rw [← hT.ends, z] at hp
  cases hp
theorem ties_tree (hE : EdgesOk m E) (hT : TiesOk m E T) (k : Nat) (h1 : 1 ≤ k) (h2 : k < m) : ∃ t ∈ T, t.j = k ∧ t.i < k := by
  obtain ⟨p, hp, e⟩ := hE.tree k h1 h2
  have l := hE.lt p hp
  rw [← hT.ends] at hp
  obtain ⟨t, ht, rfl⟩ := List.mem_map.mp hp
  exact ⟨t, ht, e, by simp only [ends] at *; omega⟩
theorem ties_mj (hm : 2 ≤ m) (hE : EdgesOk m E) (hT : TiesOk m E T) : mj T + 1 = m := by
  obtain ⟨t, ht, e, _⟩ := ties_tree hE hT (m - 1) (by omega) (by omega)
  have a := le_mj ht
  obtain ⟨u, hu, e2⟩ := mj_mem (ties_ne hm hE hT)
  have := (ties_lt hE hT u hu).2
  omega
theorem marks_used (T : List T4) (k : Nat) : (marksAt T k).map (·.1) = (usedAt T k).map fun x => (Sum.inr (ltr x) : Key) := by
  induction T with
  | nil => rfl
  | cons t T ih =>
    have e1 : marksAt (t :: T) k = entr t k ++ marksAt T k := rfl
    have e2 : usedAt (t :: T) k = ((if t.i = k then [t.a] else []) ++ (if t.j = k then [t.b] else [])) ++ usedAt T k := rfl
    rw [e1, e2, List.map_append, List.map_append, ih]
    congr 1
    unfold entr
    split <;> split <;> rfl
theorem ties_inW (hm : 2 ≤ m) (hm2 : m ≤ 10) (hE : EdgesOk m E) (hT : TiesOk m E T) : InW T where
  ok := ties_ok hm2 hE hT
  lt := fun t ht => (ties_lt hE hT t ht).1
  ne := ties_ne hm hE hT
  few := by have := ties_len hE hT; omega
  nd := fun k => by
    rw [marks_used]
    exact nodup_map (hT.nd k) fun a _ b _ e => ltr_inj (Sum.inr.inj e)
theorem ties_con (hE : EdgesOk m E) (hT : TiesOk m E T) : Con T m := fun P p0 cl k => by
  induction k using Nat.strongRecOn with
  | _ k ih =>
    intro hk
    by_cases z : k = 0
    · rw [z]; exact p0
    · obtain ⟨t, ht, e, l⟩ := ties_tree hE hT k (by omega) hk
      rw [← e]
      exact (cl t ht).1 (ih t.i l (by omega))
theorem ties_S4 {L : List T4} (hE : EdgesOk m E) (hT : TiesOk m E T) (pm : (L.map T4.norm).Perm T) : S4 L = T := srtL_eq leT_total pm (ties_srt hE hT) (ties_anti hE hT)
theorem web_of {L : List T4} (hm : 2 ≤ m) (hm2 : m ≤ 10) (hE : EdgesOk m E) (hT : TiesOk m E T) (pm : (L.map T4.norm).Perm T) (ok : ∀ t ∈ L, t.ok) : WebL L := by
  have e := ties_S4 hE hT pm
  have l : L.length = T.length := by have := pm.length_eq; rwa [List.length_map] at this
  have tl := ties_len hE hT
  refine ⟨⟨ok, fun z => ?_, by omega, fun k s t hs ht q => ?_⟩, by rw [e]; exact ties_inW hm hm2 hE hT, by rw [e, ties_mj hm hE hT]; exact ties_con hE hT⟩
  · have := ties_ne hm hE hT
    rw [z] at l
    exact this (List.length_eq_zero_iff.mp l.symm)
  · rw [e] at hs ht
    have nd := hE.nd
    rw [← hT.ends] at nd
    have h1 : (T.map ends)[k]? = some (ends s) := by rw [List.getElem?_map, hs]; rfl
    have h2 : (T.map ends)[k + 1]? = some (ends t) := by rw [List.getElem?_map, ht]; rfl
    have e2 : ends s = ends t := Prod.ext q.1 q.2
    rw [← e2] at h2
    have a1 := (List.getElem?_eq_some_iff.mp h1)
    have a2 := (List.getElem?_eq_some_iff.mp h2)
    obtain ⟨b1, c1⟩ := a1
    obtain ⟨b2, c2⟩ := a2
    exact List.pairwise_iff_getElem.mp nd k (k + 1) b1 b2 (by omega) (c1.trans c2.symm)
theorem norm_self (hE : EdgesOk m E) (hT : TiesOk m E T) : T.map T4.norm = T := by
  have : T.map T4.norm = T.map id := List.map_congr_left fun t ht => (norm_turn (ties_lt hE hT t ht).1).1
  rw [this, List.map_id]
/-- the ties themselves, as a text -/
theorem web_self (hm : 2 ≤ m) (hm2 : m ≤ 10) (hE : EdgesOk m E) (hT : TiesOk m E T) : WebL T ∧ S4 T = T := by
  have pm : (T.map T4.norm).Perm T := by rw [norm_self hE hT]
  exact ⟨web_of hm hm2 hE hT pm (ties_ok hm2 hE hT), ties_S4 hE hT pm⟩
end

end K05
namespace K05
open PySem L2 PI
/-! ### lists at work, the ties behind -/
abbrev mJ (b : Nat) (F : List D) (Us : List (List Nat)) (m : Nat) : AH := (O.lst (refsN b m) :: Us.map usO) ++ [O.lst F]
def ms2 (X : AH) (b : Nat) (F : List D) (Us : List (List Nat)) (m : Nat) : AH := X ++ mJ b F Us m
section
variable {X : AH} {b m k : Nat} {F : List D} {Us : List (List Nat)}
theorem ms_len (hb : X.length = b) (hl : Us.length = m) : (ms2 X b F Us m).length = b + 1 + m + 1 := by
  unfold ms2
  rw [List.length_append, List.length_append, List.length_cons, List.length_map, hb, hl]
  show b + (m + 1 + 1) = _
  omega
theorem ms_F (hb : X.length = b) (hl : Us.length = m) : (ms2 X b F Us m)[b + 1 + m]? = some (.lst F) := by
  subst hb
  unfold ms2
  rw [List.getElem?_append_right (by omega), List.getElem?_append_right (by rw [List.length_cons, List.length_map]; omega)]
  rw [List.length_cons, List.length_map, show X.length + 1 + m - X.length - (Us.length + 1) = 0 by omega]
  rfl
theorem ms_R (hb : X.length = b) : (ms2 X b F Us m)[b]? = some (.lst (refsN b m)) := by
  subst hb
  unfold ms2
  exact get_new
theorem ms_U (hb : X.length = b) (hl : Us.length = m) (hk : k < m) : (ms2 X b F Us m)[b + 1 + k]? = some (usO (Us[k]'(hl ▸ hk))) := by
  subst hb
  unfold ms2
  rw [List.getElem?_append_right (by omega), List.getElem?_append_left (by rw [List.length_cons, List.length_map]; omega), show X.length + 1 + k - X.length = k + 1 by omega, List.getElem?_cons_succ, List.getElem?_map, List.getElem?_eq_getElem (hl ▸ hk)]
  rfl
theorem ms_ix (hb : X.length = b) (hk : k < m) : ixD (.ref b) (.int (k : Nat)) (ms2 X b F Us m) = .ok (.ref (b + 1 + k)) (ms2 X b F Us m) := ix_lst k (ms_R hb) (by unfold refsN; rw [List.getElem?_map, List.getElem?_range hk]; rfl)
theorem ms_setU (hb : X.length = b) (hl : Us.length = m) (hk : k < m) (us : List Nat) : (ms2 X b F Us m).set (b + 1 + k) (usO us) = ms2 X b F (Us.set k us) m := by
  subst hb
  unfold ms2
  rw [List.set_append_right _ _ (by omega), List.set_append_left _ _ (by rw [List.length_cons, List.length_map]; omega), show X.length + 1 + k - X.length = k + 1 by omega, List.set_cons_succ]
  unfold mJ
  rw [List.map_set]
theorem ms_setF (hb : X.length = b) (hl : Us.length = m) (F' : List D) : (ms2 X b F Us m).set (b + 1 + m) (.lst F') = ms2 X b F' Us m := by
  subst hb
  unfold ms2
  rw [List.set_append_right _ _ (by omega), List.set_append_right _ _ (by rw [List.length_cons, List.length_map]; omega), List.length_cons, List.length_map, show X.length + 1 + m - X.length - (Us.length + 1) = 0 by omega]
  rfl
theorem ms_appU (hb : X.length = b) (hl : Us.length = m) (hk : k < m) (x : Nat) (few : (Us[k]'(hl ▸ hk)).length < 1000) : appO [.ref (b + 1 + k), .str (ltr x)] (ms2 X b F Us m) = some (.non, ms2 X b F (Us.set k (Us[k]'(hl ▸ hk) ++ [x])) m) := by
  have g := ms_U (F := F) hb hl hk
  have l : ((Us[k]'(hl ▸ hk)).map sl).length < LIM := by
    rw [List.length_map]
    show _ < 1000000
    omega
  have e : (Us[k]'(hl ▸ hk)).map sl ++ [.str (ltr x)] = (Us[k]'(hl ▸ hk) ++ [x]).map sl := by
    rw [List.map_append]
    rfl
  simp only [appO, g, usO, if_pos l, e]
  exact congrArg some (congrArg _ (ms_setU hb hl hk _))
theorem ms_appF (hb : X.length = b) (hl : Us.length = m) (d : D) (few : F.length < 1000000) : appO [.ref (b + 1 + m), d] (ms2 X b F Us m) = some (.non, ms2 X b (F ++ [d]) Us m) := by
  have g := ms_F (F := F) hb hl
  have l : F.length < LIM := few
  simp only [appO, g, if_pos l, ms_setF hb hl]
theorem ms_tyF (hb : X.length = b) (hl : Us.length = m) : tyD "list" (ms2 X b F Us m) (.ref (b + 1 + m)) = true := by
  simp only [tyD, ms_F hb hl]
  rfl
theorem ms_tyU (hb : X.length = b) (hl : Us.length = m) (hk : k < m) : tyD "list" (ms2 X b F Us m) (.ref (b + 1 + k)) = true := by
  simp only [tyD, ms_U hb hl hk]
  rfl
end
theorem in_pairs_rl (p : Nat × Nat) (l : List (Nat × Nat)) (h : AH) : inB (pairD p) (.rl (l.map pairD)) h = some (decide (p ∈ l)) := by
  have t1 : toP 12 h (.rl (l.map pairD)) = some (.list (l.map pdP)) := toP_pairs 9 rfl
  have t2 : toP 12 h (pairD p) = some (pdP p) := rfl
  have f1 : flatD (pairD p) = false := rfl
  simp only [inB, inLst, f1, Bool.false_eq_true, false_and, if_false, t1, t2, Option.bind_some, sh_pairs]
  rw [if_pos ⟨rfl, trivial⟩, any_eqv eqv_pair]
  exact congrArg some (decide_eq_decide.mpr Iff.rfl)
theorem in_pairs_tup (p : Nat × Nat) (l : List (Nat × Nat)) (h : AH) : inB (pairD p) (.tup (l.map pairD)) h = some (decide (p ∈ l)) := by
  have m1 : mapO (toP 11 h) (l.map pairD) = some (l.map pdP) := mapO_map (g := pairD) (k := pdP) (fun t => rfl) l
  have t1 : toP 12 h (.tup (l.map pairD)) = some (.tuple (l.map pdP)) := by
    show (mapO (toP 11 h) (l.map pairD)).map PyData.tuple = _
    rw [m1]
    rfl
  have t2 : toP 12 h (pairD p) = some (pdP p) := rfl
  have f1 : flatD (pairD p) = false := rfl
  simp only [inB, inTup, f1, Bool.false_eq_true, false_and, if_false, t1, t2, Option.bind_some, sh_pairs]
  rw [if_pos ⟨rfl, trivial⟩, any_eqv eqv_pair]
  exact congrArg some (decide_eq_decide.mpr Iff.rfl)

end K05
namespace K05
open PySem L2 PI
/-! ### pairs drawn -/
noncomputable abbrev hP : Ev → AH → RS := cAsg (fz (cLc (cRng2 (aCons (cCon (.int 1)) (aCons (cVar 2) aNil))) (gNm 5) cYes (cTup (aCons (cCall 2 cf__law_sip (aCons (cVar 0) (aCons (cVar 5) aNil))) (aCons (cVar 5) aNil))) [5] 1000)) (gNm 3)
noncomputable abbrev hB : Ev → AH → RS := cSeq
      (cAsg (cBin addD (cCon (.int 1)) (cCall 2 cf__law_sip (aCons (cVar 0) (aCons (cBin subD (cVar 2) (cCon (.int 1))) aNil)))) (gNm 5))
      (cSeq
      (cAsg (cTup (aCons (cCall 2 cf__law_sip (aCons (cVar 0) (aCons (cVar 5) aNil))) (aCons (cVar 5) aNil))) (gNm 6))
      (cSeq
      (cAsg (cIte (cTst (cBin inD (cVar 6) (cVar 3))) (cVar 3) (fz (cBin addD (cVar 3) (fz (cLst (aCons (cVar 6) aNil)))))) (gNm 3))
      cPass))
def ev (a most m : Nat) (x3 x4 x5 x6 x7 x8 x9 x10 x11 x12 : Option D) : Ev := [some (.ref a), some (.int (most : Nat)), some (.int (m : Nat)), x3, x4, x5, x6, x7, x8, x9, x10, x11, x12, none, none]
theorem pairs1 {a most m : Nat} {h X : AH} (hm : 2 ≤ m) (hm2 : m ≤ 10) (dr : Dr a h X 0) : ∃ (E : List (Nat × Nat)) (X' : AH), EPre m E ∧ E.length = m - 1 ∧ Dr a h X' 0 ∧ hP (ev a most m none none none none none none none none none none) X = .nx (ev a most m (some (.rl (E.map pairD))) none none none none none none none none none) X' := by
  have r1 : cRng2 (aCons (cCon (.int 1)) (aCons (cVar 2) aNil)) (ev a most m none none none none none none none none none none) X = .ok (.rng 1 (m - 1)) X := by
    have b1 : inR (2 ^ 62 - 1) (m : Int) = true := inR_ok.mpr (by omega)
    have b0 : inR (2 ^ 62 - 1) 1 = true := by decide +kernel
    have en : ((m : Int) - 1).toNat = m - 1 := by omega
    simp only [ev, cRng2, cSeq, cAsg, cPar, cPar3, cIf, cRet, cRetN, cExp, cPass, cTst, cTru, cVar, cCon, cBin, cB, cBM, cTup, cCall, aCons, aNil, gNm, gTp, gsCons, gsNil, gSb, tAndF, tOrF, tNotF, vAnd, vOr, vNot, cIte, Res.bind, onRes, endB, List.getElem?_cons_zero, List.getElem?_cons_succ, List.set_cons_succ, List.set_cons_zero, List.length_cons, List.length_nil, if_true, if_false, Bool.false_eq_true, Bool.not_true, Bool.not_false, b0, b1, en, and_self]
  obtain ⟨ys, X', l1, q, e, dr'⟩ := fz_lc_inv (h := X) (h1 := X) (vs := [5]) (n := 1000) (g := gNm 5) (ce := cTup (aCons (cCall 2 cf__law_sip (aCons (cVar 0) (aCons (cVar 5) aNil))) (aCons (cVar 5) aNil))) (fi := cRng2 (aCons (cCon (.int 1)) (aCons (cVar 2) aNil))) (it := .rng 1 (m - 1)) (r := ev a most m none none none none none none none none none none)
    (List.range (m - 1)) (fun (k : Nat) => D.int (1 + (k : Int))) pairD (fun i y => y.2 = i + 1 ∧ y.1 < y.2) (fun _ Y => Dr a X Y 0) r1 (by rw [List.length_range]; omega) (by decide) dr.pu.dr (fun _ Y d => d.len) (fun _ Y d => d.ko) (fun i Y acc _ => next_rng 1 (m - 1) i _) (fun _ _ _ => rfl)
    (fun i hi Y acc d => by
      rw [List.length_range] at hi
      obtain ⟨x, Y', hx, et, d'⟩ := sip_new (n := i + 1) (j := [O.lst acc]) (by omega) (by omega) d
      have ei : (1 : Int) + (i : Nat) = ((i + 1 : Nat) : Int) := by omega
      refine ⟨_, (x, i + 1), Y', rfl, ⟨rfl, hx⟩, ?_, d'⟩
      rw [List.getElem_range, ei]
      simp only [ev, wipeD, cSeq, cAsg, cPar, cPar3, cIf, cRet, cRetN, cExp, cPass, cTst, cTru, cVar, cCon, cBin, cB, cBM, cTup, cCall, aCons, aNil, gNm, gTp, gsCons, gsNil, gSb, tAndF, tOrF, tNotF, vAnd, vOr, vNot, cIte, Res.bind, onRes, endB, List.getElem?_cons_zero, List.getElem?_cons_succ, List.set_cons_succ, List.set_cons_zero, List.length_cons, List.length_nil, if_true, if_false, Bool.false_eq_true, Bool.not_true, Bool.not_false, et, lm2]
      rfl)
  rw [List.length_range] at l1
  have e1 : ys.map (·.2) = (List.range (m - 1)).map (· + 1) := by
    refine List.ext_getElem (by simp [l1]) fun k h1 h2 => ?_
    rw [List.length_map] at h1
    have := (q k _ (List.getElem?_eq_getElem h1)).1
    simp only [List.getElem_map, List.getElem_range, this]
  have e2 : ∀ p ∈ ys, p.1 < p.2 := fun p hp => by
    obtain ⟨k, hk⟩ := List.mem_iff_getElem?.mp hp
    exact (q k p hk).2
  refine ⟨ys, X', pre_of hm e1 e2, l1, dr.trans dr', ?_⟩
  simp only [hP, cAsg, e, onRes, gNm]
  rfl
theorem pairs2 {a most m : Nat} {h X : AH} {E : List (Nat × Nat)} (hm : 2 ≤ m) (hm2 : m ≤ 10) (P : EPre m E) (few : E.length ≤ 100) (dr : Dr a h X 0) (x4 x5 x6 : Option D) : ∃ (E' : List (Nat × Nat)) (X' : AH) (y5 y6 : Option D), EPre m E' ∧ E'.length ≤ E.length + 1 ∧ Dr a h X' 0 ∧
    hB (ev a most m (some (.rl (E.map pairD))) x4 x5 x6 none none none none none none) X = .nx (ev a most m (some (.rl (E'.map pairD))) x4 y5 y6 none none none none none none) X' := by
  obtain ⟨u, X1, hu, e1, dr1⟩ := sip_new (n := m - 1) (j := []) (by omega) (by omega) dr
  rw [List.append_nil, List.append_nil] at e1
  obtain ⟨v, X2, hv, e2, dr2⟩ := sip_new (n := 1 + u) (j := []) (by omega) (by omega) dr1
  rw [List.append_nil, List.append_nil] at e2
  have c1 : ((m : Nat) : Int) - 1 = ((m - 1 : Nat) : Int) := by omega
  have c2 : (1 : Int) + (u : Nat) = ((1 + u : Nat) : Int) := by omega
  have nin := in_pairs_rl (v, 1 + u) E X2
  have pd : D.tup [.int (v : Nat), .int ((1 + u : Nat) : Int)] = pairD (v, 1 + u) := rfl
  by_cases q : (v, 1 + u) ∈ E
  · have dq := decide_eq_true q
    rw [dq] at nin
    refine ⟨E, X2, some (.int ((1 + u : Nat) : Int)), some (pairD (v, 1 + u)), P, by omega, dr2, ?_⟩
    simp only [ev, hB, cSeq, cAsg, cPar, cPar3, cIf, cRet, cRetN, cExp, cPass, cTst, cTru, cVar, cCon, cBin, cB, cBM, cTup, cCall, aCons, aNil, gNm, gTp, gsCons, gsNil, gSb, tAndF, tOrF, tNotF, vAnd, vOr, vNot, cIte, Res.bind, onRes, endB, List.getElem?_cons_zero, List.getElem?_cons_succ, List.set_cons_succ, List.set_cons_zero, List.length_cons, List.length_nil, if_true, if_false, Bool.false_eq_true, Bool.not_true, Bool.not_false, subD, c1, e1, addD, c2, e2, lm2, pd, inD, nin]
  · have dq := decide_eq_false q
    rw [dq] at nin
    have f1 : ∀ r Y, r[6]? = some (some (pairD (v, 1 + u))) → fz (cLst (aCons (cVar 6) aNil)) r Y = .ok (.rl [pairD (v, 1 + u)]) Y := fun r Y hr => by
      refine fz_lst ?_ rfl
      simp only [cLst, aCons, aNil, cVar, hr, Res.bind]
      rfl
    have f2 : fz (cBin addD (cVar 3) (fz (cLst (aCons (cVar 6) aNil)))) (ev a most m (some (.rl (E.map pairD))) x4 (some (.int ((1 + u : Nat) : Int))) (some (pairD (v, 1 + u))) none none none none none none) X2 = .ok (.rl ((E ++ [(v, 1 + u)]).map pairD)) X2 := by
      refine fz_lst ?_ (clDs_map fun _ _ => rfl)
      have ll : (E.map pairD).length + [pairD (v, 1 + u)].length ≤ LIM := by rw [List.length_map, List.length_singleton]; show _ ≤ 1000000; omega
      have ad : addD (.rl (E.map pairD)) (.rl [pairD (v, 1 + u)]) X2 = newL ((E ++ [(v, 1 + u)]).map pairD) X2 := by
        rw [List.map_append]
        simp only [addD, addL, lstD, if_pos ll]
        rfl
      have g1 := f1 (ev a most m (some (.rl (E.map pairD))) x4 (some (.int ((1 + u : Nat) : Int))) (some (pairD (v, 1 + u))) none none none none none none) X2 rfl
      have g0 : (ev a most m (some (.rl (E.map pairD))) x4 (some (.int ((1 + u : Nat) : Int))) (some (pairD (v, 1 + u))) none none none none none none)[3]? = some (some (.rl (E.map pairD))) := rfl
      simp only [cBin, cVar, g0, Res.bind, g1, ad]
    refine ⟨E ++ [(v, 1 + u)], X2, some (.int ((1 + u : Nat) : Int)), some (pairD (v, 1 + u)), P.snoc (by simp only; omega) (by simp only; omega) q, by rw [List.length_append, List.length_singleton]; omega, dr2, ?_⟩
    simp only [ev] at f2
    simp only [ev, hB, cSeq, cAsg, cPar, cPar3, cIf, cRet, cRetN, cExp, cPass, cTst, cTru, cVar, cCon, cBin, cB, cBM, cTup, cCall, aCons, aNil, gNm, gTp, gsCons, gsNil, gSb, tAndF, tOrF, tNotF, vAnd, vOr, vNot, cIte, Res.bind, onRes, endB, List.getElem?_cons_zero, List.getElem?_cons_succ, List.set_cons_succ, List.set_cons_zero, List.length_cons, List.length_nil, if_true, if_false, Bool.false_eq_true, Bool.not_true, Bool.not_false, subD, c1, e1, addD, c2, e2, lm2, pd, inD, nin, f2]
theorem pairs3 {a most m : Nat} {h X : AH} (hm : 2 ≤ m) (hm2 : m ≤ 10) (dr : Dr a h X 0) (R : Ev → AH → RS) : ∃ (E : List (Nat × Nat)) (X' : AH) (y4 y5 y6 : Option D), EPre m E ∧ E.length ≤ m + 1 ∧ Dr a h X' 0 ∧
    cSeq hP (cSeq (cFor (cRng1 (aCons (cCall 2 cf__law_sip (aCons (cVar 0) (aCons (cCon (.int 3)) aNil))) aNil)) (gNm 4) hB 1000) R) (ev a most m none none none none none none none none none none) X = R (ev a most m (some (.rl (E.map pairD))) y4 y5 y6 none none none none none none) X' := by
  obtain ⟨E, X1, P, l1, dr1, e1⟩ := pairs1 (most := most) hm hm2 dr
  obtain ⟨t, X2, ht, e2, dr2⟩ := sip_new (n := 3) (j := []) (by omega) (by omega) dr1
  rw [List.append_nil, List.append_nil] at e2
  obtain ⟨r', h', e3, E', X', y4, y5, y6, rfl, rfl, P', l', dr'⟩ := forl0 (g := gNm 4) (b := hB) (it := .rng 0 t) (n := 1000) (r := ev a most m (some (.rl (E.map pairD))) none none none none none none none none none) (h := X2) (l := List.range t) (G := fun (k : Nat) => D.int (k : Int))
    (fun i r h' => ∃ (E' : List (Nat × Nat)) (X' : AH) (y4 y5 y6 : Option D), r = ev a most m (some (.rl (E'.map pairD))) y4 y5 y6 none none none none none none ∧ h' = X' ∧ EPre m E' ∧ E'.length ≤ m - 1 + i ∧ Dr a h X' 0)
    (fun i r h' _ => next_rng0 t i _)
    (fun i hi r h' ⟨E', X', y4, y5, y6, er, eh, P', l', dr'⟩ => by
      subst er eh
      rw [List.length_range] at hi
      obtain ⟨E2, X3, z5, z6, P2, l2, d2, e⟩ := pairs2 (most := most) hm hm2 P' (by omega) dr' (some (.int (i : Nat))) y5 y6
      refine ⟨_, _, _, _, rfl, Or.inl (by rw [List.getElem_range]; exact e), E2, X3, _, z5, z6, rfl, rfl, P2, by omega, d2⟩) (by rw [List.length_range]; omega) ⟨E, X2, none, none, none, rfl, rfl, P, by omega, dr2⟩
  rw [List.length_range] at l'
  refine ⟨E', h', y4, y5, y6, P', by omega, dr', ?_⟩
  have rg : cRng1 (aCons (cCall 2 cf__law_sip (aCons (cVar 0) (aCons (cCon (.int 3)) aNil))) aNil) (ev a most m (some (.rl (E.map pairD))) none none none none none none none none none) X1 = .ok (.rng 0 t) X2 := by
    have b1 : inR (2 ^ 62 - 1) (t : Int) = true := inR_ok.mpr (by omega)
    have e2' : cf__law_sip [.ref a, .int 3] X1 = .ok (.int (t : Nat)) X2 := e2
    simp only [ev, cRng1, cSeq, cAsg, cPar, cPar3, cIf, cRet, cRetN, cExp, cPass, cTst, cTru, cVar, cCon, cBin, cB, cBM, cTup, cCall, aCons, aNil, gNm, gTp, gsCons, gsNil, gSb, tAndF, tOrF, tNotF, vAnd, vOr, vNot, cIte, Res.bind, onRes, endB, List.getElem?_cons_zero, List.getElem?_cons_succ, List.set_cons_succ, List.set_cons_zero, List.length_cons, List.length_nil, if_true, if_false, Bool.false_eq_true, Bool.not_true, Bool.not_false, e2', b1, Int.toNat_natCast]
  simp only [cSeq, e1, cFor, rg, onRes, e3]

end K05
namespace K05
open PySem L2 PI
/-! ### marks for one tie -/
noncomputable abbrev hIn : Ev → AH → Res D := fz (cLc (cIter (cCon (.str "abcdefghijkl"))) (gNm 14) (cTst (cBin ninD (cVar 14) (cBin ixD (cVar 7) (cVar 13)))) (cVar 14) [14] 1000)
noncomputable abbrev hCut : Ev → AH → Res D := fz (cSl hIn oNo (oInt (cBin addD (cCon (.int 2)) (cCall 2 cf__law_sip (aCons (cVar 0) (aCons (cCon (.int 2)) aNil))))))
noncomputable abbrev hM : Ev → AH → RS := cAsg (fz (cLc (cIter (fz (cLst (aCons (cVar 9) (aCons (cVar 5) aNil))))) (gNm 13) cYes hCut [13] 1000)) (gNm 10)
noncomputable abbrev hPk : Ev → AH → RS := cPar 11 12 (aCons (cCall 2 cf__law_pick (aCons (cVar 0) (aCons (cBin ixD (cVar 10) (cCon (.int 0))) aNil))) (aCons (cCall 2 cf__law_pick (aCons (cVar 0) (aCons (cBin ixD (cVar 10) (cCon (.int 1))) aNil))) aNil))
noncomputable abbrev hT : Ev → AH → RS := cSeq
      (cExp (cBM "list" appO (cBin ixD (cVar 7) (cVar 9)) (aCons (cVar 11) aNil)))
      (cSeq
      (cExp (cBM "list" appO (cBin ixD (cVar 7) (cVar 5)) (aCons (cVar 12) aNil)))
      (cSeq
      (cExp (cBM "list" appO (cVar 8) (aCons (cTup (aCons (cVar 9) (aCons (cVar 11) (aCons (cVar 5) (aCons (cVar 12) aNil))))) aNil)))
      cPass))
/-- the letters that are free at a house, as a list -/
theorem free_in {a b m k : Nat} {X : AH} {F : List D} {Us : List (List Nat)} {J : AH} (hb : X.length = b) (hl : Us.length = m) (hk : k < m) {r : Ev} (h7 : r[7]? = some (some (.ref b))) (h13 : r[13]? = some (some (.int (k : Nat)))) (hr : r.length = 15) :
    hIn r (ms2 X b F Us m ++ J) = .ok (.rl ((freeL (Us[k]'(hl ▸ hk))).map sl)) (ms2 X b F Us m ++ J) := by
  refine fz_lc_if (vs := [14]) (n := 1000) (g := gNm 14) (ct := cTst (cBin ninD (cVar 14) (cBin ixD (cVar 7) (cVar 13)))) (ce := cVar 14) (fi := cIter (cCon (.str "abcdefghijkl"))) (it := .str MK)
    (List.range 12) sl sl (fun c => !decide (c ∈ Us[k]'(hl ▸ hk))) rfl (by rw [List.length_range]; omega) (by decide) (fun _ i => by
      show some _ = some _
      rw [MK_at]
      rfl) (fun _ _ => rfl) (fun c hc acc => ⟨_, rfl, ?_, fun _ => ?_⟩)
  · have g14 : ((wipeD r [14]).set 14 (some (sl c)))[14]? = some (some (sl c)) := by
      rw [List.getElem?_set_self]
      simp only [wipeD, List.length_set, hr]
      omega
    have g7 : ((wipeD r [14]).set 14 (some (sl c)))[7]? = some (some (.ref b)) := by
      rw [List.getElem?_set_ne (by omega)]
      simp only [wipeD]
      rw [List.getElem?_set_ne (by omega), h7]
    have g13 : ((wipeD r [14]).set 14 (some (sl c)))[13]? = some (some (.int (k : Nat))) := by
      rw [List.getElem?_set_ne (by omega)]
      simp only [wipeD]
      rw [List.getElem?_set_ne (by omega), h13]
    have rx : ixD (.ref b) (.int (k : Nat)) (ms2 X b F Us m ++ J ++ [O.lst acc]) = .ok (.ref (b + 1 + k)) (ms2 X b F Us m ++ J ++ [O.lst acc]) := ix_lst k (get_app (get_app (ms_R hb))) (by unfold refsN; rw [List.getElem?_map, List.getElem?_range hk]; rfl)
    have ni := in_ltrs c (get_app (j := [O.lst acc]) (get_app (j := J) (ms_U (F := F) hb hl hk)))
    have ni' : inB (sl c) (.ref (b + 1 + k)) (ms2 X b F Us m ++ J ++ [O.lst acc]) = some (decide (c ∈ Us[k]'(hl ▸ hk))) := ni
    simp only [cTst, cBin, cVar, g14, g7, g13, Res.bind, rx, ninD, ni']
  · have g14 : ((wipeD r [14]).set 14 (some (sl c)))[14]? = some (some (sl c)) := by
      rw [List.getElem?_set_self]
      simp only [wipeD, List.length_set, hr]
      omega
    simp only [cVar, g14]
theorem cut_map {l : List Nat} {k : Nat} (hk : 1 ≤ k) (hl : l ≠ []) : ∃ l' : List Nat, l' ≠ [] ∧ (∀ x ∈ l', x ∈ l) ∧ l'.length ≤ l.length ∧ cutL (l.map sl) none (some (k : Int)) = l'.map sl := by
  refine ⟨l.take (min k l.length), ?_, fun x hx => List.mem_of_mem_take hx, by rw [List.length_take]; omega, ?_⟩
  · have := List.length_pos_iff.mpr hl
    refine List.length_pos_iff.mp ?_
    rw [List.length_take]
    omega
  · unfold cutL
    rw [HT.sIx_nat, HT.sIx_none, List.drop_zero, Nat.sub_zero, List.length_map, List.map_take]
theorem free_len (us : List Nat) : (freeL us).length ≤ 12 := by
  have := List.length_filter_le (fun c => !decide (c ∈ us)) (List.range 12)
  rwa [List.length_range] at this
/-- .. the first two or three of them -/
theorem cut_in {a b m k : Nat} {h X : AH} {F : List D} {Us : List (List Nat)} {J : AH} (hb : h.length = b) (dr : Dr a h X 0) (hl : Us.length = m) (hk : k < m) (few : (Us[k]'(hl ▸ hk)).length < 12) {r : Ev} (h0 : r[0]? = some (some (.ref a))) (h7 : r[7]? = some (some (.ref b))) (h13 : r[13]? = some (some (.int (k : Nat)))) (hr : r.length = 15) :
    ∃ (l : List Nat) (X' : AH), l ≠ [] ∧ l.length ≤ 12 ∧ (∀ x ∈ l, x < 12 ∧ x ∉ Us[k]'(hl ▸ hk)) ∧ Dr a h X' 0 ∧ hCut r (ms2 X b F Us m ++ J) = .ok (.rl (l.map sl)) (ms2 X' b F Us m ++ J) := by
  have lX : X.length = b := by rw [dr.len, hb]
  have e1 := free_in (a := a) (F := F) (J := J) lX hl hk h7 h13 hr
  obtain ⟨u, X', hu, e2, dr'⟩ := sip_new (n := 2) (j := mJ b F Us m ++ J) (by omega) (by omega) dr
  have e2' : cf__law_sip [.ref a, .int 2] (ms2 X b F Us m ++ J) = .ok (.int (u : Nat)) (ms2 X' b F Us m ++ J) := by
    unfold ms2
    rw [List.append_assoc X (mJ b F Us m) J, List.append_assoc X' (mJ b F Us m) J]
    exact e2
  have fp := free_pos few
  obtain ⟨l', ne, sub, ll, ec⟩ := cut_map (l := freeL (Us[k]'(hl ▸ hk))) (k := 2 + u) (by omega) (List.length_pos_iff.mp fp)
  have lX' : X'.length = b := by rw [dr'.len, hb]
  have fl := free_len (Us[k]'(hl ▸ hk))
  have ce : (2 : Int) + (u : Nat) = ((2 + u : Nat) : Int) := by omega
  refine ⟨l', X', ne, by omega, fun x hx => ?_, dr', ?_⟩
  · have := List.mem_filter.mp (sub x hx)
    exact ⟨List.mem_range.mp this.1, by simpa using this.2⟩
  · have d2 : Dr a X X' 0 := by
      obtain ⟨s, f, q, ok, al⟩ := dr'
      obtain ⟨s0, f0, q0, _, _⟩ := dr
      exact ⟨s, f, by rw [q, q0, set_set], ok, by rw [q0, List.length_set]; exact al⟩
    have ko : KO (ms2 X b F Us m ++ J) (ms2 X' b F Us m ++ J) := by
      unfold ms2
      rw [List.append_assoc X (mJ b F Us m) J, List.append_assoc X' (mJ b F Us m) J]
      exact (d2.app _).ko
    have lt : ms2 X' b F Us m = ms2 X' b F Us m := rfl
    refine fz_lst_ko ?_ (by rw [List.length_append, List.length_append, ms_len lX hl, ms_len lX' hl]) ko (clDs_map fun _ _ => rfl)
    simp only [cSl, e1, Res.bind, oNo, oInt, cBin, cCall, aCons, aNil, cVar, cCon, h0, List.length_cons, List.length_nil, if_true, e2', addD, ce, cutD, listD, ec]
/-- both lists -/
theorem marks_two {a b m most pi pj : Nat} {h X : AH} {F : List D} {Us : List (List Nat)} (hb : h.length = b) (dr : Dr a h X 0) (hl : Us.length = m) (hi : pi < m) (hj : pj < m) (fi : (Us[pi]'(hl ▸ hi)).length < 12) (fj : (Us[pj]'(hl ▸ hj)).length < 12) (E : Option D) (x4 x6 x8 x10 x11 x12 : Option D) :
    ∃ (l1 l2 : List Nat) (X' : AH), l1 ≠ [] ∧ l2 ≠ [] ∧ l1.length ≤ 12 ∧ l2.length ≤ 12 ∧ (∀ x ∈ l1, x < 12 ∧ x ∉ Us[pi]'(hl ▸ hi)) ∧ (∀ x ∈ l2, x < 12 ∧ x ∉ Us[pj]'(hl ▸ hj)) ∧ Dr a h X' 0 ∧
      hM (ev a most m E x4 (some (.int (pj : Nat))) x6 (some (.ref b)) x8 (some (.int (pi : Nat))) x10 x11 x12) (ms2 X b F Us m) =
        .nx (ev a most m E x4 (some (.int (pj : Nat))) x6 (some (.ref b)) x8 (some (.int (pi : Nat))) (some (.rl [.rl (l1.map sl), .rl (l2.map sl)])) x11 x12) (ms2 X' b F Us m) := by
  have f1 : ∀ Y, fz (cLst (aCons (cVar 9) (aCons (cVar 5) aNil))) (ev a most m E x4 (some (.int (pj : Nat))) x6 (some (.ref b)) x8 (some (.int (pi : Nat))) x10 x11 x12) Y = .ok (.rl ([pi, pj].map dN)) Y := fun Y => by
    refine fz_lst ?_ rfl
    simp only [ev, cLst, cSeq, cAsg, cPar, cPar3, cIf, cRet, cRetN, cExp, cPass, cTst, cTru, cVar, cCon, cBin, cB, cBM, cTup, cCall, aCons, aNil, gNm, gTp, gsCons, gsNil, gSb, tAndF, tOrF, tNotF, vAnd, vOr, vNot, cIte, Res.bind, onRes, endB, List.getElem?_cons_zero, List.getElem?_cons_succ, List.set_cons_succ, List.set_cons_zero, List.length_cons, List.length_nil, if_true, if_false, Bool.false_eq_true, Bool.not_true, Bool.not_false, lm2]
    rfl
  have hc : ∀ (i : Nat), i < 2 → ∃ k, [pi, pj][i]? = some k ∧ ∃ hk : k < m, (Us[k]'(hl ▸ hk)).length < 12 := fun i hi2 => by
    match i, hi2 with
    | 0, _ => exact ⟨pi, rfl, hi, fi⟩
    | 1, _ => exact ⟨pj, rfl, hj, fj⟩
  have lX : X.length = b := by rw [dr.len, hb]
  obtain ⟨ys, Z, l1, q, e, X', eZ, dr'⟩ := fz_lc_inv (h := ms2 X b F Us m) (h1 := ms2 X b F Us m) (vs := [13]) (n := 1000) (g := gNm 13) (ce := hCut) (fi := cIter (fz (cLst (aCons (cVar 9) (aCons (cVar 5) aNil))))) (it := .rl ([pi, pj].map dN)) (r := ev a most m E x4 (some (.int (pj : Nat))) x6 (some (.ref b)) x8 (some (.int (pi : Nat))) x10 x11 x12)
    [pi, pj] dN (fun l : List Nat => D.rl (l.map sl)) (fun i l => l ≠ [] ∧ l.length ≤ 12 ∧ ∀ k, [pi, pj][i]? = some k → ∀ hk : k < m, ∀ x ∈ l, x < 12 ∧ x ∉ Us[k]'(hl ▸ hk)) (fun _ Y => ∃ X', Y = ms2 X' b F Us m ∧ Dr a h X' 0)
    (by simp only [cIter, f1, Res.bind]) (by show 2 < 1000; omega) (by decide) ⟨X, rfl, dr⟩ (fun _ Y ⟨X', e, d⟩ => by subst e; rw [ms_len (by rw [d.len, hb]) hl, ms_len lX hl])
    (fun _ Y ⟨X', e, d⟩ => by
      subst e
      obtain ⟨s, f, q, ok, al⟩ := d
      obtain ⟨s0, f0, q0, _, _⟩ := dr
      have d' : Dr a X X' 0 := ⟨s, f, by rw [q, q0, set_set], ok, by rw [q0, List.length_set]; exact al⟩
      exact (d'.app _).ko)
    (fun i Y acc _ => next_rl i) (fun i l _ => by simp only [clD]; exact clDs_map fun _ _ => rfl)
    (fun i hi2 Y acc ⟨X1, e, d⟩ => by
      subst e
      obtain ⟨k, ek, hk, fk⟩ := hc i hi2
      have e0 : [pi, pj][i] = k := by
        have := List.getElem?_eq_getElem hi2
        rw [ek] at this
        exact (Option.some.inj this).symm
      rw [e0]
      obtain ⟨l, X2, ne, ll, hx, d2, ec⟩ := cut_in (J := [O.lst acc]) (F := F) hb d hl hk fk (r := (wipeD (ev a most m E x4 (some (.int (pj : Nat))) x6 (some (.ref b)) x8 (some (.int (pi : Nat))) x10 x11 x12) [13]).set 13 (some (dN k))) rfl rfl rfl rfl
      refine ⟨_, l, ms2 X2 b F Us m, rfl, ⟨ne, ll, fun k' ek' hk' => ?_⟩, ec, X2, rfl, d2⟩
      have : k = k' := Option.some.inj (ek.symm.trans ek')
      subst this
      exact hx)
  subst eZ
  match ys, l1, q with
  | [u, v], _, q =>
    obtain ⟨n1, s1, t1⟩ := q 0 u rfl
    obtain ⟨n2, s2, t2⟩ := q 1 v rfl
    refine ⟨u, v, X', n1, n2, s1, s2, t1 pi rfl hi, t2 pj rfl hj, dr', ?_⟩
    simp only [hM, cAsg, e, onRes, gNm]
    rfl

end K05
namespace K05
open PySem L2 PI
/-! ### ties drawn, as one list -/
theorem tie_turn {a b m most : Nat} {h X : AH} {T : List T4} (hm2 : m ≤ 10) (hb : h.length = b) (dr : Dr a h X 0) {pi pj : Nat} (lt1 : pi < pj) (lt2 : pj < m) (ltT : ∀ p ∈ T.map ends, p.1 < p.2 ∧ p.2 < m) (nd : (T.map ends).Nodup) (fT : T.length < 1000) (E : Option D) (x4 x6 x10 x11 x12 : Option D) :
    ∃ (x y : Nat) (X' : AH) (y10 : Option D), x < 12 ∧ y < 12 ∧ x ∉ usedAt T pi ∧ y ∉ usedAt T pj ∧ Dr a h X' 0 ∧
      cSeq hM (cSeq hPk hT) (ev a most m E x4 (some (.int (pj : Nat))) x6 (some (.ref b)) (some (.ref (b + 1 + m))) (some (.int (pi : Nat))) x10 x11 x12) (ms2 X b (T.map T4.d) (usOf T m) m) =
        .nx (ev a most m E x4 (some (.int (pj : Nat))) x6 (some (.ref b)) (some (.ref (b + 1 + m))) (some (.int (pi : Nat))) y10 (some (.str (ltr x))) (some (.str (ltr y)))) (ms2 X' b ((T ++ [T4.mk pi x pj y]).map T4.d) (usOf (T ++ [T4.mk pi x pj y]) m) m) := by
  have uf := fun k => used_few (k := k) nd ltT
  have hi : pi < m := by omega
  have l0 := usOf_len T m
  obtain ⟨l1, l2, X1, n1, n2, s1, s2, t1, t2, dr1, e1⟩ := marks_two (most := most) (F := T.map T4.d) (x8 := some (.ref (b + 1 + m))) hb dr l0 hi lt2 (by rw [usOf_at]; have := uf pi; omega) (by rw [usOf_at]; have := uf pj; omega) E x4 x6 x10 x11 x12
  obtain ⟨x, X2, hx, e2, dr2⟩ := pick_new (j := mJ b (T.map T4.d) (usOf T m) m) (G := sl) n1 (by omega) (fun _ _ _ => rfl) dr1
  obtain ⟨y, X3, hy, e3, dr3⟩ := pick_new (j := mJ b (T.map T4.d) (usOf T m) m) (G := sl) n2 (by omega) (fun _ _ _ => rfl) dr2
  have e2' : cf__law_pick [.ref a, .rl (l1.map sl)] (ms2 X1 b (T.map T4.d) (usOf T m) m) = .ok (.str (ltr x)) (ms2 X2 b (T.map T4.d) (usOf T m) m) := e2
  have e3' : cf__law_pick [.ref a, .rl (l2.map sl)] (ms2 X2 b (T.map T4.d) (usOf T m) m) = .ok (.str (ltr y)) (ms2 X3 b (T.map T4.d) (usOf T m) m) := e3
  have q1 := t1 x hx
  have q2 := t2 y hy
  rw [usOf_at] at q1 q2
  have lX : X3.length = b := by rw [dr3.len, hb]
  have i0 : ∀ Y, ixD (.rl [.rl (l1.map sl), .rl (l2.map sl)]) (.int 0) Y = .ok (.rl (l1.map sl)) Y := fun Y => ix_rl 0 rfl
  have i1 : ∀ Y, ixD (.rl [.rl (l1.map sl), .rl (l2.map sl)]) (.int 1) Y = .ok (.rl (l2.map sl)) Y := fun Y => ix_rl 1 rfl
  have z1 := ms_ix (F := T.map T4.d) (Us := usOf T m) lX hi
  have a1 := ms_appU (F := T.map T4.d) lX l0 hi x (by rw [usOf_at]; have := uf pi; omega)
  rw [usOf_at] at a1
  have ty1 := ms_tyU (F := T.map T4.d) lX l0 hi
  have k1 : ((usOf T m).set pi (usedAt T pi ++ [x])).length = m := by rw [List.length_set, l0]
  have z2 := ms_ix (F := T.map T4.d) (Us := (usOf T m).set pi (usedAt T pi ++ [x])) lX lt2
  have hjl : pj < ((usOf T m).set pi (usedAt T pi ++ [x])).length := by rw [k1]; exact lt2
  have eu : ((usOf T m).set pi (usedAt T pi ++ [x]))[pj]'hjl = usedAt T pj := by rw [List.getElem_set_ne (by omega), usOf_at]
  have a2 := ms_appU (F := T.map T4.d) lX k1 lt2 y (by rw [eu]; have := uf pj; omega)
  rw [eu] at a2
  have st := usOf_step (T := T) (t := T4.mk pi x pj y) hi lt2 (by simp only; omega)
  simp only at st
  rw [st] at a2
  have ty2 := ms_tyU (F := T.map T4.d) lX k1 lt2
  have l3 := usOf_len (T ++ [T4.mk pi x pj y]) m
  have a3 := ms_appF (F := T.map T4.d) (Us := usOf (T ++ [⟨pi, x, pj, y⟩]) m) (m := m) lX l3 (T4.mk pi x pj y).d (by rw [List.length_map]; omega)
  have ty3 := ms_tyF (F := T.map T4.d) (Us := usOf (T ++ [⟨pi, x, pj, y⟩]) m) (m := m) lX l3
  have ed : D.tup [.int (pi : Nat), .str (ltr x), .int (pj : Nat), .str (ltr y)] = (T4.mk pi x pj y).d := rfl
  have ef : T.map T4.d ++ [(T4.mk pi x pj y).d] = (T ++ [T4.mk pi x pj y]).map T4.d := by rw [List.map_append]; rfl
  rw [ef] at a3
  refine ⟨x, y, X3, some (.rl [.rl (l1.map sl), .rl (l2.map sl)]), q1.1, q2.1, q1.2, q2.2, dr3, ?_⟩
  have g1 : ∀ R : Ev → AH → RS, cSeq hM R (ev a most m E x4 (some (.int (pj : Nat))) x6 (some (.ref b)) (some (.ref (b + 1 + m))) (some (.int (pi : Nat))) x10 x11 x12) (ms2 X b (T.map T4.d) (usOf T m) m) =
      R (ev a most m E x4 (some (.int (pj : Nat))) x6 (some (.ref b)) (some (.ref (b + 1 + m))) (some (.int (pi : Nat))) (some (.rl [.rl (l1.map sl), .rl (l2.map sl)])) x11 x12) (ms2 X1 b (T.map T4.d) (usOf T m) m) := fun R => by
    simp only [cSeq, e1]
  rw [g1]
  simp only [ev, hPk, hT, cSeq, cAsg, cPar, cPar3, cIf, cRet, cRetN, cExp, cPass, cTst, cTru, cVar, cCon, cBin, cB, cBM, cTup, cCall, aCons, aNil, gNm, gTp, gsCons, gsNil, gSb, tAndF, tOrF, tNotF, vAnd, vOr, vNot, cIte, Res.bind, onRes, endB, List.getElem?_cons_zero, List.getElem?_cons_succ, List.set_cons_succ, List.set_cons_zero, List.length_cons, List.length_nil, if_true, if_false, Bool.false_eq_true, Bool.not_true, Bool.not_false, i0, i1, e2', e3', z1, ty1, a1, z2, ty2, a2, lm4, ed, ty3, a3]
theorem T_lt {m : Nat} {E : List (Nat × Nat)} (P : EPre m E) {T : List T4} {i : Nat} (q : T.map ends = (srtL leP E).take i) : ∀ p ∈ T.map ends, p.1 < p.2 ∧ p.2 < m := fun p hp => by
  rw [q] at hp
  exact P.lt p (srtL_perm.mem_iff.mp (List.mem_of_mem_take hp))
theorem edges_of {m : Nat} {E : List (Nat × Nat)} (hm : 2 ≤ m) (P : EPre m E) (l : E.length ≤ m + 1) : EdgesOk m (srtL leP E) :=
  ⟨fun p hp => P.lt p (srtL_perm.mem_iff.mp hp), fun k a b => let ⟨p, hp, z⟩ := P.tree k a b; ⟨p, srtL_perm.mem_iff.mpr hp, z⟩, srtL_pw leP_total E, (srtL_perm.nodup_iff).mpr P.nd, by rw [srtL_perm.length_eq]; omega⟩
noncomputable abbrev hL : Ev → AH → RS := cSeq hM (cSeq hPk hT)
theorem ties_loop {a b m most : Nat} {h X : AH} {E : List (Nat × Nat)} (hm : 2 ≤ m) (hm2 : m ≤ 10) (hb : h.length = b) (P : EPre m E) (lE : E.length ≤ m + 1) (dr : Dr a h X 0) (x4 x5 x6 : Option D) :
    ∃ (T : List T4) (X' : AH) (r' : Ev), TiesOk m (srtL leP E) T ∧ Dr a h X' 0 ∧ r'[8]? = some (some (.ref (b + 1 + m))) ∧
      cForL (gTp 2 (gsCons (gNm 9) (gsCons (gNm 5) gsNil))) hL 1000 (.rl ((srtL leP E).map pairD)) 0 (ev a most m (some (.rl (E.map pairD))) x4 x5 x6 (some (.ref b)) (some (.ref (b + 1 + m))) none none none none) (ms2 X b [] (usOf [] m) m) = .nx r' (ms2 X' b (T.map T4.d) (usOf T m) m) := by
  have O := edges_of hm P lE
  obtain ⟨r', h', e, T, X', y5, y9, y10, y11, y12, rfl, rfl, dr', q1, q2, q3⟩ := forl0 (g := gTp 2 (gsCons (gNm 9) (gsCons (gNm 5) gsNil))) (b := hL) (it := .rl ((srtL leP E).map pairD)) (n := 1000) (r := ev a most m (some (.rl (E.map pairD))) x4 x5 x6 (some (.ref b)) (some (.ref (b + 1 + m))) none none none none) (h := ms2 X b [] (usOf [] m) m) (l := srtL leP E) (G := pairD)
    (fun i r h' => ∃ (T : List T4) (X' : AH) (y5 y9 y10 y11 y12 : Option D), r = ev a most m (some (.rl (E.map pairD))) x4 y5 x6 (some (.ref b)) (some (.ref (b + 1 + m))) y9 y10 y11 y12 ∧ h' = ms2 X' b (T.map T4.d) (usOf T m) m ∧ Dr a h X' 0 ∧ T.map ends = (srtL leP E).take i ∧ (∀ t ∈ T, t.a < 12 ∧ t.b < 12) ∧ (∀ k, (usedAt T k).Nodup))
    (fun i r h' _ => next_rl i)
    (fun i hi r h' ⟨T, X', y5, y9, y10, y11, y12, er, eh, dr', q1, q2, q3⟩ => by
      subst er eh
      have hmem := List.getElem_mem hi
      have ht := List.getElem?_eq_getElem hi
      have lt := O.lt _ hmem
      have nd : (T.map ends).Nodup := by rw [q1]; exact O.nd.sublist (List.take_sublist _ _)
      have ltT := T_lt P q1
      have lT : T.length = i := by
        have := congrArg List.length q1
        rw [List.length_map, List.length_take] at this
        omega
      have few := O.few
      generalize (srtL leP E)[i] = p at *
      obtain ⟨pi, pj⟩ := p
      simp only at lt
      obtain ⟨x, y, X2, z10, hx, hy, nx, ny, d2, ek⟩ := tie_turn (most := most) hm2 hb dr' lt.1 lt.2 ltT nd (by omega) (some (.rl (E.map pairD))) x4 x6 y10 y11 y12
      refine ⟨_, _, _, _, rfl, Or.inl ek, T ++ [⟨pi, x, pj, y⟩], X2, _, _, _, _, _, rfl, rfl, d2, ?_, ?_, ?_⟩
      · rw [List.map_append, q1, List.take_succ, ht]
        rfl
      · intro t ht
        rcases List.mem_append.mp ht with ht | ht
        · exact q2 t ht
        · rw [List.mem_singleton.mp ht]; exact ⟨hx, hy⟩
      · intro k
        rw [usedAt_snoc, List.nodup_append]
        refine ⟨q3 k, ?_, fun u hu v hv z => ?_⟩
        · by_cases k1 : pi = k
          · have k2 : ¬ pj = k := by omega
            rw [if_pos k1, if_neg k2]
            simp
          · rw [if_neg k1]
            split <;> simp
        · subst z
          rcases List.mem_append.mp hv with hv | hv
          · split at hv
            · rename_i k1
              simp only at k1
              rw [List.mem_singleton.mp hv] at hu
              exact nx (k1 ▸ hu)
            · cases hv
          · split at hv
            · rename_i k1
              simp only at k1
              rw [List.mem_singleton.mp hv] at hu
              exact ny (k1 ▸ hu)
            · cases hv) (by have := O.few; omega) ⟨[], X, x5, none, none, none, none, rfl, rfl, dr, rfl, fun t ht => absurd ht List.not_mem_nil, fun k => List.nodup_nil⟩
  rw [List.take_length] at q1
  exact ⟨T, X', _, ⟨q1, q2, q3⟩, dr', rfl, e⟩
/-- what is drawn -/
theorem drawn_spec {a most : Nat} {h : AH} (hmo : 2 ≤ most) (hmo2 : most ≤ 10) (p : Pu a h 0) : ∃ (m : Nat) (E : List (Nat × Nat)) (T : List T4) (h' : AH), 2 ≤ m ∧ m ≤ most ∧ EdgesOk m E ∧ TiesOk m E T ∧ T.length ≤ m + 1 ∧ Dr a h h' 0 ∧ cf__law_drawn [.ref a, .int (most : Nat)] h = .ok (.rl (T.map T4.d)) h' := by
  obtain ⟨t, X1, ht, e1, dr1⟩ := sip_new (n := most - 1) (j := []) (by omega) (by omega) p.dr
  rw [List.append_nil, List.append_nil] at e1
  generalize hm : 2 + t = m
  have hm2 : m ≤ most := by omega
  obtain ⟨E, X, y4, y5, y6, P, lE, dr, e2⟩ := pairs3 (most := most) (m := m) (by omega) (by omega) dr1 (cSeq
    (cAsg (cTup (aCons (cLc (cRng1 (aCons (cVar 2) aNil)) (gNm 13) cYes (cLst aNil) [13] 1000) (aCons (cLst aNil) aNil))) (gTp 2 (gsCons (gNm 7) (gsCons (gNm 8) gsNil))))
    (cSeq (cFor (cIter (fz (cB srtO (aCons (cVar 3) aNil)))) (gTp 2 (gsCons (gNm 9) (gsCons (gNm 5) gsNil))) hL 1000) (cSeq (cRet (cVar 8)) cPass)))
  obtain ⟨T, X', r', tk, dr', g8, e3⟩ := ties_loop (most := most) (m := m) (by omega) (by omega) rfl P lE dr y4 y5 y6
  refine ⟨m, _, T, X', by omega, hm2, edges_of (by omega) P lE, tk, ?_, dr', ?_⟩
  · have := congrArg List.length tk.ends
    rw [List.length_map, srtL_perm.length_eq] at this
    omega
  · have c1 : ((most : Nat) : Int) - 1 = ((most - 1 : Nat) : Int) := by omega
    have c2 : (2 : Int) + (t : Nat) = ((m : Nat) : Int) := by omega
    have u0 := us_lay 13 X (ev a most m (some (.rl (E.map pairD))) y4 y5 y6 none none none none none none) m (by omega) 1000 0 (by omega) (by omega)
    have z0 : usH X (List.replicate 0 []) 0 = X ++ [O.lst []] := rfl
    have zu : List.replicate m ([] : List Nat) = usOf [] m := by
      refine List.ext_getElem (by simp [usOf]) fun k _ _ => ?_
      simp [usOf, usedAt]
    rw [z0, zu] at u0
    have bm : inR (2 ^ 62 - 1) ((m : Nat) : Int) = true := inR_ok.mpr (by omega)
    have lX : X.length = h.length := dr.len
    rw [lX] at u0
    have cm : cLc (cRng1 (aCons (cVar 2) aNil)) (gNm 13) cYes (cLst aNil) [13] 1000 (ev a most m (some (.rl (E.map pairD))) y4 y5 y6 none none none none none none) X = .ok (.ref h.length) (usH X (usOf [] m) m) := by
      have g2 : (ev a most m (some (.rl (E.map pairD))) y4 y5 y6 none none none none none none)[2]? = some (some (.int (m : Nat))) := rfl
      have wi : wipeD (ev a most m (some (.rl (E.map pairD))) y4 y5 y6 none none none none none none) [13] = ev a most m (some (.rl (E.map pairD))) y4 y5 y6 none none none none none none := rfl
      simp only [cLc, cRng1, aCons, aNil, cVar, g2, Res.bind, bm, if_true, Int.toNat_natCast, wi, u0, lX]
    have lu : (usH X (usOf [] m) m).length = h.length + 1 + m := by
      unfold usH
      rw [List.length_append, List.length_cons, List.length_map, usOf_len, lX]
      omega
    have cl : ∀ r Y, cLst aNil r Y = .ok (.ref Y.length) (Y ++ [O.lst []]) := fun _ _ => rfl
    have ew : usH X (usOf [] m) m ++ [O.lst []] = ms2 X h.length [] (usOf [] m) m := by
      unfold usH ms2 mJ
      rw [List.append_assoc, lX]
    have fs : ∀ x7 x8, fz (cB srtO (aCons (cVar 3) aNil)) (ev a most m (some (.rl (E.map pairD))) y4 y5 y6 x7 x8 none none none none) (ms2 X h.length [] (usOf [] m) m) = .ok (.rl ((srtL leP E).map pairD)) (ms2 X h.length [] (usOf [] m) m) := fun x7 x8 => by
      refine fz_lst ?_ (clDs_map fun _ _ => rfl)
      have s := srt_pairs (d := .rl (E.map pairD)) E (ms2 X h.length [] (usOf [] m) m) rfl
      have g3 : (ev a most m (some (.rl (E.map pairD))) y4 y5 y6 x7 x8 none none none none)[3]? = some (some (.rl (E.map pairD))) := rfl
      simp only [cB, aCons, aNil, cVar, g3, Res.bind, s]
      rfl
    have lX' : X'.length = h.length := dr'.len
    have gF := ms_F (F := T.map T4.d) (Us := usOf T m) (m := m) lX' (usOf_len T m)
    have eb : cb__law_drawn [.ref a, .int (most : Nat)] h = .ok (.ref (h.length + 1 + m)) (ms2 X' h.length (T.map T4.d) (usOf T m) m) := by
      have e0 : ∀ R : Ev → AH → RS, cSeq (cAsg (cBin addD (cCon (.int 2)) (cCall 2 cf__law_sip (aCons (cVar 0) (aCons (cBin subD (cVar 1) (cCon (.int 1))) aNil)))) (gNm 2)) R [some (.ref a), some (.int (most : Nat)), none, none, none, none, none, none, none, none, none, none, none, none, none] h = R (ev a most m none none none none none none none none none none) X1 := fun R => by
        simp only [cSeq, cAsg, cPar, cPar3, cIf, cRet, cRetN, cExp, cPass, cTst, cTru, cVar, cCon, cBin, cB, cBM, cTup, cCall, aCons, aNil, gNm, gTp, gsCons, gsNil, gSb, tAndF, tOrF, tNotF, vAnd, vOr, vNot, cIte, Res.bind, onRes, endB, List.getElem?_cons_zero, List.getElem?_cons_succ, List.set_cons_succ, List.set_cons_zero, List.length_cons, List.length_nil, if_true, if_false, Bool.false_eq_true, Bool.not_true, Bool.not_false, subD, c1, e1, addD, c2]
        rfl
      show endB (cSeq _ _ [some (.ref a), some (.int (most : Nat)), none, none, none, none, none, none, none, none, none, none, none, none, none] h) = _
      refine (congrArg endB ((e0 _).trans e2)).trans ?_
      have st : ∀ R : Ev → AH → RS, cSeq (cAsg (cTup (aCons (cLc (cRng1 (aCons (cVar 2) aNil)) (gNm 13) cYes (cLst aNil) [13] 1000) (aCons (cLst aNil) aNil))) (gTp 2 (gsCons (gNm 7) (gsCons (gNm 8) gsNil)))) R (ev a most m (some (.rl (E.map pairD))) y4 y5 y6 none none none none none none) X =
          R (ev a most m (some (.rl (E.map pairD))) y4 y5 y6 (some (.ref h.length)) (some (.ref (h.length + 1 + m))) none none none none) (ms2 X h.length [] (usOf [] m) m) := fun R => by
        simp only [cSeq, cAsg, cTup, aCons, aNil, cm, cl, Res.bind, lu, ew, List.length_cons, List.length_nil, lm2, if_true, onRes, gTp, gsCons, gsNil, gNm, Option.bind_some]
        rfl
      rw [st]
      have g8' := g8
      simp only [cSeq, cFor, cIter, fs, Res.bind, onRes, e3, cRet, cVar, g8', endB]
    unfold cf__law_drawn fzF
    rw [eb]
    have ko : KO h (ms2 X' h.length (T.map T4.d) (usOf T m) m) := dr'.ko.app2 _
    have tkh : (ms2 X' h.length (T.map T4.d) (usOf T m) m).take h.length = X' := by
      unfold ms2
      rw [← dr'.len]
      exact take_app
    have fr : frzD (ms2 X' h.length (T.map T4.d) (usOf T m) m) h.length 9 (.ref (h.length + 1 + m)) = some (.rl (T.map T4.d)) := by
      unfold frzD
      rw [if_neg (by simp [clD]; omega)]
      simp only [gF, mapP_cl (cl_tup _ _), Option.map_some]
    simp only [fzR, if_pos ko, fr, tkh]

end K05
namespace K05
open PySem L2 PI
/-! ### the law's text -/
def wpr (t : T4) : List (D × Str) := [(.int t.i, dg t.i), (.str (ltr t.a), ltr t.a), (.int t.j, dg t.j), (.str (ltr t.b), ltr t.b)]
theorem str_str (x : Str) (h : AH) : strO [.str x] h = some (.str x, h) := rfl
theorem line_spec {t : T4} (ht : t.ok) {y0 y2 : Option D} (h : AH) : cBM "str" joinO (cCon (.str " ")) (aCons (fz (cLc (cIter (cVar 1)) (gNm 2) cYes (cB strO (aCons (cVar 2) aNil)) [2] 1000)) aNil) [y0, some t.d, y2] h = .ok (.str t.line) h := by
  obtain ⟨h1, h2, h3, h4, h5⟩ := ht
  have e1 := fz_lc (h := h) (vs := [2]) (n := 1000) (g := gNm 2) (ce := cB strO (aCons (cVar 2) aNil)) (fi := cIter (cVar 1)) (it := .tup ((wpr t).map Prod.fst)) (r := [y0, some t.d, y2]) (wpr t) Prod.fst (fun p => D.str p.2) rfl (by show 4 < 1000; omega) (by decide) (fun _ i => next_tup i) (fun _ _ => rfl) (fun p hp acc => ⟨_, rfl, by
    have e : strO [p.1] (h ++ [O.lst acc]) = some (.str p.2, h ++ [O.lst acc]) := by
      simp only [wpr, List.mem_cons, List.not_mem_nil, or_false] at hp
      rcases hp with rfl | rfl | rfl | rfl
      · exact str_int (by omega) _
      · exact str_str _ _
      · exact str_int (by omega) _
      · exact str_str _ _
    simp only [cSeq, cAsg, cPar, cPar3, cIf, cRet, cRetN, cExp, cPass, cTst, cTru, cVar, cCon, cBin, cB, cBM, cTup, cCall, aCons, aNil, gNm, gTp, gsCons, gsNil, gSb, tAndF, tOrF, tNotF, vAnd, vOr, vNot, cIte, Res.bind, onRes, endB, List.getElem?_cons_zero, List.getElem?_cons_succ, List.set_cons_succ, List.set_cons_zero, List.length_cons, List.length_nil, if_true, if_false, Bool.false_eq_true, Bool.not_true, Bool.not_false, wipeD, e]⟩)
  have m1 : mapO dStr ((wpr t).map fun p => D.str p.2) = some t.words := mapO_map (g := fun p : D × Str => D.str p.2) (k := Prod.snd) (fun _ => rfl) (wpr t)
  have ls : (" " : Str).length = 1 := by decide +kernel
  have sm : (t.words.map (·.length)).sum + t.words.length * (" " : Str).length ≤ LIM := by
    have d1 := dg_len h1
    have d2 := dg_len h2
    simp only [T4.words, List.map_cons, List.map_nil, List.sum_cons, List.sum_nil, List.length_cons, List.length_nil, d1, d2, ltr_len, ls]
    decide
  have j : joinO [.str " ", .rl ((wpr t).map fun p => D.str p.2)] h = some (.str t.line, h) := by
    simp only [joinO, listD, Option.some_or, m1, if_pos sm]
    rfl
  simp only [cBM, cCon, aCons, aNil, Res.bind, e1, ty_str, if_true, j]
theorem lawtext_spec {T : List T4} (hT : ∀ t ∈ T, t.ok) (few : T.length ≤ 100) (h : AH) : cf__law_text [.rl (T.map T4.d)] h = .ok (.str (textL T)) h := by
  have e1 := fz_lc (h := h) (vs := [1]) (n := 1000) (g := gNm 1) (ce := cBM "str" joinO (cCon (.str " ")) (aCons (fz (cLc (cIter (cVar 1)) (gNm 2) cYes (cB strO (aCons (cVar 2) aNil)) [2] 1000)) aNil)) (fi := cIter (cVar 0)) (it := .rl (T.map T4.d)) (r := [some (.rl (T.map T4.d)), none, none]) T T4.d (fun t => D.str t.line) rfl (by omega) (by decide) (fun _ i => next_rl i) (fun _ _ => rfl)
    (fun t ht acc => ⟨_, rfl, line_spec (hT t ht) _⟩)
  refine fzF_cl0 (show endB (f__law_text [some (.rl (T.map T4.d)), none, none] h) = _ from ?_) rfl
  have ty : ∀ x, tyD "str" h (.str x) = true := fun _ => rfl
  simp only [f__law_text, cSeq, cAsg, cPar, cPar3, cIf, cRet, cRetN, cExp, cPass, cTst, cTru, cVar, cCon, cBin, cB, cBM, cTup, cCall, aCons, aNil, gNm, gTp, gsCons, gsNil, gSb, tAndF, tOrF, tNotF, vAnd, vOr, vNot, cIte, Res.bind, onRes, endB, List.getElem?_cons_zero, List.getElem?_cons_succ, List.set_cons_succ, List.set_cons_zero, List.length_cons, List.length_nil, if_true, if_false, Bool.false_eq_true, Bool.not_true, Bool.not_false, ty, e1, join_lines hT few]
/-- a web made of what is drawn -/
theorem web_made {m : Nat} {E : List (Nat × Nat)} {T : List T4} (hm : 2 ≤ m) (hm2 : m ≤ 10) (hE : EdgesOk m E) (hT : TiesOk m E T) {r : Ev} {h : AH} {fT : Ev → AH → Res D} (eT : fT r h = .ok (.rl (T.map T4.d)) h) :
    fz (cMake 0 2 cf_Web___init__ (aCons (cCall 1 cf__law_text (aCons fT aNil)) aNil)) r h = .ok (webD T) h := by
  have w := (web_self hm hm2 hE hT).1
  have et := lawtext_spec (ties_ok hm2 hE hT) (by have := ties_len hE hT; omega) h
  exact make_spec w (by simp only [cSeq, cAsg, cPar, cPar3, cIf, cRet, cRetN, cExp, cPass, cTst, cTru, cVar, cCon, cBin, cB, cBM, cTup, cCall, aCons, aNil, gNm, gTp, gsCons, gsNil, gSb, tAndF, tOrF, tNotF, vAnd, vOr, vNot, cIte, Res.bind, onRes, endB, List.getElem?_cons_zero, List.getElem?_cons_succ, List.set_cons_succ, List.set_cons_zero, List.length_cons, List.length_nil, if_true, if_false, Bool.false_eq_true, Bool.not_true, Bool.not_false, eT, et]) rfl (KO.refl h)

end K05
namespace K05
open PySem L2 PI
/-! ### the law's own ways -/
abbrev rB1 : Ev → AH → RS := cSeq
      (cAsg (cVar 4) (gSb (cBin ixD (cVar 1) (cVar 2)) (cVar 3)))
      (cSeq
      (cAsg (cVar 2) (gSb (cBin ixD (cVar 1) (cVar 4)) (cVar 5)))
      cPass)
theorem roads_loop {S : List T4} (I : InW S) {m : Nat} (hm : ∀ t ∈ S, t.j < m) (hb : AH) :
    ∃ x2 x3 x4 x5, cForL (gTp 4 (gsCons (gNm 2) (gsCons (gNm 3) (gsCons (gNm 4) (gsCons (gNm 5) gsNil))))) rB1 1000 (.rl (S.map T4.d)) 0 [some (.rl (S.map T4.d)), some (.ref hb.length), none, none, none, none, none, none] (wayH hb (dictsOf [] m) m) =
      .nx [some (.rl (S.map T4.d)), some (.ref hb.length), x2, x3, x4, x5, none, none] (wayH hb (dictsOf S m) m) := by
  obtain ⟨r', h', e, ⟨x2, x3, x4, x5, rfl⟩, rfl⟩ := forl0 (g := gTp 4 (gsCons (gNm 2) (gsCons (gNm 3) (gsCons (gNm 4) (gsCons (gNm 5) gsNil))))) (b := rB1) (it := .rl (S.map T4.d)) (l := S) (G := T4.d) (n := 1000) (r := [some (.rl (S.map T4.d)), some (.ref hb.length), none, none, none, none, none, none]) (h := wayH hb (dictsOf [] m) m)
    (fun i r h => (∃ x2 x3 x4 x5, r = [some (.rl (S.map T4.d)), some (.ref hb.length), x2, x3, x4, x5, none, none]) ∧ h = wayH hb (dictsOf (S.take i) m) m)
    (fun i r h _ => next_rl i)
    (fun i hi r h ⟨⟨x2, x3, x4, x5, er⟩, eh⟩ => by
      subst er eh
      have ht := List.getElem?_eq_getElem hi
      have hmem := List.getElem_mem hi
      generalize ht0 : S[i] = t at *
      obtain ⟨h1, h2, h3, h4, h5⟩ := I.ok t hmem
      have lt := I.lt t hmem
      have hj : t.j < m := hm t hmem
      have hi' : t.i < m := by omega
      have few := I.few
      have tl : (S.take i).length ≤ 100 := by rw [List.length_take]; omega
      have l1 := dictsOf_len (S.take i) m
      have gi := wayH_dict (hb := hb) l1 hi'
      rw [dictsOf_at] at gi
      have n1 : (Sum.inr (ltr t.a) : Key) ∉ (marksAt (S.take i) t.i).map (·.1) := new_mark I ht t.i (.inr (ltr t.a), D.int t.j) (by unfold entr; rw [if_pos rfl]; exact List.mem_append_left _ (List.mem_singleton.mpr rfl))
      have n2 : (Sum.inr (ltr t.b) : Key) ∉ (marksAt (S.take i) t.j).map (·.1) := new_mark I ht t.j (.inr (ltr t.b), D.int t.i) (by unfold entr; rw [if_pos (rfl : t.j = t.j)]; exact List.mem_append_right _ (List.mem_singleton.mpr rfl))
      have rx : ∀ (Ds : List (List (Key × D))) (k : Nat), k < m → ixD (.ref hb.length) (.int (k : Nat)) (wayH hb Ds m) = .ok (.ref (hb.length + 1 + k)) (wayH hb Ds m) := fun Ds k hk => ix_lst k wayH_refs (by unfold refsN; rw [List.getElem?_map, List.getElem?_range hk]; rfl)
      have i1 := rx (dictsOf (S.take i) m) t.i hi'
      have ml := marks_len (S.take i)
      have s1 : setD (.ref (hb.length + 1 + t.i)) (.str (ltr t.a)) (.int t.j) (wayH hb (dictsOf (S.take i) m) m) = some (wayH hb ((dictsOf (S.take i) m).set t.i (marksAt (S.take i) t.i ++ [(.inr (ltr t.a), D.int t.j)])) m) := by
        rw [set_dK gi (by have := ml t.i; show _ < 1000000; omega) n1, wayH_set l1 hi']
      have l2 : ((dictsOf (S.take i) m).set t.i (marksAt (S.take i) t.i ++ [(.inr (ltr t.a), D.int t.j)])).length = m := by rw [List.length_set, l1]
      have gj2 := wayH_dict (hb := hb) l2 hj
      rw [List.getElem_set_ne (by omega), dictsOf_at] at gj2
      have i3 := rx ((dictsOf (S.take i) m).set t.i (marksAt (S.take i) t.i ++ [(.inr (ltr t.a), D.int t.j)])) t.j hj
      have s2 : setD (.ref (hb.length + 1 + t.j)) (.str (ltr t.b)) (.int t.i) (wayH hb ((dictsOf (S.take i) m).set t.i (marksAt (S.take i) t.i ++ [(.inr (ltr t.a), D.int t.j)])) m) = some (wayH hb (dictsOf (S.take (i + 1)) m) m) := by
        rw [set_dK gj2 (by have := ml t.j; show _ < 1000000; omega) n2, wayH_set l2 hj, dicts_step hi' hj h5, List.take_succ, ht]
        rfl
      refine ⟨[some (.rl (S.map T4.d)), some (.ref hb.length), some (.int t.i), some (.str (ltr t.a)), some (.int t.j), some (.str (ltr t.b)), none, none], _, _, _, rfl, .inl ?_, ⟨some (.int t.i), some (.str (ltr t.a)), some (.int t.j), some (.str (ltr t.b)), rfl⟩, rfl⟩
      simp only [rB1, cSeq, cAsg, cPar, cPar3, cIf, cRet, cRetN, cExp, cPass, cTst, cTru, cVar, cCon, cBin, cB, cBM, cTup, cCall, aCons, aNil, gNm, gTp, gsCons, gsNil, gSb, tAndF, tOrF, tNotF, vAnd, vOr, vNot, cIte, Res.bind, onRes, endB, List.getElem?_cons_zero, List.getElem?_cons_succ, List.set_cons_succ, List.set_cons_zero, List.length_cons, List.length_nil, if_true, if_false, Bool.false_eq_true, Bool.not_true, Bool.not_false, i1, s1, i3, s2, Option.map_some, Option.bind_some]) (by have := I.few; omega) ⟨⟨none, none, none, none, rfl⟩, rfl⟩
  rw [List.take_length] at e
  exact ⟨x2, x3, x4, x5, e⟩
theorem roads_spec {S : List T4} (I : InW S) (h : AH) (few : mj S < 900) : cf__law_ways [.rl (S.map T4.d)] h = .ok (waysD S) h := by
  have e1 := many_spec (s := 7) (r := [some (.rl (S.map T4.d)), none, none, none, none, none, none, none]) I.ne (by have := I.few; omega) h rfl (by show 7 < 8; decide)
  generalize hm : mj S + 1 = m at *
  have em : (1 + (mj S : Int)) = (m : Int) := by omega
  rw [em] at e1
  have b1 : inR (2 ^ 62 - 1) (m : Int) = true := inR_ok.mpr (by omega)
  have e2 := dicts_lay 6 h [some (.rl (S.map T4.d)), none, none, none, none, none, none, none] m (by omega) 1000 0 (by omega) (Nat.zero_le _)
  have z0 : wayH h (List.replicate 0 []) 0 = h ++ [O.lst []] := rfl
  have zm : wayH h (List.replicate m []) m = wayH h (dictsOf [] m) m := by
    unfold dictsOf
    have : (List.range m).map (marksAt []) = List.replicate m [] := by
      have e : marksAt [] = fun _ => [] := rfl
      rw [e, List.map_const', List.length_range]
    rw [this]
  rw [z0, zm] at e2
  obtain ⟨x3, x4, x5, x6, e3⟩ := roads_loop I (m := m) (fun t ht => by have := le_mj ht; omega) h
  have c2 : ∀ R : Ev → AH → RS, cSeq (cAsg (cLc (cRng1 (aCons (cBin addD (cCon (.int 1)) (cB maxLO (aCons (fz (cLc (cIter (cVar 0)) (gNm 7) cYes (cBin ixD (cVar 7) (cCon (.int 2))) [7] 1000)) aNil))) aNil)) (gNm 6) cYes (cDic (.dK [])) [6] 1000) (gNm 1)) R [some (.rl (S.map T4.d)), none, none, none, none, none, none, none] h =
      R [some (.rl (S.map T4.d)), some (.ref h.length), none, none, none, none, none, none] (wayH h (dictsOf [] m) m) := fun R => by
    simp only [cSeq, cAsg, cLc, cRng1, aCons, aNil, Res.bind, e1, if_pos b1, Int.toNat_natCast, wipeD, List.set_cons_succ, List.set_cons_zero, e2, onRes, gNm]
  have eb : cb__law_ways [.rl (S.map T4.d)] h = .ok (.ref h.length) (wayH h (dictsOf S m) m) := by
    show endB (f__law_ways [some (.rl (S.map T4.d)), none, none, none, none, none, none, none] h) = _
    unfold f__law_ways
    rw [c2]
    simp only [cSeq, cFor, cIter, cVar, List.getElem?_cons_zero, Res.bind, onRes]
    simp only [e3, cRet, cVar, List.getElem?_cons_zero, List.getElem?_cons_succ, onRes, endB]
  unfold cf__law_ways fzF
  rw [eb]
  have ko : KO h (wayH h (dictsOf S m) m) := KO.app h _
  have ht : (wayH h (dictsOf S m) m).take h.length = h := take_app
  simp only [fzR, if_pos ko, ways_frz, ht, waysD, hm]

end K05
namespace K05
open PySem L2 PI
/-! ### what leads where -/
/-- from k the mark x leads to y -/
def Ed (S : List T4) (k x y : Nat) : Prop := ∃ t ∈ S, (t.i = k ∧ t.a = x ∧ t.j = y) ∨ (t.j = k ∧ t.b = x ∧ t.i = y)
theorem Ed.back {S : List T4} {k x y : Nat} (e : Ed S k x y) : ∃ z, Ed S y z k := by
  obtain ⟨t, ht, ⟨a, b, c⟩ | ⟨a, b, c⟩⟩ := e
  · exact ⟨t.b, t, ht, .inr ⟨c, rfl, a⟩⟩
  · exact ⟨t.a, t, ht, .inl ⟨c, rfl, a⟩⟩
theorem Ed.perm {S U : List T4} {k x y : Nat} (p : S.Perm U) (e : Ed S k x y) : Ed U k x y := let ⟨t, ht, q⟩ := e; ⟨t, p.mem_iff.mp ht, q⟩
theorem marks_ed {S : List T4} {k x y : Nat} : ((Sum.inr (ltr x) : Key), D.int (y : Nat)) ∈ marksAt S k ↔ Ed S k x y := by
  constructor
  · intro h
    obtain ⟨t, ht, q⟩ := List.mem_flatMap.mp h
    refine ⟨t, ht, ?_⟩
    unfold entr at q
    rcases List.mem_append.mp q with q | q
    · split at q
      · rename_i z
        have e := List.mem_singleton.mp q
        have e1 := ltr_inj (Sum.inr.inj (Prod.mk.inj e).1)
        have e2 := D.int.inj (Prod.mk.inj e).2
        exact .inl ⟨z, e1.symm, by omega⟩
      · cases q
    · split at q
      · rename_i z
        have e := List.mem_singleton.mp q
        have e1 := ltr_inj (Sum.inr.inj (Prod.mk.inj e).1)
        have e2 := D.int.inj (Prod.mk.inj e).2
        exact .inr ⟨z, e1.symm, by omega⟩
      · cases q
  · rintro ⟨t, ht, ⟨a, b, c⟩ | ⟨a, b, c⟩⟩
    · refine List.mem_flatMap.mpr ⟨t, ht, ?_⟩
      unfold entr
      rw [if_pos a, ← b, ← c]
      exact List.mem_append_left _ (List.mem_singleton.mpr rfl)
    · refine List.mem_flatMap.mpr ⟨t, ht, ?_⟩
      unfold entr
      rw [if_pos a, ← b, ← c]
      exact List.mem_append_right _ (List.mem_singleton.mpr rfl)
theorem findD_mem {κ : Type} [DecidableEq κ] {k : κ} {v : D} : ∀ {d : List (κ × D)}, (d.map (·.1)).Nodup → (k, v) ∈ d → findD d k = some v
  | [], _, h => absurd h List.not_mem_nil
  | p :: d, nd, h => by
    rw [List.map_cons, List.nodup_cons] at nd
    unfold findD
    by_cases e : p.1 = k
    · rcases List.mem_cons.mp h with q | q
      · rw [← q]
        simp
      · exact absurd (e ▸ List.mem_map_of_mem q : p.1 ∈ d.map (·.1)) nd.1
    · rw [List.find?_cons_of_neg (by simpa using e)]
      rcases List.mem_cons.mp h with q | q
      · rw [← q] at e
        exact absurd rfl e
      · exact findD_mem nd.2 q
theorem find_ed {S : List T4} (I : InW S) {k x y : Nat} (e : Ed S k x y) : findD (marksAt S k) (.inr (ltr x)) = some (.int (y : Nat)) := findD_mem (I.nd k) (marks_ed.mpr e)
theorem ed_one {S : List T4} (I : InW S) {k x y z : Nat} (e : Ed S k x y) (f : Ed S k x z) : y = z := by
  have := (find_ed I e).symm.trans (find_ed I f)
  have := D.int.inj (Option.some.inj this)
  omega
theorem used_ed {S : List T4} {k x : Nat} : x ∈ usedAt S k ↔ ∃ y, Ed S k x y := by
  constructor
  · intro h
    obtain ⟨t, ht, ⟨a, b⟩ | ⟨a, b⟩⟩ := used_mem h
    · exact ⟨t.j, t, ht, .inl ⟨a, b.symm, rfl⟩⟩
    · exact ⟨t.i, t, ht, .inr ⟨a, b.symm, rfl⟩⟩
  · rintro ⟨y, t, ht, ⟨a, b, c⟩ | ⟨a, b, c⟩⟩
    · exact List.mem_flatMap.mpr ⟨t, ht, List.mem_append_left _ (by rw [if_pos a, b]; exact List.mem_singleton.mpr rfl)⟩
    · exact List.mem_flatMap.mpr ⟨t, ht, List.mem_append_right _ (by rw [if_pos a, b]; exact List.mem_singleton.mpr rfl)⟩
/-- where x leads from k -/
def toH (S : List T4) (k x : Nat) : Nat := match findD (marksAt S k) (.inr (ltr x)) with
  | some (.int y) => y.toNat
  | _ => 0
theorem to_ed {S : List T4} (I : InW S) {k x : Nat} (h : x ∈ usedAt S k) : Ed S k x (toH S k x) := by
  obtain ⟨y, e⟩ := used_ed.mp h
  have : toH S k x = y := by
    unfold toH
    rw [find_ed I e]
    exact Int.toNat_natCast y
  rw [this]
  exact e
theorem to_eq {S : List T4} (I : InW S) {k x y : Nat} (e : Ed S k x y) : toH S k x = y := ed_one I (to_ed I (used_ed.mpr ⟨y, e⟩)) e
theorem ed_lt {S : List T4} (I : InW S) {k x y : Nat} (e : Ed S k x y) : k < mj S + 1 ∧ y < mj S + 1 ∧ x < 12 := by
  obtain ⟨t, ht, q⟩ := e
  have a := le_mj ht
  have b := I.lt t ht
  obtain ⟨_, _, c, d, _⟩ := I.ok t ht
  rcases q with ⟨q1, q2, q3⟩ | ⟨q1, q2, q3⟩
  · omega
  · omega
theorem con_in {S : List T4} {m : Nat} (c : Con S m) {P : Nat → Prop} {s : Nat} (hs : s < m) (p : P s) (cl : ∀ k x y, Ed S k x y → P k → P y) : ∀ k < m, P k := by
  have q := c (fun k => P k ↔ P s)
  have sym : ∀ k x y, Ed S k x y → (P k ↔ P y) := fun k x y e => ⟨cl k x y e, let ⟨z, f⟩ := e.back; cl y z k f⟩
  have c0 := c (fun k => (P 0 ↔ P k)) Iff.rfl fun t ht => by
    have := sym t.i t.a t.j ⟨t, ht, .inl ⟨rfl, rfl, rfl⟩⟩
    constructor
    · intro h
      exact h.trans this
    · intro h
      exact h.trans this.symm
  intro k hk
  exact (c0 k hk).mp ((c0 s hs).mpr p)
/-! as data -/
section
variable {S : List T4} {k x y : Nat}
theorem ways_ix (hk : k < mj S + 1) (h : AH) : ixD (waysD S) (.int (k : Nat)) h = .ok (dictD (marksAt S k)) h := ix_rl k (by rw [List.getElem?_map, List.getElem?_range hk]; rfl)
theorem look_str (d : List (Key × D)) (x : Str) : lookD (.dK ((d.map (·.1)).zip (d.map (·.2)))) (.str x) = some (findD d (.inr x)) := by
  rw [zip_fs]
  rfl
theorem dict_ix (I : InW S) (e : Ed S k x y) (h : AH) : ixD (dictD (marksAt S k)) (.str (ltr x)) h = .ok (.int (y : Nat)) h := by
  unfold dictD
  simp only [ixD, look_str, find_ed I e]
theorem dict_in (k : Nat) (x : Nat) (h : AH) : inB (.str (ltr x)) (dictD (marksAt S k)) h = some (findD (marksAt S k) (.inr (ltr x))).isSome := by
  unfold dictD
  simp only [inB, fdO, look_str, Option.map_some]
theorem dict_keys : dictD (marksAt S k) = .fd ((usedAt S k).map fun x => (Sum.inr (ltr x) : Key)) ((marksAt S k).map (·.2)) := by
  unfold dictD
  rw [marks_used]
end

end K05
namespace K05
open PySem L2 PI
/-! ### the walk through all houses -/
/-- a word of marks -/
def wS (ws : List Nat) : Str := ⟨(ws.map fun x => 97 + x).toArray⟩
theorem wS_snoc (ws : List Nat) (x : Nat) : wS ws ++ ltr x = wS (ws ++ [x]) := by
  show (⟨(wS ws).cps ++ (ltr x).cps⟩ : Str) = _
  unfold wS ltr
  rw [List.map_append]
  simp
theorem wS_len (ws : List Nat) : (wS ws).length = ws.length := by
  show (ws.map fun x => 97 + x).toArray.size = _
  simp

theorem in_nats {X : AH} {b : Nat} {l : List Nat} (k : Nat) (hb : X[b]? = some (.lst (l.map dN))) : inB (.int (k : Nat)) (.ref b) X = some (decide (k ∈ l)) := by
  have f1 : (l.map dN).all flatD = true := by simp [flatD, dN]
  have e : ((l.map dN).any fun y => eqF y (.int (k : Nat))) = decide (k ∈ l) := by
    rw [Bool.eq_iff_iff, List.any_eq_true, decide_eq_true_iff]
    constructor
    · rintro ⟨y, hy, e⟩
      obtain ⟨n, hn, rfl⟩ := List.mem_map.mp hy
      have : (((n : Nat) : Int) == ((k : Nat) : Int)) = true := e
      rw [beq_iff_eq] at this
      have : n = k := by omega
      rw [← this]
      exact hn
    · intro hk
      exact ⟨dN k, List.mem_map_of_mem hk, by show (((k : Nat) : Int) == ((k : Nat) : Int)) = true; simp⟩
  have f0 : flatD (.int (k : Nat)) = true := rfl
  simp only [inB, hb, inLst, f0, f1, and_self, if_true, e]
section
variable {S : List T4}
theorem used_len2 (I : InW S) (k : Nat) : (usedAt S k).length ≤ 200 := by
  have a := marks_len S k
  have b := congrArg List.length (marks_used S k)
  rw [List.length_map, List.length_map] at b
  have := I.few
  omega
theorem used12 (I : InW S) (k : Nat) : (usedAt S k).length ≤ 12 := by
  have nd := I.nd k
  rw [marks_used] at nd
  have nd2 : (usedAt S k).Nodup := (List.pairwise_map.mp nd).imp fun h e => h (by rw [e])
  have := sub_len (l' := List.range 12) nd2 fun x hx => List.mem_range.mpr (ed_lt I (to_ed I hx)).2.2
  rwa [List.length_range] at this
end

end K05
namespace K05
open PySem L2 PI
/-! ### methods of webs -/
theorem meth_spec {L : List T4} {h h1 h2 : AH} {i : Nat} {r : Ev} {fo : Ev → AH → Res D} {fa : Ev → AH → Res (List D)} {ds : List D} {call : Nat → List D → AH → Res D} {g : Str} {q : Res D} (hf : fo r h = .ok (webD L) h1)
    (hp : mthOf ct g 0 = some i) (hg : ((webG.zip (webV L)).lookup g).isNone = true) (ha : fa r h1 = .ok ds h2) (hn : ds.length + 1 = nps i) (hc : call i (webD L :: ds) h2 = q) : cMeth ct call nps g fo fa r h = q := by
  have hw : clsOf h1 (webD L) = some (0, webG.zip (webV L)) := rfl
  simp only [cMeth, hf, hw, hp, hg, if_true, ha, Res.bind, hn, hc]
theorem nk (L : List T4) {g : Str} (hg : webG.contains g = false) : ((webG.zip (webV L)).lookup g).isNone = true := by
  have e : ∀ (l : List Str) (v : List D), l.contains g = false → ((l.zip v).lookup g).isNone = true := by
    intro l
    induction l with
    | nil => intro v _; rfl
    | cons a l ih =>
      intro v hl
      cases v with
      | nil => rfl
      | cons d v =>
        rw [List.contains_cons, Bool.or_eq_false_iff] at hl
        rw [List.zip_cons_cons, List.lookup_cons, hl.1]
        exact ih v hl.2
  exact e _ _ hg
theorem tb1 : tb_int.lookup (.ty "int") = some true := by decide +kernel
theorem tb2 : tb_bool.lookup (.ty "int") = some false := by decide +kernel
theorem is_between_spec {v a b : Int} (h1 : a ≤ v) (h2 : v ≤ b) (h : AH) : cf_is_between [.int v, .int a, .int b] h = .ok (.bl true) h := by
  have d1 : decide (v < a) = false := decide_eq_false (by omega)
  have d2 : decide (v ≤ b) = true := decide_eq_true h2
  refine fzF_cl0 (show endB (f_is_between [some (.int v), some (.int a), some (.int b)] h) = _ from ?_) rfl
  simp only [f_is_between, cSeq, cAsg, cPar, cPar3, cIf, cRet, cRetN, cExp, cPass, cTst, cTru, cVar, cCon, cBin, cB, cBM, cTup, cCall, aCons, aNil, gNm, gTp, gsCons, gsNil, gSb, tAndF, tOrF, tNotF, vAnd, vOr, vNot, cIte, Res.bind, onRes, endB, List.getElem?_cons_zero, List.getElem?_cons_succ, List.set_cons_succ, List.set_cons_zero, List.length_cons, List.length_nil, if_true, if_false, Bool.false_eq_true, Bool.not_true, Bool.not_false, cIsi, tgD, tb1, tb2, truD, ltD, d1, isD, isNonD, vOr, leD, d2]

end K05
namespace K05
open PySem L2 PI
/-! ### what is told at a house, words, go -/
theorem wS_at (ws : List Nat) (i : Nat) : ((wS ws).cps[i]?.map fun c => D.str ⟨#[c]⟩) = ws[i]?.map fun c => D.str (ltr c) := by
  simp only [wS, List.getElem?_toArray, List.getElem?_map, Option.map_map]
  rfl
theorem joinN : ∀ l : List (List Nat), TL.joinL [] l = l.flatten
  | [] => rfl
  | [a] => by simp [TL.joinL]
  | a :: b :: r => by
    have := joinN (b :: r)
    simp only [TL.joinL, List.append_nil, List.nil_append] at this ⊢
    rw [this]
    rfl
theorem wS_join (ws : List Nat) : Txt.join "" (ws.map ltr) = wS ws := by
  refine TL.ext_tl ?_
  have e : TL.tl ("" : Str) = [] := by decide +kernel
  rw [TL.join_eq, TL.tl_join, e, joinN]
  induction ws with
  | nil => rfl
  | cons w ws ih =>
    simp only [List.map_cons, List.flatten_cons, ih]
    simp [TL.tl, wS, ltr]
theorem wS_in {x : Nat} {us : List Nat} (h : AH) : inB (.str (ltr x)) (.str (wS us)) h = some (decide (x ∈ us)) := by
  have e : decide (97 + x ∈ us.map fun y => 97 + y) = decide (x ∈ us) := decide_eq_decide.mpr ⟨fun z => by
    obtain ⟨y, hy, q⟩ := List.mem_map.mp z
    have : y = x := by omega
    exact this ▸ hy, fun z => List.mem_map_of_mem z⟩
  have g : (ltr x).cps.toList = [97 + x] := rfl
  have g2 : (wS us).cps.toList = us.map fun y => 97 + y := rfl
  simp only [inB, g, g2, e]
def usB (S : List T4) (k : Nat) : List Nat := srtL (fun a b => PySem.W.dataLe false (fun x : Nat => PyData.str (ltr x)) a b) (usedAt S k)
theorem usB_mem {S : List T4} {k x : Nat} : x ∈ usB S k ↔ x ∈ usedAt S k := srtL_perm.mem_iff
theorem srt_ltrs (us : List Nat) (h : AH) : srtO [.rl (us.map sl)] h = some (.ref h.length, h ++ [O.lst ((srtL (fun a b => PySem.W.dataLe false (fun x : Nat => PyData.str (ltr x)) a b) us).map sl)]) := by
  have m1 : mapO (toP 8 h) (us.map sl) = some (us.map fun x => PyData.str (ltr x)) := mapO_map (g := sl) (k := fun x => PyData.str (ltr x)) (fun x => rfl) us
  have c1 : ((us.map fun x => PyData.str (ltr x)).all fun p => (us.map fun x => PyData.str (ltr x)).all fun q => PySem.W.alike p q) = true := List.all_eq_true.mpr fun p hp => List.all_eq_true.mpr fun q hq => by
    obtain ⟨s, _, rfl⟩ := List.mem_map.mp hp
    obtain ⟨t, _, rfl⟩ := List.mem_map.mp hq
    rfl
  have c2 : ((us.map fun x => PyData.str (ltr x)).all fun p => decide (p.depth ≤ 20)) = true := by
    simp only [List.all_map, List.all_eq_true]
    intro t _
    rfl
  have c3 : ((us.map fun x => PyData.str (ltr x)).all fun p => match p with
      | .none => false
      | .tuple _ => false
      | _ => true) = true := by
    simp only [List.all_map, List.all_eq_true]
    intro t _
    rfl
  have e : srtL (PySem.W.dataLe false fun d => (toP 8 h d).getD .none) (us.map sl) = (srtL (fun a b => PySem.W.dataLe false (fun x : Nat => PyData.str (ltr x)) a b) us).map sl := srtL_map (fun s t => rfl) us
  simp only [srtO, listD, m1]
  rw [if_pos ⟨c1, c2, .inr c3⟩, e]
section
variable {L : List T4} {k : Nat}
theorem tb3 : tb_str.lookup (.ty "str") = some true := by decide +kernel
theorem len_wS {ws : List Nat} (few : ws.length ≤ 200) (h : AH) : lenO [.str (wS ws)] h = some (.int (ws.length : Nat), h) := by
  have : (wS ws).length ≤ LIM := by rw [wS_len]; show _ ≤ 1000000; omega
  simp only [lenO, wS_len, if_pos (wS_len ws ▸ this)]
theorem check_word_spec {ws : List Nat} (h1 : 1 ≤ ws.length) (h2 : ws.length ≤ 200) (hw : ∀ c ∈ ws, c < 12) (h : AH) : cf_check_word [.str (wS ws)] h = .ok .non h := by
  have e1 := fz_lc (g := gNm 1) (ce := cBin inD (cVar 1) (cCon k_MARKS)) (fi := cIter (cVar 0)) (it := .str (wS ws)) (vs := [1]) (n := 1000) (r := [some (.str (wS ws)), none]) (h := h) ws sl (fun _ => D.bl true) rfl (by omega) (by decide)
    (fun acc i => by
      show some _ = some _
      rw [wS_at]
      rfl) (fun _ _ => rfl) (fun c hc acc => ⟨_, rfl, by
      have m := mk_in ⟨_, hw c hc⟩
      have b : inB (.str (ltr c)) k_MARKS (h ++ [O.lst acc]) = some true := by
        show inB (.str (ltr c)) (.str MK) _ = _
        simp only [inB, ltr]
        exact congrArg some (decide_eq_true m)
      simp only [cSeq, cAsg, cPar, cPar3, cIf, cRet, cRetN, cExp, cPass, cTst, cTru, cVar, cCon, cBin, cB, cBM, cTup, cCall, aCons, aNil, gNm, gTp, gsCons, gsNil, gSb, tAndF, tOrF, tNotF, vAnd, vOr, vNot, cIte, Res.bind, onRes, endB, List.getElem?_cons_zero, List.getElem?_cons_succ, List.set_cons_succ, List.set_cons_zero, List.length_cons, List.length_nil, if_true, if_false, Bool.false_eq_true, Bool.not_true, Bool.not_false, wipeD, sl, inD, b]⟩)
  have al := all_map ws (fun _ : Nat => true) h
  have at' : ws.all (fun _ => true) = true := by
    rw [List.all_eq_true]
    intro _ _
    rfl
  rw [at'] at al
  have c1 : decide ((1 : Int) ≤ (ws.length : Nat)) = true := decide_eq_true (by omega)
  have c2 : decide (((ws.length : Nat) : Int) ≤ 200) = true := decide_eq_true (by omega)
  have kw : k_MOST_WORD = .int 200 := rfl
  have iw : cf_is_word [.str (wS ws)] h = .ok (.bl true) h := by
    refine fzF_cl0 (show endB (f_is_word [some (.str (wS ws)), none] h) = _ from ?_) rfl
    simp only [f_is_word, cSeq, cAsg, cPar, cPar3, cIf, cRet, cRetN, cExp, cPass, cTst, cTru, cVar, cCon, cBin, cB, cBM, cTup, cCall, aCons, aNil, gNm, gTp, gsCons, gsNil, gSb, tAndF, tOrF, tNotF, vAnd, vOr, vNot, cIte, Res.bind, onRes, endB, List.getElem?_cons_zero, List.getElem?_cons_succ, List.set_cons_succ, List.set_cons_zero, List.length_cons, List.length_nil, if_true, if_false, Bool.false_eq_true, Bool.not_true, Bool.not_false, cIsi, kw, tgD, tb3, truD, cChain, len_wS h2, leD, c1, c2, e1, al]
  refine fzF_cl0 (show endB (f_check_word [some (.str (wS ws))] h) = _ from ?_) rfl
  simp only [f_check_word, cSeq, cAsg, cPar, cPar3, cIf, cRet, cRetN, cExp, cPass, cTst, cTru, cVar, cCon, cBin, cB, cBM, cTup, cCall, aCons, aNil, gNm, gTp, gsCons, gsNil, gSb, tAndF, tOrF, tNotF, vAnd, vOr, vNot, cIte, Res.bind, onRes, endB, List.getElem?_cons_zero, List.getElem?_cons_succ, List.set_cons_succ, List.set_cons_zero, List.length_cons, List.length_nil, if_true, if_false, Bool.false_eq_true, Bool.not_true, Bool.not_false, iw, truD]
end

end K05
namespace K05
open PySem L2 PI
/-! ### where words lead -/
def wkO (S : List T4) : Nat → List Nat → Option Nat
  | k, [] => some k
  | k, x :: ws => if x ∈ usedAt S k then wkO S (toH S k x) ws else none
def oD : Option Nat → D
  | none => .non
  | some e => .int (e : Nat)
theorem wkO_app (S : List T4) (vs : List Nat) : ∀ (ws : List Nat) (k : Nat), wkO S k (ws ++ vs) = (wkO S k ws).bind fun e => wkO S e vs
  | [], k => rfl
  | x :: ws, k => by
    show (if x ∈ usedAt S k then wkO S (toH S k x) (ws ++ vs) else none) = Option.bind (if x ∈ usedAt S k then wkO S (toH S k x) ws else none) _
    split
    · exact wkO_app S vs ws _
    · rfl
theorem wkO_lt {S : List T4} (I : InW S) : ∀ {ws : List Nat} {k e : Nat}, k < mj S + 1 → wkO S k ws = some e → e < mj S + 1
  | [], k, e, h, q => by cases q; exact h
  | x :: ws, k, e, h, q => by
    unfold wkO at q
    split at q
    · rename_i hx
      exact wkO_lt I (ed_lt I (to_ed I hx)).2.1 q
    · cases q
section
variable {S : List T4}
theorem endO_spec (I : InW S) {ws : List Nat} {k : Nat} (hk : k < mj S + 1) (hl : ws.length ≤ 200) (h : AH) : cf_end_of [waysD S, .int (k : Nat), .str (wS ws)] h = .ok (oD (wkO S k ws)) h := by
  have lo := forlR (g := gNm 3) (b := cSeq (cIf (cTst (cBin ninD (cVar 3) (cBin ixD (cVar 0) (cVar 1)))) (cSeq (cRet (cCon .non)) cPass) cPass) (cSeq (cAsg (cBin ixD (cBin ixD (cVar 0) (cVar 1)) (cVar 3)) (gNm 1)) cPass))
    (it := .str (wS ws)) (l := ws) (G := sl)
    (fun i r h' => ∃ k' x, r = [some (waysD S), some (.int (k' : Nat)), some (.str (wS ws)), x] ∧ h = h' ∧ wkO S k ws = wkO S k' (ws.drop i) ∧ k' < mj S + 1)
    (fun q => q = .rt .non h ∧ wkO S k ws = none)
    (fun i r h' _ => by
      show some _ = some _
      rw [wS_at]
      rfl)
    (fun i hi r h' ⟨k', x, er, eh, ew, hk'⟩ => by
      subst er eh
      rw [List.drop_eq_getElem_cons hi] at ew
      generalize ws[i] = c at *
      have i1 := ways_ix hk' h
      have b1 := dict_in (S := S) k' c h
      have uf : wkO S k' (c :: ws.drop (i + 1)) = if c ∈ usedAt S k' then wkO S (toH S k' c) (ws.drop (i + 1)) else none := rfl
      rw [uf] at ew
      by_cases hc : c ∈ usedAt S k'
      · rw [if_pos hc] at ew
        have ed := to_ed I hc
        rw [find_ed I ed] at b1
        have i2 := dict_ix I ed h
        refine ⟨_, _, rfl, .inl ⟨[some (waysD S), some (.int (toH S k' c : Nat)), some (.str (wS ws)), some (.str (ltr c))], h, .inl ?_, toH S k' c, some (.str (ltr c)), rfl, rfl, ew, (ed_lt I ed).2.1⟩⟩
        simp only [cSeq, cAsg, cPar, cPar3, cIf, cRet, cRetN, cExp, cPass, cTst, cTru, cVar, cCon, cBin, cB, cBM, cTup, cCall, aCons, aNil, gNm, gTp, gsCons, gsNil, gSb, tAndF, tOrF, tNotF, vAnd, vOr, vNot, cIte, Res.bind, onRes, endB, List.getElem?_cons_zero, List.getElem?_cons_succ, List.set_cons_succ, List.set_cons_zero, List.length_cons, List.length_nil, if_true, if_false, Bool.false_eq_true, Bool.not_true, Bool.not_false, sl, i1, ninD, b1, i2, Option.isSome_some]
      · rw [if_neg hc] at ew
        have nf : (Sum.inr (ltr c) : Key) ∉ (marksAt S k').map (·.1) := fun z => by
          rw [marks_used] at z
          obtain ⟨y, hy, e⟩ := List.mem_map.mp z
          exact hc (ltr_inj (Sum.inr.inj e) ▸ hy)
        rw [findD_none nf] at b1
        refine ⟨_, _, rfl, .inr (.inl ⟨.non, h, ?_, rfl, ew⟩)⟩
        simp only [cSeq, cAsg, cPar, cPar3, cIf, cRet, cRetN, cExp, cPass, cTst, cTru, cVar, cCon, cBin, cB, cBM, cTup, cCall, aCons, aNil, gNm, gTp, gsCons, gsNil, gSb, tAndF, tOrF, tNotF, vAnd, vOr, vNot, cIte, Res.bind, onRes, endB, List.getElem?_cons_zero, List.getElem?_cons_succ, List.set_cons_succ, List.set_cons_zero, List.length_cons, List.length_nil, if_true, if_false, Bool.false_eq_true, Bool.not_true, Bool.not_false, sl, i1, ninD, b1, Option.isSome_none]) 1000 0 [some (waysD S), some (.int (k : Nat)), some (.str (wS ws)), none] h (by omega) (Nat.zero_le _) ⟨k, none, rfl, rfl, rfl, hk⟩
  refine fzF_cl0 (show endB (f_end_of [some (waysD S), some (.int (k : Nat)), some (.str (wS ws)), none] h) = _ from ?_) (by cases wkO S k ws <;> rfl)
  simp only [f_end_of, cSeq, cFor, cIter, cVar, List.getElem?_cons_zero, List.getElem?_cons_succ, Res.bind, onRes]
  rcases lo with ⟨e, ew⟩ | ⟨r', h', e, k', x, er, eh, ew, _⟩
  · simp only [e, endB, ew]
    rfl
  · subst er eh
    rw [List.drop_length] at ew
    simp only [e, cRet, cVar, List.getElem?_cons_zero, List.getElem?_cons_succ, onRes, endB, ew]
    rfl
/-- the pairs led on -/
def mv (S : List T4) (ws : List Nat) (P : List (Nat × Nat)) : List (Nat × Nat) := P.filterMap fun p => (wkO S p.2 ws).map fun e => (p.1, e)
def stepD (S : List T4) (ws : List Nat) (p : Nat × Nat) : D := .tup [.int (p.1 : Nat), oD (wkO S p.2 ws)]
theorem mv_D (ws : List Nat) : ∀ P : List (Nat × Nat), (P.filter fun p => (wkO S p.2 ws).isSome).map (stepD S ws) = (mv S ws P).map pairD
  | [] => rfl
  | p :: P => by
    unfold mv
    rw [List.filterMap_cons]
    cases q : wkO S p.2 ws with
    | none =>
      rw [List.filter_cons_of_neg (by rw [q]; simp)]
      exact mv_D ws P
    | some e =>
      rw [List.filter_cons_of_pos (by rw [q]; rfl)]
      simp only [Option.map_some, List.map_cons]
      rw [mv_D ws P]
      unfold stepD mv
      rw [q]
      rfl
theorem mv_mv (ws vs : List Nat) : ∀ P : List (Nat × Nat), mv S vs (mv S ws P) = mv S (ws ++ vs) P
  | [] => rfl
  | p :: P => by
    have ih := mv_mv ws vs P
    unfold mv at ih ⊢
    rw [List.filterMap_cons, List.filterMap_cons, wkO_app]
    cases q : wkO S p.2 ws with
    | none => exact ih
    | some e =>
      simp only [Option.map_some, List.filterMap_cons, Option.bind_some, ih]
theorem mv_mem {ws : List Nat} {P : List (Nat × Nat)} {a b : Nat} : (a, b) ∈ mv S ws P ↔ ∃ c, (a, c) ∈ P ∧ wkO S c ws = some b := by
  unfold mv
  rw [List.mem_filterMap]
  constructor
  · rintro ⟨⟨x, c⟩, hp, e⟩
    cases q : wkO S c ws with
    | none => rw [q] at e; cases e
    | some y =>
      rw [q] at e
      cases e
      exact ⟨c, hp, q⟩
  · rintro ⟨c, hp, e⟩
    exact ⟨(a, c), hp, by rw [e]; rfl⟩
def idP (m : Nat) : List (Nat × Nat) := (List.range m).map fun k => (k, k)
theorem oD_not (q : Option Nat) (h : AH) : isntD (oD q) .non h = .ok (.bl q.isSome) h := by cases q <;> rfl
theorem cl_step (n : Nat) (ws : List Nat) (p : Nat × Nat) : clD n (stepD S ws p) = true := by
  unfold stepD oD
  cases wkO S p.2 ws <;> rfl
theorem kept_spec (ws : List Nat) (P : List (Nat × Nat)) (few : P.length ≤ 100) (i s : Nat) {r : Ev} (hi : r[i]? = some (some (.rl (P.map (stepD S ws))))) (hs : s < r.length) (h : AH) :
    fz (cLc (cIter (cVar i)) (gNm s) (cTst (cBin isntD (cBin ixD (cVar s) (cCon (.int 1))) (cCon .non))) (cVar s) [s] 1000) r h = .ok (.rl ((mv S ws P).map pairD)) h := by
  have e := fz_lc_if (h := h) (vs := [s]) (n := 1000) (g := gNm s) (ct := cTst (cBin isntD (cBin ixD (cVar s) (cCon (.int 1))) (cCon .non))) (ce := cVar s) (fi := cIter (cVar i)) (it := .rl (P.map (stepD S ws))) (r := r) P (stepD S ws) (stepD S ws) (fun p => (wkO S p.2 ws).isSome)
    (by simp only [cIter, cVar, hi, Res.bind]) (by omega) (by decide) (fun _ i => next_rl i) (fun p _ => cl_step _ ws p) (fun p hp acc => ⟨_, rfl, by
      have g0 : ((wipeD r [s]).set s (some (stepD S ws p)))[s]? = some (some (stepD S ws p)) := by
        rw [List.getElem?_set_self]
        show s < (wipeD r [s]).length
        simp only [wipeD, List.length_set]
        exact hs
      have x1 : ixD (stepD S ws p) (.int 1) (h ++ [O.lst acc]) = .ok (oD (wkO S p.2 ws)) (h ++ [O.lst acc]) := rfl
      simp only [cTst, cBin, cVar, cCon, g0, Res.bind, x1, oD_not], fun _ => by
      have g0 : ((wipeD r [s]).set s (some (stepD S ws p)))[s]? = some (some (stepD S ws p)) := by
        rw [List.getElem?_set_self]
        show s < (wipeD r [s]).length
        simp only [wipeD, List.length_set]
        exact hs
      simp only [cVar, g0]⟩)
  rw [mv_D] at e
  exact e
end

end K05
namespace K05
open PySem L2 PI
section
variable {S : List T4}
theorem led_by_spec (I : InW S) (hm : mj S + 1 ≤ 10) {ws : List Nat} (hl : ws.length ≤ 200) (h : AH) : cf_led_by [waysD S, .str (wS ws)] h = .ok (.rl ((mv S ws (idP (mj S + 1))).map pairD)) h := by
  have ln := len_ways S h
  have b1 : inR (2 ^ 62 - 1) ((mj S + 1 : Nat) : Int) = true := inR_ok.mpr (by omega)
  have l0 : (idP (mj S + 1)).length = mj S + 1 := by unfold idP; rw [List.length_map, List.length_range]
  have e1 := fz_lc (h := h) (vs := [3]) (n := 1000) (g := gNm 3) (ce := cTup (aCons (cVar 3) (aCons (cCall 3 cf_end_of (aCons (cVar 0) (aCons (cVar 3) (aCons (cVar 1) aNil)))) aNil))) (fi := cRng1 (aCons (cB lenO (aCons (cVar 0) aNil)) aNil)) (it := .rng 0 (mj S + 1)) (r := [some (waysD S), some (.str (wS ws)), none, none, none])
    (idP (mj S + 1)) (fun p => D.int (p.1 : Nat)) (stepD S ws) (by simp only [cRng1, cSeq, cAsg, cPar, cPar3, cIf, cRet, cRetN, cExp, cPass, cTst, cTru, cVar, cCon, cBin, cB, cBM, cTup, cCall, aCons, aNil, gNm, gTp, gsCons, gsNil, gSb, tAndF, tOrF, tNotF, vAnd, vOr, vNot, cIte, Res.bind, onRes, endB, List.getElem?_cons_zero, List.getElem?_cons_succ, List.set_cons_succ, List.set_cons_zero, List.length_cons, List.length_nil, if_true, if_false, Bool.false_eq_true, Bool.not_true, Bool.not_false, ln, if_pos b1, Int.toNat_natCast]) (by omega) (by decide) (fun acc i => by
      rw [next_rng0]
      unfold idP
      rw [List.getElem?_map, Option.map_map]
      rfl) (fun p _ => cl_step _ ws p) (fun p hp acc => ⟨_, rfl, by
      obtain ⟨k, hk, rfl⟩ := List.mem_map.mp hp
      have eo := endO_spec I (List.mem_range.mp hk) hl (h ++ [O.lst acc])
      simp only [cSeq, cAsg, cPar, cPar3, cIf, cRet, cRetN, cExp, cPass, cTst, cTru, cVar, cCon, cBin, cB, cBM, cTup, cCall, aCons, aNil, gNm, gTp, gsCons, gsNil, gSb, tAndF, tOrF, tNotF, vAnd, vOr, vNot, cIte, Res.bind, onRes, endB, List.getElem?_cons_zero, List.getElem?_cons_succ, List.set_cons_succ, List.set_cons_zero, List.length_cons, List.length_nil, if_true, if_false, Bool.false_eq_true, Bool.not_true, Bool.not_false, wipeD, eo, lm2]
      rfl⟩)
  have e2 := kept_spec (S := S) ws (idP (mj S + 1)) (by omega) 2 4 (r := [some (waysD S), some (.str (wS ws)), some (.rl ((idP (mj S + 1)).map (stepD S ws))), none, none]) rfl (by show 4 < 5; omega) h
  refine fzF_cl0 (show endB (f_led_by [some (waysD S), some (.str (wS ws)), none, none, none] h) = _ from ?_) (by simp only [clD]; exact clDs_map fun _ _ => rfl)
  simp only [f_led_by, cSeq, cAsg, e1, onRes, gNm, List.set_cons_succ, List.set_cons_zero, cRet, e2, endB]
end

end K05
namespace K05
open PySem L2 PI
/-! ### a visit looked at -/
theorem eqv_int (a b : Int) : PyData.eqv (.int a) (.int b) = decide (a = b) := by
  show (a == b) = _
  rw [Bool.eq_iff_iff]
  simp
theorem eq_ints (l m : List Int) (h : AH) : eqB (.rl (l.map D.int)) (.rl (m.map D.int)) h = some (decide (l = m)) := by
  have sc : scalD (.rl (l.map D.int)) (.rl (m.map D.int)) = none := rfl
  have tp : ∀ l : List Int, toP 12 h (.rl (l.map D.int)) = some (.list (l.map PyData.int)) := fun l => by
    show (mapO (toP 11 h) (l.map D.int)).map PyData.list = _
    rw [mapO_map (g := D.int) (k := PyData.int) (fun t => rfl) l]
    rfl
  have sh : ∀ l : List Int, SeqAt.shaped (.list (l.map PyData.int)) = true := fun l => shL fun x _ => ⟨rfl, by show 0 ≤ 60; omega⟩
  simp only [eqB, sc, tp, Option.bind_some, sh]
  rw [if_pos ⟨trivial, trivial⟩]
  simp only [PyData.eqv, eqvL_dec eqv_int]
def natsI (l : List Nat) : List Int := l.map fun (k : Nat) => (k : Int)
theorem dN_int (l : List Nat) : l.map dN = (natsI l).map D.int := by
  unfold natsI
  rw [List.map_map]
  rfl
theorem upTo_nat (m : Nat) : PI.upTo ((m : Nat) : Int) = (natsI (List.range m)).map D.int := by
  unfold PI.upTo natsI
  rw [List.map_map]
  rfl
theorem asc_range {l : List Nat} {m : Nat} (e : ∀ k, k ∈ l ↔ k < m) : ascI (natsI l) = natsI (List.range m) := by
  refine asc_one ascI_asc ?_ fun k => ?_
  · unfold natsI
    rw [List.pairwise_map]
    exact List.pairwise_lt_range.imp fun h => by omega
  · rw [ascI_mem]
    unfold natsI
    constructor
    · intro z
      obtain ⟨n, hn, rfl⟩ := List.mem_map.mp z
      exact List.mem_map.mpr ⟨n, List.mem_range.mpr ((e n).mp hn), rfl⟩
    · intro z
      obtain ⟨n, hn, rfl⟩ := List.mem_map.mp z
      exact List.mem_map.mpr ⟨n, (e n).mpr (List.mem_range.mp hn), rfl⟩
theorem mapO_ints (l : List Int) : mapO dInt (l.map D.int) = some l := by
  have := mapO_map (f := dInt) (g := D.int) (k := id) (fun _ => rfl) l
  rwa [List.map_id] at this

end K05
namespace K05
open PySem L2 PI
/-! ### the law's own walks -/
section
variable {S : List T4}
theorem lwalk_spec (I : InW S) {ws : List Nat} {k : Nat} (hk : k < mj S + 1) (hl : ws.length ≤ 200) (h : AH) : cf__law_walk [waysD S, .int (k : Nat), .str (wS ws)] h = .ok (oD (wkO S k ws)) h := by
  have lo := forlR (g := gNm 3) (b := cSeq (cIf (cTst (cBin ninD (cVar 3) (cBin ixD (cVar 0) (cVar 1)))) (cSeq (cRet (cCon .non)) cPass) cPass) (cSeq (cAsg (cBin ixD (cBin ixD (cVar 0) (cVar 1)) (cVar 3)) (gNm 1)) cPass))
    (it := .str (wS ws)) (l := ws) (G := sl)
    (fun i r h' => ∃ k' x, r = [some (waysD S), some (.int (k' : Nat)), some (.str (wS ws)), x] ∧ h = h' ∧ wkO S k ws = wkO S k' (ws.drop i) ∧ k' < mj S + 1)
    (fun q => q = .rt .non h ∧ wkO S k ws = none)
    (fun i r h' _ => by
      show some _ = some _
      rw [wS_at]
      rfl)
    (fun i hi r h' ⟨k', x, er, eh, ew, hk'⟩ => by
      subst er eh
      rw [List.drop_eq_getElem_cons hi] at ew
      generalize ws[i] = c at *
      have i1 := ways_ix hk' h
      have b1 := dict_in (S := S) k' c h
      have uf : wkO S k' (c :: ws.drop (i + 1)) = if c ∈ usedAt S k' then wkO S (toH S k' c) (ws.drop (i + 1)) else none := rfl
      rw [uf] at ew
      by_cases hc : c ∈ usedAt S k'
      · rw [if_pos hc] at ew
        have ed := to_ed I hc
        rw [find_ed I ed] at b1
        have i2 := dict_ix I ed h
        refine ⟨_, _, rfl, .inl ⟨[some (waysD S), some (.int (toH S k' c : Nat)), some (.str (wS ws)), some (.str (ltr c))], h, .inl ?_, toH S k' c, some (.str (ltr c)), rfl, rfl, ew, (ed_lt I ed).2.1⟩⟩
        simp only [cSeq, cAsg, cPar, cPar3, cIf, cRet, cRetN, cExp, cPass, cTst, cTru, cVar, cCon, cBin, cB, cBM, cTup, cCall, aCons, aNil, gNm, gTp, gsCons, gsNil, gSb, tAndF, tOrF, tNotF, vAnd, vOr, vNot, cIte, Res.bind, onRes, endB, List.getElem?_cons_zero, List.getElem?_cons_succ, List.set_cons_succ, List.set_cons_zero, List.length_cons, List.length_nil, if_true, if_false, Bool.false_eq_true, Bool.not_true, Bool.not_false, sl, i1, ninD, b1, i2, Option.isSome_some]
      · rw [if_neg hc] at ew
        have nf : (Sum.inr (ltr c) : Key) ∉ (marksAt S k').map (·.1) := fun z => by
          rw [marks_used] at z
          obtain ⟨y, hy, e⟩ := List.mem_map.mp z
          exact hc (ltr_inj (Sum.inr.inj e) ▸ hy)
        rw [findD_none nf] at b1
        refine ⟨_, _, rfl, .inr (.inl ⟨.non, h, ?_, rfl, ew⟩)⟩
        simp only [cSeq, cAsg, cPar, cPar3, cIf, cRet, cRetN, cExp, cPass, cTst, cTru, cVar, cCon, cBin, cB, cBM, cTup, cCall, aCons, aNil, gNm, gTp, gsCons, gsNil, gSb, tAndF, tOrF, tNotF, vAnd, vOr, vNot, cIte, Res.bind, onRes, endB, List.getElem?_cons_zero, List.getElem?_cons_succ, List.set_cons_succ, List.set_cons_zero, List.length_cons, List.length_nil, if_true, if_false, Bool.false_eq_true, Bool.not_true, Bool.not_false, sl, i1, ninD, b1, Option.isSome_none]) 1000 0 [some (waysD S), some (.int (k : Nat)), some (.str (wS ws)), none] h (by omega) (Nat.zero_le _) ⟨k, none, rfl, rfl, rfl, hk⟩
  refine fzF_cl0 (show endB (f__law_walk [some (waysD S), some (.int (k : Nat)), some (.str (wS ws)), none] h) = _ from ?_) (by cases wkO S k ws <;> rfl)
  simp only [f__law_walk, cSeq, cFor, cIter, cVar, List.getElem?_cons_zero, List.getElem?_cons_succ, Res.bind, onRes]
  rcases lo with ⟨e, ew⟩ | ⟨r', h', e, k', x, er, eh, ew, _⟩
  · simp only [e, endB, ew]
    rfl
  · subst er eh
    rw [List.drop_length] at ew
    simp only [e, cRet, cVar, List.getElem?_cons_zero, List.getElem?_cons_succ, onRes, endB, ew]
    rfl
end

end K05
namespace K05
open PySem L2 PI
/-! ### words that lead two -/
section
variable {S : List T4} {s : Nat × Nat}
def Lch (S : List T4) (s : Nat × Nat) (n : Nat) (q : Nat × Nat) : Prop := ∃ ws : List Nat, ws.length = n ∧ wkO S s.1 ws = some q.1 ∧ wkO S s.2 ws = some q.2
/-- a mark leads both on -/
def Nx (S : List T4) (p : Nat × Nat) (x : Nat) (q : Nat × Nat) : Prop := x ∈ usedAt S p.1 ∧ x ∈ usedAt S p.2 ∧ q = (toH S p.1 x, toH S p.2 x)
theorem wkO_one (k x : Nat) : wkO S k [x] = if x ∈ usedAt S k then some (toH S k x) else none := rfl
theorem wkO_snoc {k e x : Nat} {ws : List Nat} (h : wkO S k ws = some e) (hx : x ∈ usedAt S e) : wkO S k (ws ++ [x]) = some (toH S e x) := by
  rw [wkO_app, h, Option.bind_some, wkO_one, if_pos hx]
theorem lch_zero {q : Nat × Nat} (h : Lch S s 0 q) : q = s := by
  obtain ⟨ws, l, h1, h2⟩ := h
  obtain rfl := List.length_eq_zero_iff.mp l
  exact Prod.ext (Option.some.inj h1).symm (Option.some.inj h2).symm
theorem lch_succ {n : Nat} {q : Nat × Nat} (h : Lch S s (n + 1) q) : ∃ p x, Lch S s n p ∧ Nx S p x q := by
  obtain ⟨ws, l, h1, h2⟩ := h
  have ne : ws ≠ [] := fun z => by rw [z] at l; cases l
  have e := List.dropLast_concat_getLast ne
  have ld : ws.dropLast.length = n := by rw [List.length_dropLast, l]; omega
  rw [← e, wkO_app] at h1 h2
  cases z1 : wkO S s.1 ws.dropLast with
  | none => rw [z1] at h1; cases h1
  | some a =>
    cases z2 : wkO S s.2 ws.dropLast with
    | none => rw [z2] at h2; cases h2
    | some b =>
      rw [z1, Option.bind_some, wkO_one] at h1
      rw [z2, Option.bind_some, wkO_one] at h2
      split at h1
      · rename_i x1
        split at h2
        · rename_i x2
          exact ⟨(a, b), ws.getLast ne, ⟨ws.dropLast, ld, z1, z2⟩, x1, x2, Prod.ext (Option.some.inj h1).symm (Option.some.inj h2).symm⟩
        · cases h2
      · cases h1
theorem lch_step {n x : Nat} {p q : Nat × Nat} (h : Lch S s n p) (hx : Nx S p x q) : Lch S s (n + 1) q := by
  obtain ⟨ws, l, h1, h2⟩ := h
  obtain ⟨x1, x2, rfl⟩ := hx
  exact ⟨ws ++ [x], by rw [List.length_append, l]; rfl, wkO_snoc h1 x1, wkO_snoc h2 x2⟩
theorem wkO_marks (I : InW S) : ∀ {ws : List Nat} {k e : Nat}, wkO S k ws = some e → ∀ x ∈ ws, x < 12
  | [], _, _, _, x, hx => absurd hx List.not_mem_nil
  | y :: ws, k, e, q, x, hx => by
    unfold wkO at q
    split at q
    · rename_i hy
      rcases List.mem_cons.mp hx with z | hx
      · rw [z]; exact (ed_lt I (to_ed I hy)).2.2
      · exact wkO_marks I q x hx
    · cases q
/-! the queue: found R, the line is the start and then R -/
abbrev Wp := List Nat × (Nat × Nat)
def ln (s : Nat × Nat) (R : List Wp) : List Wp := ([], s) :: R
structure BA (S : List T4) (s : Nat × Nat) (R : List Wp) : Prop where
  sound : ∀ e ∈ R, e.1 ≠ [] ∧ wkO S s.1 e.1 = some e.2.1 ∧ wkO S s.2 e.1 = some e.2.2
  nd : (R.map (·.2)).Nodup
  asc : (ln s R).Pairwise (fun a b => a.1.length ≤ b.1.length)
  lens : ∀ (j : Nat) (c : Wp), (ln s R)[j]? = some c → c.1.length ≤ j
def Dn (S : List T4) (s : Nat × Nat) (R : List Wp) (i : Nat) : Prop := ∀ (j : Nat), j < i → ∀ c, (ln s R)[j]? = some c → ∀ x q, Nx S c.2 x q → ∃ w, (w, q) ∈ R ∧ w.length ≤ c.1.length + 1
structure BI (S : List T4) (s : Nat × Nat) (R : List Wp) (i : Nat) : Prop where
  ba : BA S s R
  near : ∀ c, (ln s R)[i]? = some c → ∀ e ∈ R, e.1.length ≤ c.1.length + 1
  done : Dn S s R i
structure BJ (S : List T4) (s : Nat × Nat) (R : List Wp) (i : Nat) (c : Wp) (M : List Nat) : Prop where
  ba : BA S s R
  at' : (ln s R)[i]? = some c
  near : ∀ e ∈ R, e.1.length ≤ c.1.length + 1
  done : Dn S s R i
  cur : ∀ x ∈ M, ∃ w, (w, (toH S c.2.1 x, toH S c.2.2 x)) ∈ R ∧ w.length ≤ c.1.length + 1
theorem BI.nil : BI S s [] 0 :=
  ⟨⟨fun e he => absurd he List.not_mem_nil, List.nodup_nil, List.pairwise_singleton _ _, fun j c h => by
    have : j = 0 := by
      have := (List.getElem?_eq_some_iff.mp h).1
      simp only [ln, List.length_cons, List.length_nil] at this
      omega
    subst this
    cases h
    exact Nat.le_refl _⟩, fun c _ e he => absurd he List.not_mem_nil, fun j hj => absurd hj (Nat.not_lt_zero _)⟩
theorem BI.start {R : List Wp} {i : Nat} {c : Wp} (h : BI S s R i) (hc : (ln s R)[i]? = some c) : BJ S s R i c [] := ⟨h.ba, hc, h.near c hc, h.done, fun x hx => absurd hx List.not_mem_nil⟩
theorem BJ.old {R : List Wp} {i x : Nat} {c : Wp} {M : List Nat} (h : BJ S s R i c M) (hk : (toH S c.2.1 x, toH S c.2.2 x) ∈ R.map (·.2)) : BJ S s R i c (M ++ [x]) :=
  ⟨h.ba, h.at', h.near, h.done, fun y hy => by
    rcases List.mem_append.mp hy with hy | hy
    · exact h.cur y hy
    · rw [List.mem_singleton.mp hy]
      obtain ⟨e, he, e2⟩ := List.mem_map.mp hk
      exact ⟨e.1, by rw [← e2]; exact he, h.near e he⟩⟩
theorem BJ.sc {R : List Wp} {i : Nat} {c : Wp} {M : List Nat} (h : BJ S s R i c M) : wkO S s.1 c.1 = some c.2.1 ∧ wkO S s.2 c.1 = some c.2.2 := by
  have hm := List.mem_of_getElem? h.at'
  rcases List.mem_cons.mp hm with e | hm
  · rw [e]; exact ⟨rfl, rfl⟩
  · exact (h.ba.sound c hm).2
theorem ln_snoc (s : Nat × Nat) (R : List Wp) (e : Wp) : ln s (R ++ [e]) = ln s R ++ [e] := rfl
theorem BJ.new {R : List Wp} {i x : Nat} {c : Wp} {M : List Nat} (h : BJ S s R i c M) (x1 : x ∈ usedAt S c.2.1) (x2 : x ∈ usedAt S c.2.2) (hk : (toH S c.2.1 x, toH S c.2.2 x) ∉ R.map (·.2)) : BJ S s (R ++ [(c.1 ++ [x], (toH S c.2.1 x, toH S c.2.2 x))]) i c (M ++ [x]) := by
  have sc := h.sc
  have il := (List.getElem?_eq_some_iff.mp h.at').1
  have ll : (ln s R).length = R.length + 1 := rfl
  have lc : (c.1 ++ [x]).length = c.1.length + 1 := by rw [List.length_append]; rfl
  have ix : ∀ j (d : Wp), j < (ln s R).length → (ln s (R ++ [(c.1 ++ [x], (toH S c.2.1 x, toH S c.2.2 x))]))[j]? = some d → (ln s R)[j]? = some d := fun j d hj hd => by
    rw [ln_snoc, List.getElem?_append_left hj] at hd
    exact hd
  refine ⟨⟨fun e he => ?_, ?_, ?_, fun j d hd => ?_⟩, ?_, fun e he => ?_, fun j hj d hd y q hy => ?_, fun y hy => ?_⟩
  · rcases List.mem_append.mp he with he | he
    · exact h.ba.sound e he
    · rw [List.mem_singleton.mp he]
      exact ⟨fun z => by simp at z, wkO_snoc sc.1 x1, wkO_snoc sc.2 x2⟩
  · rw [List.map_append, List.nodup_append]
    exact ⟨h.ba.nd, by simp, fun a ha b hb z => hk (by
      have hb' : b = (toH S c.2.1 x, toH S c.2.2 x) := by simpa using hb
      rw [← hb', ← z]; exact ha)⟩
  · rw [ln_snoc, List.pairwise_append]
    refine ⟨h.ba.asc, List.pairwise_singleton _ _, fun a ha b hb => ?_⟩
    rw [List.mem_singleton.mp hb, lc]
    rcases List.mem_cons.mp ha with e | ha
    · rw [e]; exact Nat.zero_le _
    · exact h.near a ha
  · by_cases hj : j < (ln s R).length
    · exact h.ba.lens j d (ix j d hj hd)
    · have jl := (List.getElem?_eq_some_iff.mp hd).1
      rw [ln_snoc, List.length_append, List.length_singleton] at jl
      have : j = (ln s R).length := by omega
      rw [ln_snoc, this, List.getElem?_concat_length] at hd
      cases hd
      have := h.ba.lens i c h.at'
      rw [lc]
      omega
  · rw [ln_snoc, List.getElem?_append_left il]
    exact h.at'
  · rcases List.mem_append.mp he with he | he
    · exact h.near e he
    · rw [List.mem_singleton.mp he, lc]
      exact Nat.le_refl _
  · obtain ⟨w, hw, hl⟩ := h.done j hj d (ix j d (by omega) hd) y q hy
    exact ⟨w, List.mem_append_left _ hw, hl⟩
  · rcases List.mem_append.mp hy with hy | hy
    · obtain ⟨w, hw, hl⟩ := h.cur y hy
      exact ⟨w, List.mem_append_left _ hw, hl⟩
    · rw [List.mem_singleton.mp hy]
      exact ⟨c.1 ++ [x], List.mem_append_right _ (List.mem_singleton.mpr rfl), by rw [lc]; exact Nat.le_refl _⟩
theorem BJ.fin {R : List Wp} {i : Nat} {c : Wp} {M : List Nat} (h : BJ S s R i c M) (hM : ∀ x, x ∈ usedAt S c.2.1 → x ∈ usedAt S c.2.2 → x ∈ M) : BI S s R (i + 1) := by
  refine ⟨h.ba, fun d hd e he => ?_, fun j hj d hd x q hx => ?_⟩
  · have a1 := (List.getElem?_eq_some_iff.mp h.at')
    have a2 := (List.getElem?_eq_some_iff.mp hd)
    obtain ⟨b1, c1⟩ := a1
    obtain ⟨b2, c2⟩ := a2
    have := List.pairwise_iff_getElem.mp h.ba.asc i (i + 1) b1 b2 (by omega)
    rw [c1, c2] at this
    have := h.near e he
    omega
  · by_cases z : j < i
    · exact h.done j z d hd x q hx
    · have : j = i := by omega
      subst this
      have : c = d := Option.some.inj (h.at'.symm.trans hd)
      subst this
      obtain ⟨x1, x2, rfl⟩ := hx
      exact h.cur x (hM x x1 x2)
theorem BI.all {R : List Wp} {i : Nat} (h : BI S s R i) (hi : R.length + 1 ≤ i) : ∀ (n : Nat) (q : Nat × Nat), Lch S s (n + 1) q → ∃ w, (w, q) ∈ R ∧ w.length ≤ n + 1
  | 0, q, r => by
    obtain ⟨p, x, r0, hx⟩ := lch_succ r
    have := lch_zero r0
    subst this
    obtain ⟨w, hw, hl⟩ := h.done 0 (by omega) ([], p) rfl x q hx
    exact ⟨w, hw, hl⟩
  | n + 1, q, r => by
    obtain ⟨p, x, r0, hx⟩ := lch_succ r
    obtain ⟨w0, hw0, hl0⟩ := h.all hi n p r0
    obtain ⟨j, hj⟩ := List.mem_iff_getElem?.mp hw0
    have jl := (List.getElem?_eq_some_iff.mp hj).1
    obtain ⟨w, hw, hl⟩ := h.done (j + 1) (by omega) (w0, p) hj x q hx
    simp only at hl
    exact ⟨w, hw, by omega⟩
theorem key_one {R : List Wp} (nd : (R.map (·.2)).Nodup) {w w' : List Nat} {q : Nat × Nat} (h : (w, q) ∈ R) (h' : (w', q) ∈ R) : w = w' := by
  have := inj_of_nodup nd (w, q) h (w', q) h' rfl
  exact (Prod.mk.inj this).1
theorem BA.keys (I : InW S) {R : List Wp} (h : BA S s R) (s1 : s.1 < mj S + 1) (s2 : s.2 < mj S + 1) : ∀ q ∈ R.map (·.2), q.1 < mj S + 1 ∧ q.2 < mj S + 1 := fun q hq => by
  obtain ⟨e, he, rfl⟩ := List.mem_map.mp hq
  have := h.sound e he
  exact ⟨wkO_lt I s1 this.2.1, wkO_lt I s2 this.2.2⟩
theorem pairs_few {l : List (Nat × Nat)} (nd : l.Nodup) {B : Nat} (hB : B = 4 ∨ B = 10) (h : ∀ p ∈ l, p.1 < B ∧ p.2 < B) : l.length ≤ B * B := by
  have nd2 : (l.map fun p => p.1 * 10 + p.2).Nodup := nodup_map nd fun a ha b hb e => by
    have := h a ha
    have := h b hb
    exact Prod.ext (by omega) (by omega)
  rcases hB with rfl | rfl
  · have nd3 : (l.map fun p => p.1 * 4 + p.2).Nodup := nodup_map nd fun a ha b hb e => by
      have := h a ha
      have := h b hb
      exact Prod.ext (by omega) (by omega)
    have := sub_len (l' := List.range 16) nd3 fun x hx => by
      obtain ⟨p, hp, rfl⟩ := List.mem_map.mp hx
      have := h p hp
      exact List.mem_range.mpr (by omega)
    rw [List.length_map, List.length_range] at this
    exact this
  · have := sub_len (l' := List.range 100) nd2 fun x hx => by
      obtain ⟨p, hp, rfl⟩ := List.mem_map.mp hx
      have := h p hp
      exact List.mem_range.mpr (by omega)
    rw [List.length_map, List.length_range] at this
    exact this
end

end K05
namespace K05
open PySem L2 PI
/-! ### steps of two -/
theorem ft_ways {S : List T4} (k : Nat) (x : Nat) (I : InW S) (h : AH) : inB (.str (ltr x)) (dictD (marksAt S k)) h = some (decide (x ∈ usedAt S k)) := by
  rw [dict_in]
  by_cases hx : x ∈ usedAt S k
  · rw [find_ed I (to_ed I hx), decide_eq_true hx]; rfl
  · have nf : (Sum.inr (ltr x) : Key) ∉ (marksAt S k).map (·.1) := fun z => by
      rw [marks_used] at z
      obtain ⟨y, hy, e⟩ := List.mem_map.mp z
      exact hx (ltr_inj (Sum.inr.inj e) ▸ hy)
    rw [findD_none nf, decide_eq_false hx]; rfl
/-- the marks that lead both on, sorted -/
def cm (S : List T4) (p : Nat × Nat) : List Nat := srtL (fun a b => PySem.W.dataLe false (fun x : Nat => PyData.str (ltr x)) a b) ((usedAt S p.1).filter fun x => decide (x ∈ usedAt S p.2))
theorem cm_mem {S : List T4} {p : Nat × Nat} {x : Nat} : x ∈ cm S p ↔ x ∈ usedAt S p.1 ∧ x ∈ usedAt S p.2 := by
  unfold cm
  rw [srtL_perm.mem_iff, List.mem_filter, decide_eq_true_iff]
theorem cm_len {S : List T4} (I : InW S) (p : Nat × Nat) : (cm S p).length ≤ 12 := by
  unfold cm
  rw [srtL_perm.length_eq]
  have := List.length_filter_le (fun x => decide (x ∈ usedAt S p.2)) (usedAt S p.1)
  have := used12 I p.1
  omega
def nx (S : List T4) (p : Nat × Nat) (x : Nat) : Nat × Nat := (toH S p.1 x, toH S p.2 x)
def stD (S : List T4) (p : Nat × Nat) (x : Nat) : D := .tup [.str (ltr x), pairD (nx S p x)]
section
variable {S : List T4} {p : Nat × Nat}
theorem steps_spec (I : InW S) (h1 : p.1 < mj S + 1) (h2 : p.2 < mj S + 1) (h : AH) : cf_steps_of_two [waysD S, pairD p] h = .ok (.rl ((cm S p).map (stD S p))) h := by
  have w1 := fun Y => ways_ix (S := S) h1 Y
  have w2 := fun Y => ways_ix (S := S) h2 Y
  have e1 := fz_lc_if (h := h) (vs := [5]) (n := 1000) (g := gNm 5) (ct := cTst (cBin inD (cVar 5) (cBin ixD (cVar 0) (cVar 4)))) (ce := cVar 5) (fi := cIter (cBin ixD (cVar 0) (cVar 3))) (it := .kys ((usedAt S p.1).map fun x => (Sum.inr (ltr x) : Key))) (r := [some (waysD S), some (pairD p), none, some (.int (p.1 : Nat)), some (.int (p.2 : Nat)), none])
    (usedAt S p.1) sl sl (fun x => decide (x ∈ usedAt S p.2)) (by
      simp only [cIter, cBin, cVar, List.getElem?_cons_zero, List.getElem?_cons_succ, Res.bind, w1]
      rw [dict_keys]) (by have := used12 I p.1; omega) (by decide) (fun acc i => by
      show some _ = some _
      rw [List.getElem?_map, Option.map_map]
      rfl) (fun _ _ => rfl) (fun x hx acc => ⟨_, rfl, by
      have i2 := ft_ways p.2 x I (h ++ [O.lst acc])
      simp only [cSeq, cAsg, cPar, cPar3, cIf, cRet, cRetN, cExp, cPass, cTst, cTru, cVar, cCon, cBin, cB, cBM, cTup, cCall, aCons, aNil, gNm, gTp, gsCons, gsNil, gSb, tAndF, tOrF, tNotF, vAnd, vOr, vNot, cIte, Res.bind, onRes, endB, List.getElem?_cons_zero, List.getElem?_cons_succ, List.set_cons_succ, List.set_cons_zero, List.length_cons, List.length_nil, if_true, if_false, Bool.false_eq_true, Bool.not_true, Bool.not_false, wipeD, sl, w2, inD, i2], fun _ => rfl⟩)
  have e2 : fz (cB srtO (aCons (fz (cLc (cIter (cBin ixD (cVar 0) (cVar 3))) (gNm 5) (cTst (cBin inD (cVar 5) (cBin ixD (cVar 0) (cVar 4)))) (cVar 5) [5] 1000)) aNil)) [some (waysD S), some (pairD p), none, some (.int (p.1 : Nat)), some (.int (p.2 : Nat)), none] h = .ok (.rl ((cm S p).map sl)) h := by
    refine fz_lst ?_ (clDs_map fun _ _ => rfl)
    simp only [cB, aCons, aNil, Res.bind, e1, srt_ltrs]
    rfl
  have e3 := fz_lc (h := h) (vs := [5]) (n := 1000) (g := gNm 5) (ce := cTup (aCons (cVar 5) (aCons (cTup (aCons (cBin ixD (cBin ixD (cVar 0) (cVar 3)) (cVar 5)) (aCons (cBin ixD (cBin ixD (cVar 0) (cVar 4)) (cVar 5)) aNil))) aNil))) (fi := cIter (cVar 2)) (it := .rl ((cm S p).map sl)) (r := [some (waysD S), some (pairD p), some (.rl ((cm S p).map sl)), some (.int (p.1 : Nat)), some (.int (p.2 : Nat)), none])
    (cm S p) sl (stD S p) rfl (by have := cm_len I p; omega) (by decide) (fun acc i => next_rl i) (fun _ _ => rfl) (fun x hx acc => ⟨_, rfl, by
      have m := cm_mem.mp hx
      have j1 := dict_ix I (to_ed I m.1) (h ++ [O.lst acc])
      have j2 := dict_ix I (to_ed I m.2) (h ++ [O.lst acc])
      simp only [cSeq, cAsg, cPar, cPar3, cIf, cRet, cRetN, cExp, cPass, cTst, cTru, cVar, cCon, cBin, cB, cBM, cTup, cCall, aCons, aNil, gNm, gTp, gsCons, gsNil, gSb, tAndF, tOrF, tNotF, vAnd, vOr, vNot, cIte, Res.bind, onRes, endB, List.getElem?_cons_zero, List.getElem?_cons_succ, List.set_cons_succ, List.set_cons_zero, List.length_cons, List.length_nil, if_true, if_false, Bool.false_eq_true, Bool.not_true, Bool.not_false, wipeD, sl, w1, w2, j1, j2, lm2]
      rfl⟩)
  refine fzF_cl0 (show endB (f_steps_of_two [some (waysD S), some (pairD p), none, none, none, none] h) = _ from ?_) (by simp only [clD]; exact clDs_map fun _ _ => rfl)
  have up : gTp 2 (gsCons (gNm 3) (gsCons (gNm 4) gsNil)) (pairD p) [some (waysD S), some (pairD p), none, none, none, none] h = some ([some (waysD S), some (pairD p), none, some (.int (p.1 : Nat)), some (.int (p.2 : Nat)), none], h) := rfl
  simp only [f_steps_of_two, cSeq, cAsg, cVar, List.getElem?_cons_zero, List.getElem?_cons_succ, onRes, up, e2, gNm, List.set_cons_succ, List.set_cons_zero, cRet, e3, endB]
end

end K05
namespace K05
open PySem L2 PI
/-! ### words of two -/
def kP (p : Nat × Nat) : List Key := [.inl (p.1 : Int), .inl (p.2 : Int)]
def foD (e : Wp) : List Key × D := (kP e.2, .str (wS e.1))
def liD (e : Wp) : D := .tup [.str (wS e.1), pairD e.2]
theorem kP_inj {p q : Nat × Nat} (e : kP p = kP q) : p = q := by
  simp only [kP, List.cons.injEq, Sum.inl.injEq, and_true] at e
  exact Prod.ext (by omega) (by omega)
theorem kP_of (p : Nat × Nat) : keysOf (pairD p) = some (kP p) := rfl
def qh (h : AH) (s : Nat × Nat) (R : List Wp) : AH := h ++ [O.dT (R.map foD), O.lst ((ln s R).map liD)]
section
variable {S : List T4} {s : Nat × Nat} {h : AH} {R : List Wp}
theorem qh_f : (qh h s R)[h.length]? = some (.dT (R.map foD)) := get_new
theorem qh_l : (qh h s R)[h.length + 1]? = some (.lst ((ln s R).map liD)) := by
  unfold qh
  rw [List.getElem?_append_right (by omega), show h.length + 1 - h.length = 1 by omega]
  rfl
theorem fo_keys : (R.map foD).map (·.1) = (R.map (·.2)).map kP := by
  rw [List.map_map, List.map_map]
  rfl
theorem fo_mem {q : Nat × Nat} : kP q ∈ (R.map foD).map (·.1) ↔ q ∈ R.map (·.2) := by
  rw [fo_keys]
  constructor
  · intro z
    obtain ⟨p, hp, e⟩ := List.mem_map.mp z
    exact kP_inj e ▸ hp
  · intro z
    exact List.mem_map_of_mem z
theorem find_new {κ : Type} [DecidableEq κ] {d : List (κ × D)} {k : κ} : (findD d k).isSome = decide (k ∈ d.map (·.1)) := by
  by_cases hk : k ∈ d.map (·.1)
  · rw [decide_eq_true hk]
    unfold findD
    rw [Option.isSome_map, List.find?_isSome]
    obtain ⟨e, he, rfl⟩ := List.mem_map.mp hk
    exact ⟨e, he, by simp⟩
  · rw [findD_none hk, decide_eq_false hk]
    rfl
theorem qh_in (q : Nat × Nat) : inB (pairD q) (.ref h.length) (qh h s R) = some (decide (q ∈ R.map (·.2))) := by
  have e : (findD (R.map foD) (kP q)).isSome = decide (q ∈ R.map (·.2)) := by
    rw [find_new]
    exact decide_eq_decide.mpr fo_mem
  simp only [inB, qh_f, lookD, dicOf, Option.bind_some, kP_of, Option.map_some, e]
noncomputable abbrev wIn : Ev → AH → RS := (cSeq
        (cIf (cTst (cBin ninD (cVar 8) (cVar 2))) (cSeq
          (cAsg (cBin addD (cVar 5) (cVar 7)) (gSb (cVar 2) (cVar 8)))
          (cSeq
          (cExp (cBM "list" appO (cVar 3) (aCons (cTup (aCons (cBin addD (cVar 5) (cVar 7)) (aCons (cVar 8) aNil))) aNil)))
          cPass)) cPass)
        cPass)
def wev (S : List T4) (s : Nat × Nat) (h : AH) (i : Nat) (x5 x6 x7 x8 : Option D) : Ev := [some (waysD S), some (pairD s), some (.ref h.length), some (.ref (h.length + 1)), some (.int (i : Nat)), x5, x6, x7, x8]
theorem win_spec {i x : Nat} {c : Wp} {M : List Nat} (hJ : BJ S s R i c M) (x1 : x ∈ usedAt S c.2.1) (x2 : x ∈ usedAt S c.2.2) (few : R.length < 1000) (lw : c.1.length ≤ 1000) (x6 : Option D) :
    ∃ R', BJ S s R' i c (M ++ [x]) ∧ wIn (wev S s h i (some (.str (wS c.1))) x6 (some (.str (ltr x))) (some (pairD (nx S c.2 x)))) (qh h s R) = .nx (wev S s h i (some (.str (wS c.1))) x6 (some (.str (ltr x))) (some (pairD (nx S c.2 x)))) (qh h s R') := by
  have ni := qh_in (h := h) (s := s) (R := R) (nx S c.2 x)
  by_cases hk : nx S c.2 x ∈ R.map (·.2)
  · refine ⟨R, hJ.old hk, ?_⟩
    rw [decide_eq_true hk] at ni
    simp only [wIn, wev, cSeq, cAsg, cPar, cPar3, cIf, cRet, cRetN, cExp, cPass, cTst, cTru, cVar, cCon, cBin, cB, cBM, cTup, cCall, aCons, aNil, gNm, gTp, gsCons, gsNil, gSb, tAndF, tOrF, tNotF, vAnd, vOr, vNot, cIte, Res.bind, onRes, endB, List.getElem?_cons_zero, List.getElem?_cons_succ, List.set_cons_succ, List.set_cons_zero, List.length_cons, List.length_nil, if_true, if_false, Bool.false_eq_true, Bool.not_true, Bool.not_false, ninD, ni]
  · refine ⟨_, hJ.new x1 x2 hk, ?_⟩
    rw [decide_eq_false hk] at ni
    have la : (wS c.1).length + (ltr x).length ≤ LIM := by rw [wS_len, ltr_len]; show _ ≤ 1000000; omega
    have ad : ∀ Y, addD (.str (wS c.1)) (.str (ltr x)) Y = .ok (.str (wS (c.1 ++ [x]))) Y := fun Y => by
      simp only [addD, if_pos la, wS_snoc]
    have ld : (R.map foD).length < LIM := by rw [List.length_map]; show _ < 1000000; omega
    have nk : kP (nx S c.2 x) ∉ (R.map foD).map (·.1) := fun z => hk (fo_mem.mp z)
    have st : setD (.ref h.length) (pairD (nx S c.2 x)) (.str (wS (c.1 ++ [x]))) (qh h s R) = some (h ++ [O.dT ((R ++ [(c.1 ++ [x], nx S c.2 x)]).map foD), O.lst ((ln s R).map liD)]) := by
      have e : (R.map foD) ++ [(kP (nx S c.2 x), D.str (wS (c.1 ++ [x])))] = (R ++ [(c.1 ++ [x], nx S c.2 x)]).map foD := by rw [List.map_append]; rfl
      simp only [setD, qh_f, kP_of, if_pos ld, putD_new nk, e]
      unfold qh
      rw [set_new]
    have g : (h ++ [O.dT ((R ++ [(c.1 ++ [x], nx S c.2 x)]).map foD), O.lst ((ln s R).map liD)])[h.length + 1]? = some (.lst ((ln s R).map liD)) := by
      rw [List.getElem?_append_right (by omega), show h.length + 1 - h.length = 1 by omega]
      rfl
    have ll : ((ln s R).map liD).length < LIM := by rw [List.length_map]; show R.length + 1 < 1000000; omega
    have ty : tyD "list" (h ++ [O.dT ((R ++ [(c.1 ++ [x], nx S c.2 x)]).map foD), O.lst ((ln s R).map liD)]) (.ref (h.length + 1)) = true := by
      simp only [tyD, g]
      rfl
    have ap : appO [.ref (h.length + 1), .tup [.str (wS (c.1 ++ [x])), pairD (nx S c.2 x)]] (h ++ [O.dT ((R ++ [(c.1 ++ [x], nx S c.2 x)]).map foD), O.lst ((ln s R).map liD)]) = some (.non, qh h s (R ++ [(c.1 ++ [x], nx S c.2 x)])) := by
      have e : (ln s R).map liD ++ [D.tup [.str (wS (c.1 ++ [x])), pairD (nx S c.2 x)]] = (ln s (R ++ [(c.1 ++ [x], nx S c.2 x)])).map liD := by rw [ln_snoc, List.map_append]; rfl
      have sx : (h ++ [O.dT ((R ++ [(c.1 ++ [x], nx S c.2 x)]).map foD), O.lst ((ln s R).map liD)]).set (h.length + 1) (.lst ((ln s (R ++ [(c.1 ++ [x], nx S c.2 x)])).map liD)) = qh h s (R ++ [(c.1 ++ [x], nx S c.2 x)]) := by
        rw [List.set_append_right _ _ (by omega), show h.length + 1 - h.length = 1 by omega]
        rfl
      simp only [appO, g, if_pos ll, e, sx]
    simp only [wIn, wev, cSeq, cAsg, cPar, cPar3, cIf, cRet, cRetN, cExp, cPass, cTst, cTru, cVar, cCon, cBin, cB, cBM, cTup, cCall, aCons, aNil, gNm, gTp, gsCons, gsNil, gSb, tAndF, tOrF, tNotF, vAnd, vOr, vNot, cIte, Res.bind, onRes, endB, List.getElem?_cons_zero, List.getElem?_cons_succ, List.set_cons_succ, List.set_cons_zero, List.length_cons, List.length_nil, if_true, if_false, Bool.false_eq_true, Bool.not_true, Bool.not_false, ninD, ni, ad, st, ty, lm2, ap, Option.map_some]
    rfl
noncomputable abbrev wOut : Ev → AH → RS := (cSeq
      (cAsg (cBin ixD (cVar 3) (cVar 4)) (gTp 2 (gsCons (gNm 5) (gsCons (gNm 6) gsNil))))
      (cSeq
      (cFor (cIter (cCall 2 cf_steps_of_two (aCons (cVar 0) (aCons (cVar 6) aNil)))) (gTp 2 (gsCons (gNm 7) (gsCons (gNm 8) gsNil))) wIn 1000)
      (cSeq
      (cAug 4 (· + ·) (cCon (.int 1)))
      cPass)))
theorem BA.few (I : InW S) (hm : mj S + 1 ≤ 10) (s1 : s.1 < mj S + 1) (s2 : s.2 < mj S + 1) (b : BA S s R) : R.length ≤ 100 := by
  have := pairs_few b.nd (.inr rfl) fun q hq => by have := b.keys I s1 s2 q hq; omega
  rwa [List.length_map] at this
theorem wout_spec (I : InW S) (hm : mj S + 1 ≤ 10) (s1 : s.1 < mj S + 1) (s2 : s.2 < mj S + 1) {i : Nat} (hB : BI S s R i) (hi : i < R.length + 1) (x5 x6 x7 x8 : Option D) :
    ∃ R' y5 y6 y7 y8, BI S s R' (i + 1) ∧ wOut (wev S s h i x5 x6 x7 x8) (qh h s R) = .nx (wev S s h (i + 1) y5 y6 y7 y8) (qh h s R') := by
  have hl : i < (ln s R).length := hi
  have ec := List.getElem?_eq_getElem hl
  generalize (ln s R)[i] = c at ec
  have J0 := hB.start ec
  have sc := J0.sc
  have c1 := wkO_lt I s1 sc.1
  have c2 := wkO_lt I s2 sc.2
  have fewR := hB.ba.few I hm s1 s2
  have lc := hB.ba.lens i c ec
  have st := steps_spec I c1 c2 (qh h s R)
  have cl := cm_len I c.2
  obtain ⟨r', h', e, R', y7, y8, rfl, rfl, J⟩ := forl0 (g := gTp 2 (gsCons (gNm 7) (gsCons (gNm 8) gsNil))) (b := wIn) (it := .rl ((cm S c.2).map (stD S c.2))) (n := 1000) (r := wev S s h i (some (.str (wS c.1))) (some (pairD c.2)) x7 x8) (h := qh h s R) (l := cm S c.2) (G := stD S c.2)
    (fun j r h' => ∃ (R' : List Wp) (y7 y8 : Option D), r = wev S s h i (some (.str (wS c.1))) (some (pairD c.2)) y7 y8 ∧ h' = qh h s R' ∧ BJ S s R' i c ((cm S c.2).take j))
    (fun j r h' _ => next_rl j)
    (fun j hj r h' ⟨R', y7, y8, er, eh, J⟩ => by
      subst er eh
      have hx := cm_mem.mp (List.getElem_mem hj)
      have fewR' := J.ba.few I hm s1 s2
      obtain ⟨R2, J2, e2⟩ := win_spec (h := h) J hx.1 hx.2 (by omega) (by omega) (some (pairD c.2))
      refine ⟨_, _, _, _, rfl, Or.inl e2, R2, _, _, rfl, rfl, ?_⟩
      rw [List.take_succ, List.getElem?_eq_getElem hj]
      exact J2) (by omega) ⟨R, x7, x8, rfl, rfl, J0⟩
  rw [List.take_length] at J
  refine ⟨R', some (.str (wS c.1)), some (pairD c.2), y7, y8, J.fin fun x h1 h2 => cm_mem.mpr ⟨h1, h2⟩, ?_⟩
  have ix : ixD (.ref (h.length + 1)) (.int (i : Nat)) (qh h s R) = .ok (liD c) (qh h s R) := ix_lst i qh_l (by rw [List.getElem?_map, ec]; rfl)
  have up : gTp 2 (gsCons (gNm 5) (gsCons (gNm 6) gsNil)) (liD c) (wev S s h i x5 x6 x7 x8) (qh h s R) = some (wev S s h i (some (.str (wS c.1))) (some (pairD c.2)) x7 x8, qh h s R) := rfl
  have v3 : (wev S s h i x5 x6 x7 x8)[3]? = some (some (.ref (h.length + 1))) := rfl
  have v4 : (wev S s h i x5 x6 x7 x8)[4]? = some (some (.int (i : Nat))) := rfl
  have v0 : (wev S s h i (some (.str (wS c.1))) (some (pairD c.2)) x7 x8)[0]? = some (some (waysD S)) := rfl
  have v6 : (wev S s h i (some (.str (wS c.1))) (some (pairD c.2)) x7 x8)[6]? = some (some (pairD c.2)) := rfl
  have au : cAug 4 (· + ·) (cCon (.int 1)) (wev S s h i (some (.str (wS c.1))) (some (pairD c.2)) y7 y8) (qh h s R') = .nx (wev S s h (i + 1) (some (.str (wS c.1))) (some (pairD c.2)) y7 y8) (qh h s R') := by
    simp only [wev, cAug, cSeq, cAsg, cPar, cPar3, cIf, cRet, cRetN, cExp, cPass, cTst, cTru, cVar, cCon, cBin, cB, cBM, cTup, cCall, aCons, aNil, gNm, gTp, gsCons, gsNil, gSb, tAndF, tOrF, tNotF, vAnd, vOr, vNot, cIte, Res.bind, onRes, endB, List.getElem?_cons_zero, List.getElem?_cons_succ, List.set_cons_succ, List.set_cons_zero, List.length_cons, List.length_nil, if_true, if_false, Bool.false_eq_true, Bool.not_true, Bool.not_false]
    rfl
  simp only [wOut, cSeq, cAsg, cBin, cVar, v3, v4, Res.bind, ix, onRes, up, cFor, cIter, cCall, aCons, aNil, v0, v6, List.length_cons, List.length_nil, if_true, st, e, au, cPass]
noncomputable abbrev wTst : Ev → AH → Res Bool := cTst (cBin ltD (cVar 4) (cB lenO (aCons (cVar 3) aNil)))
theorem words_spec (I : InW S) (hm : mj S + 1 ≤ 10) (s1 : s.1 < mj S + 1) (s2 : s.2 < mj S + 1) (h : AH) : ∃ (R : List Wp) (i : Nat), BI S s R i ∧ R.length + 1 ≤ i ∧ cf_words_of_two [waysD S, pairD s] h = .ok (.ft ((R.map foD).map (·.1)) ((R.map foD).map (·.2))) h := by
  have tst : ∀ (i : Nat) (R : List Wp) x5 x6 x7 x8, R.length ≤ 100 → wTst (wev S s h i x5 x6 x7 x8) (qh h s R) = .ok (decide (i < R.length + 1)) (qh h s R) := fun i R x5 x6 x7 x8 few => by
    have ll : lenO [.ref (h.length + 1)] (qh h s R) = some (.int ((R.length + 1 : Nat) : Int), qh h s R) := by
      have e : ((ln s R).map liD).length = R.length + 1 := by rw [List.length_map]; rfl
      simp only [lenO, listD, qh_l, Option.some_or, e]
    have d : decide (((i : Nat) : Int) < ((R.length + 1 : Nat) : Int)) = decide (i < R.length + 1) := decide_eq_decide.mpr (by omega)
    simp only [wTst, wev, cSeq, cAsg, cPar, cPar3, cIf, cRet, cRetN, cExp, cPass, cTst, cTru, cVar, cCon, cBin, cB, cBM, cTup, cCall, aCons, aNil, gNm, gTp, gsCons, gsNil, gSb, tAndF, tOrF, tNotF, vAnd, vOr, vNot, cIte, Res.bind, onRes, endB, List.getElem?_cons_zero, List.getElem?_cons_succ, List.set_cons_succ, List.set_cons_zero, List.length_cons, List.length_nil, if_true, if_false, Bool.false_eq_true, Bool.not_true, Bool.not_false, ll, ltD, d]
  obtain ⟨n', r', h', e, ⟨R, i, y5, y6, y7, y8, rfl, rfl, B, _⟩, et⟩ := whl0 (c := wTst) (b := wOut) (fun n r h' => ∃ R i y5 y6 y7 y8, r = wev S s h i y5 y6 y7 y8 ∧ h' = qh h s R ∧ BI S s R i ∧ n + i = 200)
    (fun n r h' ⟨R, i, y5, y6, y7, y8, er, eh, B, en⟩ => by
      subst er eh
      have few := B.ba.few I hm s1 s2
      have t := tst i R y5 y6 y7 y8 few
      by_cases hi : i < R.length + 1
      · rw [decide_eq_true hi] at t
        obtain ⟨R', z5, z6, z7, z8, B', e'⟩ := wout_spec (h := h) I hm s1 s2 B hi y5 y6 y7 y8
        exact .inr ⟨t, n - 1, _, _, by omega, e', R', i + 1, z5, z6, z7, z8, rfl, rfl, B', by omega⟩
      · rw [decide_eq_false hi] at t
        exact .inl t) 1000 200 (wev S s h 0 none none none none) (qh h s []) (by omega) ⟨[], 0, none, none, none, none, rfl, rfl, BI.nil, rfl⟩
  have few := B.ba.few I hm s1 s2
  rw [tst i R y5 y6 y7 y8 few] at et
  have hi : ¬ i < R.length + 1 := by
    intro z
    rw [decide_eq_true z] at et
    cases et
  refine ⟨R, i, B, by omega, ?_⟩
  have eb : cb_words_of_two [waysD S, pairD s] h = .ok (.ref h.length) (qh h s R) := by
    show endB (f_words_of_two [some (waysD S), some (pairD s), none, none, none, none, none, none, none] h) = _
    have e0 : ∀ K : Ev → AH → RS, cSeq (cAsg (cDic (.dT [])) (gNm 2)) (cSeq (cAsg (cLst (aCons (cTup (aCons (cCon (.str "")) (aCons (cVar 1) aNil))) aNil)) (gNm 3)) (cSeq (cAsg (cCon (.int 0)) (gNm 4)) K)) [some (waysD S), some (pairD s), none, none, none, none, none, none, none] h = K (wev S s h 0 none none none none) (qh h s []) := fun K => by
      have l1 : (h ++ [O.dT []]).length = h.length + 1 := by rw [List.length_append, List.length_singleton]
      have em : (D.str "") = .str (wS []) := by
        have : ("" : Str) = wS [] := by decide +kernel
        rw [this]
      have ew : h ++ [O.dT []] ++ [O.lst [D.tup [.str (wS []), pairD s]]] = qh h s [] := by
        rw [List.append_assoc]
        rfl
      simp only [cSeq, cAsg, cDic, onRes, gNm, List.set_cons_succ, List.set_cons_zero, cLst, cTup, aCons, aNil, cCon, cVar, List.getElem?_cons_zero, List.getElem?_cons_succ, Res.bind, List.length_cons, List.length_nil, lm2, lm1, if_true, newL, l1, em, ew]
      rfl
    unfold f_words_of_two
    rw [e0]
    have v2 : (wev S s h i y5 y6 y7 y8)[2]? = some (some (.ref h.length)) := rfl
    refine (congrArg endB (show cSeq (cWhl wTst wOut 1000) (cSeq (cRet (cVar 2)) cPass) (wev S s h 0 none none none none) (qh h s []) = .rt (.ref h.length) (qh h s R) from ?_)).trans rfl
    simp only [cSeq, e, cRet, cVar, v2, onRes]
  unfold cf_words_of_two fzF
  rw [eb]
  have ko : KO h (qh h s R) := KO.app h _
  have tk : (qh h s R).take h.length = h := take_app
  have cl : clDs h.length ((R.map foD).map (·.2)) = true := by
    rw [List.map_map]
    exact clDs_map fun _ _ => rfl
  have fr : frzD (qh h s R) h.length 9 (.ref h.length) = some (.ft ((R.map foD).map (·.1)) ((R.map foD).map (·.2))) := by
    unfold frzD
    rw [if_neg (by simp [clD])]
    simp only [qh_f, mapP_cl cl, Option.map_some]
  simp only [fzR, if_pos ko, fr, tk]
end

end K05
namespace K05
open PySem L2 PI
theorem houses_fn (L : List T4) (h : AH) : cf_Web_houses [webD L] h = .ok (.int ((mj (S4 L) + 1 : Nat) : Int)) h := by
  have w := fun call => fld_spec (call := call) (g := "ways") (fo := cVar 0) (r := [some (webD L)]) (h := h) (h1 := h) (L := L) rfl (by decide +kernel) (lk_ways L)
  refine fzF_cl0 (show endB (f_Web_houses [some (webD L)] h) = _ from ?_) rfl
  simp only [f_Web_houses, cSeq, cAsg, cPar, cPar3, cIf, cRet, cRetN, cExp, cPass, cTst, cTru, cVar, cCon, cBin, cB, cBM, cTup, cCall, aCons, aNil, gNm, gTp, gsCons, gsNil, gSb, tAndF, tOrF, tNotF, vAnd, vOr, vNot, cIte, Res.bind, onRes, endB, List.getElem?_cons_zero, List.getElem?_cons_succ, List.set_cons_succ, List.set_cons_zero, List.length_cons, List.length_nil, if_true, if_false, Bool.false_eq_true, Bool.not_true, Bool.not_false, w, len_ways]
theorem houses_at {L : List T4} {call : Nat → List D → AH → Res D} (hc : call iHouses = cf_Web_houses) {fo : Ev → AH → Res D} {r : Ev} {h h1 : AH} (hf : fo r h = .ok (webD L) h1) : cAttr ct call nps "houses" fo r h = .ok (.int ((mj (S4 L) + 1 : Nat) : Int)) h1 := prop_spec (i := iHouses) hf (by decide +kernel) (by kernel_rfl) rfl (by rw [hc]; exact houses_fn L h1)
/-! ### answers compared -/
theorem eqB_of {d e : D} {h : AH} {p q : PyData} (sc : scalD d e = none) (hd : toP 12 h d = some p) (he : toP 12 h e = some q) (sp : SeqAt.shaped p = true) (sq : SeqAt.shaped q = true) : eqB d e h = some (PyData.eqv p q) := by
  simp only [eqB, sc, hd, he, Option.bind_some, sp, sq]
  rw [if_pos ⟨trivial, trivial⟩]
def tI' (l : List Int) : PyData := .tuple (l.map PyData.int)
theorem toP_ints (n : Nat) (l : List Int) (h : AH) : toP (n + 2) h (.tup (l.map D.int)) = some (tI' l) := by
  show (mapO (toP (n + 1) h) (l.map D.int)).map PyData.tuple = _
  rw [mapO_map (g := D.int) (k := PyData.int) (fun t => rfl) l]
  rfl
theorem can_ints (l : List Int) : (tI' l).canLay0 = true := by
  show PyData.canLayAll0 (l.map PyData.int) = true
  exact canL fun _ _ => rfl
theorem dep_ints (l : List Int) : (tI' l).depth ≤ 1 := by
  show PyData.depthAll (l.map PyData.int) + 1 ≤ 1
  have := depL (f := PyData.int) (n := 0) (l := l) fun _ _ => Nat.le_refl _
  omega
theorem eqv_ints (l : List Int) : PyData.eqv (tI' l) (tI' l) = true := by
  simp only [tI', PyData.eqv, eqvL_dec eqv_int, decide_true]
theorem ne_of {d e : D} {b : Bool} {h : AH} (x : eqB d e h = some b) : neD d e h = .ok (.bl !b) h := by
  simp only [neD, x]
theorem sgs_w (ws : List Nat) : (sgs (wS ws)).map D.str = (ws.map fun x => [x]).map fun w => D.str (wS w) := by
  unfold sgs
  show ((ws.map fun x => 97 + x).map fun c => (⟨#[c]⟩ : Str)).map D.str = _
  rw [List.map_map, List.map_map, List.map_map]
  rfl
theorem w_app (ws vs : List Nat) : wS ws ++ wS vs = wS (ws ++ vs) := by
  show (⟨(wS ws).cps ++ (wS vs).cps⟩ : Str) = _
  unfold wS
  rw [List.map_append]
  simp
theorem w_add (ws vs : List Nat) (few : ws.length + vs.length < 1000) (h : AH) : addD (.str (wS ws)) (.str (wS vs)) h = .ok (.str (wS (ws ++ vs))) h := by
  have l : (wS ws).length + (wS vs).length ≤ LIM := by
    rw [wS_len, wS_len]
    show _ ≤ 1000000
    omega
  simp only [addD, if_pos l, w_app]
theorem listS_spec (ws : List Nat) (few : ws.length ≤ 1000) {r : Ev} {h : AH} {f : Ev → AH → Res D} (hf : f r h = .ok (.str (wS ws)) h) : fz (cB listSO (aCons f aNil)) r h = .ok (.rl ((ws.map fun x => [x]).map fun w => D.str (wS w))) h := by
  refine fz_lst ?_ (clDs_map fun _ _ => rfl)
  have lx : (wS ws).cps.size ≤ 1000000 := by
    have := wS_len ws
    show (wS ws).length ≤ 1000000
    omega
  simp only [cSeq, cAsg, cPar, cPar3, cIf, cRet, cRetN, cExp, cPass, cTst, cTru, cVar, cCon, cBin, cB, cBM, cTup, cCall, aCons, aNil, gNm, gTp, gsCons, gsNil, gSb, tAndF, tOrF, tNotF, vAnd, vOr, vNot, cIte, Res.bind, onRes, endB, List.getElem?_cons_zero, List.getElem?_cons_succ, List.set_cons_succ, List.set_cons_zero, List.length_cons, List.length_nil, if_true, if_false, Bool.false_eq_true, Bool.not_true, Bool.not_false, hf, listSO, if_pos lx, sgs_w]
  rfl
def lsOf (S : List T4) : List Nat := (List.range 12).filter (uses S)
theorem ls_lt {S : List T4} : ∀ x ∈ lsOf S, x < 12 := fun x hx => List.mem_range.mp (List.mem_filter.mp hx).1
theorem ls_asc (S : List T4) : (lsOf S).Pairwise (· < ·) := List.Pairwise.sublist List.filter_sublist List.pairwise_lt_range
theorem ls_len (S : List T4) : (lsOf S).length ≤ 12 := by
  have := List.length_filter_le (uses S) (List.range 12)
  rwa [List.length_range] at this
theorem letters_ls (S : List T4) : lettersL S = wS (lsOf S) := wS_join _
theorem marks_fn (L : List T4) (h : AH) : cf_Web_marks [webD L] h = .ok (.str (wS (lsOf (S4 L)))) h := by
  have w := fun call => fld_spec (call := call) (g := "letters") (fo := cVar 0) (r := [some (webD L)]) (h := h) (h1 := h) (L := L) rfl (by decide +kernel) (lk_letters L)
  rw [letters_ls] at w
  refine fzF_cl0 (show endB (f_Web_marks [some (webD L)] h) = _ from ?_) rfl
  simp only [f_Web_marks, cSeq, cAsg, cPar, cPar3, cIf, cRet, cRetN, cExp, cPass, cTst, cTru, cVar, cCon, cBin, cB, cBM, cTup, cCall, aCons, aNil, gNm, gTp, gsCons, gsNil, gSb, tAndF, tOrF, tNotF, vAnd, vOr, vNot, cIte, Res.bind, onRes, endB, List.getElem?_cons_zero, List.getElem?_cons_succ, List.set_cons_succ, List.set_cons_zero, List.length_cons, List.length_nil, if_true, if_false, Bool.false_eq_true, Bool.not_true, Bool.not_false, w]
theorem marks_at {L : List T4} {call : Nat → List D → AH → Res D} (hc : call iMarks = cf_Web_marks) {fo : Ev → AH → Res D} {r : Ev} {h h1 : AH} (hf : fo r h = .ok (webD L) h1) : cAttr ct call nps "marks" fo r h = .ok (.str (wS (lsOf (S4 L)))) h1 := prop_spec (i := iMarks) hf (by decide +kernel) (by kernel_rfl) rfl (by rw [hc]; exact marks_fn L h1)

end K05
namespace K05
open PySem L2 PI
/-! ### led, unlike, joined -/
section
variable {L : List T4}
theorem ways_at {L : List T4} {call : Nat → List D → AH → Res D} {r : Ev} {h h1 : AH} {fo : Ev → AH → Res D} (hf : fo r h = .ok (webD L) h1) : cAttr ct call nps "ways" fo r h = .ok (waysD (S4 L)) h1 := fld_spec (call := call) (g := "ways") hf (by decide +kernel) (lk_ways L)
/-- what a word leads -/
abbrev ldP (S : List T4) (ws : List Nat) : List (Nat × Nat) := mv S ws (idP (mj S + 1))
theorem led_spec (w : WebL L) {ws : List Nat} (h1 : 1 ≤ ws.length) (h2 : ws.length ≤ 200) (hw : ∀ c ∈ ws, c < 12) (h : AH) : cf_led [webD L, .str (wS ws)] h = .ok (.tup ((ldP (S4 L) ws).map pairD)) h := by
  have cw := check_web_spec L h
  have cd := check_word_spec h1 h2 hw h
  have wy := fun call => ways_at (call := call) (L := L) (fo := cVar 0) (r := [some (webD L), some (.str (wS ws))]) (h := h) (h1 := h) rfl
  have lb := led_by_spec w.2 (by have := w.mj10; omega) h2 h
  have tp : tupO [.rl ((ldP (S4 L) ws).map pairD)] h = some (.tup ((ldP (S4 L) ws).map pairD), h) := tup_rl h
  refine fzF_cl0 (show endB (f_led [some (webD L), some (.str (wS ws))] h) = _ from ?_) (by simp only [clD]; exact clDs_map fun _ _ => rfl)
  simp only [f_led, cSeq, cAsg, cPar, cPar3, cIf, cRet, cRetN, cExp, cPass, cTst, cTru, cVar, cCon, cBin, cB, cBM, cTup, cCall, aCons, aNil, gNm, gTp, gsCons, gsNil, gSb, tAndF, tOrF, tNotF, vAnd, vOr, vNot, cIte, Res.bind, onRes, endB, List.getElem?_cons_zero, List.getElem?_cons_succ, List.set_cons_succ, List.set_cons_zero, List.length_cons, List.length_nil, if_true, if_false, Bool.false_eq_true, Bool.not_true, Bool.not_false, cw, cd, wy, lb, tp]
/-- where two words part -/
def apart (S : List T4) (ws vs : List Nat) : List Nat := (List.range (mj S + 1)).filter fun k => (wkO S k ws).isSome && ((wkO S k vs).isSome && decide (wkO S k ws ≠ wkO S k vs))
theorem ne_oD {a b : Option Nat} (ha : a.isSome = true) (hb : b.isSome = true) (h : AH) : neD (oD a) (oD b) h = .ok (.bl (decide (a ≠ b))) h := by
  cases a with
  | none => cases ha
  | some x =>
    cases b with
    | none => cases hb
    | some y =>
      have e : eqB (.int (x : Nat)) (.int (y : Nat)) h = some (decide (x = y)) := by
        simp only [eqB, scalD]
        exact congrArg some (decide_eq_decide.mpr (by omega))
      have d : (!decide (x = y)) = decide (some x ≠ some y) := by
        by_cases z : x = y
        · subst z; simp
        · simp [z]
      simp only [oD, ne_of e, d]
noncomputable abbrev uB : Ev → AH → RS := (cSeq
      (cPar 5 6 (aCons (cCall 3 cf_end_of (aCons (cAttr ct call1 nps "ways" (cVar 0)) (aCons (cVar 4) (aCons (cVar 1) aNil)))) (aCons (cCall 3 cf_end_of (aCons (cAttr ct call1 nps "ways" (cVar 0)) (aCons (cVar 4) (aCons (cVar 2) aNil)))) aNil)))
      (cSeq
      (cIf (tAndF (cTst (cBin isntD (cVar 5) (cCon .non))) (tAndF (cTst (cBin isntD (cVar 6) (cCon .non))) (cTst (cBin neD (cVar 5) (cVar 6))))) (cSeq
        (cExp (cBM "list" appO (cVar 3) (aCons (cVar 4) aNil)))
        cPass) cPass)
      cPass))
theorem unlike_spec (w : WebL L) {ws vs : List Nat} (a1 : 1 ≤ ws.length) (a2 : ws.length ≤ 200) (aw : ∀ c ∈ ws, c < 12) (b1 : 1 ≤ vs.length) (b2 : vs.length ≤ 200) (bw : ∀ c ∈ vs, c < 12) (h : AH) :
    cf_unlike [webD L, .str (wS ws), .str (wS vs)] h = .ok (.tup ((apart (S4 L) ws vs).map dN)) h := by
  have cw := check_web_spec L h
  have cd1 := check_word_spec a1 a2 aw h
  have cd2 := check_word_spec b1 b2 bw h
  have m10 := w.mj10
  have hs := houses_at (L := L) (call := call1) rfl (fo := cVar 0) (r := [some (webD L), some (.str (wS ws)), some (.str (wS vs)), some (.ref h.length), none, none, none]) (h := h ++ [O.lst []]) (h1 := h ++ [O.lst []]) rfl
  have bm : inR (2 ^ 62 - 1) ((mj (S4 L) + 1 : Nat) : Int) = true := inR_ok.mpr (by omega)
  have rg : cRng1 (aCons (cAttr ct call1 nps "houses" (cVar 0)) aNil) [some (webD L), some (.str (wS ws)), some (.str (wS vs)), some (.ref h.length), none, none, none] (h ++ [O.lst []]) = .ok (.rng 0 (mj (S4 L) + 1)) (h ++ [O.lst []]) := by
    simp only [cRng1, aCons, aNil, hs, Res.bind, if_pos bm, Int.toNat_natCast]
  obtain ⟨r', h', e, y4, y5, y6, rfl, rfl⟩ := forl0 (g := gNm 4) (b := uB) (it := .rng 0 (mj (S4 L) + 1)) (n := 1000) (r := [some (webD L), some (.str (wS ws)), some (.str (wS vs)), some (.ref h.length), none, none, none]) (h := h ++ [O.lst []]) (l := List.range (mj (S4 L) + 1)) (G := fun (k : Nat) => D.int (k : Int))
    (fun i r h' => ∃ (y4 y5 y6 : Option D), r = [some (webD L), some (.str (wS ws)), some (.str (wS vs)), some (.ref h.length), y4, y5, y6] ∧ h' = h ++ [O.lst ((((List.range (mj (S4 L) + 1)).take i).filter fun k => (wkO (S4 L) k ws).isSome && ((wkO (S4 L) k vs).isSome && decide (wkO (S4 L) k ws ≠ wkO (S4 L) k vs))).map dN)])
    (fun i r h' _ => next_rng0 _ i _)
    (fun i hi r h' ⟨y4, y5, y6, er, eh⟩ => by
      subst er eh
      have ht := List.getElem?_eq_getElem hi
      have hi' := hi
      rw [List.length_range] at hi'
      have e0 : (List.range (mj (S4 L) + 1))[i] = i := List.getElem_range _
      generalize hA : ((List.range (mj (S4 L) + 1)).take i).filter (fun k => (wkO (S4 L) k ws).isSome && ((wkO (S4 L) k vs).isSome && decide (wkO (S4 L) k ws ≠ wkO (S4 L) k vs))) = A
      have lA : A.length ≤ 100 := by
        have := List.length_filter_le (fun k => (wkO (S4 L) k ws).isSome && ((wkO (S4 L) k vs).isSome && decide (wkO (S4 L) k ws ≠ wkO (S4 L) k vs))) ((List.range (mj (S4 L) + 1)).take i)
        rw [hA, List.length_take] at this
        omega
      have wy := fun Y => ways_at (call := call1) (L := L) (fo := cVar 0) (r := [some (webD L), some (.str (wS ws)), some (.str (wS vs)), some (.ref h.length), some (.int (i : Nat)), y5, y6]) (h := Y) (h1 := Y) rfl
      have o1 := fun Y => endO_spec w.2 hi' a2 Y
      have o2 := fun Y => endO_spec w.2 hi' b2 Y
      have ty := ty_new (X := h) (l := A.map dN) (j := []) h.length rfl
      have ap := app_new (X := h) (l := A.map dN) (d := D.int (i : Nat)) h.length rfl (by rw [List.length_map]; omega)
      have s1 : ((List.range (mj (S4 L) + 1)).take (i + 1)).filter (fun k => (wkO (S4 L) k ws).isSome && ((wkO (S4 L) k vs).isSome && decide (wkO (S4 L) k ws ≠ wkO (S4 L) k vs))) = A ++ (if ((wkO (S4 L) i ws).isSome && ((wkO (S4 L) i vs).isSome && decide (wkO (S4 L) i ws ≠ wkO (S4 L) i vs))) = true then [i] else []) := by
        rw [List.take_succ, ht, e0, List.filter_append, hA]
        congr 1
        simp only [Option.toList]
        rw [List.filter_cons, List.filter_nil]
      refine ⟨_, _, [some (webD L), some (.str (wS ws)), some (.str (wS vs)), some (.ref h.length), some (.int (i : Nat)), some (oD (wkO (S4 L) i ws)), some (oD (wkO (S4 L) i vs))], h ++ [O.lst ((A ++ (if ((wkO (S4 L) i ws).isSome && ((wkO (S4 L) i vs).isSome && decide (wkO (S4 L) i ws ≠ wkO (S4 L) i vs))) = true then [i] else [])).map dN)], rfl, Or.inl ?_, _, _, _, rfl, by rw [s1]⟩
      rw [e0]
      have n1 := fun Y => oD_not (wkO (S4 L) i ws) Y
      have n2 := fun Y => oD_not (wkO (S4 L) i vs) Y
      by_cases z1 : (wkO (S4 L) i ws).isSome = true
      · by_cases z2 : (wkO (S4 L) i vs).isSome = true
        · have n3 := fun Y => ne_oD z1 z2 Y
          by_cases z3 : wkO (S4 L) i ws ≠ wkO (S4 L) i vs
          · have d3 := decide_eq_true z3
            rw [z1, z2, d3, if_pos (show (true && (true && true)) = true from rfl)]
            simp only [uB, cSeq, cAsg, cPar, cPar3, cIf, cRet, cRetN, cExp, cPass, cTst, cTru, cVar, cCon, cBin, cB, cBM, cTup, cCall, aCons, aNil, gNm, gTp, gsCons, gsNil, gSb, tAndF, tOrF, tNotF, vAnd, vOr, vNot, cIte, Res.bind, onRes, endB, List.getElem?_cons_zero, List.getElem?_cons_succ, List.set_cons_succ, List.set_cons_zero, List.length_cons, List.length_nil, if_true, if_false, Bool.false_eq_true, Bool.not_true, Bool.not_false, wy, o1, o2, n1, n2, n3, z1, z2, d3, ty, ap, List.map_append, List.map_cons, List.map_nil, dN]
          · have d3 := decide_eq_false z3
            rw [z1, z2, d3, if_neg (by simp), List.append_nil]
            simp only [uB, cSeq, cAsg, cPar, cPar3, cIf, cRet, cRetN, cExp, cPass, cTst, cTru, cVar, cCon, cBin, cB, cBM, cTup, cCall, aCons, aNil, gNm, gTp, gsCons, gsNil, gSb, tAndF, tOrF, tNotF, vAnd, vOr, vNot, cIte, Res.bind, onRes, endB, List.getElem?_cons_zero, List.getElem?_cons_succ, List.set_cons_succ, List.set_cons_zero, List.length_cons, List.length_nil, if_true, if_false, Bool.false_eq_true, Bool.not_true, Bool.not_false, wy, o1, o2, n1, n2, n3, z1, z2, d3]
        · have z2' : (wkO (S4 L) i vs).isSome = false := by simpa using z2
          rw [z1, z2', if_neg (by simp), List.append_nil]
          simp only [uB, cSeq, cAsg, cPar, cPar3, cIf, cRet, cRetN, cExp, cPass, cTst, cTru, cVar, cCon, cBin, cB, cBM, cTup, cCall, aCons, aNil, gNm, gTp, gsCons, gsNil, gSb, tAndF, tOrF, tNotF, vAnd, vOr, vNot, cIte, Res.bind, onRes, endB, List.getElem?_cons_zero, List.getElem?_cons_succ, List.set_cons_succ, List.set_cons_zero, List.length_cons, List.length_nil, if_true, if_false, Bool.false_eq_true, Bool.not_true, Bool.not_false, wy, o1, o2, n1, n2, z1, z2']
      · have z1' : (wkO (S4 L) i ws).isSome = false := by simpa using z1
        rw [z1', if_neg (by simp), List.append_nil]
        simp only [uB, cSeq, cAsg, cPar, cPar3, cIf, cRet, cRetN, cExp, cPass, cTst, cTru, cVar, cCon, cBin, cB, cBM, cTup, cCall, aCons, aNil, gNm, gTp, gsCons, gsNil, gSb, tAndF, tOrF, tNotF, vAnd, vOr, vNot, cIte, Res.bind, onRes, endB, List.getElem?_cons_zero, List.getElem?_cons_succ, List.set_cons_succ, List.set_cons_zero, List.length_cons, List.length_nil, if_true, if_false, Bool.false_eq_true, Bool.not_true, Bool.not_false, wy, o1, o2, n1, z1']) (by rw [List.length_range]; omega) ⟨none, none, none, rfl, by rw [List.take_zero]; rfl⟩
  rw [List.take_length] at e
  have hA : (List.range (mj (S4 L) + 1)).filter (fun k => (wkO (S4 L) k ws).isSome && ((wkO (S4 L) k vs).isSome && decide (wkO (S4 L) k ws ≠ wkO (S4 L) k vs))) = apart (S4 L) ws vs := rfl
  rw [hA] at e
  have g : (h ++ [O.lst ((apart (S4 L) ws vs).map dN)])[h.length]? = some (.lst ((apart (S4 L) ws vs).map dN)) := get_new
  have tp : tupO [.ref h.length] (h ++ [O.lst ((apart (S4 L) ws vs).map dN)]) = some (.tup ((apart (S4 L) ws vs).map dN), h ++ [O.lst ((apart (S4 L) ws vs).map dN)]) := by
    simp only [tupO, listD, g]
    done
  refine fzF_cl (j := [O.lst ((apart (S4 L) ws vs).map dN)]) (show endB (f_unlike [some (webD L), some (.str (wS ws)), some (.str (wS vs)), none, none, none, none] h) = .ok _ (h ++ [O.lst ((apart (S4 L) ws vs).map dN)]) from ?_) (by simp only [clD]; exact clDs_map fun _ _ => rfl)
  have ls : ∀ r Y, cLst aNil r Y = .ok (.ref Y.length) (Y ++ [O.lst []]) := fun _ _ => rfl
  simp only [f_unlike, cSeq, cAsg, cPar, cPar3, cIf, cRet, cRetN, cExp, cPass, cTst, cTru, cVar, cCon, cBin, cB, cBM, cTup, cCall, aCons, aNil, gNm, gTp, gsCons, gsNil, gSb, tAndF, tOrF, tNotF, vAnd, vOr, vNot, cIte, Res.bind, onRes, endB, List.getElem?_cons_zero, List.getElem?_cons_succ, List.set_cons_succ, List.set_cons_zero, List.length_cons, List.length_nil, if_true, if_false, Bool.false_eq_true, Bool.not_true, Bool.not_false, cw, cd1, cd2, ls, cFor, rg]
  simp only [e, cSeq, cAsg, cPar, cPar3, cIf, cRet, cRetN, cExp, cPass, cTst, cTru, cVar, cCon, cBin, cB, cBM, cTup, cCall, aCons, aNil, gNm, gTp, gsCons, gsNil, gSb, tAndF, tOrF, tNotF, vAnd, vOr, vNot, cIte, Res.bind, onRes, endB, List.getElem?_cons_zero, List.getElem?_cons_succ, List.set_cons_succ, List.set_cons_zero, List.length_cons, List.length_nil, if_true, if_false, Bool.false_eq_true, Bool.not_true, Bool.not_false, tp]
/-- a pair of houses -/
theorem check_pair_spec {m : Nat} {p : Nat × Nat} (h1 : p.1 < m) (h2 : p.2 < m) (hm : m ≤ 100) (h : AH) : cf_check_pair [pairD p, .int (m : Nat)] h = .ok .non h := by
  have b : ∀ k < m, ∀ Y, cf_is_between [.int (k : Nat), .int 0, .int (((m : Nat) : Int) - 1)] Y = .ok (.bl true) Y := fun k hk Y => is_between_spec (by omega) (by omega) Y
  have e1 := fz_lc (h := h) (vs := [2]) (n := 1000) (g := gNm 2) (ce := cCall 3 cf_is_between (aCons (cVar 2) (aCons (cCon (.int 0)) (aCons (cBin subD (cVar 1) (cCon (.int 1))) aNil)))) (fi := cIter (cVar 0)) (it := .tup ([p.1, p.2].map dN)) (r := [some (pairD p), some (.int (m : Nat)), none])
    [p.1, p.2] dN (fun _ => D.bl true) rfl (by show 2 < 1000; omega) (by decide) (fun acc i => next_tup i) (fun _ _ => rfl) (fun k hk acc => ⟨_, rfl, by
      have lt : k < m := by
        simp only [List.mem_cons, List.not_mem_nil, or_false] at hk
        rcases hk with rfl | rfl
        · exact h1
        · exact h2
      have b' := b k lt (h ++ [O.lst acc])
      simp only [cSeq, cAsg, cPar, cPar3, cIf, cRet, cRetN, cExp, cPass, cTst, cTru, cVar, cCon, cBin, cB, cBM, cTup, cCall, aCons, aNil, gNm, gTp, gsCons, gsNil, gSb, tAndF, tOrF, tNotF, vAnd, vOr, vNot, cIte, Res.bind, onRes, endB, List.getElem?_cons_zero, List.getElem?_cons_succ, List.set_cons_succ, List.set_cons_zero, List.length_cons, List.length_nil, if_true, if_false, Bool.false_eq_true, Bool.not_true, Bool.not_false, wipeD, dN, subD, b']⟩)
  have al : ∀ X, anyO (fun l => l.all id) [.rl ([p.1, p.2].map fun _ => .bl true)] X = some (.bl true, X) := fun X => rfl
  have ln : ∀ X, lenO [pairD p] X = some (.int 2, X) := fun _ => rfl
  have e2 : ∀ X, eqB (.int 2) (.int 2) X = some true := fun _ => rfl
  have tb : tb_tuple.lookup (.ty "tuple") = some true := by decide +kernel
  have ip : cf_is_pair [pairD p, .int (m : Nat)] h = .ok (.bl true) h := by
    refine fzF_cl0 (show endB (f_is_pair [some (pairD p), some (.int (m : Nat)), none] h) = _ from ?_) rfl
    have tg : tgD h (pairD p) = some (.ty "tuple") := rfl
    simp only [f_is_pair, cSeq, cAsg, cPar, cPar3, cIf, cRet, cRetN, cExp, cPass, cTst, cTru, cVar, cCon, cBin, cB, cBM, cTup, cCall, aCons, aNil, gNm, gTp, gsCons, gsNil, gSb, tAndF, tOrF, tNotF, vAnd, vOr, vNot, cIte, Res.bind, onRes, endB, List.getElem?_cons_zero, List.getElem?_cons_succ, List.set_cons_succ, List.set_cons_zero, List.length_cons, List.length_nil, if_true, if_false, Bool.false_eq_true, Bool.not_true, Bool.not_false, cIsi, tg, tb, truD, ln, neD, e2, e1, al]
  refine fzF_cl0 (show endB (f_check_pair [some (pairD p), some (.int (m : Nat))] h) = _ from ?_) rfl
  simp only [f_check_pair, cSeq, cAsg, cPar, cPar3, cIf, cRet, cRetN, cExp, cPass, cTst, cTru, cVar, cCon, cBin, cB, cBM, cTup, cCall, aCons, aNil, gNm, gTp, gsCons, gsNil, gSb, tAndF, tOrF, tNotF, vAnd, vOr, vNot, cIte, Res.bind, onRes, endB, List.getElem?_cons_zero, List.getElem?_cons_succ, List.set_cons_succ, List.set_cons_zero, List.length_cons, List.length_nil, if_true, if_false, Bool.false_eq_true, Bool.not_true, Bool.not_false, ip, truD]
def wD : Option (List Nat) → D
  | none => .non
  | some w => .str (wS w)
/-- what joined tells -/
structure JoinOk (S : List T4) (s t : Nat × Nat) (o : Option (List Nat)) : Prop where
  no : o = none → ∀ n, ¬ Lch S s (n + 1) t
  yes : ∀ w, o = some w → w ≠ [] ∧ wkO S s.1 w = some t.1 ∧ wkO S s.2 w = some t.2 ∧ ∀ n, Lch S s (n + 1) t → w.length ≤ n + 1
  few : ∀ w, o = some w → w.length ≤ 100 ∧ (mj S + 1 ≤ 4 → w.length ≤ 16)
theorem find_fo {R : List Wp} (nd : (R.map (·.2)).Nodup) {w : List Nat} {t : Nat × Nat} (h : (w, t) ∈ R) : findD (R.map foD) (kP t) = some (.str (wS w)) := by
  refine findD_mem ?_ (List.mem_map.mpr ⟨(w, t), h, rfl⟩)
  rw [fo_keys]
  exact nodup_map nd fun a _ b _ e => kP_inj e
theorem joined_spec (w : WebL L) {p q : Nat × Nat} (p1 : p.1 < mj (S4 L) + 1) (p2 : p.2 < mj (S4 L) + 1) (q1 : q.1 < mj (S4 L) + 1) (q2 : q.2 < mj (S4 L) + 1) (h : AH) :
    ∃ o, JoinOk (S4 L) (p.1, q.1) (p.2, q.2) o ∧ cf_joined [webD L, pairD p, pairD q] h = .ok (wD o) h := by
  have m10 := w.mj10
  obtain ⟨R, i, B, hi, ew⟩ := words_spec w.2 (by omega) (s := (p.1, q.1)) p1 q1 h
  have cw := check_web_spec L h
  have hs := fun r (hr : r[0]? = some (some (webD L))) => houses_at (L := L) (call := call1) rfl (fo := cVar 0) (r := r) (h := h) (h1 := h) (by simp only [cVar, hr])
  have cp1 := check_pair_spec (m := mj (S4 L) + 1) p1 p2 (by omega) h
  have cp2 := check_pair_spec (m := mj (S4 L) + 1) q1 q2 (by omega) h
  have wy := fun r (hr : r[0]? = some (some (webD L))) => ways_at (call := call1) (L := L) (fo := cVar 0) (r := r) (h := h) (h1 := h) (by simp only [cVar, hr])
  have hs' := hs [some (webD L), some (pairD p), some (pairD q), none] rfl
  have wy' := wy [some (webD L), some (pairD p), some (pairD q), none] rfl
  have x1 : ∀ (u : Nat × Nat) Y, ixD (pairD u) (.int 0) Y = .ok (.int (u.1 : Nat)) Y := fun u Y => ix_tup 0 rfl
  have x2 : ∀ (u : Nat × Nat) Y, ixD (pairD u) (.int 1) Y = .ok (.int (u.2 : Nat)) Y := fun u Y => ix_tup 1 rfl
  have pd1 : D.tup [.int (p.1 : Nat), .int (q.1 : Nat)] = pairD (p.1, q.1) := rfl
  have pd2 : D.tup [.int (p.2 : Nat), .int (q.2 : Nat)] = pairD (p.2, q.2) := rfl
  have gt : ∀ (o : Option D), findD (R.map foD) (kP (p.2, q.2)) = o → ∀ r, r[3]? = some (some (.ft ((R.map foD).map (·.1)) ((R.map foD).map (·.2)))) → r[1]? = some (some (pairD p)) → r[2]? = some (some (pairD q)) → cGet1 (cVar 3) (cTup (aCons (cBin ixD (cVar 1) (cCon (.int 1))) (aCons (cBin ixD (cVar 2) (cCon (.int 1))) aNil))) r h = .ok (o.getD .non) h := fun o ho r h3 h1 h2 => by
    have lk : lookAt h (.ft ((R.map foD).map (·.1)) ((R.map foD).map (·.2))) (pairD (p.2, q.2)) = some o := by
      simp only [lookAt, zip_fs, lookD, dicOf, Option.bind_some, kP_of, Option.map_some, ho]
    have isd : isDicD h (.ft ((R.map foD).map (·.1)) ((R.map foD).map (·.2))) = true := rfl
    simp only [cGet1, cVar, h3, Res.bind, isd, if_true, cTup, aCons, aNil, cBin, h1, h2, cCon, x2, List.length_cons, List.length_nil, lm2, pd2, lk]
    cases o <;> rfl
  have run : ∀ (o : Option D), findD (R.map foD) (kP (p.2, q.2)) = o → clD h.length (o.getD .non) = true → cf_joined [webD L, pairD p, pairD q] h = .ok (o.getD .non) h := fun o ho cl => by
    have g := gt o ho [some (webD L), some (pairD p), some (pairD q), some (.ft ((R.map foD).map (·.1)) ((R.map foD).map (·.2)))] rfl rfl rfl
    refine fzF_cl0 (show endB (f_joined [some (webD L), some (pairD p), some (pairD q), none] h) = _ from ?_) cl
    simp only [f_joined, cSeq, cAsg, cPar, cPar3, cIf, cRet, cRetN, cExp, cPass, cTst, cTru, cVar, cCon, cBin, cB, cBM, cTup, cCall, aCons, aNil, gNm, gTp, gsCons, gsNil, gSb, tAndF, tOrF, tNotF, vAnd, vOr, vNot, cIte, Res.bind, onRes, endB, List.getElem?_cons_zero, List.getElem?_cons_succ, List.set_cons_succ, List.set_cons_zero, List.length_cons, List.length_nil, if_true, if_false, Bool.false_eq_true, Bool.not_true, Bool.not_false, cw, hs', cp1, cp2, wy', x1, lm2, pd1, ew, g]
  by_cases hk : (p.2, q.2) ∈ R.map (·.2)
  · obtain ⟨e, he, e2⟩ := List.mem_map.mp hk
    obtain ⟨w0, t⟩ := e
    simp only at e2
    subst e2
    have so := B.ba.sound _ he
    have f := find_fo B.ba.nd he
    refine ⟨some w0, ⟨fun z => (by cases z), fun w' z => ?_, fun w' z => ?_⟩, run _ f rfl⟩
    · cases z
      refine ⟨so.1, so.2.1, so.2.2, fun n r => ?_⟩
      obtain ⟨w1, h1, l1⟩ := B.all hi n _ r
      rw [key_one B.ba.nd he h1]
      exact l1
    · cases z
      obtain ⟨j, hj⟩ := List.mem_iff_getElem?.mp he
      have jl := (List.getElem?_eq_some_iff.mp hj).1
      have := B.ba.lens (j + 1) _ hj
      have f1 := B.ba.few w.2 (s := (p.1, q.1)) (by omega) p1 q1
      have f2 : mj (S4 L) + 1 ≤ 4 → R.length ≤ 16 := fun h4 => by
        have := pairs_few B.ba.nd (.inl rfl) fun q' hq => by have := B.ba.keys w.2 (s := (p.1, q.1)) p1 q1 q' hq; omega
        rwa [List.length_map] at this
      simp only at this
      exact ⟨by omega, fun h4 => by have := f2 h4; omega⟩
  · have f : findD (R.map foD) (kP (p.2, q.2)) = none := findD_none fun z => hk (fo_mem.mp z)
    refine ⟨none, ⟨fun _ n r => ?_, fun w' z => (by cases z), fun w' z => (by cases z)⟩, run _ f rfl⟩
    obtain ⟨w1, h1, _⟩ := B.all hi n _ r
    exact hk (List.mem_map.mpr ⟨_, h1, rfl⟩)
end

end K05
namespace K05
open PySem L2 PI
/-! ### the law's own search -/
theorem used_less {T : List T4} {m k : Nat} (nd : (T.map ends).Nodup) (lt : ∀ p ∈ T.map ends, p.1 < p.2 ∧ p.2 < m) : (usedAt T k).length ≤ m - 1 := by
  rw [used_len]
  have on := oth_nd (k := k) nd fun p hp => (lt p hp).1
  by_cases hk : k < m
  · have nk : k ∉ oth (T.map ends) k := fun z => by
      obtain ⟨p, hp, ⟨a, b⟩ | ⟨a, b⟩⟩ := oth_mem z
      · have := lt p hp
        omega
      · have := lt p hp
        omega
    have := sub_len (l' := List.range m) (List.nodup_cons.mpr ⟨nk, on⟩) fun x hx => by
      rcases List.mem_cons.mp hx with z | hx
      · rw [z]; exact List.mem_range.mpr hk
      · obtain ⟨p, hp, ⟨a, b⟩ | ⟨a, b⟩⟩ := oth_mem hx
        · have := lt p hp
          exact List.mem_range.mpr (by omega)
        · have := lt p hp
          exact List.mem_range.mpr (by omega)
    rw [List.length_range, List.length_cons] at this
    omega
  · have : oth (T.map ends) k = [] := List.eq_nil_iff_forall_not_mem.mpr fun x hx => by
      obtain ⟨p, hp, ⟨a, b⟩ | ⟨a, b⟩⟩ := oth_mem hx
      · have := lt p hp
        omega
      · have := lt p hp
        omega
    rw [this]
    exact Nat.zero_le _
def suc (S : List T4) (p : Nat × Nat) : List (Nat × Nat) := ((List.range 12).filter fun x => decide (x ∈ usedAt S p.1) && decide (x ∈ usedAt S p.2)).map (nx S p)
section
variable {S : List T4}
theorem suc_mem (I : InW S) {p q : Nat × Nat} : q ∈ suc S p ↔ ∃ x, Nx S p x q := by
  unfold suc
  rw [List.mem_map]
  constructor
  · rintro ⟨x, hx, rfl⟩
    have := (List.mem_filter.mp hx).2
    rw [Bool.and_eq_true, decide_eq_true_iff, decide_eq_true_iff] at this
    exact ⟨x, this.1, this.2, rfl⟩
  · rintro ⟨x, h1, h2, rfl⟩
    refine ⟨x, List.mem_filter.mpr ⟨List.mem_range.mpr (ed_lt I (to_ed I h1)).2.2, ?_⟩, rfl⟩
    rw [Bool.and_eq_true, decide_eq_true_iff, decide_eq_true_iff]
    exact ⟨h1, h2⟩
theorem suc_len (S : List T4) (p : Nat × Nat) : (suc S p).length ≤ (usedAt S p.1).length := by
  unfold suc
  rw [List.length_map]
  refine sub_len (List.nodup_range.filter _) fun x hx => ?_
  have := (List.mem_filter.mp hx).2
  rw [Bool.and_eq_true, decide_eq_true_iff] at this
  exact this.1
theorem flat_len {α β : Type} {f : α → List β} {n : Nat} : ∀ {l : List α}, (∀ x ∈ l, (f x).length ≤ n) → (l.flatMap f).length ≤ n * l.length
  | [], _ => Nat.zero_le _
  | x :: l, h => by
    have a := h x List.mem_cons_self
    have b := flat_len (l := l) fun y hy => h y (List.mem_cons_of_mem _ hy)
    rw [List.flatMap_cons, List.length_append, List.length_cons, Nat.mul_succ]
    omega
end
/-! pairs as numbers -/
def cdP (p : Nat × Nat) : Int := (p.1 : Int) * 64 + (p.2 : Int)
def dcP (n : Int) : Nat × Nat := ((n / 64).toNat, (n % 64).toNat)
theorem mapO_mem {α β : Type} {f : D → Option β} {g : α → D} {k : α → β} : ∀ {l : List α}, (∀ x ∈ l, f (g x) = some (k x)) → mapO f (l.map g) = some (l.map k)
  | [], _ => rfl
  | x :: l, h => by
    have a := h x List.mem_cons_self
    have b := mapO_mem (l := l) fun y hy => h y (List.mem_cons_of_mem _ hy)
    simp only [List.map_cons, mapO, a, b, Option.bind_some]
theorem dPr_pair {p : Nat × Nat} (h1 : p.1 < 64) (h2 : p.2 < 64) : dPr (pairD p) = some (cdP p) := by
  unfold dPr pairD
  simp only
  rw [if_pos (by omega)]
  rfl
theorem dc_cd {p : Nat × Nat} (h2 : p.2 < 64) : dcP (cdP p) = p := by
  unfold dcP cdP
  exact Prod.ext (by simp only; omega) (by simp only; omega)
/-- the pairs, each once, ascending -/
def dp (l : List (Nat × Nat)) : List (Nat × Nat) := (ascI (l.map cdP)).map dcP
theorem dp_mem {l : List (Nat × Nat)} (h : ∀ p ∈ l, p.1 < 64 ∧ p.2 < 64) {q : Nat × Nat} : q ∈ dp l ↔ q ∈ l := by
  unfold dp
  rw [List.mem_map]
  constructor
  · rintro ⟨n, hn, rfl⟩
    rw [ascI_mem] at hn
    obtain ⟨p, hp, rfl⟩ := List.mem_map.mp hn
    rw [dc_cd (h p hp).2]
    exact hp
  · intro hq
    exact ⟨cdP q, ascI_mem.mpr (List.mem_map_of_mem hq), dc_cd (h q hq).2⟩
theorem dp_nd {l : List (Nat × Nat)} (h : ∀ p ∈ l, p.1 < 64 ∧ p.2 < 64) : (dp l).Nodup := by
  have a : (ascI (l.map cdP)).Nodup := (ascI_asc (l := l.map cdP)).imp fun h e => by omega
  refine nodup_map a fun x hx y hy e => ?_
  rw [ascI_mem] at hx hy
  obtain ⟨p, hp, rfl⟩ := List.mem_map.mp hx
  obtain ⟨q, hq, rfl⟩ := List.mem_map.mp hy
  rw [dc_cd (h p hp).2, dc_cd (h q hq).2] at e
  rw [e]
theorem dp_D {l : List (Nat × Nat)} : (ascI (l.map cdP)).map decP = (dp l).map pairD := by
  unfold dp
  rw [List.map_map]
  refine List.map_congr_left fun n hn => ?_
  rw [ascI_mem] at hn
  obtain ⟨p, hp, rfl⟩ := List.mem_map.mp hn
  have e1 : (((cdP p / 64).toNat : Nat) : Int) = cdP p / 64 := Int.toNat_of_nonneg (by unfold cdP; omega)
  have e2 : (((cdP p % 64).toNat : Nat) : Int) = cdP p % 64 := Int.toNat_of_nonneg (by unfold cdP; omega)
  show D.tup [.int (cdP p / 64), .int (cdP p % 64)] = D.tup [.int ((cdP p / 64).toNat : Nat), .int ((cdP p % 64).toNat : Nat)]
  rw [e1, e2]
theorem ss_pairs {l : List (Nat × Nat)} (h : ∀ p ∈ l, p.1 < 64 ∧ p.2 < 64) (few : l.length < 64) {b : Nat} {X : AH} (hb : X[b]? = some (.lst (l.map pairD))) {r : Ev} {f : Ev → AH → Res D} (hf : f r X = .ok (.ref b) X) : fz (cB ssTO (aCons f aNil)) r X = .ok (.rl ((dp l).map pairD)) X := by
  refine fz_lst ?_ (clDs_map fun _ _ => rfl)
  have m1 : mapO dPr (l.map pairD) = some (l.map cdP) := mapO_mem fun p hp => dPr_pair (h p hp).1 (h p hp).2
  have ll : (l.map cdP).length < 64 := by rw [List.length_map]; exact few
  simp only [cB, aCons, aNil, hf, Res.bind, ssTO, listD, hb, m1, if_pos ll, dp_D]
  rfl

end K05
namespace K05
open PySem L2 PI
/-! ### one ring of the search -/
section
variable {S : List T4}
noncomputable abbrev b9 : Ev → AH → RS := (cSeq
          (cIf (tAndF (cTst (cBin inD (cVar 9) (cBin ixD (cVar 0) (cVar 7)))) (cTst (cBin inD (cVar 9) (cBin ixD (cVar 0) (cVar 8))))) (cSeq
            (cExp (cBM "list" appO (cVar 6) (aCons (cTup (aCons (cBin ixD (cBin ixD (cVar 0) (cVar 7)) (cVar 9)) (aCons (cBin ixD (cBin ixD (cVar 0) (cVar 8)) (cVar 9)) aNil))) aNil)))
            cPass) cPass)
          cPass)
noncomputable abbrev b7 : Ev → AH → RS := (cSeq
        (cFor (cIter (cCon (.str "abcdefghijkl"))) (gNm 9) b9 1000)
        cPass)
def sev (S : List T4) (p q : Nat × Nat) (x3 x4 x5 : Option D) (b : Nat) (x7 x8 x9 : Option D) : Ev := [some (waysD S), some (pairD p), some (pairD q), x3, x4, x5, some (.ref b), x7, x8, x9]
theorem b9_loop (I : InW S) {p q u : Nat × Nat} (u1 : u.1 < mj S + 1) (u2 : u.2 < mj S + 1) {X : AH} {b : Nat} (hb : X.length = b) {l : List (Nat × Nat)} (few : l.length < 1000) (x3 x4 x5 x9 : Option D) :
    ∃ y9, b7 (sev S p q x3 x4 x5 b (some (.int (u.1 : Nat))) (some (.int (u.2 : Nat))) x9) (X ++ [O.lst (l.map pairD)]) = .nx (sev S p q x3 x4 x5 b (some (.int (u.1 : Nat))) (some (.int (u.2 : Nat))) y9) (X ++ [O.lst ((l ++ suc S u).map pairD)]) := by
  obtain ⟨r', h', e, y9, rfl, rfl⟩ := forl0 (g := gNm 9) (b := b9) (it := .str MK) (n := 1000) (r := sev S p q x3 x4 x5 b (some (.int (u.1 : Nat))) (some (.int (u.2 : Nat))) x9) (h := X ++ [O.lst (l.map pairD)]) (l := List.range 12) (G := sl)
    (fun i r h' => ∃ (y9 : Option D), r = sev S p q x3 x4 x5 b (some (.int (u.1 : Nat))) (some (.int (u.2 : Nat))) y9 ∧ h' = X ++ [O.lst ((l ++ (((List.range 12).take i).filter fun x => decide (x ∈ usedAt S u.1) && decide (x ∈ usedAt S u.2)).map (nx S u)).map pairD)])
    (fun i r h' _ => by
      show some _ = some _
      rw [MK_at]
      rfl)
    (fun i hi r h' ⟨y9, er, eh⟩ => by
      subst er eh
      have ht := List.getElem?_eq_getElem hi
      have hi' := hi
      rw [List.length_range] at hi'
      generalize hA : (((List.range 12).take i).filter fun x => decide (x ∈ usedAt S u.1) && decide (x ∈ usedAt S u.2)).map (nx S u) = A
      have lA : A.length ≤ 12 := by
        have := List.length_filter_le (fun x => decide (x ∈ usedAt S u.1) && decide (x ∈ usedAt S u.2)) ((List.range 12).take i)
        rw [← hA, List.length_map]
        rw [List.length_take] at this
        omega
      have s1 : (((List.range 12).take (i + 1)).filter fun x => decide (x ∈ usedAt S u.1) && decide (x ∈ usedAt S u.2)).map (nx S u) = A ++ (if (decide (i ∈ usedAt S u.1) && decide (i ∈ usedAt S u.2)) = true then [nx S u i] else []) := by
        rw [List.take_succ, ht, List.getElem_range, List.filter_append, List.map_append, hA]
        congr 1
        simp only [Option.toList]
        rw [List.filter_cons, List.filter_nil]
        split <;> rfl
      refine ⟨_, _, _, X ++ [O.lst ((l ++ (A ++ (if (decide (i ∈ usedAt S u.1) && decide (i ∈ usedAt S u.2)) = true then [nx S u i] else []))).map pairD)], rfl, Or.inl ?_, some (sl i), rfl, by rw [s1]⟩
      rw [List.getElem_range]
      have w1 := fun Y => ways_ix (S := S) u1 Y
      have w2 := fun Y => ways_ix (S := S) u2 Y
      have i1 := fun Y => ft_ways u.1 i I Y
      have i2 := fun Y => ft_ways u.2 i I Y
      have ty := ty_new (X := X) (l := (l ++ A).map pairD) (j := []) b hb.symm
      have ap := fun d => app_new (X := X) (l := (l ++ A).map pairD) (d := d) b hb.symm (by rw [List.length_map, List.length_append]; omega)
      by_cases z1 : i ∈ usedAt S u.1
      · by_cases z2 : i ∈ usedAt S u.2
        · have j1 := fun Y => dict_ix I (to_ed I z1) Y
          have j2 := fun Y => dict_ix I (to_ed I z2) Y
          rw [if_pos (by simp [z1, z2])]
          have pd : D.tup [.int (toH S u.1 i : Nat), .int (toH S u.2 i : Nat)] = pairD (nx S u i) := rfl
          have ea : (l ++ (A ++ [nx S u i])).map pairD = (l ++ A).map pairD ++ [pairD (nx S u i)] := by rw [← List.append_assoc, List.map_append]; rfl
          simp only [b9, sev, cSeq, cAsg, cPar, cPar3, cIf, cRet, cRetN, cExp, cPass, cTst, cTru, cVar, cCon, cBin, cB, cBM, cTup, cCall, aCons, aNil, gNm, gTp, gsCons, gsNil, gSb, tAndF, tOrF, tNotF, vAnd, vOr, vNot, cIte, Res.bind, onRes, endB, List.getElem?_cons_zero, List.getElem?_cons_succ, List.set_cons_succ, List.set_cons_zero, List.length_cons, List.length_nil, if_true, if_false, Bool.false_eq_true, Bool.not_true, Bool.not_false, sl, w1, w2, inD, i1, i2, decide_eq_true z1, decide_eq_true z2, j1, j2, lm2, pd, ty, ap, ea]
        · rw [if_neg (by simp [z2]), List.append_nil]
          simp only [b9, sev, cSeq, cAsg, cPar, cPar3, cIf, cRet, cRetN, cExp, cPass, cTst, cTru, cVar, cCon, cBin, cB, cBM, cTup, cCall, aCons, aNil, gNm, gTp, gsCons, gsNil, gSb, tAndF, tOrF, tNotF, vAnd, vOr, vNot, cIte, Res.bind, onRes, endB, List.getElem?_cons_zero, List.getElem?_cons_succ, List.set_cons_succ, List.set_cons_zero, List.length_cons, List.length_nil, if_true, if_false, Bool.false_eq_true, Bool.not_true, Bool.not_false, sl, w1, w2, inD, i1, i2, decide_eq_true z1, decide_eq_false z2]
      · rw [if_neg (by simp [z1]), List.append_nil]
        simp only [b9, sev, cSeq, cAsg, cPar, cPar3, cIf, cRet, cRetN, cExp, cPass, cTst, cTru, cVar, cCon, cBin, cB, cBM, cTup, cCall, aCons, aNil, gNm, gTp, gsCons, gsNil, gSb, tAndF, tOrF, tNotF, vAnd, vOr, vNot, cIte, Res.bind, onRes, endB, List.getElem?_cons_zero, List.getElem?_cons_succ, List.set_cons_succ, List.set_cons_zero, List.length_cons, List.length_nil, if_true, if_false, Bool.false_eq_true, Bool.not_true, Bool.not_false, sl, w1, w2, inD, i1, decide_eq_false z1]) (by rw [List.length_range]; omega) ⟨x9, rfl, by rw [List.take_zero, List.filter_nil, List.map_nil, List.append_nil]⟩
  refine ⟨y9, ?_⟩
  have hl : (List.range 12).take (List.range 12).length = List.range 12 := List.take_length
  rw [hl] at e
  have it : ∀ r Y, cIter (cCon (.str "abcdefghijkl")) r Y = .ok (.str MK) Y := fun _ _ => rfl
  simp only [b7, cSeq, cFor, it, onRes, e, cPass]
  rfl
theorem b7_loop (I : InW S) {p q : Nat × Nat} {E : List (Nat × Nat)} (hE : ∀ u ∈ E, u.1 < mj S + 1 ∧ u.2 < mj S + 1) (lE : E.length ≤ 50) {X : AH} {b : Nat} (hb : X.length = b) (x3 x5 x7 x8 x9 : Option D) :
    ∃ y7 y8 y9, cForL (gTp 2 (gsCons (gNm 7) (gsCons (gNm 8) gsNil))) b7 1000 (.rl (E.map pairD)) 0 (sev S p q x3 (some (.rl (E.map pairD))) x5 b x7 x8 x9) (X ++ [O.lst []]) = .nx (sev S p q x3 (some (.rl (E.map pairD))) x5 b y7 y8 y9) (X ++ [O.lst ((E.flatMap (suc S)).map pairD)]) := by
  obtain ⟨r', h', e, y7, y8, y9, rfl, rfl⟩ := forl0 (g := gTp 2 (gsCons (gNm 7) (gsCons (gNm 8) gsNil))) (b := b7) (it := .rl (E.map pairD)) (n := 1000) (r := sev S p q x3 (some (.rl (E.map pairD))) x5 b x7 x8 x9) (h := X ++ [O.lst []]) (l := E) (G := pairD)
    (fun i r h' => ∃ (y7 y8 y9 : Option D), r = sev S p q x3 (some (.rl (E.map pairD))) x5 b y7 y8 y9 ∧ h' = X ++ [O.lst (((E.take i).flatMap (suc S)).map pairD)])
    (fun i r h' _ => next_rl i)
    (fun i hi r h' ⟨y7, y8, y9, er, eh⟩ => by
      subst er eh
      have ht := List.getElem?_eq_getElem hi
      have hm := hE _ (List.getElem_mem hi)
      have fl : ((E.take i).flatMap (suc S)).length ≤ 12 * (E.take i).length := flat_len fun u _ => by
        have := suc_len S u
        have := used12 I u.1
        omega
      rw [List.length_take] at fl
      generalize E[i] = u at *
      obtain ⟨z9, e⟩ := b9_loop (p := p) (q := q) (u := u) I hm.1 hm.2 hb (l := (E.take i).flatMap (suc S)) (by omega) x3 (some (.rl (E.map pairD))) x5 y9
      refine ⟨_, _, _, _, rfl, Or.inl e, _, _, _, rfl, ?_⟩
      rw [List.take_succ, ht, List.flatMap_append]
      simp only [Option.toList, List.flatMap_cons, List.flatMap_nil, List.append_nil]) (by omega) ⟨x7, x8, x9, rfl, rfl⟩
  rw [List.take_length] at e
  exact ⟨y7, y8, y9, e⟩
end

end K05
namespace K05
open PySem L2 PI
/-! ### the shortest -/
section
variable {S : List T4} {s t : Nat × Nat}
structure SI (S : List T4) (s t : Nat × Nat) (i : Nat) (E sn : List (Nat × Nat)) : Prop where
  at' : ∀ q ∈ E, Lch S s i q
  all : ∀ q, Lch S s i q → q ∈ E ∨ ∃ n, 1 ≤ n ∧ n < i ∧ Lch S s n q
  old : ∀ q ∈ sn, ∃ n, 1 ≤ n ∧ n ≤ i ∧ Lch S s n q
  nd : E.Nodup
  lt : ∀ q ∈ E, q.1 < mj S + 1 ∧ q.2 < mj S + 1
  few : sn.length ≤ 16 * i
  no : ∀ n, 1 ≤ n → n ≤ i → ¬ Lch S s n t
theorem SI.start (h1 : s.1 < mj S + 1) (h2 : s.2 < mj S + 1) : SI S s t 0 [s] [] where
  at' := fun q hq => by
    rw [List.mem_singleton.mp hq]
    exact ⟨[], rfl, rfl, rfl⟩
  all := fun q r => .inl (by rw [lch_zero r]; exact List.mem_singleton.mpr rfl)
  old := fun q hq => absurd hq List.not_mem_nil
  nd := by simp
  lt := fun q hq => by rw [List.mem_singleton.mp hq]; exact ⟨h1, h2⟩
  few := Nat.zero_le _
  no := fun n a b => by omega
theorem SI.lat (I : InW S) {i : Nat} {E sn : List (Nat × Nat)} (h : SI S s t i E sn) {q : Nat × Nat} (hq : q ∈ E.flatMap (suc S)) : Lch S s (i + 1) q ∧ q.1 < mj S + 1 ∧ q.2 < mj S + 1 := by
  obtain ⟨p, hp, hs⟩ := List.mem_flatMap.mp hq
  obtain ⟨x, hx⟩ := (suc_mem I).mp hs
  refine ⟨lch_step (h.at' p hp) hx, ?_⟩
  obtain ⟨x1, x2, rfl⟩ := hx
  exact ⟨(ed_lt I (to_ed I x1)).2.1, (ed_lt I (to_ed I x2)).2.1⟩
theorem SI.pre (I : InW S) {i : Nat} {E sn : List (Nat × Nat)} (h : SI S s t i E sn) {q : Nat × Nat} (r : Lch S s (i + 1) q) : q ∈ E.flatMap (suc S) ∨ ∃ n, 1 ≤ n ∧ n < i + 1 ∧ Lch S s n q := by
  obtain ⟨p, x, r0, hx⟩ := lch_succ r
  rcases h.all p r0 with hp | ⟨n, n1, n2, rn⟩
  · exact .inl (List.mem_flatMap.mpr ⟨p, hp, (suc_mem I).mpr ⟨x, hx⟩⟩)
  · exact .inr ⟨n + 1, by omega, by omega, lch_step rn hx⟩
theorem SI.next (I : InW S) (h4 : mj S + 1 ≤ 4) {i : Nat} {E sn : List (Nat × Nat)} (h : SI S s t i E sn) (nt : t ∉ E.flatMap (suc S)) : SI S s t (i + 1) ((dp (E.flatMap (suc S))).filter fun q => !decide (q ∈ sn)) (sn ++ (dp (E.flatMap (suc S))).filter fun q => !decide (q ∈ sn)) := by
  have b : ∀ p ∈ E.flatMap (suc S), p.1 < 64 ∧ p.2 < 64 := fun p hp => by
    have := (h.lat I hp).2
    omega
  have m : ∀ q, q ∈ (dp (E.flatMap (suc S))).filter (fun q => !decide (q ∈ sn)) ↔ q ∈ E.flatMap (suc S) ∧ q ∉ sn := fun q => by
    rw [List.mem_filter, dp_mem b]
    simp
  have nd : ((dp (E.flatMap (suc S))).filter fun q => !decide (q ∈ sn)).Nodup := (dp_nd b).filter _
  refine ⟨fun q hq => (h.lat I ((m q).mp hq).1).1, fun q r => ?_, fun q hq => ?_, nd, fun q hq => (h.lat I ((m q).mp hq).1).2, ?_, fun n n1 n2 r => ?_⟩
  · rcases h.pre I r with hq | hq
    · by_cases z : q ∈ sn
      · obtain ⟨n, n1, n2, rn⟩ := h.old q z
        exact .inr ⟨n, n1, by omega, rn⟩
      · exact .inl ((m q).mpr ⟨hq, z⟩)
    · exact .inr hq
  · rcases List.mem_append.mp hq with hq | hq
    · obtain ⟨n, n1, n2, rn⟩ := h.old q hq
      exact ⟨n, n1, by omega, rn⟩
    · exact ⟨i + 1, by omega, Nat.le_refl _, (h.lat I ((m q).mp hq).1).1⟩
  · have := pairs_few nd (.inl rfl) fun q hq => by have := (h.lat I ((m q).mp hq).1).2; omega
    have := h.few
    rw [List.length_append]
    omega
  · by_cases z : n ≤ i
    · exact h.no n n1 z r
    · have : n = i + 1 := by omega
      subst this
      rcases h.pre I r with hq | ⟨k, k1, k2, rk⟩
      · exact nt hq
      · exact h.no k k1 (by omega) rk
/-- what the search tells -/
def ShortOk (S : List T4) (s t : Nat × Nat) (r : Nat) : Prop := (1 ≤ r ∧ Lch S s r t ∧ ∀ n, 1 ≤ n → Lch S s n t → r ≤ n) ∨ (r = 0 ∧ ∀ n, 1 ≤ n → n ≤ 39 → ¬ Lch S s n t)
noncomputable abbrev b3 : Ev → AH → RS := (cSeq
      (cAsg (cLst aNil) (gNm 6))
      (cSeq
      (cFor (cIter (cVar 4)) (gTp 2 (gsCons (gNm 7) (gsCons (gNm 8) gsNil))) b7 1000)
      (cSeq
      (cIf (cTst (cBin inD (cTup (aCons (cBin ixD (cVar 1) (cCon (.int 1))) (aCons (cBin ixD (cVar 2) (cCon (.int 1))) aNil))) (cVar 6))) (cSeq
        (cRet (cVar 3))
        cPass) cPass)
      (cSeq
      (cAsg (fz (cLc (cIter (fz (cB ssTO (aCons (cVar 6) aNil)))) (gNm 8) (cTst (cBin ninD (cVar 8) (cVar 5))) (cVar 8) [8] 1000)) (gNm 4))
      (cSeq
      (cAsg (fz (cBin addD (cVar 5) (cVar 4))) (gNm 5))
      cPass)))))
def sv0 (S : List T4) (p q : Nat × Nat) (x3 x4 x5 x6 x7 x8 x9 : Option D) : Ev := [some (waysD S), some (pairD p), some (pairD q), x3, x4, x5, x6, x7, x8, x9]
theorem b3_spec (I : InW S) (h4 : mj S + 1 ≤ 4) (u3 : ∀ k, (usedAt S k).length ≤ 3) {p q : Nat × Nat} (hs : s = (p.1, q.1)) (ht : t = (p.2, q.2)) {i : Nat} {E sn : List (Nat × Nat)} (h : SI S s t i E sn) (hi : i ≤ 100) (X : AH) (x6 x7 x8 x9 : Option D) :
    (t ∈ E.flatMap (suc S) ∧ ∃ Y, b3 (sv0 S p q (some (.int ((i + 1 : Nat) : Int))) (some (.rl (E.map pairD))) (some (.rl (sn.map pairD))) x6 x7 x8 x9) X = .rt (.int ((i + 1 : Nat) : Int)) (X ++ Y)) ∨
    ∃ (E' sn' : List (Nat × Nat)) (Y : AH) (y6 y7 y8 y9 : Option D), SI S s t (i + 1) E' sn' ∧ b3 (sv0 S p q (some (.int ((i + 1 : Nat) : Int))) (some (.rl (E.map pairD))) (some (.rl (sn.map pairD))) x6 x7 x8 x9) X =
      .nx (sv0 S p q (some (.int ((i + 1 : Nat) : Int))) (some (.rl (E'.map pairD))) (some (.rl (sn'.map pairD))) y6 y7 y8 y9) (X ++ Y) := by
  have lE := pairs_few h.nd (.inl rfl) fun q hq => by have := h.lt q hq; omega
  obtain ⟨y7, y8, y9, e1⟩ := b7_loop (p := p) (q := q) I h.lt (by omega) (X := X) rfl (some (.int ((i + 1 : Nat) : Int))) (some (.rl (sn.map pairD))) x7 x8 x9
  have b : ∀ p ∈ E.flatMap (suc S), p.1 < 64 ∧ p.2 < 64 := fun p hp => by
    have := (h.lat I hp).2
    omega
  have fl : (E.flatMap (suc S)).length ≤ 3 * E.length := flat_len fun u _ => by
    have := suc_len S u
    have := u3 u.1
    omega
  have g : (X ++ [O.lst ((E.flatMap (suc S)).map pairD)])[X.length]? = some (.lst ((E.flatMap (suc S)).map pairD)) := get_new
  have st : ∀ R : Ev → AH → RS, cSeq (cAsg (cLst aNil) (gNm 6)) (cSeq (cFor (cIter (cVar 4)) (gTp 2 (gsCons (gNm 7) (gsCons (gNm 8) gsNil))) b7 1000) R) (sv0 S p q (some (.int ((i + 1 : Nat) : Int))) (some (.rl (E.map pairD))) (some (.rl (sn.map pairD))) x6 x7 x8 x9) X =
      R (sev S p q (some (.int ((i + 1 : Nat) : Int))) (some (.rl (E.map pairD))) (some (.rl (sn.map pairD))) X.length y7 y8 y9) (X ++ [O.lst ((E.flatMap (suc S)).map pairD)]) := fun R => by
    have c6 : cAsg (cLst aNil) (gNm 6) (sv0 S p q (some (.int ((i + 1 : Nat) : Int))) (some (.rl (E.map pairD))) (some (.rl (sn.map pairD))) x6 x7 x8 x9) X = .nx (sev S p q (some (.int ((i + 1 : Nat) : Int))) (some (.rl (E.map pairD))) (some (.rl (sn.map pairD))) X.length x7 x8 x9) (X ++ [O.lst []]) := rfl
    have v4 : (sev S p q (some (.int ((i + 1 : Nat) : Int))) (some (.rl (E.map pairD))) (some (.rl (sn.map pairD))) X.length x7 x8 x9)[4]? = some (some (.rl (E.map pairD))) := rfl
    simp only [cSeq, c6, cFor, cIter, cVar, v4, Res.bind, onRes, e1]
  have x2 : ∀ (u : Nat × Nat) Y, ixD (pairD u) (.int 1) Y = .ok (.int (u.2 : Nat)) Y := fun u Y => ix_tup 1 rfl
  have pd : D.tup [.int (p.2 : Nat), .int (q.2 : Nat)] = pairD t := by rw [ht]; rfl
  have nin := in_pairs t g
  by_cases z : t ∈ E.flatMap (suc S)
  · rw [decide_eq_true z] at nin
    refine .inl ⟨z, [O.lst ((E.flatMap (suc S)).map pairD)], ?_⟩
    refine (st _).trans ?_
    simp only [sev, cSeq, cAsg, cPar, cPar3, cIf, cRet, cRetN, cExp, cPass, cTst, cTru, cVar, cCon, cBin, cB, cBM, cTup, cCall, aCons, aNil, gNm, gTp, gsCons, gsNil, gSb, tAndF, tOrF, tNotF, vAnd, vOr, vNot, cIte, Res.bind, onRes, endB, List.getElem?_cons_zero, List.getElem?_cons_succ, List.set_cons_succ, List.set_cons_zero, List.length_cons, List.length_nil, if_true, if_false, Bool.false_eq_true, Bool.not_true, Bool.not_false, x2, lm2, pd, inD, nin]
  · rw [decide_eq_false z] at nin
    refine .inr ⟨_, _, [O.lst ((E.flatMap (suc S)).map pairD)], some (.ref X.length), y7, y8, y9, h.next I h4 z, ?_⟩
    refine (st _).trans ?_
    generalize hL : E.flatMap (suc S) = L at *
    have s1 := ss_pairs b (by omega) g (r := sev S p q (some (.int ((i + 1 : Nat) : Int))) (some (.rl (E.map pairD))) (some (.rl (sn.map pairD))) X.length y7 y8 y9) (f := cVar 6) rfl
    have dl : (dp L).length ≤ 16 := pairs_few (dp_nd b) (.inl rfl) fun q hq => by
      have := (h.lat I (hL ▸ (dp_mem b).mp hq)).2
      omega
    have e2 := fz_lc_if (h := X ++ [O.lst (L.map pairD)]) (vs := [8]) (n := 1000) (g := gNm 8) (ct := cTst (cBin ninD (cVar 8) (cVar 5))) (ce := cVar 8) (fi := cIter (fz (cB ssTO (aCons (cVar 6) aNil)))) (it := .rl ((dp L).map pairD)) (r := sev S p q (some (.int ((i + 1 : Nat) : Int))) (some (.rl (E.map pairD))) (some (.rl (sn.map pairD))) X.length y7 y8 y9)
      (dp L) pairD pairD (fun q => !decide (q ∈ sn)) (by simp only [cIter, s1, Res.bind]) (by omega) (by decide) (fun acc i => next_rl i) (fun _ _ => rfl) (fun u hu acc => ⟨_, rfl, by
        have ni := in_pairs_rl u sn (X ++ [O.lst (L.map pairD)] ++ [O.lst acc])
        simp only [sev, wipeD, cSeq, cAsg, cPar, cPar3, cIf, cRet, cRetN, cExp, cPass, cTst, cTru, cVar, cCon, cBin, cB, cBM, cTup, cCall, aCons, aNil, gNm, gTp, gsCons, gsNil, gSb, tAndF, tOrF, tNotF, vAnd, vOr, vNot, cIte, Res.bind, onRes, endB, List.getElem?_cons_zero, List.getElem?_cons_succ, List.set_cons_succ, List.set_cons_zero, List.length_cons, List.length_nil, if_true, if_false, Bool.false_eq_true, Bool.not_true, Bool.not_false, ninD, ni], fun _ => rfl⟩)
    generalize hN : (dp L).filter (fun q => !decide (q ∈ sn)) = N at *
    have lN : N.length ≤ 16 := by
      have := List.length_filter_le (fun q => !decide (q ∈ sn)) (dp L)
      rw [hN] at this
      omega
    have fs := h.few
    have e3 : fz (cBin addD (cVar 5) (cVar 4)) (sev S p q (some (.int ((i + 1 : Nat) : Int))) (some (.rl (N.map pairD))) (some (.rl (sn.map pairD))) X.length y7 y8 y9) (X ++ [O.lst (L.map pairD)]) = .ok (.rl ((sn ++ N).map pairD)) (X ++ [O.lst (L.map pairD)]) := by
      refine fz_lst ?_ (clDs_map fun _ _ => rfl)
      have ll : (sn.map pairD).length + (N.map pairD).length ≤ LIM := by rw [List.length_map, List.length_map]; show _ ≤ 1000000; omega
      rw [List.map_append]
      simp only [sev, cSeq, cAsg, cPar, cPar3, cIf, cRet, cRetN, cExp, cPass, cTst, cTru, cVar, cCon, cBin, cB, cBM, cTup, cCall, aCons, aNil, gNm, gTp, gsCons, gsNil, gSb, tAndF, tOrF, tNotF, vAnd, vOr, vNot, cIte, Res.bind, onRes, endB, List.getElem?_cons_zero, List.getElem?_cons_succ, List.set_cons_succ, List.set_cons_zero, List.length_cons, List.length_nil, if_true, if_false, Bool.false_eq_true, Bool.not_true, Bool.not_false, addD, addL, lstD, if_pos ll]
    have a4 : ∀ R : Ev → AH → RS, cSeq (cAsg (fz (cLc (cIter (fz (cB ssTO (aCons (cVar 6) aNil)))) (gNm 8) (cTst (cBin ninD (cVar 8) (cVar 5))) (cVar 8) [8] 1000)) (gNm 4)) R (sev S p q (some (.int ((i + 1 : Nat) : Int))) (some (.rl (E.map pairD))) (some (.rl (sn.map pairD))) X.length y7 y8 y9) (X ++ [O.lst (L.map pairD)]) =
        R (sev S p q (some (.int ((i + 1 : Nat) : Int))) (some (.rl (N.map pairD))) (some (.rl (sn.map pairD))) X.length y7 y8 y9) (X ++ [O.lst (L.map pairD)]) := fun R => by
      simp only [cSeq, cAsg, e2, onRes, gNm]
      rfl
    have a3 : ∀ R : Ev → AH → RS, cSeq (cIf (cTst (cBin inD (cTup (aCons (cBin ixD (cVar 1) (cCon (.int 1))) (aCons (cBin ixD (cVar 2) (cCon (.int 1))) aNil))) (cVar 6))) (cSeq (cRet (cVar 3)) cPass) cPass) R (sev S p q (some (.int ((i + 1 : Nat) : Int))) (some (.rl (E.map pairD))) (some (.rl (sn.map pairD))) X.length y7 y8 y9) (X ++ [O.lst (L.map pairD)]) =
        R (sev S p q (some (.int ((i + 1 : Nat) : Int))) (some (.rl (E.map pairD))) (some (.rl (sn.map pairD))) X.length y7 y8 y9) (X ++ [O.lst (L.map pairD)]) := fun R => by
      simp only [sev, cSeq, cAsg, cPar, cPar3, cIf, cRet, cRetN, cExp, cPass, cTst, cTru, cVar, cCon, cBin, cB, cBM, cTup, cCall, aCons, aNil, gNm, gTp, gsCons, gsNil, gSb, tAndF, tOrF, tNotF, vAnd, vOr, vNot, cIte, Res.bind, onRes, endB, List.getElem?_cons_zero, List.getElem?_cons_succ, List.set_cons_succ, List.set_cons_zero, List.length_cons, List.length_nil, if_true, if_false, Bool.false_eq_true, Bool.not_true, Bool.not_false, x2, lm2, pd, inD, nin]
    rw [a3, a4]
    simp only [cSeq, cAsg, e3, onRes, gNm, cPass]
    rfl
theorem shortest_spec (I : InW S) (h4 : mj S + 1 ≤ 4) (u3 : ∀ k, (usedAt S k).length ≤ 3) {p q : Nat × Nat} (p1 : p.1 < mj S + 1) (q1 : q.1 < mj S + 1) (h : AH) : ∃ r : Nat, ShortOk S (p.1, q.1) (p.2, q.2) r ∧ cf__law_shortest [waysD S, pairD p, pairD q] h = .ok (.int (r : Nat)) h := by
  have lo := forlR (g := gNm 3) (b := b3) (it := .rng 1 39) (l := List.range 39) (G := fun (k : Nat) => D.int (1 + (k : Int)))
    (fun i r h' => ∃ (E sn : List (Nat × Nat)) (Y : AH) (x3 x6 x7 x8 x9 : Option D), r = sv0 S p q x3 (some (.rl (E.map pairD))) (some (.rl (sn.map pairD))) x6 x7 x8 x9 ∧ h' = h ++ Y ∧ SI S (p.1, q.1) (p.2, q.2) i E sn)
    (fun w => ∃ (r : Nat) (Y : AH), ShortOk S (p.1, q.1) (p.2, q.2) r ∧ w = .rt (.int (r : Nat)) (h ++ Y))
    (fun i r h' _ => next_rng 1 39 i _)
    (fun i hi r h' ⟨E, sn, Y, x3, x6, x7, x8, x9, er, eh, B⟩ => by
      subst er eh
      rw [List.length_range] at hi
      have ei : (1 : Int) + (i : Nat) = ((i + 1 : Nat) : Int) := by omega
      rcases b3_spec I h4 u3 rfl rfl B (by omega) (h ++ Y) x6 x7 x8 x9 with ⟨z, Z, e⟩ | ⟨E', sn', Z, y6, y7, y8, y9, B', e⟩
      · refine ⟨sv0 S p q (some (.int ((i + 1 : Nat) : Int))) (some (.rl (E.map pairD))) (some (.rl (sn.map pairD))) x6 x7 x8 x9, h ++ Y, by rw [List.getElem_range, ei]; rfl, .inr (.inl ⟨.int ((i + 1 : Nat) : Int), h ++ Y ++ Z, e, i + 1, Y ++ Z, .inl ⟨by omega, (B.lat I z).1, fun n n1 r => ?_⟩, by rw [List.append_assoc]⟩)⟩
        refine Decidable.byContradiction fun z2 => ?_
        exact B.no n n1 (by omega) r
      · exact ⟨sv0 S p q (some (.int ((i + 1 : Nat) : Int))) (some (.rl (E.map pairD))) (some (.rl (sn.map pairD))) x6 x7 x8 x9, h ++ Y, by rw [List.getElem_range, ei]; rfl, .inl ⟨_, _, .inl e, E', sn', Y ++ Z, _, y6, y7, y8, y9, rfl, by rw [List.append_assoc], B'⟩⟩) 1000 0 (sv0 S p q none (some (.rl ([(p.1, q.1)].map pairD))) (some (.rl (([] : List (Nat × Nat)).map pairD))) none none none none) h (by rw [List.length_range]; omega) (Nat.zero_le _) ⟨_, _, [], _, _, _, _, _, rfl, by rw [List.append_nil], SI.start p1 q1⟩
  have x1 : ∀ (u : Nat × Nat) Y, ixD (pairD u) (.int 0) Y = .ok (.int (u.1 : Nat)) Y := fun u Y => ix_tup 0 rfl
  have f1 : fz (cLst (aCons (cTup (aCons (cBin ixD (cVar 1) (cCon (.int 0))) (aCons (cBin ixD (cVar 2) (cCon (.int 0))) aNil))) aNil)) [some (waysD S), some (pairD p), some (pairD q), none, none, none, none, none, none, none] h = .ok (.rl ([(p.1, q.1)].map pairD)) h := by
    refine fz_lst ?_ rfl
    simp only [cLst, cSeq, cAsg, cPar, cPar3, cIf, cRet, cRetN, cExp, cPass, cTst, cTru, cVar, cCon, cBin, cB, cBM, cTup, cCall, aCons, aNil, gNm, gTp, gsCons, gsNil, gSb, tAndF, tOrF, tNotF, vAnd, vOr, vNot, cIte, Res.bind, onRes, endB, List.getElem?_cons_zero, List.getElem?_cons_succ, List.set_cons_succ, List.set_cons_zero, List.length_cons, List.length_nil, if_true, if_false, Bool.false_eq_true, Bool.not_true, Bool.not_false, x1, lm2, lm1]
    rfl
  have f2 : fz (cLst aNil) [some (waysD S), some (pairD p), some (pairD q), none, none, none, none, none, none, none] h = .ok (.rl (([] : List (Nat × Nat)).map pairD)) h := fz_lst rfl rfl
  have rg : ∀ r Y, cRng2 (aCons (cCon (.int 1)) (aCons (cCon (.int 40)) aNil)) r Y = .ok (.rng 1 39) Y := fun r Y => by
    have b0 : inR (2 ^ 62 - 1) 1 = true := by decide +kernel
    have b1 : inR (2 ^ 62 - 1) 40 = true := by decide +kernel
    have en : ((40 : Int) - 1).toNat = 39 := rfl
    simp only [cRng2, aCons, aNil, cCon, Res.bind, b0, b1, en, and_self, if_true]
  have st : ∀ R : Ev → AH → RS, cSeq (cAsg (cTup (aCons (fz (cLst (aCons (cTup (aCons (cBin ixD (cVar 1) (cCon (.int 0))) (aCons (cBin ixD (cVar 2) (cCon (.int 0))) aNil))) aNil))) (aCons (fz (cLst aNil)) aNil))) (gTp 2 (gsCons (gNm 4) (gsCons (gNm 5) gsNil)))) R [some (waysD S), some (pairD p), some (pairD q), none, none, none, none, none, none, none] h =
      R (sv0 S p q none (some (.rl ([(p.1, q.1)].map pairD))) (some (.rl (([] : List (Nat × Nat)).map pairD))) none none none none) h := fun R => by
    simp only [cSeq, cAsg, cTup, aCons, aNil, f1, f2, Res.bind, List.length_cons, List.length_nil, lm2, if_true, onRes, gTp, gsCons, gsNil, gNm, Option.bind_some]
    rfl
  rcases lo with ⟨r, Y, ok, e⟩ | ⟨r', h', e, E, sn, Y, x3, x6, x7, x8, x9, er, eh, B⟩
  · refine ⟨r, ok, ?_⟩
    refine fzF_cl (j := Y) (show endB (f__law_shortest [some (waysD S), some (pairD p), some (pairD q), none, none, none, none, none, none, none] h) = .ok _ (h ++ Y) from ?_) rfl
    unfold f__law_shortest
    rw [st]
    simp only [cSeq, cFor, rg, onRes, e, endB]
  · subst er eh
    rw [List.length_range] at B
    refine ⟨0, .inr ⟨rfl, B.no⟩, ?_⟩
    refine fzF_cl (j := Y) (show endB (f__law_shortest [some (waysD S), some (pairD p), some (pairD q), none, none, none, none, none, none, none] h) = .ok _ (h ++ Y) from ?_) rfl
    unfold f__law_shortest
    rw [st]
    simp only [cSeq, cFor, rg, onRes, e, cRet, cCon, endB]
    rfl
theorem both_ok {o : Option (List Nat)} {r : Nat} (h4 : mj S + 1 ≤ 4) (a : JoinOk S s t o) (b : ShortOk S s t r) : (o = none ∧ r = 0) ∨ ∃ w, o = some w ∧ r = w.length ∧ 1 ≤ w.length := by
  cases o with
  | none =>
    refine .inl ⟨rfl, ?_⟩
    rcases b with ⟨r1, rr, _⟩ | ⟨r0, _⟩
    · obtain ⟨n, rfl⟩ : ∃ n, r = n + 1 := ⟨r - 1, by omega⟩
      exact absurd rr (a.no rfl n)
    · exact r0
  | some w =>
    obtain ⟨ne, w1, w2, mn⟩ := a.yes w rfl
    have l1 : 1 ≤ w.length := List.length_pos_iff.mpr ne
    have l16 := (a.few w rfl).2 h4
    have rw' : Lch S s w.length t := ⟨w, rfl, w1, w2⟩
    refine .inr ⟨w, rfl, ?_, l1⟩
    rcases b with ⟨r1, rr, le⟩ | ⟨_, no⟩
    · obtain ⟨n, rfl⟩ : ∃ n, r = n + 1 := ⟨r - 1, by omega⟩
      have := mn n rr
      have := le w.length l1 rw'
      omega
    · exact absurd rw' (no w.length l1 (by omega))
end

end K05
namespace K05
open PySem L2 PI
noncomputable abbrev t0 : Ev → AH → RS := (cAsg (cCall 2 cf__law_drawn (aCons (cVar 0) (aCons (cCon (.int 4)) aNil))) (gNm 2))
noncomputable abbrev t1 : Ev → AH → RS := (cAsg (cTup (aCons (fz (cMake 0 2 cf_Web___init__ (aCons (cCall 1 cf__law_text (aCons (cVar 2) aNil)) aNil))) (aCons (cCall 1 cf__law_ways (aCons (cVar 2) aNil)) aNil))) (gTp 2 (gsCons (gNm 11) (gsCons (gNm 12) gsNil))))
noncomputable abbrev t2 : Ev → AH → RS := (cAsg (cBM "str" joinO (cCon (.str "")) (aCons (fz (cLc (cRng1 (aCons (cBin addD (cCon (.int 1)) (cCall 2 cf__law_sip (aCons (cVar 0) (aCons (cCon (.int 4)) aNil)))) aNil)) (gNm 16) cYes (cCall 2 cf__law_pick (aCons (cVar 0) (aCons (fz (cB listSO (aCons (cAttr ct call2 nps "marks" (cVar 11)) aNil))) aNil))) [16] 1000)) aNil)) (gNm 3))
noncomputable abbrev t3 : Ev → AH → RS := (cAsg (cBM "str" joinO (cCon (.str "")) (aCons (fz (cLc (cRng1 (aCons (cBin addD (cCon (.int 1)) (cCall 2 cf__law_sip (aCons (cVar 0) (aCons (cCon (.int 4)) aNil)))) aNil)) (gNm 16) cYes (cCall 2 cf__law_pick (aCons (cVar 0) (aCons (fz (cB listSO (aCons (cAttr ct call2 nps "marks" (cVar 11)) aNil))) aNil))) [16] 1000)) aNil)) (gNm 4))
noncomputable abbrev t4 : Ev → AH → RS := (cAsg (fz (cLc (cRng1 (aCons (cAttr ct call2 nps "houses" (cVar 11)) aNil)) (gNm 15) cYes (cCall 3 cf__law_walk (aCons (cVar 12) (aCons (cVar 15) (aCons (cVar 3) aNil)))) [15] 1000)) (gNm 5))
noncomputable abbrev t5 : Ev → AH → RS := (cAsg (fz (cLc (cRng1 (aCons (cAttr ct call2 nps "houses" (cVar 11)) aNil)) (gNm 15) cYes (cCall 3 cf__law_walk (aCons (cVar 12) (aCons (cVar 15) (aCons (cVar 4) aNil)))) [15] 1000)) (gNm 6))
noncomputable abbrev t6 : Ev → AH → RS := (cAsg (cB tupO (aCons (fz (cLc (cRng1 (aCons (cAttr ct call2 nps "houses" (cVar 11)) aNil)) (gNm 15) (cTst (cBin isntD (cBin ixD (cVar 5) (cVar 15)) (cCon .non))) (cTup (aCons (cVar 15) (aCons (cBin ixD (cVar 5) (cVar 15)) aNil))) [15] 1000)) aNil)) (gNm 7))
noncomputable abbrev t7 : Ev → AH → RS := (cIf (cTst (cBin neD (fz (cLst (aCons (cCall 2 cf_led (aCons (cVar 11) (aCons (cVar 3) aNil))) (aCons (cCallK 2 0 2 [1, 0] cf_led aNil (aCons (cVar 3) (aCons (cVar 11) aNil))) aNil)))) (fz (cLst (aCons (cVar 7) (aCons (cVar 7) aNil)))))) (cSeq (cRet (cCon (.bl false))) cPass) cPass)
noncomputable abbrev t8 : Ev → AH → RS := (cAsg (fz (cLc (cRng1 (aCons (cAttr ct call2 nps "houses" (cVar 11)) aNil)) (gNm 15) (tAndF (cTst (cBin isntD (cBin ixD (cVar 5) (cVar 15)) (cCon .non))) (cTst (cBin isntD (cBin ixD (cVar 6) (cVar 15)) (cCon .non)))) (cVar 15) [15] 1000)) (gNm 8))
noncomputable abbrev t9 : Ev → AH → RS := (cAsg (cB tupO (aCons (fz (cLc (cIter (cVar 8)) (gNm 15) (cTst (cBin neD (cBin ixD (cVar 5) (cVar 15)) (cBin ixD (cVar 6) (cVar 15)))) (cVar 15) [15] 1000)) aNil)) (gNm 8))
noncomputable abbrev t10 : Ev → AH → RS := (cIf (cTst (cBin neD (fz (cLst (aCons (cCall 3 cf_unlike (aCons (cVar 11) (aCons (cVar 3) (aCons (cVar 4) aNil)))) (aCons (cCallK 3 0 3 [2, 1, 0] cf_unlike aNil (aCons (cVar 3) (aCons (cVar 4) (aCons (cVar 11) aNil)))) aNil)))) (fz (cLst (aCons (cVar 8) (aCons (cVar 8) aNil)))))) (cSeq (cRet (cCon (.bl false))) cPass) cPass)
noncomputable abbrev t11 : Ev → AH → RS := (cAsg (cTup (aCons (cCall 2 cf__law_sip (aCons (cVar 0) (aCons (cAttr ct call2 nps "houses" (cVar 11)) aNil))) (aCons (cCall 2 cf__law_sip (aCons (cVar 0) (aCons (cAttr ct call2 nps "houses" (cVar 11)) aNil))) aNil))) (gNm 9))
noncomputable abbrev t12 : Ev → AH → RS := (cAsg (cTup (aCons (cCall 2 cf__law_sip (aCons (cVar 0) (aCons (cAttr ct call2 nps "houses" (cVar 11)) aNil))) (aCons (cCall 2 cf__law_sip (aCons (cVar 0) (aCons (cAttr ct call2 nps "houses" (cVar 11)) aNil))) aNil))) (gNm 10))
noncomputable abbrev t13 : Ev → AH → RS := (cPar 13 14 (aCons (cCall 3 cf_joined (aCons (cVar 11) (aCons (cVar 9) (aCons (cVar 10) aNil)))) (aCons (cCall 3 cf__law_shortest (aCons (cVar 12) (aCons (cVar 9) (aCons (cVar 10) aNil)))) aNil)))
noncomputable abbrev t14 : Ev → AH → RS := (cIf (tOrF (cTst (cBin neD (cBin isD (cVar 13) (cCon .non)) (cBin eqD (cVar 14) (cCon (.int 0))))) (cTst (cBin neD (cBin isD (cCallK 3 0 3 [2, 1, 0] cf_joined aNil (aCons (cVar 9) (aCons (cVar 10) (aCons (cVar 11) aNil)))) (cCon .non)) (cBin eqD (cVar 14) (cCon (.int 0)))))) (cSeq (cRet (cCon (.bl false))) cPass) cPass)
noncomputable abbrev t15 : Ev → AH → RS := (cIf (tAndF (cTst (cBin isntD (cVar 13) (cCon .non))) (tOrF (cTst (cBin neD (cB lenO (aCons (cVar 13) aNil)) (cVar 14))) (tOrF (cTst (cBin ninD (cVar 9) (cCall 2 cf_led (aCons (cVar 11) (aCons (cVar 13) aNil))))) (cTst (cBin ninD (cVar 10) (cCall 2 cf_led (aCons (cVar 11) (aCons (cVar 13) aNil)))))))) (cSeq (cRet (cCon (.bl false))) cPass) cPass)
section
variable {a : Nat} {h : AH}
def tev (a : Nat) (x1 x2 x3 x4 x5 x6 x7 x8 x9 x10 x11 x12 x13 x14 x15 x16 : Option D) : Ev := [some (.ref a), x1, x2, x3, x4, x5, x6, x7, x8, x9, x10, x11, x12, x13, x14, x15, x16]
theorem ls_ne {T : List T4} (I : InW T) : lsOf T ≠ [] := fun z => by
  obtain ⟨t, ht⟩ := List.exists_mem_of_ne_nil T I.ne
  have hm : t.a ∈ lsOf T := List.mem_filter.mpr ⟨List.mem_range.mpr (I.ok t ht).2.2.1, List.any_eq_true.mpr ⟨t, ht, by simp⟩⟩
  rw [z] at hm
  cases hm
noncomputable abbrev wdF : Ev → AH → Res D := (cBM "str" joinO (cCon (.str "")) (aCons (fz (cLc (cRng1 (aCons (cBin addD (cCon (.int 1)) (cCall 2 cf__law_sip (aCons (cVar 0) (aCons (cCon (.int 4)) aNil)))) aNil)) (gNm 16) cYes (cCall 2 cf__law_pick (aCons (cVar 0) (aCons (fz (cB listSO (aCons (cAttr ct call2 nps "marks" (cVar 11)) aNil))) aNil))) [16] 1000)) aNil))
/-- a word drawn -/
theorem word_drawn {T : List T4} (I : InW (S4 T)) {X : AH} (dr : Dr a h X 0) {r : Ev} (h0 : r[0]? = some (some (.ref a))) (h11 : r[11]? = some (some (webD T))) (hr : r.length = 17) :
    ∃ (ws : List Nat) (X' : AH), 1 ≤ ws.length ∧ ws.length ≤ 4 ∧ (∀ x ∈ ws, x < 12) ∧ Dr a h X' 0 ∧ wdF r X = .ok (.str (wS ws)) X' := by
  obtain ⟨q, X1, hq, e1, dr1⟩ := sip_new (n := 4) (j := []) (by omega) (by omega) dr
  rw [List.append_nil, List.append_nil] at e1
  have ce : (1 : Int) + (q : Nat) = ((1 + q : Nat) : Int) := by omega
  have bm : inR (2 ^ 62 - 1) ((1 + q : Nat) : Int) = true := inR_ok.mpr (by omega)
  have rg : cRng1 (aCons (cBin addD (cCon (.int 1)) (cCall 2 cf__law_sip (aCons (cVar 0) (aCons (cCon (.int 4)) aNil)))) aNil) r X = .ok (.rng 0 (1 + q)) X1 := by
    have e1' : cf__law_sip [.ref a, .int 4] X = .ok (.int (q : Nat)) X1 := e1
    simp only [cRng1, cBin, cCall, aCons, aNil, cVar, cCon, h0, Res.bind, List.length_cons, List.length_nil, if_true, e1', addD, ce, if_pos bm, Int.toNat_natCast]
  have dX : Dr a X X1 0 := by
    obtain ⟨s, f, q, ok, al⟩ := dr1
    obtain ⟨s0, f0, q0, _, _⟩ := dr
    exact ⟨s, f, by rw [q, q0, set_set], ok, by rw [q0, List.length_set]; exact al⟩
  obtain ⟨ys, X', ly, hy, e, d2⟩ := fz_lc_inv (h := X) (h1 := X1) (vs := [16]) (n := 1000) (g := gNm 16) (ce := cCall 2 cf__law_pick (aCons (cVar 0) (aCons (fz (cB listSO (aCons (cAttr ct call2 nps "marks" (cVar 11)) aNil))) aNil))) (fi := cRng1 (aCons (cBin addD (cCon (.int 1)) (cCall 2 cf__law_sip (aCons (cVar 0) (aCons (cCon (.int 4)) aNil)))) aNil)) (it := .rng 0 (1 + q)) (r := r)
    (List.range (1 + q)) (fun (k : Nat) => D.int (k : Int)) sl (fun _ x => x ∈ lsOf (S4 T)) (fun _ Y => Dr a X Y 0) rg (by rw [List.length_range]; omega) (by decide) dX (fun _ Y d => d.len) (fun _ Y d => d.ko) (fun i Y acc _ => next_rng0 _ i _) (fun _ _ _ => rfl)
    (fun i hi Y acc d => by
      have g11 : ((wipeD r [16]).set 16 (some (.int (((List.range (1 + q))[i] : Nat) : Int))))[11]? = some (some (webD T)) := by
        rw [List.getElem?_set_ne (by omega)]
        simp only [wipeD]
        rw [List.getElem?_set_ne (by omega), h11]
      have g0 : ((wipeD r [16]).set 16 (some (.int (((List.range (1 + q))[i] : Nat) : Int))))[0]? = some (some (.ref a)) := by
        rw [List.getElem?_set_ne (by omega)]
        simp only [wipeD]
        rw [List.getElem?_set_ne (by omega), h0]
      have mk := marks_at (L := T) (call := call2) rfl (fo := cVar 11) (r := (wipeD r [16]).set 16 (some (.int (((List.range (1 + q))[i] : Nat) : Int)))) (h := Y ++ [O.lst acc]) (h1 := Y ++ [O.lst acc]) (by simp only [cVar, g11])
      have ls := listS_spec (lsOf (S4 T)) (by have := ls_len (S4 T); omega) mk
      have es : ((lsOf (S4 T)).map fun x => [x]).map (fun w => D.str (wS w)) = (lsOf (S4 T)).map sl := by
        rw [List.map_map]
        rfl
      rw [es] at ls
      obtain ⟨x, Y', hx, ep, d'⟩ := pick_new (j := [O.lst acc]) (G := sl) (ls_ne I) (by have := ls_len (S4 T); omega) (fun _ _ _ => rfl) d
      refine ⟨_, x, Y', rfl, hx, ?_, d'⟩
      simp only [cCall, aCons, aNil, cVar, g0, Res.bind, ls, List.length_cons, List.length_nil, if_true, ep])
  rw [List.length_range] at ly
  have hm : ∀ x ∈ ys, x < 12 := fun x hx => by
    obtain ⟨k, hk⟩ := List.mem_iff_getElem?.mp hx
    exact ls_lt x (hy k x hk)
  refine ⟨ys, X', by omega, by omega, hm, dr.trans d2, ?_⟩
  have j := join_ltrs (l := ys) (by omega) X'
  rw [wS_join] at j
  have j' : joinO [.str "", .rl (ys.map sl)] X' = some (.str (wS ys), X') := j
  have ty : ∀ x, tyD "str" X (.str x) = true := fun _ => rfl
  simp only [wdF, cBM, cCon, aCons, aNil, Res.bind, e, ty_str, if_true, j']
end

end K05
namespace K05
open PySem L2 PI
/-! ### what is due -/
section
variable {T : List T4} {m : Nat}
def enD (T : List T4) (ws : List Nat) (k : Nat) : D := oD (wkO T k ws)
theorem cl_oD (n : Nat) (o : Option Nat) : clD n (oD o) = true := by cases o <;> rfl
theorem en_ix (ws : List Nat) {k : Nat} (hk : k < m) (Y : AH) : ixD (.rl ((List.range m).map (enD T ws))) (.int (k : Nat)) Y = .ok (oD (wkO T k ws)) Y := ix_rl k (by rw [List.getElem?_map, List.getElem?_range hk]; rfl)
theorem due_eq (ws : List Nat) (m : Nat) : (((List.range m).filter fun k => (wkO T k ws).isSome).map fun k => D.tup [.int (k : Nat), oD (wkO T k ws)]) = (mv T ws (idP m)).map pairD := by
  rw [← mv_D]
  unfold idP
  rw [List.filter_map, List.map_map]
  rfl
theorem ap_eq (ws vs : List Nat) : ((List.range (mj T + 1)).filter fun k => (wkO T k ws).isSome && (wkO T k vs).isSome).filter (fun k => decide (wkO T k ws ≠ wkO T k vs)) = apart T ws vs := by
  unfold apart
  rw [List.filter_filter]
  refine List.filter_congr fun k _ => ?_
  cases (wkO T k ws).isSome <;> cases (wkO T k vs).isSome <;> simp
/-- lists of two like tuples -/
theorem same_tups {l : List D} {ps : List PyData} {h : AH} (e : mapO (toP 10 h) l = some ps) (can : PyData.canLayAll0 ps = true) (dep : PyData.depthAll ps ≤ 30) (eq : PyData.eqvAll ps ps = true) : neD (.rl [.tup l, .tup l]) (.rl [.tup l, .tup l]) h = .ok (.bl false) h := by
  have t1 : toP 12 h (.rl [.tup l, .tup l]) = some (.list [.tuple ps, .tuple ps]) := by
    have t2 : toP 11 h (.tup l) = some (.tuple ps) := by
      show (mapO (toP 10 h) l).map PyData.tuple = _
      rw [e]
      rfl
    show (mapO (toP 11 h) [.tup l, .tup l]).map PyData.list = _
    simp only [mapO, t2, Option.bind_some, Option.map_some]
  have sh : SeqAt.shaped (.list [.tuple ps, .tuple ps]) = true := shL (f := id) (l := [.tuple ps, .tuple ps]) fun x hx => by
    have : x = .tuple ps := by simpa using hx
    subst this
    refine ⟨can, ?_⟩
    show PyData.depthAll ps + 1 ≤ 60
    omega
  have q := eqB_of (d := .rl [.tup l, .tup l]) (e := .rl [.tup l, .tup l]) rfl t1 t1 sh sh
  have ev : PyData.eqv (.list [.tuple ps, .tuple ps]) (.list [.tuple ps, .tuple ps]) = true := by
    simp only [PyData.eqv, PyData.eqvAll, eq, Bool.and_true]
  rw [ev] at q
  exact ne_of q
theorem same_pairs (l : List (Nat × Nat)) (h : AH) : neD (.rl [.tup (l.map pairD), .tup (l.map pairD)]) (.rl [.tup (l.map pairD), .tup (l.map pairD)]) h = .ok (.bl false) h :=
  same_tups (ps := l.map pdP) (mapO_map (g := pairD) (k := pdP) (fun t => rfl) l) (canL fun _ _ => rfl) (depL fun _ _ => by show 1 ≤ 30; omega) (by rw [eqvL_dec eqv_pair]; exact decide_eq_true rfl)
theorem same_ints (l : List Nat) (h : AH) : neD (.rl [.tup (l.map dN), .tup (l.map dN)]) (.rl [.tup (l.map dN), .tup (l.map dN)]) h = .ok (.bl false) h := by
  rw [dN_int]
  exact same_tups (ps := (natsI l).map PyData.int) (mapO_map (g := D.int) (k := PyData.int) (fun t => rfl) _) (canL fun _ _ => rfl) (depL fun _ _ => by show 0 ≤ 30; omega) (by rw [eqvL_dec eqv_int]; exact decide_eq_true rfl)
theorem lch_swap {S : List T4} {s t : Nat × Nat} {n : Nat} (h : Lch S s n t) : Lch S (s.2, s.1) n (t.2, t.1) := let ⟨ws, l, h1, h2⟩ := h; ⟨ws, l, h2, h1⟩
theorem none_swap {S : List T4} {s t : Nat × Nat} {o o' : Option (List Nat)} (a : JoinOk S s t o) (b : JoinOk S (s.2, s.1) (t.2, t.1) o') : o = none ↔ o' = none := by
  have key : ∀ {s t : Nat × Nat} {o o' : Option (List Nat)}, JoinOk S s t o → JoinOk S (s.2, s.1) (t.2, t.1) o' → o = none → o' = none := fun {s t o o'} a b z => by
    cases e : o' with
    | none => rfl
    | some w =>
      obtain ⟨ne, h1, h2, _⟩ := b.yes w e
      have l1 := List.length_pos_iff.mpr ne
      have r : Lch S (s.2, s.1) (w.length - 1 + 1) (t.2, t.1) := ⟨w, by omega, h1, h2⟩
      exact absurd (lch_swap r) (a.no z _)
  exact ⟨key a b, key (s := (s.2, s.1)) (t := (t.2, t.1)) b a⟩
end

end K05
namespace K05
open PySem L2 PI
/-! ### a turn -/
noncomputable abbrev tC : Ev → AH → RS := cSeq t4 (cSeq t5 (cSeq t6 (cSeq t7 (cSeq t8 (cSeq t9 t10)))))
theorem cl_two_pairs (n : Nat) (l : List (Nat × Nat)) : clDs n [.tup (l.map pairD), .tup (l.map pairD)] = true := by
  have c : clDs n (l.map pairD) = true := clDs_map fun _ _ => rfl
  simp only [clDs, clD, c, Bool.and_self]
theorem cl_two_ints (n : Nat) (l : List Nat) : clDs n [.tup (l.map dN), .tup (l.map dN)] = true := by
  have c : clDs n (l.map dN) = true := clDs_map fun _ _ => rfl
  simp only [clDs, clD, c, Bool.and_self]
theorem ap_swap (S : List T4) (ws vs : List Nat) : apart S ws vs = apart S vs ws := by
  unfold apart
  refine List.filter_congr fun k _ => ?_
  have e : decide (wkO S k ws ≠ wkO S k vs) = decide (wkO S k vs ≠ wkO S k ws) := decide_eq_decide.mpr ⟨fun z e => z e.symm, fun z e => z e.symm⟩
  rw [e]
  cases (wkO S k ws).isSome <;> cases (wkO S k vs).isSome <;> simp
section
variable {a : Nat} {h : AH}
/-- walks, led, unlike -/
theorem half1 {T : List T4} (w : WebL T) (e4 : S4 T = T) {ws vs : List Nat} (a1 : 1 ≤ ws.length) (a2 : ws.length ≤ 200) (aw : ∀ c ∈ ws, c < 12) (b1 : 1 ≤ vs.length) (b2 : vs.length ≤ 200) (bw : ∀ c ∈ vs, c < 12) (X : AH) (x1 x2 x5 x6 x7 x8 x9 x10 x13 x14 x15 x16 : Option D) (R : Ev → AH → RS) :
    ∃ y5 y6 y7 y8, cSeq t4 (cSeq t5 (cSeq t6 (cSeq t7 (cSeq t8 (cSeq t9 (cSeq t10 R)))))) (tev a x1 x2 (some (.str (wS ws))) (some (.str (wS vs))) x5 x6 x7 x8 x9 x10 (some (webD T)) (some (waysD T)) x13 x14 x15 x16) X =
      R (tev a x1 x2 (some (.str (wS ws))) (some (.str (wS vs))) y5 y6 y7 y8 x9 x10 (some (webD T)) (some (waysD T)) x13 x14 x15 x16) X := by
  have I : InW T := e4 ▸ w.2
  have m10 : mj T < 10 := e4 ▸ w.mj10
  generalize hm : mj T + 1 = m
  have bm : inR (2 ^ 62 - 1) ((m : Nat) : Int) = true := inR_ok.mpr (by omega)
  have rg : ∀ (r : Ev) (Y : AH), r[11]? = some (some (webD T)) → cRng1 (aCons (cAttr ct call2 nps "houses" (cVar 11)) aNil) r Y = .ok (.rng 0 m) Y := fun r Y hr => by
    have hs := houses_at (L := T) (call := call2) rfl (fo := cVar 11) (r := r) (h := Y) (h1 := Y) (by simp only [cVar, hr])
    rw [e4, hm] at hs
    simp only [cRng1, aCons, aNil, hs, Res.bind, if_pos bm, Int.toNat_natCast]
  -- the walks
  have p4 : ∀ R : Ev → AH → RS, cSeq t4 R (tev a x1 x2 (some (.str (wS ws))) (some (.str (wS vs))) x5 x6 x7 x8 x9 x10 (some (webD T)) (some (waysD T)) x13 x14 x15 x16) X =
      R (tev a x1 x2 (some (.str (wS ws))) (some (.str (wS vs))) (some (.rl ((List.range m).map (enD T ws)))) x6 x7 x8 x9 x10 (some (webD T)) (some (waysD T)) x13 x14 x15 x16) X := fun R => by
    have e := fz_lc (h := X) (vs := [15]) (n := 1000) (g := gNm 15) (ce := cCall 3 cf__law_walk (aCons (cVar 12) (aCons (cVar 15) (aCons (cVar 3) aNil)))) (fi := cRng1 (aCons (cAttr ct call2 nps "houses" (cVar 11)) aNil)) (it := .rng 0 m) (r := tev a x1 x2 (some (.str (wS ws))) (some (.str (wS vs))) x5 x6 x7 x8 x9 x10 (some (webD T)) (some (waysD T)) x13 x14 x15 x16)
      (List.range m) (fun (k : Nat) => D.int (k : Int)) (enD T ws) (rg _ _ rfl) (by rw [List.length_range]; omega) (by decide) (fun acc i => next_rng0 _ i _) (fun k _ => cl_oD _ _) (fun k hk acc => ⟨_, rfl, by
        have lw := lwalk_spec I (by have := List.mem_range.mp hk; omega : k < mj T + 1) a2 (X ++ [O.lst acc])
        simp only [tev, wipeD, cSeq, cAsg, cPar, cPar3, cIf, cRet, cRetN, cExp, cPass, cTst, cTru, cVar, cCon, cBin, cB, cBM, cTup, cCall, aCons, aNil, gNm, gTp, gsCons, gsNil, gSb, tAndF, tOrF, tNotF, vAnd, vOr, vNot, cIte, Res.bind, onRes, endB, List.getElem?_cons_zero, List.getElem?_cons_succ, List.set_cons_succ, List.set_cons_zero, List.length_cons, List.length_nil, if_true, if_false, Bool.false_eq_true, Bool.not_true, Bool.not_false, lw]
        rfl⟩)
    simp only [t4, cSeq, cAsg, e, onRes, gNm]
    rfl
  have p5 : ∀ R : Ev → AH → RS, cSeq t5 R (tev a x1 x2 (some (.str (wS ws))) (some (.str (wS vs))) (some (.rl ((List.range m).map (enD T ws)))) x6 x7 x8 x9 x10 (some (webD T)) (some (waysD T)) x13 x14 x15 x16) X =
      R (tev a x1 x2 (some (.str (wS ws))) (some (.str (wS vs))) (some (.rl ((List.range m).map (enD T ws)))) (some (.rl ((List.range m).map (enD T vs)))) x7 x8 x9 x10 (some (webD T)) (some (waysD T)) x13 x14 x15 x16) X := fun R => by
    have e := fz_lc (h := X) (vs := [15]) (n := 1000) (g := gNm 15) (ce := cCall 3 cf__law_walk (aCons (cVar 12) (aCons (cVar 15) (aCons (cVar 4) aNil)))) (fi := cRng1 (aCons (cAttr ct call2 nps "houses" (cVar 11)) aNil)) (it := .rng 0 m) (r := tev a x1 x2 (some (.str (wS ws))) (some (.str (wS vs))) (some (.rl ((List.range m).map (enD T ws)))) x6 x7 x8 x9 x10 (some (webD T)) (some (waysD T)) x13 x14 x15 x16)
      (List.range m) (fun (k : Nat) => D.int (k : Int)) (enD T vs) (rg _ _ rfl) (by rw [List.length_range]; omega) (by decide) (fun acc i => next_rng0 _ i _) (fun k _ => cl_oD _ _) (fun k hk acc => ⟨_, rfl, by
        have lw := lwalk_spec I (by have := List.mem_range.mp hk; omega : k < mj T + 1) b2 (X ++ [O.lst acc])
        simp only [tev, wipeD, cSeq, cAsg, cPar, cPar3, cIf, cRet, cRetN, cExp, cPass, cTst, cTru, cVar, cCon, cBin, cB, cBM, cTup, cCall, aCons, aNil, gNm, gTp, gsCons, gsNil, gSb, tAndF, tOrF, tNotF, vAnd, vOr, vNot, cIte, Res.bind, onRes, endB, List.getElem?_cons_zero, List.getElem?_cons_succ, List.set_cons_succ, List.set_cons_zero, List.length_cons, List.length_nil, if_true, if_false, Bool.false_eq_true, Bool.not_true, Bool.not_false, lw]
        rfl⟩)
    simp only [t5, cSeq, cAsg, e, onRes, gNm]
    rfl
  have p6 : ∀ R : Ev → AH → RS, cSeq t6 R (tev a x1 x2 (some (.str (wS ws))) (some (.str (wS vs))) (some (.rl ((List.range m).map (enD T ws)))) (some (.rl ((List.range m).map (enD T vs)))) x7 x8 x9 x10 (some (webD T)) (some (waysD T)) x13 x14 x15 x16) X =
      R (tev a x1 x2 (some (.str (wS ws))) (some (.str (wS vs))) (some (.rl ((List.range m).map (enD T ws)))) (some (.rl ((List.range m).map (enD T vs)))) (some (.tup ((ldP T ws).map pairD))) x8 x9 x10 (some (webD T)) (some (waysD T)) x13 x14 x15 x16) X := fun R => by
    have e := fz_lc_if (h := X) (vs := [15]) (n := 1000) (g := gNm 15) (ct := cTst (cBin isntD (cBin ixD (cVar 5) (cVar 15)) (cCon .non))) (ce := cTup (aCons (cVar 15) (aCons (cBin ixD (cVar 5) (cVar 15)) aNil))) (fi := cRng1 (aCons (cAttr ct call2 nps "houses" (cVar 11)) aNil)) (it := .rng 0 m) (r := tev a x1 x2 (some (.str (wS ws))) (some (.str (wS vs))) (some (.rl ((List.range m).map (enD T ws)))) (some (.rl ((List.range m).map (enD T vs)))) x7 x8 x9 x10 (some (webD T)) (some (waysD T)) x13 x14 x15 x16)
      (List.range m) (fun (k : Nat) => D.int (k : Int)) (fun k => D.tup [.int (k : Nat), oD (wkO T k ws)]) (fun k => (wkO T k ws).isSome) (rg _ _ rfl) (by rw [List.length_range]; omega) (by decide) (fun acc i => next_rng0 _ i _) (fun k _ => by cases wkO T k ws <;> rfl) (fun k hk acc => ⟨_, rfl, by
        have ix := en_ix (T := T) (m := m) ws (List.mem_range.mp hk) (X ++ [O.lst acc])
        simp only [tev, wipeD, cSeq, cAsg, cPar, cPar3, cIf, cRet, cRetN, cExp, cPass, cTst, cTru, cVar, cCon, cBin, cB, cBM, cTup, cCall, aCons, aNil, gNm, gTp, gsCons, gsNil, gSb, tAndF, tOrF, tNotF, vAnd, vOr, vNot, cIte, Res.bind, onRes, endB, List.getElem?_cons_zero, List.getElem?_cons_succ, List.set_cons_succ, List.set_cons_zero, List.length_cons, List.length_nil, if_true, if_false, Bool.false_eq_true, Bool.not_true, Bool.not_false, ix, oD_not], fun _ => by
        have ix := en_ix (T := T) (m := m) ws (List.mem_range.mp hk) (X ++ [O.lst acc])
        simp only [tev, wipeD, cSeq, cAsg, cPar, cPar3, cIf, cRet, cRetN, cExp, cPass, cTst, cTru, cVar, cCon, cBin, cB, cBM, cTup, cCall, aCons, aNil, gNm, gTp, gsCons, gsNil, gSb, tAndF, tOrF, tNotF, vAnd, vOr, vNot, cIte, Res.bind, onRes, endB, List.getElem?_cons_zero, List.getElem?_cons_succ, List.set_cons_succ, List.set_cons_zero, List.length_cons, List.length_nil, if_true, if_false, Bool.false_eq_true, Bool.not_true, Bool.not_false, ix, lm2]⟩)
    rw [due_eq] at e
    have tp : ∀ Y, tupO [.rl ((mv T ws (idP m)).map pairD)] Y = some (.tup ((mv T ws (idP m)).map pairD), Y) := fun Y => tup_rl Y
    have el : mv T ws (idP m) = ldP T ws := by rw [← hm]
    rw [el] at e tp
    simp only [t6, cSeq, cAsg, cB, aCons, aNil, e, Res.bind, tp, onRes, gNm]
    rfl
  have ld := led_spec w a1 a2 aw X
  rw [e4] at ld
  have p7 : ∀ R : Ev → AH → RS, cSeq t7 R (tev a x1 x2 (some (.str (wS ws))) (some (.str (wS vs))) (some (.rl ((List.range m).map (enD T ws)))) (some (.rl ((List.range m).map (enD T vs)))) (some (.tup ((ldP T ws).map pairD))) x8 x9 x10 (some (webD T)) (some (waysD T)) x13 x14 x15 x16) X =
      R (tev a x1 x2 (some (.str (wS ws))) (some (.str (wS vs))) (some (.rl ((List.range m).map (enD T ws)))) (some (.rl ((List.range m).map (enD T vs)))) (some (.tup ((ldP T ws).map pairD))) x8 x9 x10 (some (webD T)) (some (waysD T)) x13 x14 x15 x16) X := fun R => by
    have f1 : fz (cLst (aCons (cCall 2 cf_led (aCons (cVar 11) (aCons (cVar 3) aNil))) (aCons (cCallK 2 0 2 [1, 0] cf_led aNil (aCons (cVar 3) (aCons (cVar 11) aNil))) aNil))) (tev a x1 x2 (some (.str (wS ws))) (some (.str (wS vs))) (some (.rl ((List.range m).map (enD T ws)))) (some (.rl ((List.range m).map (enD T vs)))) (some (.tup ((ldP T ws).map pairD))) x8 x9 x10 (some (webD T)) (some (waysD T)) x13 x14 x15 x16) X =
        .ok (.rl [.tup ((ldP T ws).map pairD), .tup ((ldP T ws).map pairD)]) X := by
      refine fz_lst ?_ (cl_two_pairs _ _)
      have pk : pick [1, 0] ([] ++ [D.str (wS ws), webD T]) = [webD T, .str (wS ws)] := rfl
      simp only [tev, cLst, cCallK, cSeq, cAsg, cPar, cPar3, cIf, cRet, cRetN, cExp, cPass, cTst, cTru, cVar, cCon, cBin, cB, cBM, cTup, cCall, aCons, aNil, gNm, gTp, gsCons, gsNil, gSb, tAndF, tOrF, tNotF, vAnd, vOr, vNot, cIte, Res.bind, onRes, endB, List.getElem?_cons_zero, List.getElem?_cons_succ, List.set_cons_succ, List.set_cons_zero, List.length_cons, List.length_nil, if_true, if_false, Bool.false_eq_true, Bool.not_true, Bool.not_false, ld, pk, lm2, and_self]
    have f2 : fz (cLst (aCons (cVar 7) (aCons (cVar 7) aNil))) (tev a x1 x2 (some (.str (wS ws))) (some (.str (wS vs))) (some (.rl ((List.range m).map (enD T ws)))) (some (.rl ((List.range m).map (enD T vs)))) (some (.tup ((ldP T ws).map pairD))) x8 x9 x10 (some (webD T)) (some (waysD T)) x13 x14 x15 x16) X =
        .ok (.rl [.tup ((ldP T ws).map pairD), .tup ((ldP T ws).map pairD)]) X := by
      refine fz_lst ?_ (cl_two_pairs _ _)
      simp only [tev, cLst, cSeq, cAsg, cPar, cPar3, cIf, cRet, cRetN, cExp, cPass, cTst, cTru, cVar, cCon, cBin, cB, cBM, cTup, cCall, aCons, aNil, gNm, gTp, gsCons, gsNil, gSb, tAndF, tOrF, tNotF, vAnd, vOr, vNot, cIte, Res.bind, onRes, endB, List.getElem?_cons_zero, List.getElem?_cons_succ, List.set_cons_succ, List.set_cons_zero, List.length_cons, List.length_nil, if_true, if_false, Bool.false_eq_true, Bool.not_true, Bool.not_false, lm2]
    have ne := same_pairs (ldP T ws) X
    simp only [t7, cSeq, cIf, cTst, cBin, f1, f2, Res.bind, ne, onRes, Bool.false_eq_true, if_false, cPass]
  generalize hA : (List.range m).filter (fun k => (wkO T k ws).isSome && (wkO T k vs).isSome) = A
  have p8 : ∀ R : Ev → AH → RS, cSeq t8 R (tev a x1 x2 (some (.str (wS ws))) (some (.str (wS vs))) (some (.rl ((List.range m).map (enD T ws)))) (some (.rl ((List.range m).map (enD T vs)))) (some (.tup ((ldP T ws).map pairD))) x8 x9 x10 (some (webD T)) (some (waysD T)) x13 x14 x15 x16) X =
      R (tev a x1 x2 (some (.str (wS ws))) (some (.str (wS vs))) (some (.rl ((List.range m).map (enD T ws)))) (some (.rl ((List.range m).map (enD T vs)))) (some (.tup ((ldP T ws).map pairD))) (some (.rl (A.map dN))) x9 x10 (some (webD T)) (some (waysD T)) x13 x14 x15 x16) X := fun R => by
    have e := fz_lc_if (h := X) (vs := [15]) (n := 1000) (g := gNm 15) (ct := tAndF (cTst (cBin isntD (cBin ixD (cVar 5) (cVar 15)) (cCon .non))) (cTst (cBin isntD (cBin ixD (cVar 6) (cVar 15)) (cCon .non)))) (ce := cVar 15) (fi := cRng1 (aCons (cAttr ct call2 nps "houses" (cVar 11)) aNil)) (it := .rng 0 m) (r := tev a x1 x2 (some (.str (wS ws))) (some (.str (wS vs))) (some (.rl ((List.range m).map (enD T ws)))) (some (.rl ((List.range m).map (enD T vs)))) (some (.tup ((ldP T ws).map pairD))) x8 x9 x10 (some (webD T)) (some (waysD T)) x13 x14 x15 x16)
      (List.range m) (fun (k : Nat) => D.int (k : Int)) dN (fun k => (wkO T k ws).isSome && (wkO T k vs).isSome) (rg _ _ rfl) (by rw [List.length_range]; omega) (by decide) (fun acc i => next_rng0 _ i _) (fun k _ => rfl) (fun k hk acc => ⟨_, rfl, by
        have ix := en_ix (T := T) (m := m) ws (List.mem_range.mp hk) (X ++ [O.lst acc])
        have ix2 := en_ix (T := T) (m := m) vs (List.mem_range.mp hk) (X ++ [O.lst acc])
        cases z1 : (wkO T k ws).isSome
        · simp only [tev, wipeD, cSeq, cAsg, cPar, cPar3, cIf, cRet, cRetN, cExp, cPass, cTst, cTru, cVar, cCon, cBin, cB, cBM, cTup, cCall, aCons, aNil, gNm, gTp, gsCons, gsNil, gSb, tAndF, tOrF, tNotF, vAnd, vOr, vNot, cIte, Res.bind, onRes, endB, List.getElem?_cons_zero, List.getElem?_cons_succ, List.set_cons_succ, List.set_cons_zero, List.length_cons, List.length_nil, if_true, if_false, Bool.false_eq_true, Bool.not_true, Bool.not_false, ix, oD_not, z1, Bool.false_and]
        · simp only [tev, wipeD, cSeq, cAsg, cPar, cPar3, cIf, cRet, cRetN, cExp, cPass, cTst, cTru, cVar, cCon, cBin, cB, cBM, cTup, cCall, aCons, aNil, gNm, gTp, gsCons, gsNil, gSb, tAndF, tOrF, tNotF, vAnd, vOr, vNot, cIte, Res.bind, onRes, endB, List.getElem?_cons_zero, List.getElem?_cons_succ, List.set_cons_succ, List.set_cons_zero, List.length_cons, List.length_nil, if_true, if_false, Bool.false_eq_true, Bool.not_true, Bool.not_false, ix, ix2, oD_not, z1, Bool.true_and], fun _ => rfl⟩)
    rw [hA] at e
    simp only [t8, cSeq, cAsg, e, onRes, gNm]
    rfl
  have p9 : ∀ R : Ev → AH → RS, cSeq t9 R (tev a x1 x2 (some (.str (wS ws))) (some (.str (wS vs))) (some (.rl ((List.range m).map (enD T ws)))) (some (.rl ((List.range m).map (enD T vs)))) (some (.tup ((ldP T ws).map pairD))) (some (.rl (A.map dN))) x9 x10 (some (webD T)) (some (waysD T)) x13 x14 x15 x16) X =
      R (tev a x1 x2 (some (.str (wS ws))) (some (.str (wS vs))) (some (.rl ((List.range m).map (enD T ws)))) (some (.rl ((List.range m).map (enD T vs)))) (some (.tup ((ldP T ws).map pairD))) (some (.tup ((apart T ws vs).map dN))) x9 x10 (some (webD T)) (some (waysD T)) x13 x14 x15 x16) X := fun R => by
    have lA : A.length ≤ m := by
      have := List.length_filter_le (fun k => (wkO T k ws).isSome && (wkO T k vs).isSome) (List.range m)
      rwa [hA, List.length_range] at this
    have e := fz_lc_if (h := X) (vs := [15]) (n := 1000) (g := gNm 15) (ct := cTst (cBin neD (cBin ixD (cVar 5) (cVar 15)) (cBin ixD (cVar 6) (cVar 15)))) (ce := cVar 15) (fi := cIter (cVar 8)) (it := .rl (A.map dN)) (r := tev a x1 x2 (some (.str (wS ws))) (some (.str (wS vs))) (some (.rl ((List.range m).map (enD T ws)))) (some (.rl ((List.range m).map (enD T vs)))) (some (.tup ((ldP T ws).map pairD))) (some (.rl (A.map dN))) x9 x10 (some (webD T)) (some (waysD T)) x13 x14 x15 x16)
      A dN dN (fun k => decide (wkO T k ws ≠ wkO T k vs)) rfl (by omega) (by decide) (fun acc i => next_rl i) (fun k _ => rfl) (fun k hk acc => ⟨_, rfl, by
        rw [← hA, List.mem_filter, List.mem_range, Bool.and_eq_true] at hk
        have ix := en_ix (T := T) (m := m) ws hk.1 (X ++ [O.lst acc])
        have ix2 := en_ix (T := T) (m := m) vs hk.1 (X ++ [O.lst acc])
        have n3 := ne_oD hk.2.1 hk.2.2 (X ++ [O.lst acc])
        simp only [tev, wipeD, cSeq, cAsg, cPar, cPar3, cIf, cRet, cRetN, cExp, cPass, cTst, cTru, cVar, cCon, cBin, cB, cBM, cTup, cCall, aCons, aNil, gNm, gTp, gsCons, gsNil, gSb, tAndF, tOrF, tNotF, vAnd, vOr, vNot, cIte, Res.bind, onRes, endB, List.getElem?_cons_zero, List.getElem?_cons_succ, List.set_cons_succ, List.set_cons_zero, List.length_cons, List.length_nil, if_true, if_false, Bool.false_eq_true, Bool.not_true, Bool.not_false, dN, ix, ix2, n3], fun _ => rfl⟩)
    have ea : A.filter (fun k => decide (wkO T k ws ≠ wkO T k vs)) = apart T ws vs := by
      rw [← hA, ← hm]
      exact ap_eq ws vs
    rw [ea] at e
    have tp : ∀ Y, tupO [.rl ((apart T ws vs).map dN)] Y = some (.tup ((apart T ws vs).map dN), Y) := fun Y => tup_rl Y
    simp only [t9, cSeq, cAsg, cB, aCons, aNil, e, Res.bind, tp, onRes, gNm]
    rfl
  have ul := unlike_spec w a1 a2 aw b1 b2 bw X
  rw [e4] at ul
  have ul2 := unlike_spec w b1 b2 bw a1 a2 aw X
  rw [e4, ap_swap] at ul2
  have p10 : ∀ R : Ev → AH → RS, cSeq t10 R (tev a x1 x2 (some (.str (wS ws))) (some (.str (wS vs))) (some (.rl ((List.range m).map (enD T ws)))) (some (.rl ((List.range m).map (enD T vs)))) (some (.tup ((ldP T ws).map pairD))) (some (.tup ((apart T ws vs).map dN))) x9 x10 (some (webD T)) (some (waysD T)) x13 x14 x15 x16) X =
      R (tev a x1 x2 (some (.str (wS ws))) (some (.str (wS vs))) (some (.rl ((List.range m).map (enD T ws)))) (some (.rl ((List.range m).map (enD T vs)))) (some (.tup ((ldP T ws).map pairD))) (some (.tup ((apart T ws vs).map dN))) x9 x10 (some (webD T)) (some (waysD T)) x13 x14 x15 x16) X := fun R => by
    have f1 : fz (cLst (aCons (cCall 3 cf_unlike (aCons (cVar 11) (aCons (cVar 3) (aCons (cVar 4) aNil)))) (aCons (cCallK 3 0 3 [2, 1, 0] cf_unlike aNil (aCons (cVar 3) (aCons (cVar 4) (aCons (cVar 11) aNil)))) aNil))) (tev a x1 x2 (some (.str (wS ws))) (some (.str (wS vs))) (some (.rl ((List.range m).map (enD T ws)))) (some (.rl ((List.range m).map (enD T vs)))) (some (.tup ((ldP T ws).map pairD))) (some (.tup ((apart T ws vs).map dN))) x9 x10 (some (webD T)) (some (waysD T)) x13 x14 x15 x16) X =
        .ok (.rl [.tup ((apart T ws vs).map dN), .tup ((apart T ws vs).map dN)]) X := by
      refine fz_lst ?_ (cl_two_ints _ _)
      have pk : pick [2, 1, 0] ([] ++ [D.str (wS ws), .str (wS vs), webD T]) = [webD T, .str (wS vs), .str (wS ws)] := rfl
      simp only [tev, cLst, cCallK, cSeq, cAsg, cPar, cPar3, cIf, cRet, cRetN, cExp, cPass, cTst, cTru, cVar, cCon, cBin, cB, cBM, cTup, cCall, aCons, aNil, gNm, gTp, gsCons, gsNil, gSb, tAndF, tOrF, tNotF, vAnd, vOr, vNot, cIte, Res.bind, onRes, endB, List.getElem?_cons_zero, List.getElem?_cons_succ, List.set_cons_succ, List.set_cons_zero, List.length_cons, List.length_nil, if_true, if_false, Bool.false_eq_true, Bool.not_true, Bool.not_false, ul, ul2, pk, lm2, and_self]
    have f2 : fz (cLst (aCons (cVar 8) (aCons (cVar 8) aNil))) (tev a x1 x2 (some (.str (wS ws))) (some (.str (wS vs))) (some (.rl ((List.range m).map (enD T ws)))) (some (.rl ((List.range m).map (enD T vs)))) (some (.tup ((ldP T ws).map pairD))) (some (.tup ((apart T ws vs).map dN))) x9 x10 (some (webD T)) (some (waysD T)) x13 x14 x15 x16) X =
        .ok (.rl [.tup ((apart T ws vs).map dN), .tup ((apart T ws vs).map dN)]) X := by
      refine fz_lst ?_ (cl_two_ints _ _)
      simp only [tev, cLst, cSeq, cAsg, cPar, cPar3, cIf, cRet, cRetN, cExp, cPass, cTst, cTru, cVar, cCon, cBin, cB, cBM, cTup, cCall, aCons, aNil, gNm, gTp, gsCons, gsNil, gSb, tAndF, tOrF, tNotF, vAnd, vOr, vNot, cIte, Res.bind, onRes, endB, List.getElem?_cons_zero, List.getElem?_cons_succ, List.set_cons_succ, List.set_cons_zero, List.length_cons, List.length_nil, if_true, if_false, Bool.false_eq_true, Bool.not_true, Bool.not_false, lm2]
    have ne := same_ints (apart T ws vs) X
    simp only [t10, cSeq, cIf, cTst, cBin, f1, f2, Res.bind, ne, onRes, Bool.false_eq_true, if_false, cPass]
  exact ⟨_, _, _, _, (p4 _).trans ((p5 _).trans ((p6 _).trans ((p7 _).trans ((p8 _).trans ((p9 _).trans (p10 R))))))⟩
end

end K05
namespace K05
open PySem L2 PI
/-! ### joined, and the turn -/
section
variable {a : Nat} {h : AH}
theorem wD_is (o : Option (List Nat)) (Y : AH) : isD (wD o) .non Y = .ok (.bl o.isNone) Y := by cases o <;> rfl
theorem wD_isnt (o : Option (List Nat)) (Y : AH) : isntD (wD o) .non Y = .ok (.bl o.isSome) Y := by cases o <;> rfl
theorem draw_pair {T : List T4} {m : Nat} (e4 : S4 T = T) (hm : mj T + 1 = m) (m10 : m ≤ 10) {X : AH} (dr : Dr a h X 0) (r : Ev) (h0 : r[0]? = some (some (.ref a))) (h11 : r[11]? = some (some (webD T))) : ∃ (p : Nat × Nat) (X' : AH), p.1 < m ∧ p.2 < m ∧ Dr a h X' 0 ∧
    cTup (aCons (cCall 2 cf__law_sip (aCons (cVar 0) (aCons (cAttr ct call2 nps "houses" (cVar 11)) aNil))) (aCons (cCall 2 cf__law_sip (aCons (cVar 0) (aCons (cAttr ct call2 nps "houses" (cVar 11)) aNil))) aNil)) r X = .ok (pairD p) X' := by
  obtain ⟨x, X1, hx, e1, dr1⟩ := sip_new (n := m) (j := []) (by omega) (by omega) dr
  rw [List.append_nil, List.append_nil] at e1
  obtain ⟨y, X2, hy, e2, dr2⟩ := sip_new (n := m) (j := []) (by omega) (by omega) dr1
  rw [List.append_nil, List.append_nil] at e2
  have hs : ∀ Y, cAttr ct call2 nps "houses" (cVar 11) r Y = .ok (.int (m : Nat)) Y := fun Y => by
    have := houses_at (L := T) (call := call2) rfl (fo := cVar 11) (r := r) (h := Y) (h1 := Y) (by simp only [cVar, h11])
    rwa [e4, hm] at this
  refine ⟨(x, y), X2, hx, hy, dr2, ?_⟩
  simp only [cTup, cCall, aCons, aNil, cVar, h0, hs, Res.bind, List.length_cons, List.length_nil, if_true, e1, e2, lm2]
  rfl
theorem half2 {T : List T4} (w : WebL T) (e4 : S4 T = T) (h4 : mj T + 1 ≤ 4) (u3 : ∀ k, (usedAt T k).length ≤ 3) {X : AH} (dr : Dr a h X 0) (x1 x2 x3 x4 x5 x6 x7 x8 x9 x10 x13 x14 x15 x16 : Option D) :
    ∃ X' y9 y10 y13 y14, Dr a h X' 0 ∧ cSeq t11 (cSeq t12 (cSeq t13 (cSeq t14 (cSeq t15 cPass)))) (tev a x1 x2 x3 x4 x5 x6 x7 x8 x9 x10 (some (webD T)) (some (waysD T)) x13 x14 x15 x16) X =
      .nx (tev a x1 x2 x3 x4 x5 x6 x7 x8 y9 y10 (some (webD T)) (some (waysD T)) y13 y14 x15 x16) X' := by
  have I : InW T := e4 ▸ w.2
  obtain ⟨p, X1, p1, p2, dr1, e1⟩ := draw_pair e4 rfl (by omega) dr (tev a x1 x2 x3 x4 x5 x6 x7 x8 x9 x10 (some (webD T)) (some (waysD T)) x13 x14 x15 x16) rfl rfl
  obtain ⟨q, X2, q1, q2, dr2, e2⟩ := draw_pair e4 rfl (by omega) dr1 (tev a x1 x2 x3 x4 x5 x6 x7 x8 (some (pairD p)) x10 (some (webD T)) (some (waysD T)) x13 x14 x15 x16) rfl rfl
  obtain ⟨o, ok, e3⟩ := joined_spec (p := p) (q := q) w (by rw [e4]; exact p1) (by rw [e4]; exact p2) (by rw [e4]; exact q1) (by rw [e4]; exact q2) X2
  obtain ⟨o', ok', e3'⟩ := joined_spec (p := q) (q := p) w (by rw [e4]; exact q1) (by rw [e4]; exact q2) (by rw [e4]; exact p1) (by rw [e4]; exact p2) X2
  obtain ⟨r, rk, e5⟩ := shortest_spec I h4 u3 (p := p) (q := q) p1 q1 X2
  rw [e4] at ok ok'
  have ns := none_swap ok ok'
  have bo := both_ok h4 ok rk
  refine ⟨X2, some (pairD p), some (pairD q), some (wD o), some (.int (r : Nat)), dr2, ?_⟩
  have s11 : ∀ R : Ev → AH → RS, cSeq t11 R (tev a x1 x2 x3 x4 x5 x6 x7 x8 x9 x10 (some (webD T)) (some (waysD T)) x13 x14 x15 x16) X = R (tev a x1 x2 x3 x4 x5 x6 x7 x8 (some (pairD p)) x10 (some (webD T)) (some (waysD T)) x13 x14 x15 x16) X1 := fun R => by
    simp only [t11, cSeq, cAsg, e1, onRes, gNm]
    rfl
  have s12 : ∀ R : Ev → AH → RS, cSeq t12 R (tev a x1 x2 x3 x4 x5 x6 x7 x8 (some (pairD p)) x10 (some (webD T)) (some (waysD T)) x13 x14 x15 x16) X1 = R (tev a x1 x2 x3 x4 x5 x6 x7 x8 (some (pairD p)) (some (pairD q)) (some (webD T)) (some (waysD T)) x13 x14 x15 x16) X2 := fun R => by
    simp only [t12, cSeq, cAsg, e2, onRes, gNm]
    rfl
  have s13 : ∀ R : Ev → AH → RS, cSeq t13 R (tev a x1 x2 x3 x4 x5 x6 x7 x8 (some (pairD p)) (some (pairD q)) (some (webD T)) (some (waysD T)) x13 x14 x15 x16) X2 = R (tev a x1 x2 x3 x4 x5 x6 x7 x8 (some (pairD p)) (some (pairD q)) (some (webD T)) (some (waysD T)) (some (wD o)) (some (.int (r : Nat))) x15 x16) X2 := fun R => by
    simp only [tev, t13, cSeq, cAsg, cPar, cPar3, cIf, cRet, cRetN, cExp, cPass, cTst, cTru, cVar, cCon, cBin, cB, cBM, cTup, cCall, aCons, aNil, gNm, gTp, gsCons, gsNil, gSb, tAndF, tOrF, tNotF, vAnd, vOr, vNot, cIte, Res.bind, onRes, endB, List.getElem?_cons_zero, List.getElem?_cons_succ, List.set_cons_succ, List.set_cons_zero, List.length_cons, List.length_nil, if_true, if_false, Bool.false_eq_true, Bool.not_true, Bool.not_false, e3, e5]
  have pk : pick [2, 1, 0] ([] ++ [pairD p, pairD q, webD T]) = [webD T, pairD q, pairD p] := rfl
  have zr : ∀ Y, eqB (.int (r : Nat)) (.int 0) Y = some (decide (r = 0)) := fun Y => by
    simp only [eqB, scalD]
    exact congrArg some (decide_eq_decide.mpr (by omega))
  have no : o.isNone = decide (r = 0) := by
    rcases bo with ⟨z1, z2⟩ | ⟨w', z1, z2, z3⟩
    · subst z1 z2; rfl
    · rw [z1, decide_eq_false (by omega)]; rfl
  have no' : o'.isNone = decide (r = 0) := by
    rw [← no]
    cases z : o with
    | none => rw [ns.mp z]
    | some w1 =>
      cases z' : o' with
      | none => rw [ns.mpr z'] at z; cases z
      | some w2 => rfl
  have bb : ∀ (b : Bool) Y, neD (.bl b) (.bl b) Y = .ok (.bl false) Y := fun b Y => by
    have : eqB (.bl b) (.bl b) Y = some true := by simp only [eqB, scalD, decide_true]
    simp only [neD, this, Bool.not_true]
  have s14 : ∀ R : Ev → AH → RS, cSeq t14 R (tev a x1 x2 x3 x4 x5 x6 x7 x8 (some (pairD p)) (some (pairD q)) (some (webD T)) (some (waysD T)) (some (wD o)) (some (.int (r : Nat))) x15 x16) X2 = R (tev a x1 x2 x3 x4 x5 x6 x7 x8 (some (pairD p)) (some (pairD q)) (some (webD T)) (some (waysD T)) (some (wD o)) (some (.int (r : Nat))) x15 x16) X2 := fun R => by
    simp only [tev, t14, cCallK, cSeq, cAsg, cPar, cPar3, cIf, cRet, cRetN, cExp, cPass, cTst, cTru, cVar, cCon, cBin, cB, cBM, cTup, cCall, aCons, aNil, gNm, gTp, gsCons, gsNil, gSb, tAndF, tOrF, tNotF, vAnd, vOr, vNot, cIte, Res.bind, onRes, endB, List.getElem?_cons_zero, List.getElem?_cons_succ, List.set_cons_succ, List.set_cons_zero, List.length_cons, List.length_nil, if_true, if_false, Bool.false_eq_true, Bool.not_true, Bool.not_false, pk, and_self, e3', wD_is, no, no', eqD, zr, bb]
  have s15 : cSeq t15 cPass (tev a x1 x2 x3 x4 x5 x6 x7 x8 (some (pairD p)) (some (pairD q)) (some (webD T)) (some (waysD T)) (some (wD o)) (some (.int (r : Nat))) x15 x16) X2 = .nx (tev a x1 x2 x3 x4 x5 x6 x7 x8 (some (pairD p)) (some (pairD q)) (some (webD T)) (some (waysD T)) (some (wD o)) (some (.int (r : Nat))) x15 x16) X2 := by
    rcases bo with ⟨z1, z2⟩ | ⟨w', z1, z2, z3⟩
    · subst z1
      simp only [tev, t15, cSeq, cAsg, cPar, cPar3, cIf, cRet, cRetN, cExp, cPass, cTst, cTru, cVar, cCon, cBin, cB, cBM, cTup, cCall, aCons, aNil, gNm, gTp, gsCons, gsNil, gSb, tAndF, tOrF, tNotF, vAnd, vOr, vNot, cIte, Res.bind, onRes, endB, List.getElem?_cons_zero, List.getElem?_cons_succ, List.set_cons_succ, List.set_cons_zero, List.length_cons, List.length_nil, if_true, if_false, Bool.false_eq_true, Bool.not_true, Bool.not_false, wD_isnt, Option.isSome_none]
    · subst z1
      obtain ⟨ne, k1, k2, _⟩ := ok.yes w' rfl
      have l16 := (ok.few w' rfl).2 h4
      have mk := wkO_marks I k1
      have ld := led_spec w z3 (by omega) mk X2
      rw [e4] at ld
      have ln := len_wS (ws := w') (by omega) X2
      have er : ∀ Y, eqB (.int (w'.length : Nat)) (.int (r : Nat)) Y = some true := fun Y => by
        simp only [eqB, scalD]
        exact congrArg some (decide_eq_true (by omega))
      have m1 : p ∈ ldP T w' := mv_mem.mpr ⟨p.1, List.mem_map.mpr ⟨p.1, List.mem_range.mpr p1, rfl⟩, k1⟩
      have m2 : q ∈ ldP T w' := mv_mem.mpr ⟨q.1, List.mem_map.mpr ⟨q.1, List.mem_range.mpr q1, rfl⟩, k2⟩
      have i1 := in_pairs_tup p (ldP T w') X2
      have i2 := in_pairs_tup q (ldP T w') X2
      rw [decide_eq_true m1] at i1
      rw [decide_eq_true m2] at i2
      have wd : wD (some w') = .str (wS w') := rfl
      have wi : isntD (.str (wS w')) .non X2 = .ok (.bl true) X2 := rfl
      rw [wd]
      simp only [tev, t15, cSeq, cAsg, cPar, cPar3, cIf, cRet, cRetN, cExp, cPass, cTst, cTru, cVar, cCon, cBin, cB, cBM, cTup, cCall, aCons, aNil, gNm, gTp, gsCons, gsNil, gSb, tAndF, tOrF, tNotF, vAnd, vOr, vNot, cIte, Res.bind, onRes, endB, List.getElem?_cons_zero, List.getElem?_cons_succ, List.set_cons_succ, List.set_cons_zero, List.length_cons, List.length_nil, if_true, if_false, Bool.false_eq_true, Bool.not_true, Bool.not_false, wi, ln, neD, er, ld, ninD, i1, i2]
  exact (s11 _).trans ((s12 _).trans ((s13 _).trans ((s14 _).trans s15)))
noncomputable abbrev tB : Ev → AH → RS := cSeq t0 (cSeq t1 (cSeq t2 (cSeq t3 (cSeq t4 (cSeq t5 (cSeq t6 (cSeq t7 (cSeq t8 (cSeq t9 (cSeq t10 (cSeq t11 (cSeq t12 (cSeq t13 (cSeq t14 (cSeq t15 cPass)))))))))))))))
theorem turn_spec {X : AH} (dr : Dr a h X 0) (x1 x2 x3 x4 x5 x6 x7 x8 x9 x10 x11 x12 x13 x14 x15 x16 : Option D) :
    ∃ X' y2 y3 y4 y5 y6 y7 y8 y9 y10 y11 y12 y13 y14, Dr a h X' 0 ∧ tB (tev a x1 x2 x3 x4 x5 x6 x7 x8 x9 x10 x11 x12 x13 x14 x15 x16) X = .nx (tev a x1 y2 y3 y4 y5 y6 y7 y8 y9 y10 y11 y12 y13 y14 x15 x16) X' := by
  obtain ⟨m, E, T, X1, hm, hm4, hE, hT, lT, d1, e1⟩ := drawn_spec (most := 4) (by omega) (by omega) dr.pu
  have dr1 := dr.trans d1
  obtain ⟨w, e4⟩ := web_self hm (by omega) hE hT
  have I : InW T := e4 ▸ w.2
  have em := ties_mj hm hE hT
  have u3 : ∀ k, (usedAt T k).length ≤ 3 := fun k => by
    have := used_less (k := k) (T := T) (m := m) (by rw [hT.ends]; exact hE.nd) (by rw [hT.ends]; exact hE.lt)
    omega
  have wm := fun (r : Ev) (Y : AH) (hr : r[2]? = some (some (.rl (T.map T4.d)))) => web_made hm (by omega) hE hT (r := r) (h := Y) (fT := cVar 2) (by simp only [cVar, hr])
  have wy := roads_spec I X1 (by omega)
  have s0 : ∀ R : Ev → AH → RS, cSeq t0 R (tev a x1 x2 x3 x4 x5 x6 x7 x8 x9 x10 x11 x12 x13 x14 x15 x16) X = R (tev a x1 (some (.rl (T.map T4.d))) x3 x4 x5 x6 x7 x8 x9 x10 x11 x12 x13 x14 x15 x16) X1 := fun R => by
    have e1' : cf__law_drawn [.ref a, .int 4] X = .ok (.rl (T.map T4.d)) X1 := e1
    simp only [tev, t0, cSeq, cAsg, cPar, cPar3, cIf, cRet, cRetN, cExp, cPass, cTst, cTru, cVar, cCon, cBin, cB, cBM, cTup, cCall, aCons, aNil, gNm, gTp, gsCons, gsNil, gSb, tAndF, tOrF, tNotF, vAnd, vOr, vNot, cIte, Res.bind, onRes, endB, List.getElem?_cons_zero, List.getElem?_cons_succ, List.set_cons_succ, List.set_cons_zero, List.length_cons, List.length_nil, if_true, if_false, Bool.false_eq_true, Bool.not_true, Bool.not_false, e1']
  have s1 : ∀ R : Ev → AH → RS, cSeq t1 R (tev a x1 (some (.rl (T.map T4.d))) x3 x4 x5 x6 x7 x8 x9 x10 x11 x12 x13 x14 x15 x16) X1 = R (tev a x1 (some (.rl (T.map T4.d))) x3 x4 x5 x6 x7 x8 x9 x10 (some (webD T)) (some (waysD T)) x13 x14 x15 x16) X1 := fun R => by
    have w1 := wm (tev a x1 (some (.rl (T.map T4.d))) x3 x4 x5 x6 x7 x8 x9 x10 x11 x12 x13 x14 x15 x16) X1 rfl
    have v2 : (tev a x1 (some (.rl (T.map T4.d))) x3 x4 x5 x6 x7 x8 x9 x10 x11 x12 x13 x14 x15 x16)[2]? = some (some (.rl (T.map T4.d))) := rfl
    simp only [t1, cSeq, cAsg, cTup, cCall, aCons, aNil, w1, cVar, v2, Res.bind, List.length_cons, List.length_nil, if_true, wy, lm2, onRes, gTp, gsCons, gsNil, gNm, Option.bind_some]
    rfl
  obtain ⟨ws, X2, l1, l2, l3, dr2, e2⟩ := word_drawn (T := T) (e4.symm ▸ I) dr1 (r := tev a x1 (some (.rl (T.map T4.d))) x3 x4 x5 x6 x7 x8 x9 x10 (some (webD T)) (some (waysD T)) x13 x14 x15 x16) rfl rfl rfl
  obtain ⟨vs, X3, k1, k2, k3, dr3, e3⟩ := word_drawn (T := T) (e4.symm ▸ I) dr2 (r := tev a x1 (some (.rl (T.map T4.d))) (some (.str (wS ws))) x4 x5 x6 x7 x8 x9 x10 (some (webD T)) (some (waysD T)) x13 x14 x15 x16) rfl rfl rfl
  have s2 : ∀ R : Ev → AH → RS, cSeq t2 R (tev a x1 (some (.rl (T.map T4.d))) x3 x4 x5 x6 x7 x8 x9 x10 (some (webD T)) (some (waysD T)) x13 x14 x15 x16) X1 = R (tev a x1 (some (.rl (T.map T4.d))) (some (.str (wS ws))) x4 x5 x6 x7 x8 x9 x10 (some (webD T)) (some (waysD T)) x13 x14 x15 x16) X2 := fun R => by
    show cSeq (cAsg wdF (gNm 3)) R _ _ = _
    simp only [cSeq, cAsg]
    rw [e2]
    rfl
  have s3 : ∀ R : Ev → AH → RS, cSeq t3 R (tev a x1 (some (.rl (T.map T4.d))) (some (.str (wS ws))) x4 x5 x6 x7 x8 x9 x10 (some (webD T)) (some (waysD T)) x13 x14 x15 x16) X2 = R (tev a x1 (some (.rl (T.map T4.d))) (some (.str (wS ws))) (some (.str (wS vs))) x5 x6 x7 x8 x9 x10 (some (webD T)) (some (waysD T)) x13 x14 x15 x16) X3 := fun R => by
    show cSeq (cAsg wdF (gNm 4)) R _ _ = _
    simp only [cSeq, cAsg]
    rw [e3]
    rfl
  obtain ⟨y5, y6, y7, y8, e5⟩ := half1 (a := a) w e4 l1 (by omega) l3 k1 (by omega) k3 X3 x1 (some (.rl (T.map T4.d))) x5 x6 x7 x8 x9 x10 x13 x14 x15 x16 (cSeq t11 (cSeq t12 (cSeq t13 (cSeq t14 (cSeq t15 cPass)))))
  obtain ⟨X4, y9, y10, y13, y14, dr4, e6⟩ := half2 w e4 (by omega) u3 dr3 x1 (some (.rl (T.map T4.d))) (some (.str (wS ws))) (some (.str (wS vs))) y5 y6 y7 y8 x9 x10 x13 x14 x15 x16
  exact ⟨X4, _, _, _, _, _, _, _, _, _, _, _, _, _, dr4, (s0 _).trans ((s1 _).trans ((s2 _).trans ((s3 _).trans (e5.trans e6))))⟩
theorem law_right_spec {a : Nat} {h : AH} (p : Pu a h 0) : ∃ X, cf__law_right [.ref a] h = .ok (.bl true) X ∧ Dr a h X 0 := by
  obtain ⟨r', h', e, y1, y2, y3, y4, y5, y6, y7, y8, y9, y10, y11, y12, y13, y14, y15, y16, X, rfl, rfl, dr⟩ := forl0 (g := gNm 1) (b := tB) (it := .rng 0 6) (n := 1000) (r := tev a none none none none none none none none none none none none none none none none) (h := h) (l := List.range 6) (G := fun (k : Nat) => D.int (k : Int))
    (fun i r h' => ∃ (y1 y2 y3 y4 y5 y6 y7 y8 y9 y10 y11 y12 y13 y14 y15 y16 : Option D) (X : AH), r = tev a y1 y2 y3 y4 y5 y6 y7 y8 y9 y10 y11 y12 y13 y14 y15 y16 ∧ h' = X ∧ Dr a h X 0)
    (fun i r h' _ => next_rng0 6 i _)
    (fun i hi r h' ⟨y1, y2, y3, y4, y5, y6, y7, y8, y9, y10, y11, y12, y13, y14, y15, y16, X, er, eh, dr⟩ => by
      subst er eh
      obtain ⟨X', z2, z3, z4, z5, z6, z7, z8, z9, z10, z11, z12, z13, z14, dr', e⟩ := turn_spec dr (some (.int (((List.range 6)[i] : Nat) : Int))) y2 y3 y4 y5 y6 y7 y8 y9 y10 y11 y12 y13 y14 y15 y16
      exact ⟨_, _, _, _, rfl, Or.inl e, _, _, _, _, _, _, _, _, _, _, _, _, _, _, _, _, _, rfl, rfl, dr'⟩) (by rw [List.length_range]; omega) ⟨_, _, _, _, _, _, _, _, _, _, _, _, _, _, _, _, _, rfl, rfl, p.dr⟩
  refine ⟨_, ?_, dr⟩
  refine fzF_dr (j := []) (show endB (f__law_right (tev a none none none none none none none none none none none none none none none none) h) = _ from ?_) dr rfl
  rw [List.append_nil]
  have rg : ∀ r Y, cRng1 (aCons (cCon (.int 6)) aNil) r Y = .ok (.rng 0 6) Y := fun r Y => by
    have b0 : inR (2 ^ 62 - 1) 6 = true := by decide +kernel
    simp only [cRng1, aCons, aNil, cCon, Res.bind, b0, if_true]
    rfl
  show endB (cSeq (cFor (cRng1 (aCons (cCon (.int 6)) aNil)) (gNm 1) tB 1000) _ _ h) = _
  simp only [cSeq, cFor, rg, onRes, e, cRet, cCon, endB]
end

end K05
namespace K05
open PySem L2 PI
/-! ### webs, judged -/
instance (t : T4) : Decidable t.ok := by unfold T4.ok; infer_instance
def adjB : List T4 → Bool
  | [] => true
  | [_] => true
  | s :: t :: r => !(s.i == t.i && s.j == t.j) && adjB (t :: r)
theorem adjB_ok : ∀ {l : List T4}, adjB l = true → ∀ (k : Nat) (s t : T4), l[k]? = some s → l[k + 1]? = some t → ¬ (s.i = t.i ∧ s.j = t.j)
  | [], _, k, s, t, h, _ => by simp at h
  | [_], _, k, s, t, _, h => by simp at h
  | a :: b :: r, e, 0, s, t, h1, h2 => by
    simp only [adjB, Bool.and_eq_true, Bool.not_eq_true'] at e
    simp at h1 h2
    subst h1 h2
    rintro ⟨x, y⟩
    rw [x, y] at e
    simp at e
  | a :: b :: r, e, k + 1, s, t, h1, h2 => by
    simp only [adjB, Bool.and_eq_true] at e
    exact adjB_ok (l := b :: r) e.2 k s t (by simpa using h1) (by simpa using h2)
def webB (L : List T4) : Bool := L.all (fun t => decide t.ok) && !L.isEmpty && decide (L.length ≤ 100) && adjB (S4 L) && (S4 L).all (fun t => decide (t.i < t.j)) &&
  ((List.range 10).all fun k => decide ((marksAt (S4 L) k).map (·.1)).Nodup) && ((List.range (mj (S4 L) + 1)).all fun k => k == 0 || (S4 L).any fun t => t.j == k && decide (t.i < k))
theorem norm_ok {t : T4} (h : t.ok) : t.norm.ok := by
  unfold T4.norm
  split
  · obtain ⟨a, b, c, d, e⟩ := h
    exact ⟨b, a, d, c, fun z => e z.symm⟩
  · exact h
theorem webB_ok {L : List T4} (h : webB L = true) : WebL L := by
  unfold webB at h
  simp only [Bool.and_eq_true] at h
  obtain ⟨⟨⟨⟨⟨⟨h1, h2⟩, h3⟩, h4⟩, h5⟩, h6⟩, h7⟩ := h
  have ok : ∀ t ∈ L, t.ok := fun t ht => of_decide_eq_true (List.all_eq_true.mp h1 t ht)
  have ne : L ≠ [] := fun e => by rw [e] at h2; simp at h2
  have few : L.length ≤ 100 := of_decide_eq_true h3
  have ok4 : ∀ t ∈ S4 L, t.ok := fun t ht => by
    have := srtL_perm.mem_iff.mp ht
    obtain ⟨u, hu, rfl⟩ := List.mem_map.mp this
    exact norm_ok (ok u hu)
  have ne4 : S4 L ≠ [] := fun e => ne (by have := norm_len (L := L); rw [e] at this; exact List.length_eq_zero_iff.mp this.symm)
  refine ⟨⟨ok, ne, few, adjB_ok h4⟩, ⟨ok4, fun t ht => of_decide_eq_true (List.all_eq_true.mp h5 t ht), ne4, by rw [norm_len]; exact few, fun k => ?_⟩, fun P p0 cl k => ?_⟩
  · by_cases hk : k < 10
    · exact of_decide_eq_true (List.all_eq_true.mp h6 k (List.mem_range.mpr hk))
    · have : marksAt (S4 L) k = [] := by
        unfold marksAt
        rw [List.flatMap_eq_nil_iff]
        intro t ht
        obtain ⟨a, b, _⟩ := ok4 t ht
        unfold entr
        rw [if_neg (by omega), if_neg (by omega)]
        rfl
      rw [this]
      exact List.nodup_nil
  · induction k using Nat.strongRecOn with
    | _ k ih =>
      intro hk
      have c := List.all_eq_true.mp h7 k (List.mem_range.mpr hk)
      rw [Bool.or_eq_true] at c
      rcases c with c | c
      · rw [beq_iff_eq.mp c]
        exact p0
      · obtain ⟨t, ht, e⟩ := List.any_eq_true.mp c
        rw [Bool.and_eq_true, beq_iff_eq, decide_eq_true_iff] at e
        rw [← e.1]
        exact (cl t ht).1 (ih t.i e.2 (by omega))

end K05
namespace K05
open PySem L2 PI
/-! ### the law -/
def L0 : List T4 := [⟨0, 0, 1, 0⟩, ⟨1, 1, 2, 0⟩]
theorem l0_web : WebL L0 := webB_ok (by decide +kernel)
theorem l0_s : S4 L0 = L0 := by decide +kernel
theorem l0_text : textL L0 = "0 a 1 a\n1 b 2 a" := by decide +kernel
theorem l0_mj : mj L0 + 1 = 3 := by decide +kernel
theorem l0_led : ldP L0 [0, 1] = [(0, 2), (2, 2)] := by decide +kernel
theorem l0_apart : apart L0 [0] [0, 1] = [0, 2] := by decide +kernel
theorem lch_in {S : List T4} (I : InW S) {s : Nat × Nat} {C : List (Nat × Nat)} (hs : s ∈ C) (cl : ∀ p ∈ C, ∀ x ∈ List.range 12, x ∈ usedAt S p.1 → x ∈ usedAt S p.2 → nx S p x ∈ C) : ∀ {n : Nat} {q : Nat × Nat}, Lch S s n q → q ∈ C
  | 0, q, r => by rw [lch_zero r]; exact hs
  | n + 1, q, r => by
    obtain ⟨p, x, r0, x1, x2, rfl⟩ := lch_succ r
    exact cl p (lch_in I hs cl r0) x (List.mem_range.mpr (ed_lt I (to_ed I x1)).2.2) x1 x2
theorem l0_I : InW L0 := l0_s ▸ l0_web.2
theorem l0_none1 : ∀ n, ¬ Lch L0 (0, 1) (n + 1) (0, 2) := fun n r => by
  have := lch_in (C := [(0, 1), (1, 0)]) l0_I (by decide) (by decide +kernel) r
  revert this
  decide
theorem l0_none2 : ∀ n, ¬ Lch L0 (0, 0) (n + 1) (1, 2) := fun n r => by
  have := lch_in (C := [(0, 0), (1, 1), (2, 2)]) l0_I (by decide) (by decide +kernel) r
  revert this
  decide
theorem o_none {S : List T4} {s t : Nat × Nat} {o : Option (List Nat)} (j : JoinOk S s t o) (no : ∀ n, ¬ Lch S s (n + 1) t) : o = none := by
  cases o with
  | none => rfl
  | some w =>
    obtain ⟨ne, h1, h2, _⟩ := j.yes w rfl
    have l1 := List.length_pos_iff.mpr ne
    exact absurd ⟨w, by omega, h1, h2⟩ (no (w.length - 1))
theorem o_some {S : List T4} {s t : Nat × Nat} {o : Option (List Nat)} (j : JoinOk S s t o) {n : Nat} (r : Lch S s (n + 1) t) : ∃ w, o = some w ∧ w ≠ [] ∧ w.length ≤ n + 1 ∧ wkO S s.1 w = some t.1 := by
  cases o with
  | none => exact absurd r (j.no rfl n)
  | some w =>
    obtain ⟨ne, h1, h2, mn⟩ := j.yes w rfl
    exact ⟨w, rfl, ne, mn n r, h1⟩
theorem l0_a {o : Option (List Nat)} (j : JoinOk L0 (0, 2) (1, 1) o) : o = some [0] := by
  obtain ⟨w, rfl, ne, l, h1⟩ := o_some j (n := 0) ⟨[0], rfl, by decide +kernel, by decide +kernel⟩
  match w, ne, l, h1 with
  | [x], _, _, h1 =>
    rw [wkO_one] at h1
    split at h1
    · rename_i hx
      have e : usedAt L0 0 = [0] := by decide +kernel
      rw [e, List.mem_singleton] at hx
      rw [hx]
    · cases h1
theorem l0_two {o : Option (List Nat)} (j : JoinOk L0 (1, 1) (1, 1) o) : ∃ w, o = some w ∧ w.length = 2 := by
  obtain ⟨w, rfl, ne, l, h1⟩ := o_some j (n := 1) ⟨[0, 0], rfl, by decide +kernel, by decide +kernel⟩
  refine ⟨w, rfl, ?_⟩
  match w, ne, l, h1 with
  | [x], _, _, h1 =>
    rw [wkO_one] at h1
    split at h1
    · rename_i hx
      have e : usedAt L0 1 = [0, 1] := by decide +kernel
      have e0 : toH L0 1 0 = 0 := by decide +kernel
      have e1 : toH L0 1 1 = 2 := by decide +kernel
      rw [e] at hx
      have hx' : x = 0 ∨ x = 1 := by simpa using hx
      rcases hx' with rfl | rfl
      · rw [e0] at h1; cases h1
      · rw [e1] at h1; cases h1
    · cases h1
  | [x, y], _, _, _ => rfl
section
variable {h : AH}
theorem l0_joined {p q : Nat × Nat} (p1 : p.1 < 3) (p2 : p.2 < 3) (q1 : q.1 < 3) (q2 : q.2 < 3) (h : AH) : ∃ o, JoinOk L0 (p.1, q.1) (p.2, q.2) o ∧ cf_joined [webD L0, pairD p, pairD q] h = .ok (wD o) h := by
  have m3 : mj (S4 L0) + 1 = 3 := by rw [l0_s]; exact l0_mj
  obtain ⟨o, j, e⟩ := joined_spec (p := p) (q := q) l0_web (by omega) (by omega) (by omega) (by omega) h
  rw [l0_s] at j
  exact ⟨o, j, e⟩
def dA : D := .rl [.tup ([((0 : Nat), (2 : Nat)), (2, 2)].map pairD), .str "a", .non]
theorem eq_A (h : AH) : eqB dA dA h = some true := by
  have t : toP 12 h dA = some (.list [.tuple [pdP (0, 2), pdP (2, 2)], .str "a", .none]) := rfl
  have sh : SeqAt.shaped (.list [.tuple [pdP (0, 2), pdP (2, 2)], .str "a", .none]) = true := by decide +kernel
  have ev : PyData.eqv (.list [.tuple [pdP (0, 2), pdP (2, 2)], .str "a", .none]) (.list [.tuple [pdP (0, 2), pdP (2, 2)], .str "a", .none]) = true := by decide +kernel
  rw [eqB_of rfl t t sh sh, ev]
theorem eq_02 (h : AH) : eqB (.tup ([0, 2].map dN)) (.tup [.int 0, .int 2]) h = some true := by
  have t : toP 12 h (.tup ([0, 2].map dN)) = some (.tuple [.int 0, .int 2]) := rfl
  have t' : toP 12 h (.tup [.int 0, .int 2]) = some (.tuple [.int 0, .int 2]) := rfl
  have sh : SeqAt.shaped (.tuple [.int 0, .int 2]) = true := by decide +kernel
  have ev : PyData.eqv (.tuple [.int 0, .int 2]) (.tuple [.int 0, .int 2]) = true := by decide +kernel
  rw [eqB_of rfl t t' sh sh, ev]
end
theorem wS_a : (D.str "a") = .str (wS [0]) := by rw [show ("a" : Str) = wS [0] by decide +kernel]
theorem wS_ab : (D.str "ab") = .str (wS [0, 1]) := by rw [show ("ab" : Str) = wS [0, 1] by decide +kernel]
noncomputable abbrev u0 : Ev → AH → RS := (cAsg (fz (cMake 0 2 cf_Web___init__ (aCons (cCon (.str "0 a 1 a\n1 b 2 a")) aNil))) (gNm 1))
noncomputable abbrev u1 : Ev → AH → RS := (cIf (cTst (cBin neD (fz (cLst (aCons (cCall 2 cf_led (aCons (cVar 1) (aCons (cCon (.str "ab")) aNil))) (aCons (cCall 3 cf_joined (aCons (cVar 1) (aCons (cTup (aCons (cCon (.int 0)) (aCons (cCon (.int 1)) aNil))) (aCons (cTup (aCons (cCon (.int 2)) (aCons (cCon (.int 1)) aNil))) aNil)))) (aCons (cCall 3 cf_joined (aCons (cVar 1) (aCons (cTup (aCons (cCon (.int 0)) (aCons (cCon (.int 0)) aNil))) (aCons (cTup (aCons (cCon (.int 1)) (aCons (cCon (.int 2)) aNil))) aNil)))) aNil))))) (fz (cLst (aCons (cTup (aCons (cTup (aCons (cCon (.int 0)) (aCons (cCon (.int 2)) aNil))) (aCons (cTup (aCons (cCon (.int 2)) (aCons (cCon (.int 2)) aNil))) aNil))) (aCons (cCon (.str "a")) (aCons (cCon .non) aNil))))))) (cSeq (cRet (cCon (.bl false))) cPass) cPass)
noncomputable abbrev u2 : Ev → AH → RS := (cIf (tOrF (cTst (cBin neD (cB lenO (aCons (cCall 3 cf_joined (aCons (cVar 1) (aCons (cTup (aCons (cCon (.int 1)) (aCons (cCon (.int 1)) aNil))) (aCons (cTup (aCons (cCon (.int 1)) (aCons (cCon (.int 1)) aNil))) aNil)))) aNil)) (cCon (.int 2)))) (tOrF (cTst (cBin isntD (cCall 3 cf_joined (aCons (cVar 1) (aCons (cTup (aCons (cCon (.int 0)) (aCons (cCon (.int 1)) aNil))) (aCons (cTup (aCons (cCon (.int 0)) (aCons (cCon (.int 2)) aNil))) aNil)))) (cCon .non))) (cTst (cBin neD (cCall 3 cf_unlike (aCons (cVar 1) (aCons (cCon (.str "a")) (aCons (cCon (.str "ab")) aNil)))) (cTup (aCons (cCon (.int 0)) (aCons (cCon (.int 2)) aNil))))))) (cSeq (cRet (cCon (.bl false))) cPass) cPass)
noncomputable abbrev u3 : Ev → AH → RS := (cRet (cB (anyO fun l => l.all id) (aCons (fz (cLc (cRng1 (aCons (cB maxO (aCons (cCon (.int 2)) (aCons (cB minO (aCons (cB lenO (aCons (cVar 0) aNil)) (aCons (cCon (.int 5)) aNil))) aNil))) aNil)) (gNm 2) cYes (fz (cCall 1 cf__law_right (aCons (cCall 2 cf__law_cup (aCons (cVar 0) (aCons (cVar 2) aNil))) aNil))) [2] 1000)) aNil)))
theorem u0_spec (d : D) : ∀ R : Ev → AH → RS, cSeq u0 R [some d, none, none] [] = R [some d, some (webD L0), none] [] := fun R => by
  have e : fz (cMake 0 2 cf_Web___init__ (aCons (cCon (.str "0 a 1 a\n1 b 2 a")) aNil)) [some d, none, none] [] = .ok (webD L0) [] := make_spec l0_web (by rw [l0_text]; rfl) rfl (KO.refl [])
  simp only [u0, cSeq, cAsg, e, onRes, gNm, List.set_cons_succ, List.set_cons_zero]
theorem u1_spec (d : D) : ∀ R : Ev → AH → RS, cSeq u1 R [some d, some (webD L0), none] [] = R [some d, some (webD L0), none] [] := fun R => by
  have ld := led_spec (ws := [0, 1]) l0_web (by decide) (by decide) (by decide) ([] : AH)
  rw [l0_s, l0_led] at ld
  obtain ⟨o1, j1, e1⟩ := l0_joined (p := (0, 1)) (q := (2, 1)) (by decide) (by decide) (by decide) (by decide) []
  obtain ⟨o2, j2, e2⟩ := l0_joined (p := (0, 0)) (q := (1, 2)) (by decide) (by decide) (by decide) (by decide) []
  obtain rfl := l0_a j1
  obtain rfl := o_none j2 l0_none1
  have d1 : D.tup [.int 0, .int 1] = pairD (0, 1) := rfl
  have d2 : D.tup [.int 2, .int 1] = pairD (2, 1) := rfl
  have d3 : D.tup [.int 0, .int 0] = pairD (0, 0) := rfl
  have d4 : D.tup [.int 1, .int 2] = pairD (1, 2) := rfl
  have c3 : ∀ n, clDs n [.tup ([((0 : Nat), (2 : Nat)), (2, 2)].map pairD), .str "a", .non] = true := fun _ => rfl
  have f1 : fz (cLst (aCons (cCall 2 cf_led (aCons (cVar 1) (aCons (cCon (.str "ab")) aNil))) (aCons (cCall 3 cf_joined (aCons (cVar 1) (aCons (cTup (aCons (cCon (.int 0)) (aCons (cCon (.int 1)) aNil))) (aCons (cTup (aCons (cCon (.int 2)) (aCons (cCon (.int 1)) aNil))) aNil)))) (aCons (cCall 3 cf_joined (aCons (cVar 1) (aCons (cTup (aCons (cCon (.int 0)) (aCons (cCon (.int 0)) aNil))) (aCons (cTup (aCons (cCon (.int 1)) (aCons (cCon (.int 2)) aNil))) aNil)))) aNil)))) [some d, some (webD L0), none] [] = .ok dA [] := by
    refine fz_lst ?_ (c3 _)
    have w1 : wD (some [0]) = .str "a" := wS_a.symm
    have w2 : wD none = .non := rfl
    simp only [cLst, cSeq, cAsg, cPar, cPar3, cIf, cRet, cRetN, cExp, cPass, cTst, cTru, cVar, cCon, cBin, cB, cBM, cTup, cCall, aCons, aNil, gNm, gTp, gsCons, gsNil, gSb, tAndF, tOrF, tNotF, vAnd, vOr, vNot, cIte, Res.bind, onRes, endB, List.getElem?_cons_zero, List.getElem?_cons_succ, List.set_cons_succ, List.set_cons_zero, List.length_cons, List.length_nil, if_true, if_false, Bool.false_eq_true, Bool.not_true, Bool.not_false, wS_ab, ld, lm2, lm3, d1, d2, d3, d4, e1, e2, w1, w2]
  have f2 : fz (cLst (aCons (cTup (aCons (cTup (aCons (cCon (.int 0)) (aCons (cCon (.int 2)) aNil))) (aCons (cTup (aCons (cCon (.int 2)) (aCons (cCon (.int 2)) aNil))) aNil))) (aCons (cCon (.str "a")) (aCons (cCon .non) aNil)))) [some d, some (webD L0), none] [] = .ok dA [] := by
    refine fz_lst ?_ (c3 _)
    simp only [cLst, cSeq, cAsg, cPar, cPar3, cIf, cRet, cRetN, cExp, cPass, cTst, cTru, cVar, cCon, cBin, cB, cBM, cTup, cCall, aCons, aNil, gNm, gTp, gsCons, gsNil, gSb, tAndF, tOrF, tNotF, vAnd, vOr, vNot, cIte, Res.bind, onRes, endB, List.getElem?_cons_zero, List.getElem?_cons_succ, List.set_cons_succ, List.set_cons_zero, List.length_cons, List.length_nil, if_true, if_false, Bool.false_eq_true, Bool.not_true, Bool.not_false, lm2, lm3]
    rfl
  simp only [u1, cSeq, cIf, cTst, cBin, f1, f2, Res.bind, neD, eq_A, onRes, Bool.not_true, Bool.false_eq_true, if_false, cPass]
theorem u2_spec (d : D) : ∀ R : Ev → AH → RS, cSeq u2 R [some d, some (webD L0), none] [] = R [some d, some (webD L0), none] [] := fun R => by
  obtain ⟨o1, j1, e1⟩ := l0_joined (p := (1, 1)) (q := (1, 1)) (by decide) (by decide) (by decide) (by decide) []
  obtain ⟨o2, j2, e2⟩ := l0_joined (p := (0, 1)) (q := (0, 2)) (by decide) (by decide) (by decide) (by decide) []
  obtain ⟨w, rfl, lw⟩ := l0_two j1
  obtain rfl := o_none j2 l0_none2
  have ul := unlike_spec (ws := [0]) (vs := [0, 1]) l0_web (by decide) (by decide) (by decide) (by decide) (by decide) (by decide) ([] : AH)
  rw [l0_s, l0_apart] at ul
  have d1 : D.tup [.int 0, .int 1] = pairD (0, 1) := rfl
  have d2 : D.tup [.int 1, .int 1] = pairD (1, 1) := rfl
  have d3 : D.tup [.int 0, .int 2] = pairD (0, 2) := rfl
  have ln := len_wS (ws := w) (by omega) ([] : AH)
  rw [lw] at ln
  have w1 : wD (some w) = .str (wS w) := rfl
  have w2 : wD none = .non := rfl
  have e22 : eqB (.int ((2 : Nat) : Int)) (.int 2) ([] : AH) = some true := rfl
  have nn : isntD .non .non ([] : AH) = .ok (.bl false) [] := rfl
  have q2 := eq_02 ([] : AH)
  rw [d3] at q2
  simp only [u2, cSeq, cAsg, cPar, cPar3, cIf, cRet, cRetN, cExp, cPass, cTst, cTru, cVar, cCon, cBin, cB, cBM, cTup, cCall, aCons, aNil, gNm, gTp, gsCons, gsNil, gSb, tAndF, tOrF, tNotF, vAnd, vOr, vNot, cIte, Res.bind, onRes, endB, List.getElem?_cons_zero, List.getElem?_cons_succ, List.set_cons_succ, List.set_cons_zero, List.length_cons, List.length_nil, if_true, if_false, Bool.false_eq_true, Bool.not_true, Bool.not_false, d1, d2, d3, lm2, e1, e2, w1, w2, ln, neD, e22, nn, wS_a, wS_ab, ul, q2]
theorem mn_of (n : Nat) : ∃ m : Nat, m ≤ 6 ∧ (if (if (5 : Int) < (n : Nat) then (5 : Int) else (n : Nat)) > 2 then (if (5 : Int) < (n : Nat) then (5 : Int) else (n : Nat)) else 2) = (m : Nat) := by
  by_cases c : (5 : Int) < (n : Nat)
  · exact ⟨5, by decide, by rw [if_pos c]; decide⟩
  · rw [if_neg c]
    by_cases c2 : ((n : Nat) : Int) > 2
    · exact ⟨n, by omega, by rw [if_pos c2]⟩
    · exact ⟨2, by decide, by rw [if_neg c2]; rfl⟩
theorem one_spec {ns : List Int} (hl : ns.length ≤ 63) (k : Nat) (hk : k < 1000) (x : Option D) (h : AH) : (fz (cCall 1 cf__law_right (aCons (cCall 2 cf__law_cup (aCons (cVar 0) (aCons (cVar 2) aNil))) aNil))) [some (.kl (ns.map D.int)), x, some (.int (k : Nat))] h = .ok (.bl true) h := by
  obtain ⟨o, e1, p⟩ := cup_dr (h := h) hk hl
  obtain ⟨X, e2, s, f, rfl, ok, al⟩ := law_right_spec p
  unfold fz
  simp only [cSeq, cAsg, cPar, cPar3, cIf, cRet, cRetN, cExp, cPass, cTst, cTru, cVar, cCon, cBin, cB, cBM, cTup, cCall, aCons, aNil, gNm, gTp, gsCons, gsNil, gSb, tAndF, tOrF, tNotF, vAnd, vOr, vNot, cIte, Res.bind, onRes, endB, List.getElem?_cons_zero, List.getElem?_cons_succ, List.set_cons_succ, List.set_cons_zero, List.length_cons, List.length_nil, if_true, if_false, Bool.false_eq_true, Bool.not_true, Bool.not_false, e1, e2]
  rw [set_new (j := [])]
  exact fzR_cl rfl
theorem plain : PI.PlainLaw 63 cf_law := fun ns hl => by
  have ln := len_kl (l := ns.map D.int) ([] : AH)
  rw [List.length_map] at ln
  obtain ⟨m, hm, em⟩ := mn_of ns.length
  have it : (cRng1 (aCons (cB maxO (aCons (cCon (.int 2)) (aCons (cB minO (aCons (cB lenO (aCons (cVar 0) aNil)) (aCons (cCon (.int 5)) aNil))) aNil))) aNil)) [some (.kl (ns.map D.int)), some (webD L0), none] [] = .ok (.rng 0 m) [] := by
    have b1 : inR (2 ^ 62 - 1) (m : Nat) = true := inR_ok.mpr (by omega)
    simp only [cRng1, cSeq, cAsg, cPar, cPar3, cIf, cRet, cRetN, cExp, cPass, cTst, cTru, cVar, cCon, cBin, cB, cBM, cTup, cCall, aCons, aNil, gNm, gTp, gsCons, gsNil, gSb, tAndF, tOrF, tNotF, vAnd, vOr, vNot, cIte, Res.bind, onRes, endB, List.getElem?_cons_zero, List.getElem?_cons_succ, List.set_cons_succ, List.set_cons_zero, List.length_cons, List.length_nil, if_true, if_false, Bool.false_eq_true, Bool.not_true, Bool.not_false, ln, minO, maxO, em, b1, if_true, Int.toNat_natCast]
  have al := all_map (List.range m) (fun _ : Nat => true) ([] : AH)
  have at' : (List.range m).all (fun _ => true) = true := by
    rw [List.all_eq_true]
    intro _ _
    rfl
  rw [at'] at al
  have e := fz_lc (g := gNm 2) (ce := fz (cCall 1 cf__law_right (aCons (cCall 2 cf__law_cup (aCons (cVar 0) (aCons (cVar 2) aNil))) aNil))) (vs := [2]) (n := 1000) (r := [some (.kl (ns.map D.int)), some (webD L0), none]) (h := []) (List.range m) (fun k : Nat => D.int (k : Int)) (fun _ : Nat => D.bl true) it (by rw [List.length_range]; omega) (by decide)
    (fun acc i => next_rng0 m i _) (fun _ _ => rfl) (fun k hk acc => ⟨_, rfl, one_spec hl k (by have := List.mem_range.mp hk; omega) _ _⟩)
  refine ⟨[], ?_⟩
  refine fzF_cl0 ?_ rfl
  show endB (cSeq u0 (cSeq u1 (cSeq u2 (cSeq u3 cPass))) [some (.kl (ns.map D.int)), none, none] []) = _
  rw [u0_spec, u1_spec, u2_spec]
  simp only [u3, cSeq, cAsg, cPar, cPar3, cIf, cRet, cRetN, cExp, cPass, cTst, cTru, cVar, cCon, cBin, cB, cBM, cTup, cCall, aCons, aNil, gNm, gTp, gsCons, gsNil, gSb, tAndF, tOrF, tNotF, vAnd, vOr, vNot, cIte, Res.bind, onRes, endB, List.getElem?_cons_zero, List.getElem?_cons_succ, List.set_cons_succ, List.set_cons_zero, List.length_cons, List.length_nil, if_true, if_false, Bool.false_eq_true, Bool.not_true, Bool.not_false, e, al]

end K05
namespace K05
open PySem L2 PI
def top (i : Nat) : Stmt := PySem.Challenge.pw_whichhouse_k05_whole_walks_of_one_and_tw.main.body.getD i (.Pass ⟨0, 0, 0, 0⟩)
structure Ad where
  f : Nat → Addr
  d : Nat → FuncData
  c : Nat → Addr
abbrev Ad.fn (A : Ad) : Nat → Addr := A.f
abbrev s_tie_of : Stmt := top 14
abbrev N_tie_of : List Str := ["line", "signs", "words", "first", "last", "word"]
abbrev level_tie_of : Nat := 1
theorem sc_tie_of : FnScope N_tie_of ["line", "signs"] (defScope s_tie_of) := ⟨rfl, rfl, rfl, by decide +kernel, rfl, by decide +kernel, by decide +kernel⟩
abbrev s_places_of : Stmt := top 16
abbrev N_places_of : List Str := ["tie"]
abbrev level_places_of : Nat := 1
theorem sc_places_of : FnScope N_places_of ["tie"] (defScope s_places_of) := ⟨rfl, rfl, rfl, by decide +kernel, rfl, by decide +kernel, by decide +kernel⟩
abbrev s_ties_in : Stmt := top 15
abbrev N_ties_in : List Str := ["text", "signs", "found", "spot", "line", "tie"]
abbrev level_ties_in : Nat := 7
theorem sc_ties_in : FnScope N_ties_in ["text", "signs"] (defScope s_ties_in) := ⟨rfl, rfl, rfl, by decide +kernel, rfl, by decide +kernel, by decide +kernel⟩
abbrev s_are_together : Stmt := top 18
abbrev N_are_together : List Str := ["ties", "many", "reached", "spot", "first", "mark", "last", "other", "house", "further", "tie"]
abbrev level_are_together : Nat := 1
theorem sc_are_together : FnScope N_are_together ["ties"] (defScope s_are_together) := ⟨rfl, rfl, rfl, by decide +kernel, rfl, by decide +kernel, by decide +kernel⟩
abbrev s_ways_of : Stmt := top 17
abbrev N_ways_of : List Str := ["ties", "many", "found", "first", "mark", "last", "other", "house", "tie"]
abbrev level_ways_of : Nat := 1
theorem sc_ways_of : FnScope N_ways_of ["ties"] (defScope s_ways_of) := ⟨rfl, rfl, rfl, by decide +kernel, rfl, by decide +kernel, by decide +kernel⟩
abbrev s_web_ties : Stmt := top 20
abbrev N_web_ties : List Str := ["text", "ties"]
abbrev level_web_ties : Nat := 8
theorem sc_web_ties : FnScope N_web_ties ["text"] (defScope s_web_ties) := ⟨rfl, rfl, rfl, by decide +kernel, rfl, by decide +kernel, by decide +kernel⟩
abbrev s_plain_text : Stmt := top 19
abbrev N_plain_text : List Str := ["ties", "first", "mark", "last", "other"]
abbrev level_plain_text : Nat := 1
theorem sc_plain_text : FnScope N_plain_text ["ties"] (defScope s_plain_text) := ⟨rfl, rfl, rfl, by decide +kernel, rfl, by decide +kernel, by decide +kernel⟩
abbrev s_letters_of : Stmt := top 25
abbrev N_letters_of : List Str := ["ties", "mark", "tie"]
abbrev level_letters_of : Nat := 1
theorem sc_letters_of : FnScope N_letters_of ["ties"] (defScope s_letters_of) := ⟨rfl, rfl, rfl, by decide +kernel, rfl, by decide +kernel, by decide +kernel⟩
abbrev s_Web___init__ : Stmt := inClass (top 26) 0
abbrev N_Web___init__ : List Str := ["self", "text", "ties"]
abbrev level_Web___init__ : Nat := 9
theorem sc_Web___init__ : FnScope N_Web___init__ ["self", "text"] (defScope s_Web___init__) := ⟨rfl, rfl, rfl, by decide +kernel, rfl, by decide +kernel, by decide +kernel⟩
abbrev s_check_web : Stmt := top 27
abbrev N_check_web : List Str := ["value"]
abbrev level_check_web : Nat := 1
theorem sc_check_web : FnScope N_check_web ["value"] (defScope s_check_web) := ⟨rfl, rfl, rfl, by decide +kernel, rfl, by decide +kernel, by decide +kernel⟩
abbrev s_is_word : Stmt := top 22
abbrev N_is_word : List Str := ["value", "sign"]
abbrev level_is_word : Nat := 1
theorem sc_is_word : FnScope N_is_word ["value"] (defScope s_is_word) := ⟨rfl, rfl, rfl, by decide +kernel, rfl, by decide +kernel, by decide +kernel⟩
abbrev s_check_word : Stmt := top 23
abbrev N_check_word : List Str := ["value"]
abbrev level_check_word : Nat := 2
theorem sc_check_word : FnScope N_check_word ["value"] (defScope s_check_word) := ⟨rfl, rfl, rfl, by decide +kernel, rfl, by decide +kernel, by decide +kernel⟩
abbrev s_end_of : Stmt := top 24
abbrev N_end_of : List Str := ["ways", "house", "word", "mark"]
abbrev level_end_of : Nat := 1
theorem sc_end_of : FnScope N_end_of ["ways", "house", "word"] (defScope s_end_of) := ⟨rfl, rfl, rfl, by decide +kernel, rfl, by decide +kernel, by decide +kernel⟩
abbrev s_led_by : Stmt := top 31
abbrev N_led_by : List Str := ["ways", "word", "ends", "house", "pair"]
abbrev level_led_by : Nat := 2
theorem sc_led_by : FnScope N_led_by ["ways", "word"] (defScope s_led_by) := ⟨rfl, rfl, rfl, by decide +kernel, rfl, by decide +kernel, by decide +kernel⟩
abbrev s_led : Stmt := top 32
abbrev N_led : List Str := ["web", "word"]
abbrev level_led : Nat := 3
theorem sc_led : FnScope N_led ["web", "word"] (defScope s_led) := ⟨rfl, rfl, rfl, by decide +kernel, rfl, by decide +kernel, by decide +kernel⟩
abbrev s_is_between : Stmt := top 13
abbrev N_is_between : List Str := ["value", "least", "most"]
abbrev level_is_between : Nat := 1
theorem sc_is_between : FnScope N_is_between ["value", "least", "most"] (defScope s_is_between) := ⟨rfl, rfl, rfl, by decide +kernel, rfl, by decide +kernel, by decide +kernel⟩
abbrev s_is_pair : Stmt := top 28
abbrev N_is_pair : List Str := ["value", "many", "house"]
abbrev level_is_pair : Nat := 2
theorem sc_is_pair : FnScope N_is_pair ["value", "many"] (defScope s_is_pair) := ⟨rfl, rfl, rfl, by decide +kernel, rfl, by decide +kernel, by decide +kernel⟩
abbrev s_check_pair : Stmt := top 29
abbrev N_check_pair : List Str := ["value", "many"]
abbrev level_check_pair : Nat := 3
theorem sc_check_pair : FnScope N_check_pair ["value", "many"] (defScope s_check_pair) := ⟨rfl, rfl, rfl, by decide +kernel, rfl, by decide +kernel, by decide +kernel⟩
abbrev s_Web_houses : Stmt := inClass (top 26) 2
abbrev N_Web_houses : List Str := ["self"]
abbrev level_Web_houses : Nat := 2
theorem sc_Web_houses : FnScope N_Web_houses ["self"] (defScope s_Web_houses) := ⟨rfl, rfl, rfl, by decide +kernel, rfl, by decide +kernel, by decide +kernel⟩
abbrev s_steps_of_two : Stmt := top 33
abbrev N_steps_of_two : List Str := ["ways", "two", "marks", "first", "last", "mark"]
abbrev level_steps_of_two : Nat := 1
theorem sc_steps_of_two : FnScope N_steps_of_two ["ways", "two"] (defScope s_steps_of_two) := ⟨rfl, rfl, rfl, by decide +kernel, rfl, by decide +kernel, by decide +kernel⟩
abbrev s_words_of_two : Stmt := top 34
abbrev N_words_of_two : List Str := ["ways", "start", "found", "line", "spot", "word", "two", "mark", "further"]
abbrev level_words_of_two : Nat := 2
theorem sc_words_of_two : FnScope N_words_of_two ["ways", "start"] (defScope s_words_of_two) := ⟨rfl, rfl, rfl, by decide +kernel, rfl, by decide +kernel, by decide +kernel⟩
abbrev s_joined : Stmt := top 35
abbrev N_joined : List Str := ["web", "pair", "other", "found"]
abbrev level_joined : Nat := 4
theorem sc_joined : FnScope N_joined ["web", "pair", "other"] (defScope s_joined) := ⟨rfl, rfl, rfl, by decide +kernel, rfl, by decide +kernel, by decide +kernel⟩
abbrev s_unlike : Stmt := top 36
abbrev N_unlike : List Str := ["web", "word", "other", "found", "house", "first", "last"]
abbrev level_unlike : Nat := 4
theorem sc_unlike : FnScope N_unlike ["web", "word", "other"] (defScope s_unlike) := ⟨rfl, rfl, rfl, by decide +kernel, rfl, by decide +kernel, by decide +kernel⟩
abbrev s__law_sip : Stmt := top 39
abbrev N__law_sip : List Str := ["cup", "top", "part"]
abbrev level__law_sip : Nat := 1
theorem sc__law_sip : FnScope N__law_sip ["cup", "top"] (defScope s__law_sip) := ⟨rfl, rfl, rfl, by decide +kernel, rfl, by decide +kernel, by decide +kernel⟩
abbrev s__law_pick : Stmt := top 40
abbrev N__law_pick : List Str := ["cup", "things"]
abbrev level__law_pick : Nat := 2
theorem sc__law_pick : FnScope N__law_pick ["cup", "things"] (defScope s__law_pick) := ⟨rfl, rfl, rfl, by decide +kernel, rfl, by decide +kernel, by decide +kernel⟩
abbrev s__law_drawn : Stmt := top 41
abbrev N__law_drawn : List Str := ["cup", "most", "many", "pairs", "more", "last", "pair", "used", "told", "first", "marks", "one", "two", "house", "mark"]
abbrev level__law_drawn : Nat := 3
theorem sc__law_drawn : FnScope N__law_drawn ["cup", "most"] (defScope s__law_drawn) := ⟨rfl, rfl, rfl, by decide +kernel, rfl, by decide +kernel, by decide +kernel⟩
abbrev s__law_ways : Stmt := top 43
abbrev N__law_ways : List Str := ["told", "found", "first", "mark", "last", "other", "house", "tie"]
abbrev level__law_ways : Nat := 1
theorem sc__law_ways : FnScope N__law_ways ["told"] (defScope s__law_ways) := ⟨rfl, rfl, rfl, by decide +kernel, rfl, by decide +kernel, by decide +kernel⟩
abbrev s__law_walk : Stmt := top 44
abbrev N__law_walk : List Str := ["ways_here", "start", "letters", "letter"]
abbrev level__law_walk : Nat := 1
theorem sc__law_walk : FnScope N__law_walk ["ways_here", "start", "letters"] (defScope s__law_walk) := ⟨rfl, rfl, rfl, by decide +kernel, rfl, by decide +kernel, by decide +kernel⟩
abbrev s__law_shortest : Stmt := top 45
abbrev N__law_shortest : List Str := ["ways_here", "pair", "other", "length", "edge", "seen", "later", "one", "two", "mark"]
abbrev level__law_shortest : Nat := 1
theorem sc__law_shortest : FnScope N__law_shortest ["ways_here", "pair", "other"] (defScope s__law_shortest) := ⟨rfl, rfl, rfl, by decide +kernel, rfl, by decide +kernel, by decide +kernel⟩
abbrev s__law_text : Stmt := top 42
abbrev N__law_text : List Str := ["told", "tie", "part"]
abbrev level__law_text : Nat := 1
theorem sc__law_text : FnScope N__law_text ["told"] (defScope s__law_text) := ⟨rfl, rfl, rfl, by decide +kernel, rfl, by decide +kernel, by decide +kernel⟩
abbrev s_Web_marks : Stmt := inClass (top 26) 3
abbrev N_Web_marks : List Str := ["self"]
abbrev level_Web_marks : Nat := 2
theorem sc_Web_marks : FnScope N_Web_marks ["self"] (defScope s_Web_marks) := ⟨rfl, rfl, rfl, by decide +kernel, rfl, by decide +kernel, by decide +kernel⟩
abbrev s__law_right : Stmt := top 46
abbrev N__law_right : List Str := ["cup", "turn", "told", "letters", "mate", "ends", "others", "due", "apart", "pair", "other", "web", "ways_here", "word", "many", "spot", "step"]
abbrev level__law_right : Nat := 11
theorem sc__law_right : FnScope N__law_right ["cup"] (defScope s__law_right) := ⟨rfl, rfl, rfl, by decide +kernel, rfl, by decide +kernel, by decide +kernel⟩
abbrev s__law_cup : Stmt := top 38
abbrev N__law_cup : List Str := ["script", "spot", "cell", "one"]
abbrev level__law_cup : Nat := 1
theorem sc__law_cup : FnScope N__law_cup ["script", "spot"] (defScope s__law_cup) := ⟨rfl, rfl, rfl, by decide +kernel, rfl, by decide +kernel, by decide +kernel⟩
abbrev s_law : Stmt := top 47
abbrev N_law : List Str := ["script", "web", "spot"]
abbrev level_law : Nat := 12
theorem sc_law : FnScope N_law ["script"] (defScope s_law) := ⟨rfl, rfl, rfl, by decide +kernel, rfl, by decide +kernel, by decide +kernel⟩
def OwnIs (W : Wd) : Tg → Prop
  | .own c => IsC W.K (W.cl c)
  | .ty _ => True
structure Facts (K : PySem.W.Frag) (mg : Str → Option Value) (W : Wd) (A : Ad) : Prop where
  hW : W.K = K
  cl : W.cl = A.c
  ct : CtOk K W ct A.fn
  f0 : Fun K "tie_of" "tie_of" s_tie_of (A.f 0) (A.d 0)
  b0 : Binds K (A.d 0) ["line", "signs"] []
  k0 : PySem.W.keepIn K (.ref (A.f 0)) = true
  m_tie_of : mg "tie_of" = some (.ref (A.f 0))
  f1 : Fun K "places_of" "places_of" s_places_of (A.f 1) (A.d 1)
  b1 : Binds K (A.d 1) ["tie"] []
  k1 : PySem.W.keepIn K (.ref (A.f 1)) = true
  m_places_of : mg "places_of" = some (.ref (A.f 1))
  f2 : Fun K "ties_in" "ties_in" s_ties_in (A.f 2) (A.d 2)
  b2 : Binds K (A.d 2) ["text", "signs"] []
  k2 : PySem.W.keepIn K (.ref (A.f 2)) = true
  m_ties_in : mg "ties_in" = some (.ref (A.f 2))
  f3 : Fun K "are_together" "are_together" s_are_together (A.f 3) (A.d 3)
  b3 : Binds K (A.d 3) ["ties"] []
  k3 : PySem.W.keepIn K (.ref (A.f 3)) = true
  m_are_together : mg "are_together" = some (.ref (A.f 3))
  f4 : Fun K "ways_of" "ways_of" s_ways_of (A.f 4) (A.d 4)
  b4 : Binds K (A.d 4) ["ties"] []
  k4 : PySem.W.keepIn K (.ref (A.f 4)) = true
  m_ways_of : mg "ways_of" = some (.ref (A.f 4))
  f5 : Fun K "web_ties" "web_ties" s_web_ties (A.f 5) (A.d 5)
  b5 : Binds K (A.d 5) ["text"] []
  k5 : PySem.W.keepIn K (.ref (A.f 5)) = true
  m_web_ties : mg "web_ties" = some (.ref (A.f 5))
  f6 : Fun K "plain_text" "plain_text" s_plain_text (A.f 6) (A.d 6)
  b6 : Binds K (A.d 6) ["ties"] []
  k6 : PySem.W.keepIn K (.ref (A.f 6)) = true
  m_plain_text : mg "plain_text" = some (.ref (A.f 6))
  f7 : Fun K "letters_of" "letters_of" s_letters_of (A.f 7) (A.d 7)
  b7 : Binds K (A.d 7) ["ties"] []
  k7 : PySem.W.keepIn K (.ref (A.f 7)) = true
  m_letters_of : mg "letters_of" = some (.ref (A.f 7))
  f8 : Fun K "__init__" "Web.__init__" s_Web___init__ (A.f 8) (A.d 8)
  b8 : Binds K (A.d 8) ["self", "text"] []
  k8 : PySem.W.keepIn K (.ref (A.f 8)) = true
  f9 : Fun K "check_web" "check_web" s_check_web (A.f 9) (A.d 9)
  b9 : Binds K (A.d 9) ["value"] []
  k9 : PySem.W.keepIn K (.ref (A.f 9)) = true
  m_check_web : mg "check_web" = some (.ref (A.f 9))
  f10 : Fun K "is_word" "is_word" s_is_word (A.f 10) (A.d 10)
  b10 : Binds K (A.d 10) ["value"] []
  k10 : PySem.W.keepIn K (.ref (A.f 10)) = true
  m_is_word : mg "is_word" = some (.ref (A.f 10))
  f11 : Fun K "check_word" "check_word" s_check_word (A.f 11) (A.d 11)
  b11 : Binds K (A.d 11) ["value"] []
  k11 : PySem.W.keepIn K (.ref (A.f 11)) = true
  m_check_word : mg "check_word" = some (.ref (A.f 11))
  f12 : Fun K "end_of" "end_of" s_end_of (A.f 12) (A.d 12)
  b12 : Binds K (A.d 12) ["ways", "house", "word"] []
  k12 : PySem.W.keepIn K (.ref (A.f 12)) = true
  m_end_of : mg "end_of" = some (.ref (A.f 12))
  f13 : Fun K "led_by" "led_by" s_led_by (A.f 13) (A.d 13)
  b13 : Binds K (A.d 13) ["ways", "word"] []
  k13 : PySem.W.keepIn K (.ref (A.f 13)) = true
  m_led_by : mg "led_by" = some (.ref (A.f 13))
  f14 : Fun K "led" "led" s_led (A.f 14) (A.d 14)
  b14 : Binds K (A.d 14) ["web", "word"] []
  k14 : PySem.W.keepIn K (.ref (A.f 14)) = true
  m_led : mg "led" = some (.ref (A.f 14))
  f15 : Fun K "is_between" "is_between" s_is_between (A.f 15) (A.d 15)
  b15 : Binds K (A.d 15) ["value", "least", "most"] []
  k15 : PySem.W.keepIn K (.ref (A.f 15)) = true
  m_is_between : mg "is_between" = some (.ref (A.f 15))
  f16 : Fun K "is_pair" "is_pair" s_is_pair (A.f 16) (A.d 16)
  b16 : Binds K (A.d 16) ["value", "many"] []
  k16 : PySem.W.keepIn K (.ref (A.f 16)) = true
  m_is_pair : mg "is_pair" = some (.ref (A.f 16))
  f17 : Fun K "check_pair" "check_pair" s_check_pair (A.f 17) (A.d 17)
  b17 : Binds K (A.d 17) ["value", "many"] []
  k17 : PySem.W.keepIn K (.ref (A.f 17)) = true
  m_check_pair : mg "check_pair" = some (.ref (A.f 17))
  f18 : Fun K "houses" "Web.houses" s_Web_houses (A.f 18) (A.d 18)
  b18 : Binds K (A.d 18) ["self"] []
  k18 : PySem.W.keepIn K (.ref (A.f 18)) = true
  f19 : Fun K "steps_of_two" "steps_of_two" s_steps_of_two (A.f 19) (A.d 19)
  b19 : Binds K (A.d 19) ["ways", "two"] []
  k19 : PySem.W.keepIn K (.ref (A.f 19)) = true
  m_steps_of_two : mg "steps_of_two" = some (.ref (A.f 19))
  f20 : Fun K "words_of_two" "words_of_two" s_words_of_two (A.f 20) (A.d 20)
  b20 : Binds K (A.d 20) ["ways", "start"] []
  k20 : PySem.W.keepIn K (.ref (A.f 20)) = true
  m_words_of_two : mg "words_of_two" = some (.ref (A.f 20))
  f21 : Fun K "joined" "joined" s_joined (A.f 21) (A.d 21)
  b21 : Binds K (A.d 21) ["web", "pair", "other"] []
  k21 : PySem.W.keepIn K (.ref (A.f 21)) = true
  m_joined : mg "joined" = some (.ref (A.f 21))
  f22 : Fun K "unlike" "unlike" s_unlike (A.f 22) (A.d 22)
  b22 : Binds K (A.d 22) ["web", "word", "other"] []
  k22 : PySem.W.keepIn K (.ref (A.f 22)) = true
  m_unlike : mg "unlike" = some (.ref (A.f 22))
  f23 : Fun K "_law_sip" "_law_sip" s__law_sip (A.f 23) (A.d 23)
  b23 : Binds K (A.d 23) ["cup", "top"] []
  k23 : PySem.W.keepIn K (.ref (A.f 23)) = true
  m__law_sip : mg "_law_sip" = some (.ref (A.f 23))
  f24 : Fun K "_law_pick" "_law_pick" s__law_pick (A.f 24) (A.d 24)
  b24 : Binds K (A.d 24) ["cup", "things"] []
  k24 : PySem.W.keepIn K (.ref (A.f 24)) = true
  m__law_pick : mg "_law_pick" = some (.ref (A.f 24))
  f25 : Fun K "_law_drawn" "_law_drawn" s__law_drawn (A.f 25) (A.d 25)
  b25 : Binds K (A.d 25) ["cup", "most"] []
  k25 : PySem.W.keepIn K (.ref (A.f 25)) = true
  m__law_drawn : mg "_law_drawn" = some (.ref (A.f 25))
  f26 : Fun K "_law_ways" "_law_ways" s__law_ways (A.f 26) (A.d 26)
  b26 : Binds K (A.d 26) ["told"] []
  k26 : PySem.W.keepIn K (.ref (A.f 26)) = true
  m__law_ways : mg "_law_ways" = some (.ref (A.f 26))
  f27 : Fun K "_law_walk" "_law_walk" s__law_walk (A.f 27) (A.d 27)
  b27 : Binds K (A.d 27) ["ways_here", "start", "letters"] []
  k27 : PySem.W.keepIn K (.ref (A.f 27)) = true
  m__law_walk : mg "_law_walk" = some (.ref (A.f 27))
  f28 : Fun K "_law_shortest" "_law_shortest" s__law_shortest (A.f 28) (A.d 28)
  b28 : Binds K (A.d 28) ["ways_here", "pair", "other"] []
  k28 : PySem.W.keepIn K (.ref (A.f 28)) = true
  m__law_shortest : mg "_law_shortest" = some (.ref (A.f 28))
  f29 : Fun K "_law_text" "_law_text" s__law_text (A.f 29) (A.d 29)
  b29 : Binds K (A.d 29) ["told"] []
  k29 : PySem.W.keepIn K (.ref (A.f 29)) = true
  m__law_text : mg "_law_text" = some (.ref (A.f 29))
  f30 : Fun K "marks" "Web.marks" s_Web_marks (A.f 30) (A.d 30)
  b30 : Binds K (A.d 30) ["self"] []
  k30 : PySem.W.keepIn K (.ref (A.f 30)) = true
  f31 : Fun K "_law_right" "_law_right" s__law_right (A.f 31) (A.d 31)
  b31 : Binds K (A.d 31) ["cup"] []
  k31 : PySem.W.keepIn K (.ref (A.f 31)) = true
  m__law_right : mg "_law_right" = some (.ref (A.f 31))
  f32 : Fun K "_law_cup" "_law_cup" s__law_cup (A.f 32) (A.d 32)
  b32 : Binds K (A.d 32) ["script", "spot"] []
  k32 : PySem.W.keepIn K (.ref (A.f 32)) = true
  m__law_cup : mg "_law_cup" = some (.ref (A.f 32))
  f33 : Fun K "law" "law" s_law (A.f 33) (A.d 33)
  b33 : Binds K (A.d 33) ["script"] []
  k33 : PySem.W.keepIn K (.ref (A.f 33)) = true
  m_law : mg "law" = some (.ref (A.f 33))
  mc0 : mg "Web" = some (.ref (W.cl 0))
  mk0 : Mk K (W.cl 0) (A.f 8)
  is0 : IsC K (W.cl 0)
  n_abs : mg "abs" = none
  n_all : mg "all" = none
  n_any : mg "any" = none
  n_bool : mg "bool" = none
  n_divmod : mg "divmod" = none
  n_int : mg "int" = none
  n_isinstance : mg "isinstance" = none
  n_len : mg "len" = none
  n_list : mg "list" = none
  n_max : mg "max" = none
  n_min : mg "min" = none
  n_range : mg "range" = none
  n_set : mg "set" = none
  n_sorted : mg "sorted" = none
  n_str : mg "str" = none
  n_tuple : mg "tuple" = none
  c_MARKS : ∃ u v, mg "MARKS" = some u ∧ RelV v u ∧ ∀ m n H, VR W m n H k_MARKS v
  c_MOST_HOUSES : ∃ u v, mg "MOST_HOUSES" = some u ∧ RelV v u ∧ ∀ m n H, VR W m n H k_MOST_HOUSES v
  c_MOST_WORD : ∃ u v, mg "MOST_WORD" = some u ∧ RelV v u ∧ ∀ m n H, VR W m n H k_MOST_WORD v
  c_NUMBERS : ∃ u v, mg "NUMBERS" = some u ∧ RelV v u ∧ ∀ m n H, VR W m n H k_NUMBERS v
  tb_Web : ∀ p ∈ K05.tb_Web, PySem.W.kitOne W.K (tgV W p.1) (.ref (W.cl 0)) = some p.2
  tbo_Web : ∀ p ∈ K05.tb_Web, OwnIs W p.1
  tb_bool : ∀ p ∈ K05.tb_bool, PySem.W.kitOne W.K (tgV W p.1) (.type "bool") = some p.2
  tbo_bool : ∀ p ∈ K05.tb_bool, OwnIs W p.1
  tb_int : ∀ p ∈ K05.tb_int, PySem.W.kitOne W.K (tgV W p.1) (.type "int") = some p.2
  tbo_int : ∀ p ∈ K05.tb_int, OwnIs W p.1
  tb_str : ∀ p ∈ K05.tb_str, PySem.W.kitOne W.K (tgV W p.1) (.type "str") = some p.2
  tbo_str : ∀ p ∈ K05.tb_str, OwnIs W p.1
  tb_tuple : ∀ p ∈ K05.tb_tuple, PySem.W.kitOne W.K (tgV W p.1) (.type "tuple") = some p.2
  tbo_tuple : ∀ p ∈ K05.tb_tuple, OwnIs W p.1
  kw0 : KwOk K (A.d 14) ["web", "word"] ["word", "web"] 0 [1, 0]
  kw1 : KwOk K (A.d 22) ["web", "word", "other"] ["other", "word", "web"] 0 [2, 1, 0]
  kw2 : KwOk K (A.d 21) ["web", "pair", "other"] ["other", "pair", "web"] 0 [2, 1, 0]
section
variable {P : Program} {w : World} {K : PySem.W.Frag} {mg : Str → Option Value} {base : Heap} {W : Wd} {A : Ad}
theorem g_MARKS {X : Cx} {Wx : WX} {pos : Pos} (Γ : Facts X.K X.mg W A) (hg : Gl X "MARKS") (hdb : (("MARKS" : Str) == ("__debug__" : Str)) = false) : PE X (.Name "MARKS" pos) (tI W Wx (cCon k_MARKS)) := by
  obtain ⟨u, v, h1, h2, h3⟩ := Γ.c_MARKS
  exact pi_glob hg h1 h2 h3 hdb
theorem g_MOST_HOUSES {X : Cx} {Wx : WX} {pos : Pos} (Γ : Facts X.K X.mg W A) (hg : Gl X "MOST_HOUSES") (hdb : (("MOST_HOUSES" : Str) == ("__debug__" : Str)) = false) : PE X (.Name "MOST_HOUSES" pos) (tI W Wx (cCon k_MOST_HOUSES)) := by
  obtain ⟨u, v, h1, h2, h3⟩ := Γ.c_MOST_HOUSES
  exact pi_glob hg h1 h2 h3 hdb
theorem g_MOST_WORD {X : Cx} {Wx : WX} {pos : Pos} (Γ : Facts X.K X.mg W A) (hg : Gl X "MOST_WORD") (hdb : (("MOST_WORD" : Str) == ("__debug__" : Str)) = false) : PE X (.Name "MOST_WORD" pos) (tI W Wx (cCon k_MOST_WORD)) := by
  obtain ⟨u, v, h1, h2, h3⟩ := Γ.c_MOST_WORD
  exact pi_glob hg h1 h2 h3 hdb
theorem g_NUMBERS {X : Cx} {Wx : WX} {pos : Pos} (Γ : Facts X.K X.mg W A) (hg : Gl X "NUMBERS") (hdb : (("NUMBERS" : Str) == ("__debug__" : Str)) = false) : PE X (.Name "NUMBERS" pos) (tI W Wx (cCon k_NUMBERS)) := by
  obtain ⟨u, v, h1, h2, h3⟩ := Γ.c_NUMBERS
  exact pi_glob hg h1 h2 h3 hdb
theorem ok_tie_of (Γ : Facts K mg W A) : FnG P w K mg base 1 (A.f 0) (A.d 0) ["line", "signs"] (spI W 2 cf_tie_of) := by
  refine Fun_okG Γ.f0 sc_tie_of spI_len fun cdv A₁ outer s H vs Q E hr hg hsp => ?_
  have G : Gd (cxG P w K mg base N_tie_of "tie_of" (defScope s_tie_of) (A.f 0) cdv A₁ outer s H E) W 0 := ⟨Γ.hW.symm, hr, hg, rfl, sc_tie_of.nd⟩
  have tk : Takes (cxG P w K mg base N_tie_of "tie_of" (defScope s_tie_of) (A.f 0) cdv A₁ outer s H E) (fun cls dd _ H => E cls dd H) := takes_cx
  have body : PSs (cxG P w K mg base N_tie_of "tie_of" (defScope s_tie_of) (A.f 0) cdv A₁ outer s H E) (defBody s_tie_of) (tS W (fun cls dd _ H => E cls dd H) f_tie_of) :=
    (si_cons
    (q_set G 2 (pi_fz (q_bm G PySem.F.plainAttrs_str PySem.F.slot_str_split PySem.F.type_str_split mi_split (q_var 0) (q_cons q_str ai_nil))))
    (si_cons
    (si_if (PW.pt (wi_or (pi_tcmp (or_ne (G.K) (G.u 64)) os_ne (q_callB (ci_len G.K) Γ.n_len (q_cons (q_var 2) ai_nil)) q_int (by with_unfolding_all rfl)) (wi_or (pi_tcmp (or_nin (G.K) (G.u 65)) os_nin (q_ix G (q_var 2) q_int) (g_NUMBERS Γ rfl rfl) (by with_unfolding_all rfl)) (wi_or (pi_tcmp (or_nin (G.K) (G.u 65)) os_nin (q_ix G (q_var 2) q_int) (g_NUMBERS Γ rfl rfl) (by with_unfolding_all rfl)) (wi_or1 (pi_tcmp (or_eq (G.K) (G.u 64)) os_eq (q_ix G (q_var 2) q_int) (q_ix G (q_var 2) q_int) (by with_unfolding_all rfl))))))) (si_cons
      (si_ret q_non)
      si_nil) si_nil)
    (si_cons
    (si_if (pt_notI (q_tru G (q_callB (ci_all G.K G.calm) Γ.n_all (q_cons (pi_fz (q_lc G 1000 [("word", 5)] (q_val G (pi_tup (q_cons (q_ix G (q_var 2) q_int) (q_cons (q_ix G (q_var 2) q_int) ai_nil)))) (fun _ _ _ _ _ => (q_name G.blk 5 [5])) (fun _ _ _ _ _ => q_yes) (fun _ _ _ _ _ => (pi_and (pi_cmp (or_eq (G.blk.K) (G.blk.u 64)) os_eq (q_callB (ci_len G.blk.K) Γ.n_len (q_cons (q_var 5) ai_nil)) q_int (by with_unfolding_all rfl)) (q_and1 (pi_cmp (or_in (G.blk.K) (G.blk.u 65)) os_in (q_var 5) (q_var 1) (by with_unfolding_all rfl))))))) ai_nil)))) (si_cons
      (si_ret q_non)
      si_nil) si_nil)
    (si_cons
    (q_par G 3 4 (q_cons (q_bm G PySem.F.plainAttrs_tuple PySem.F.slot_tuple_index PySem.F.type_tuple_index (mi_tupIx G.K) (g_NUMBERS Γ rfl rfl) (q_cons (q_ix G (q_var 2) q_int) ai_nil)) (q_cons (q_bm G PySem.F.plainAttrs_tuple PySem.F.slot_tuple_index PySem.F.type_tuple_index (mi_tupIx G.K) (g_NUMBERS Γ rfl rfl) (q_cons (q_ix G (q_var 2) q_int) ai_nil)) ai_nil)))
    (si_cons
    (si_if (pi_tcmp op_gt os_gt (q_var 3) (q_var 4) (by with_unfolding_all rfl)) (si_cons
      (si_ret (pi_tup (q_cons (q_var 4) (q_cons (q_ix G (q_var 2) q_int) (q_cons (q_var 3) (q_cons (q_ix G (q_var 2) q_int) ai_nil))))))
      si_nil) si_nil)
    (si_cons
    (si_ret (pi_tup (q_cons (q_var 3) (q_cons (q_ix G (q_var 2) q_int) (q_cons (q_var 4) (q_cons (q_ix G (q_var 2) q_int) ai_nil))))))
    si_nil))))))
  exact body_of (N := N_tie_of) (np := 2) body (fun _ _ => rfl) (spI_fz hsp)
theorem ok_places_of (Γ : Facts K mg W A) : FnG P w K mg base 1 (A.f 1) (A.d 1) ["tie"] (spI W 1 cf_places_of) := by
  refine Fun_okG Γ.f1 sc_places_of spI_len fun cdv A₁ outer s H vs Q E hr hg hsp => ?_
  have G : Gd (cxG P w K mg base N_places_of "places_of" (defScope s_places_of) (A.f 1) cdv A₁ outer s H E) W 0 := ⟨Γ.hW.symm, hr, hg, rfl, sc_places_of.nd⟩
  have tk : Takes (cxG P w K mg base N_places_of "places_of" (defScope s_places_of) (A.f 1) cdv A₁ outer s H E) (fun cls dd _ H => E cls dd H) := takes_cx
  have body : PSs (cxG P w K mg base N_places_of "places_of" (defScope s_places_of) (A.f 1) cdv A₁ outer s H E) (defBody s_places_of) (tS W (fun cls dd _ H => E cls dd H) f_places_of) :=
    (si_cons
    (si_ret (pi_tup (q_cons (q_ix G (q_var 0) q_int) (q_cons (q_ix G (q_var 0) q_int) ai_nil))))
    si_nil)
  exact body_of (N := N_places_of) (np := 1) body (fun _ _ => rfl) (spI_fz hsp)
theorem ok_ties_in (Γ : Facts K mg W A) : FnG P w K mg base 7 (A.f 2) (A.d 2) ["text", "signs"] (spI W 2 cf_ties_in) := by
  refine Fun_okG Γ.f2 sc_ties_in spI_len fun cdv A₁ outer s H vs Q E hr hg hsp => ?_
  have G : Gd (cxG P w K mg base N_ties_in "ties_in" (defScope s_ties_in) (A.f 2) cdv A₁ outer s H E) W 6 := ⟨Γ.hW.symm, hr, hg, rfl, sc_ties_in.nd⟩
  have tk : Takes (cxG P w K mg base N_ties_in "ties_in" (defScope s_ties_in) (A.f 2) cdv A₁ outer s H E) (fun cls dd _ H => E cls dd H) := takes_cx
  have body : PSs (cxG P w K mg base N_ties_in "ties_in" (defScope s_ties_in) (A.f 2) cdv A₁ outer s H E) (defBody s_ties_in) (tS W (fun cls dd _ H => E cls dd H) f_ties_in) :=
    (si_cons
    (q_setLcZ G 1000 [("line", 4)] 2 (q_val G (pi_fz (q_bm G PySem.F.plainAttrs_str PySem.F.slot_str_split PySem.F.type_str_split mi_split (q_var 0) (q_cons q_str ai_nil)))) (fun _ _ _ _ _ => (q_name G.blk 4 [4])) (fun _ _ _ _ _ => q_yes) (fun _ _ _ _ _ => (q_call G.blk takes_no (ok_tie_of Γ) Γ.m_tie_of Γ.k0 Γ.b0 (q_cons (q_var 4) (q_cons (q_var 1) ai_nil)))))
    (si_cons
    (si_if (q_tru G (q_callB (ci_any G.K G.calm) Γ.n_any (q_cons (pi_fz (q_lc G 1000 [("tie", 5)] (q_val G (q_var 2)) (fun _ _ _ _ _ => (q_name G.blk 5 [5])) (fun _ _ _ _ _ => q_yes) (fun _ _ _ _ _ => (pi_cmp or_is os_is (q_var 5) q_non (by with_unfolding_all rfl))))) ai_nil))) (si_cons
      (si_ret q_non)
      si_nil) si_nil)
    (si_cons
    (q_set G 2 (pi_fz (pi_sortK G.K (G.dp) (G.u 100) Γ.f1 sc_places_of Γ.b1 rfl rfl rfl rfl Γ.m_places_of rfl rfl Γ.n_sorted (by decide +kernel) (q_var 2) (by decide) rfl rfl rfl)))
    (si_cons
    (q_for G 1000 own_cx (q_rng1 Γ.n_range (q_cons (pi_bin op_sub os_sub (q_callB (ci_len G.K) Γ.n_len (q_cons (q_var 2) ai_nil)) q_int) ai_nil)) (q_name G 3 [3]) (si_cons
      (si_if (pi_tcmp (or_eq (G.K) (G.u 64)) os_eq (q_call G tk (ok_places_of Γ) Γ.m_places_of Γ.k1 Γ.b1 (q_cons (q_ix G (q_var 2) (q_var 3)) ai_nil)) (q_call G tk (ok_places_of Γ) Γ.m_places_of Γ.k1 Γ.b1 (q_cons (q_ix G (q_var 2) (pi_bin (or_add G.K) os_add (q_var 3) q_int)) ai_nil)) (by with_unfolding_all rfl)) (si_cons
        (si_ret q_non)
        si_nil) si_nil)
      si_nil))
    (si_cons
    (si_ret (q_var 2))
    si_nil)))))
  exact body_of (N := N_ties_in) (np := 2) body (fun _ _ => rfl) (spI_fz hsp)
theorem ok_are_together (Γ : Facts K mg W A) : FnG P w K mg base 1 (A.f 3) (A.d 3) ["ties"] (spI W 1 cf_are_together) := by
  refine Fun_okG Γ.f3 sc_are_together spI_len fun cdv A₁ outer s H vs Q E hr hg hsp => ?_
  have G : Gd (cxG P w K mg base N_are_together "are_together" (defScope s_are_together) (A.f 3) cdv A₁ outer s H E) W 0 := ⟨Γ.hW.symm, hr, hg, rfl, sc_are_together.nd⟩
  have tk : Takes (cxG P w K mg base N_are_together "are_together" (defScope s_are_together) (A.f 3) cdv A₁ outer s H E) (fun cls dd _ H => E cls dd H) := takes_cx
  have body : PSs (cxG P w K mg base N_are_together "are_together" (defScope s_are_together) (A.f 3) cdv A₁ outer s H E) (defBody s_are_together) (tS W (fun cls dd _ H => E cls dd H) f_are_together) :=
    (si_cons
    (q_set G 1 (pi_bin (or_add G.K) os_add q_int (q_callB (ci_maxL G.K G.calm) Γ.n_max (q_cons (pi_fz (q_lc G 1000 [("tie", 10)] (q_val G (q_var 0)) (fun _ _ _ _ _ => (q_name G.blk 10 [10])) (fun _ _ _ _ _ => q_yes) (fun _ _ _ _ _ => (q_ix G.blk (q_var 10) q_int)))) ai_nil))))
    (si_cons
    (q_set G 2 (pi_lst (q_cons q_int ai_nil)))
    (si_cons
    (q_set G 3 q_int)
    (si_cons
    (si_whl 1000 own_cx (pi_tcmp or_lt os_lt (q_var 3) (q_callB (ci_len G.K) Γ.n_len (q_cons (q_var 2) ai_nil)) (by with_unfolding_all rfl)) (si_cons
      (q_for G 1000 own_cx (q_val G (q_var 0)) (q_gtup G 4 (q_gcons (q_name G 4 [4, 5, 6, 7]) (q_gcons (q_name G 5 [4, 5, 6, 7]) (q_gcons (q_name G 6 [4, 5, 6, 7]) (q_gcons (q_name G 7 [4, 5, 6, 7]) gsi_nil))))) (si_cons
        (q_for G 1000 own_cx (q_val G (pi_tup (q_cons (pi_tup (q_cons (q_var 4) (q_cons (q_var 6) ai_nil))) (q_cons (pi_tup (q_cons (q_var 6) (q_cons (q_var 4) ai_nil))) ai_nil)))) (q_gtup G 2 (q_gcons (q_name G 8 [8, 9]) (q_gcons (q_name G 9 [8, 9]) gsi_nil))) (si_cons
          (si_if (PW.pt (wi_and (pi_tcmp (or_eq (G.K) (G.u 64)) os_eq (q_var 8) (q_ix G (q_var 2) (q_var 3)) (by with_unfolding_all rfl)) (wi_and1 (pi_tcmp (or_nin (G.K) (G.u 65)) os_nin (q_var 9) (q_var 2) (by with_unfolding_all rfl))))) (si_cons
            (q_exp (q_bm G PySem.F.plainAttrs_list PySem.F.slot_list_append PySem.F.type_list_append mi_append (q_var 2) (q_cons (q_var 9) ai_nil)))
            si_nil) si_nil)
          si_nil))
        si_nil))
      (si_cons
      (q_aug G 3 q_int)
      si_nil)))
    (si_cons
    (si_ret (pi_cmp (or_eq (G.K) (G.u 64)) os_eq (q_callB (ci_len G.K) Γ.n_len (q_cons (q_var 2) ai_nil)) (q_var 1) (by with_unfolding_all rfl)))
    si_nil)))))
  exact body_of (N := N_are_together) (np := 1) body (fun _ _ => rfl) (spI_fz hsp)
theorem ok_ways_of (Γ : Facts K mg W A) : FnG P w K mg base 1 (A.f 4) (A.d 4) ["ties"] (spI W 1 cf_ways_of) := by
  refine Fun_okG Γ.f4 sc_ways_of spI_len fun cdv A₁ outer s H vs Q E hr hg hsp => ?_
  have G : Gd (cxG P w K mg base N_ways_of "ways_of" (defScope s_ways_of) (A.f 4) cdv A₁ outer s H E) W 0 := ⟨Γ.hW.symm, hr, hg, rfl, sc_ways_of.nd⟩
  have tk : Takes (cxG P w K mg base N_ways_of "ways_of" (defScope s_ways_of) (A.f 4) cdv A₁ outer s H E) (fun cls dd _ H => E cls dd H) := takes_cx
  have body : PSs (cxG P w K mg base N_ways_of "ways_of" (defScope s_ways_of) (A.f 4) cdv A₁ outer s H E) (defBody s_ways_of) (tS W (fun cls dd _ H => E cls dd H) f_ways_of) :=
    (si_cons
    (q_set G 1 (pi_bin (or_add G.K) os_add q_int (q_callB (ci_maxL G.K G.calm) Γ.n_max (q_cons (pi_fz (q_lc G 1000 [("tie", 8)] (q_val G (q_var 0)) (fun _ _ _ _ _ => (q_name G.blk 8 [8])) (fun _ _ _ _ _ => q_yes) (fun _ _ _ _ _ => (q_ix G.blk (q_var 8) q_int)))) ai_nil))))
    (si_cons
    (q_setLc G 1000 [("house", 7)] 2 (q_rng1 Γ.n_range (q_cons (q_var 1) ai_nil)) (fun _ _ _ _ _ => (q_name G.blk 7 [7])) (fun _ _ _ _ _ => q_yes) (fun _ _ _ _ _ => pi_dicK))
    (si_cons
    (q_for G 1000 own_cx (q_val G (q_var 0)) (q_gtup G 4 (q_gcons (q_name G 3 [3, 4, 5, 6]) (q_gcons (q_name G 4 [3, 4, 5, 6]) (q_gcons (q_name G 5 [3, 4, 5, 6]) (q_gcons (q_name G 6 [3, 4, 5, 6]) gsi_nil))))) (si_cons
      (si_if (PW.pt (wi_or (pi_tcmp (or_in (G.K) (G.u 65)) os_in (q_var 4) (q_ix G (q_var 2) (q_var 3)) (by with_unfolding_all rfl)) (wi_or1 (pi_tcmp (or_in (G.K) (G.u 65)) os_in (q_var 6) (q_ix G (q_var 2) (q_var 5)) (by with_unfolding_all rfl))))) (si_cons
        (si_ret q_non)
        si_nil) si_nil)
      (si_cons
      (q_asg (q_var 5) (q_gsub (Wx := fun _ _ _ _ => False) G [] (q_ix G (q_var 2) (q_var 3)) (q_var 4)))
      (si_cons
      (q_asg (q_var 3) (q_gsub (Wx := fun _ _ _ _ => False) G [] (q_ix G (q_var 2) (q_var 5)) (q_var 6)))
      si_nil))))
    (si_cons
    (si_ret (q_var 2))
    si_nil))))
  exact body_of (N := N_ways_of) (np := 1) body (fun _ _ => rfl) (spI_fz hsp)
theorem ok_web_ties (Γ : Facts K mg W A) : FnG P w K mg base 8 (A.f 5) (A.d 5) ["text"] (spI W 1 cf_web_ties) := by
  refine Fun_okG Γ.f5 sc_web_ties spI_len fun cdv A₁ outer s H vs Q E hr hg hsp => ?_
  have G : Gd (cxG P w K mg base N_web_ties "web_ties" (defScope s_web_ties) (A.f 5) cdv A₁ outer s H E) W 7 := ⟨Γ.hW.symm, hr, hg, rfl, sc_web_ties.nd⟩
  have tk : Takes (cxG P w K mg base N_web_ties "web_ties" (defScope s_web_ties) (A.f 5) cdv A₁ outer s H E) (fun cls dd _ H => E cls dd H) := takes_cx
  have body : PSs (cxG P w K mg base N_web_ties "web_ties" (defScope s_web_ties) (A.f 5) cdv A₁ outer s H E) (defBody s_web_ties) (tS W (fun cls dd _ H => E cls dd H) f_web_ties) :=
    (si_cons
    (si_if (pt_notI (q_tru G (pi_isi G.K (.ty _) (pe_bltn (v := .ty "str") rfl Γ.n_str (by decide +kernel) rfl (by decide) rfl) (fun g b h => Γ.tb_str (g, b) h) (fun c b h => Γ.tbo_str (.own c, b) h) rfl Γ.n_isinstance (by decide +kernel) (q_var 0) (by decide) rfl rfl rfl rfl))) (si_cons
      (si_ret q_non)
      si_nil) si_nil)
    (si_cons
    (q_set G 1 (q_call G tk (ok_ties_in Γ) Γ.m_ties_in Γ.k2 Γ.b2 (q_cons (q_var 0) (q_cons (g_MARKS Γ rfl rfl) ai_nil))))
    (si_cons
    (si_if (PW.pt (wi_or (pi_tcmp or_is os_is (q_var 1) q_non (by with_unfolding_all rfl)) (wi_or (pt_notI (q_tru G (q_call G tk (ok_are_together Γ) Γ.m_are_together Γ.k3 Γ.b3 (q_cons (q_var 1) ai_nil)))) (wi_or (pi_tcmp or_is os_is (q_call G tk (ok_ways_of Γ) Γ.m_ways_of Γ.k4 Γ.b4 (q_cons (q_var 1) ai_nil)) q_non (by with_unfolding_all rfl)) (wi_or1 (pi_tcmp op_ge os_ge (q_ix G (q_ix G (q_var 1) (q_neg q_int)) q_int) (g_MOST_HOUSES Γ rfl rfl) (by with_unfolding_all rfl))))))) (si_cons
      (si_ret q_non)
      si_nil) si_nil)
    (si_cons
    (si_ret (q_var 1))
    si_nil))))
  exact body_of (N := N_web_ties) (np := 1) body (fun _ _ => rfl) (spI_fz hsp)
theorem ok_plain_text (Γ : Facts K mg W A) : FnG P w K mg base 1 (A.f 6) (A.d 6) ["ties"] (spI W 1 cf_plain_text) := by
  refine Fun_okG Γ.f6 sc_plain_text spI_len fun cdv A₁ outer s H vs Q E hr hg hsp => ?_
  have G : Gd (cxG P w K mg base N_plain_text "plain_text" (defScope s_plain_text) (A.f 6) cdv A₁ outer s H E) W 0 := ⟨Γ.hW.symm, hr, hg, rfl, sc_plain_text.nd⟩
  have tk : Takes (cxG P w K mg base N_plain_text "plain_text" (defScope s_plain_text) (A.f 6) cdv A₁ outer s H E) (fun cls dd _ H => E cls dd H) := takes_cx
  have body : PSs (cxG P w K mg base N_plain_text "plain_text" (defScope s_plain_text) (A.f 6) cdv A₁ outer s H E) (defBody s_plain_text) (tS W (fun cls dd _ H => E cls dd H) f_plain_text) :=
    (si_cons
    (si_ret (q_bm G PySem.F.plainAttrs_str PySem.F.slot_str_join PySem.F.type_str_join (mi_join G.K) q_str (q_cons (pi_fz (q_lc G 1000 [("first", 1), ("mark", 2), ("last", 3), ("other", 4)] (q_val G (q_var 0)) (fun _ _ _ _ _ => (q_gtup G.blk 4 (q_gcons (q_name G.blk 1 [1, 2, 3, 4]) (q_gcons (q_name G.blk 2 [1, 2, 3, 4]) (q_gcons (q_name G.blk 3 [1, 2, 3, 4]) (q_gcons (q_name G.blk 4 [1, 2, 3, 4]) gsi_nil)))))) (fun _ _ _ _ _ => q_yes) (fun _ _ _ _ _ => (pi_joined (fs := [(fmtD (cVar 1)), (cCon (.str " ")), (fmtD (cVar 2)), (cCon (.str " ")), (fmtD (cVar 3)), (cCon (.str " ")), (fmtD (cVar 4))]) (ji_cons (pi_fmt (q_var 1)) (ji_cons q_str (ji_cons (pi_fmt (q_var 2)) (ji_cons q_str (ji_cons (pi_fmt (q_var 3)) (ji_cons q_str (ji_cons (pi_fmt (q_var 4)) ji_nil))))))))))) ai_nil)))
    si_nil)
  exact body_of (N := N_plain_text) (np := 1) body (fun _ _ => rfl) (spI_fz hsp)
theorem ok_letters_of (Γ : Facts K mg W A) : FnG P w K mg base 1 (A.f 7) (A.d 7) ["ties"] (spI W 1 cf_letters_of) := by
  refine Fun_okG Γ.f7 sc_letters_of spI_len fun cdv A₁ outer s H vs Q E hr hg hsp => ?_
  have G : Gd (cxG P w K mg base N_letters_of "letters_of" (defScope s_letters_of) (A.f 7) cdv A₁ outer s H E) W 0 := ⟨Γ.hW.symm, hr, hg, rfl, sc_letters_of.nd⟩
  have tk : Takes (cxG P w K mg base N_letters_of "letters_of" (defScope s_letters_of) (A.f 7) cdv A₁ outer s H E) (fun cls dd _ H => E cls dd H) := takes_cx
  have body : PSs (cxG P w K mg base N_letters_of "letters_of" (defScope s_letters_of) (A.f 7) cdv A₁ outer s H E) (defBody s_letters_of) (tS W (fun cls dd _ H => E cls dd H) f_letters_of) :=
    (si_cons
    (si_ret (q_bm G PySem.F.plainAttrs_str PySem.F.slot_str_join PySem.F.type_str_join (mi_join G.K) q_str (q_cons (pi_fz (q_lc G 1000 [("mark", 1)] (q_val G (g_MARKS Γ rfl rfl)) (fun _ _ _ _ _ => (q_name G.blk 1 [1])) (fun _ _ _ _ _ => (q_one (q_tru G.blk (q_callB (ci_any G.blk.K G.blk.calm) Γ.n_any (q_cons (pi_fz (q_lc G.blk 1000 [("tie", 2)] (q_val G.blk (q_var 0)) (fun _ _ _ _ _ => (q_name G.blk.blk 2 [2])) (fun _ _ _ _ _ => q_yes) (fun _ _ _ _ _ => (pi_cmp (or_in (G.blk.blk.K) (G.blk.blk.u 65)) os_in (q_var 1) (pi_tup (q_cons (q_ix G.blk.blk (q_var 2) q_int) (q_cons (q_ix G.blk.blk (q_var 2) q_int) ai_nil))) (by with_unfolding_all rfl))))) ai_nil))))) (fun _ _ _ _ _ => (q_var 1)))) ai_nil)))
    si_nil)
  exact body_of (N := N_letters_of) (np := 1) body (fun _ _ => rfl) (spI_fz hsp)
theorem ok_Web___init__ (Γ : Facts K mg W A) : FnG P w K mg base 9 (A.f 8) (A.d 8) ["self", "text"] (spI W 2 cf_Web___init__) := by
  refine Fun_okG Γ.f8 sc_Web___init__ spI_len fun cdv A₁ outer s H vs Q E hr hg hsp => ?_
  have G : Gd (cxG P w K mg base N_Web___init__ "Web.__init__" (defScope s_Web___init__) (A.f 8) cdv A₁ outer s H E) W 8 := ⟨Γ.hW.symm, hr, hg, rfl, sc_Web___init__.nd⟩
  have tk : Takes (cxG P w K mg base N_Web___init__ "Web.__init__" (defScope s_Web___init__) (A.f 8) cdv A₁ outer s H E) (fun cls dd _ H => E cls dd H) := takes_cx
  have body : PSs (cxG P w K mg base N_Web___init__ "Web.__init__" (defScope s_Web___init__) (A.f 8) cdv A₁ outer s H E) (defBody s_Web___init__) (tS W (fun cls dd _ H => E cls dd H) f_Web___init__) :=
    (si_cons
    (q_set G 2 (q_call G tk (ok_web_ties Γ) Γ.m_web_ties Γ.k5 Γ.b5 (q_cons (q_var 1) ai_nil)))
    (si_cons
    (si_if (pi_tcmp or_is os_is (q_var 2) q_non (by with_unfolding_all rfl)) (si_cons
      q_bad
      si_nil) si_nil)
    (si_cons
    (q_sfld G Γ.ct (q_var 0) (q_var 1))
    (si_cons
    (q_sfld G Γ.ct (q_var 0) (q_callTy (ci_tup G.K) Γ.n_tuple (q_cons (q_var 2) ai_nil)))
    (si_cons
    (q_sfld G Γ.ct (q_var 0) (q_callTy (ci_tup G.K) Γ.n_tuple (q_cons (pi_fz (q_callB (ci_sorted G.K (G.u 100)) Γ.n_sorted (q_cons (q_var 2) ai_nil))) ai_nil)))
    (si_cons
    (q_sfld G Γ.ct (q_var 0) (q_call G tk (ok_ways_of Γ) Γ.m_ways_of Γ.k4 Γ.b4 (q_cons (q_var 2) ai_nil)))
    (si_cons
    (q_sfld G Γ.ct (q_var 0) (q_call G tk (ok_plain_text Γ) Γ.m_plain_text Γ.k6 Γ.b6 (q_cons (q_var 2) ai_nil)))
    (si_cons
    (q_sfld G Γ.ct (q_var 0) (q_call G tk (ok_letters_of Γ) Γ.m_letters_of Γ.k7 Γ.b7 (q_cons (q_var 2) ai_nil)))
    si_nil))))))))
  exact body_of (N := N_Web___init__) (np := 2) body (fun _ _ => rfl) (spI_fz hsp)
theorem ok_check_web (Γ : Facts K mg W A) : FnG P w K mg base 1 (A.f 9) (A.d 9) ["value"] (spI W 1 cf_check_web) := by
  refine Fun_okG Γ.f9 sc_check_web spI_len fun cdv A₁ outer s H vs Q E hr hg hsp => ?_
  have G : Gd (cxG P w K mg base N_check_web "check_web" (defScope s_check_web) (A.f 9) cdv A₁ outer s H E) W 0 := ⟨Γ.hW.symm, hr, hg, rfl, sc_check_web.nd⟩
  have tk : Takes (cxG P w K mg base N_check_web "check_web" (defScope s_check_web) (A.f 9) cdv A₁ outer s H E) (fun cls dd _ H => E cls dd H) := takes_cx
  have body : PSs (cxG P w K mg base N_check_web "check_web" (defScope s_check_web) (A.f 9) cdv A₁ outer s H E) (defBody s_check_web) (tS W (fun cls dd _ H => E cls dd H) f_check_web) :=
    (si_cons
    (si_if (pt_notI (q_tru G (pi_isi G.K (.own _) (pe_glob (v := .ref _) rfl Γ.mc0 rfl rfl) (fun g b h => Γ.tb_Web (g, b) h) (fun c b h => Γ.tbo_Web (.own c, b) h) rfl Γ.n_isinstance (by decide +kernel) (q_var 0) (by decide) rfl rfl rfl rfl))) (si_cons
      q_bad
      si_nil) si_nil)
    si_nil)
  exact body_of (N := N_check_web) (np := 1) body (fun _ _ => rfl) (spI_fz hsp)
theorem ok_is_word (Γ : Facts K mg W A) : FnG P w K mg base 1 (A.f 10) (A.d 10) ["value"] (spI W 1 cf_is_word) := by
  refine Fun_okG Γ.f10 sc_is_word spI_len fun cdv A₁ outer s H vs Q E hr hg hsp => ?_
  have G : Gd (cxG P w K mg base N_is_word "is_word" (defScope s_is_word) (A.f 10) cdv A₁ outer s H E) W 0 := ⟨Γ.hW.symm, hr, hg, rfl, sc_is_word.nd⟩
  have tk : Takes (cxG P w K mg base N_is_word "is_word" (defScope s_is_word) (A.f 10) cdv A₁ outer s H E) (fun cls dd _ H => E cls dd H) := takes_cx
  have body : PSs (cxG P w K mg base N_is_word "is_word" (defScope s_is_word) (A.f 10) cdv A₁ outer s H E) (defBody s_is_word) (tS W (fun cls dd _ H => E cls dd H) f_is_word) :=
    (si_cons
    (si_if (PW.pt (wi_or (pt_notI (q_tru G (pi_isi G.K (.ty _) (pe_bltn (v := .ty "str") rfl Γ.n_str (by decide +kernel) rfl (by decide) rfl) (fun g b h => Γ.tb_str (g, b) h) (fun c b h => Γ.tbo_str (.own c, b) h) rfl Γ.n_isinstance (by decide +kernel) (q_var 0) (by decide) rfl rfl rfl rfl))) (wi_or1 (pt_notI (pi_tchain op_le op_le os_le os_le q_int (q_callB (ci_len G.K) Γ.n_len (q_cons (q_var 0) ai_nil)) (g_MOST_WORD Γ rfl rfl) (by with_unfolding_all rfl)))))) (si_cons
      (si_ret q_bl)
      si_nil) si_nil)
    (si_cons
    (si_ret (q_callB (ci_all G.K G.calm) Γ.n_all (q_cons (pi_fz (q_lc G 1000 [("sign", 1)] (q_val G (q_var 0)) (fun _ _ _ _ _ => (q_name G.blk 1 [1])) (fun _ _ _ _ _ => q_yes) (fun _ _ _ _ _ => (pi_cmp (or_in (G.blk.K) (G.blk.u 65)) os_in (q_var 1) (g_MARKS Γ rfl rfl) (by with_unfolding_all rfl))))) ai_nil)))
    si_nil))
  exact body_of (N := N_is_word) (np := 1) body (fun _ _ => rfl) (spI_fz hsp)
theorem ok_check_word (Γ : Facts K mg W A) : FnG P w K mg base 2 (A.f 11) (A.d 11) ["value"] (spI W 1 cf_check_word) := by
  refine Fun_okG Γ.f11 sc_check_word spI_len fun cdv A₁ outer s H vs Q E hr hg hsp => ?_
  have G : Gd (cxG P w K mg base N_check_word "check_word" (defScope s_check_word) (A.f 11) cdv A₁ outer s H E) W 1 := ⟨Γ.hW.symm, hr, hg, rfl, sc_check_word.nd⟩
  have tk : Takes (cxG P w K mg base N_check_word "check_word" (defScope s_check_word) (A.f 11) cdv A₁ outer s H E) (fun cls dd _ H => E cls dd H) := takes_cx
  have body : PSs (cxG P w K mg base N_check_word "check_word" (defScope s_check_word) (A.f 11) cdv A₁ outer s H E) (defBody s_check_word) (tS W (fun cls dd _ H => E cls dd H) f_check_word) :=
    (si_cons
    (si_if (pt_notI (q_tru G (q_call G tk (ok_is_word Γ) Γ.m_is_word Γ.k10 Γ.b10 (q_cons (q_var 0) ai_nil)))) (si_cons
      q_bad
      si_nil) si_nil)
    si_nil)
  exact body_of (N := N_check_word) (np := 1) body (fun _ _ => rfl) (spI_fz hsp)
theorem ok_end_of (Γ : Facts K mg W A) : FnG P w K mg base 1 (A.f 12) (A.d 12) ["ways", "house", "word"] (spI W 3 cf_end_of) := by
  refine Fun_okG Γ.f12 sc_end_of spI_len fun cdv A₁ outer s H vs Q E hr hg hsp => ?_
  have G : Gd (cxG P w K mg base N_end_of "end_of" (defScope s_end_of) (A.f 12) cdv A₁ outer s H E) W 0 := ⟨Γ.hW.symm, hr, hg, rfl, sc_end_of.nd⟩
  have tk : Takes (cxG P w K mg base N_end_of "end_of" (defScope s_end_of) (A.f 12) cdv A₁ outer s H E) (fun cls dd _ H => E cls dd H) := takes_cx
  have body : PSs (cxG P w K mg base N_end_of "end_of" (defScope s_end_of) (A.f 12) cdv A₁ outer s H E) (defBody s_end_of) (tS W (fun cls dd _ H => E cls dd H) f_end_of) :=
    (si_cons
    (q_for G 1000 own_cx (q_val G (q_var 2)) (q_name G 3 [3]) (si_cons
      (si_if (pi_tcmp (or_nin (G.K) (G.u 65)) os_nin (q_var 3) (q_ix G (q_var 0) (q_var 1)) (by with_unfolding_all rfl)) (si_cons
        (si_ret q_non)
        si_nil) si_nil)
      (si_cons
      (q_set G 1 (q_ix G (q_ix G (q_var 0) (q_var 1)) (q_var 3)))
      si_nil)))
    (si_cons
    (si_ret (q_var 1))
    si_nil))
  exact body_of (N := N_end_of) (np := 3) body (fun _ _ => rfl) (spI_fz hsp)
theorem ok_led_by (Γ : Facts K mg W A) : FnG P w K mg base 2 (A.f 13) (A.d 13) ["ways", "word"] (spI W 2 cf_led_by) := by
  refine Fun_okG Γ.f13 sc_led_by spI_len fun cdv A₁ outer s H vs Q E hr hg hsp => ?_
  have G : Gd (cxG P w K mg base N_led_by "led_by" (defScope s_led_by) (A.f 13) cdv A₁ outer s H E) W 1 := ⟨Γ.hW.symm, hr, hg, rfl, sc_led_by.nd⟩
  have tk : Takes (cxG P w K mg base N_led_by "led_by" (defScope s_led_by) (A.f 13) cdv A₁ outer s H E) (fun cls dd _ H => E cls dd H) := takes_cx
  have body : PSs (cxG P w K mg base N_led_by "led_by" (defScope s_led_by) (A.f 13) cdv A₁ outer s H E) (defBody s_led_by) (tS W (fun cls dd _ H => E cls dd H) f_led_by) :=
    (si_cons
    (q_setLcZ G 1000 [("house", 3)] 2 (q_rng1 Γ.n_range (q_cons (q_callB (ci_len G.K) Γ.n_len (q_cons (q_var 0) ai_nil)) ai_nil)) (fun _ _ _ _ _ => (q_name G.blk 3 [3])) (fun _ _ _ _ _ => q_yes) (fun _ _ _ _ _ => (pi_tup (q_cons (q_var 3) (q_cons (q_call G.blk takes_no (ok_end_of Γ) Γ.m_end_of Γ.k12 Γ.b12 (q_cons (q_var 0) (q_cons (q_var 3) (q_cons (q_var 1) ai_nil)))) ai_nil)))))
    (si_cons
    (si_ret (pi_fz (q_lc G 1000 [("pair", 4)] (q_val G (q_var 2)) (fun _ _ _ _ _ => (q_name G.blk 4 [4])) (fun _ _ _ _ _ => (q_one (pi_tcmp or_isnt os_isnt (q_ix G.blk (q_var 4) q_int) q_non (by with_unfolding_all rfl)))) (fun _ _ _ _ _ => (q_var 4)))))
    si_nil))
  exact body_of (N := N_led_by) (np := 2) body (fun _ _ => rfl) (spI_fz hsp)
theorem ok_led (Γ : Facts K mg W A) : FnG P w K mg base 3 (A.f 14) (A.d 14) ["web", "word"] (spI W 2 cf_led) := by
  refine Fun_okG Γ.f14 sc_led spI_len fun cdv A₁ outer s H vs Q E hr hg hsp => ?_
  have G : Gd (cxG P w K mg base N_led "led" (defScope s_led) (A.f 14) cdv A₁ outer s H E) W 2 := ⟨Γ.hW.symm, hr, hg, rfl, sc_led.nd⟩
  have tk : Takes (cxG P w K mg base N_led "led" (defScope s_led) (A.f 14) cdv A₁ outer s H E) (fun cls dd _ H => E cls dd H) := takes_cx
  have body : PSs (cxG P w K mg base N_led "led" (defScope s_led) (A.f 14) cdv A₁ outer s H E) (defBody s_led) (tS W (fun cls dd _ H => E cls dd H) f_led) :=
    (si_cons
    (q_exp (q_call G tk (ok_check_web Γ) Γ.m_check_web Γ.k9 Γ.b9 (q_cons (q_var 0) ai_nil)))
    (si_cons
    (q_exp (q_call G tk (ok_check_word Γ) Γ.m_check_word Γ.k11 Γ.b11 (q_cons (q_var 1) ai_nil)))
    (si_cons
    (si_ret (q_callTy (ci_tup G.K) Γ.n_tuple (q_cons (q_call G tk (ok_led_by Γ) Γ.m_led_by Γ.k13 Γ.b13 (q_cons (q_fld (call := call0) (nps := nps) (fn := A.fn) (ct := ct) G Γ.ct (q_var 0)) (q_cons (q_var 1) ai_nil))) ai_nil)))
    si_nil)))
  exact body_of (N := N_led) (np := 2) body (fun _ _ => rfl) (spI_fz hsp)
theorem ok_is_between (Γ : Facts K mg W A) : FnG P w K mg base 1 (A.f 15) (A.d 15) ["value", "least", "most"] (spI W 3 cf_is_between) := by
  refine Fun_okG Γ.f15 sc_is_between spI_len fun cdv A₁ outer s H vs Q E hr hg hsp => ?_
  have G : Gd (cxG P w K mg base N_is_between "is_between" (defScope s_is_between) (A.f 15) cdv A₁ outer s H E) W 0 := ⟨Γ.hW.symm, hr, hg, rfl, sc_is_between.nd⟩
  have tk : Takes (cxG P w K mg base N_is_between "is_between" (defScope s_is_between) (A.f 15) cdv A₁ outer s H E) (fun cls dd _ H => E cls dd H) := takes_cx
  have body : PSs (cxG P w K mg base N_is_between "is_between" (defScope s_is_between) (A.f 15) cdv A₁ outer s H E) (defBody s_is_between) (tS W (fun cls dd _ H => E cls dd H) f_is_between) :=
    (si_cons
    (si_if (PW.pt (wi_or (pt_notI (q_tru G (pi_isi G.K (.ty _) (pe_bltn (v := .ty "int") rfl Γ.n_int (by decide +kernel) rfl (by decide) rfl) (fun g b h => Γ.tb_int (g, b) h) (fun c b h => Γ.tbo_int (.own c, b) h) rfl Γ.n_isinstance (by decide +kernel) (q_var 0) (by decide) rfl rfl rfl rfl))) (wi_or (q_tru G (pi_isi G.K (.ty _) (pe_bltn (v := .ty "bool") rfl Γ.n_bool (by decide +kernel) rfl (by decide) rfl) (fun g b h => Γ.tb_bool (g, b) h) (fun c b h => Γ.tbo_bool (.own c, b) h) rfl Γ.n_isinstance (by decide +kernel) (q_var 0) (by decide) rfl rfl rfl rfl)) (wi_or1 (pi_tcmp or_lt os_lt (q_var 0) (q_var 1) (by with_unfolding_all rfl)))))) (si_cons
      (si_ret q_bl)
      si_nil) si_nil)
    (si_cons
    (si_ret (pi_or (pi_cmp or_is os_is (q_var 2) q_non (by with_unfolding_all rfl)) (q_or1 (pi_cmp op_le os_le (q_var 0) (q_var 2) (by with_unfolding_all rfl)))))
    si_nil))
  exact body_of (N := N_is_between) (np := 3) body (fun _ _ => rfl) (spI_fz hsp)
theorem ok_is_pair (Γ : Facts K mg W A) : FnG P w K mg base 2 (A.f 16) (A.d 16) ["value", "many"] (spI W 2 cf_is_pair) := by
  refine Fun_okG Γ.f16 sc_is_pair spI_len fun cdv A₁ outer s H vs Q E hr hg hsp => ?_
  have G : Gd (cxG P w K mg base N_is_pair "is_pair" (defScope s_is_pair) (A.f 16) cdv A₁ outer s H E) W 1 := ⟨Γ.hW.symm, hr, hg, rfl, sc_is_pair.nd⟩
  have tk : Takes (cxG P w K mg base N_is_pair "is_pair" (defScope s_is_pair) (A.f 16) cdv A₁ outer s H E) (fun cls dd _ H => E cls dd H) := takes_cx
  have body : PSs (cxG P w K mg base N_is_pair "is_pair" (defScope s_is_pair) (A.f 16) cdv A₁ outer s H E) (defBody s_is_pair) (tS W (fun cls dd _ H => E cls dd H) f_is_pair) :=
    (si_cons
    (si_if (PW.pt (wi_or (pt_notI (q_tru G (pi_isi G.K (.ty _) (pe_bltn (v := .ty "tuple") rfl Γ.n_tuple (by decide +kernel) rfl (by decide) rfl) (fun g b h => Γ.tb_tuple (g, b) h) (fun c b h => Γ.tbo_tuple (.own c, b) h) rfl Γ.n_isinstance (by decide +kernel) (q_var 0) (by decide) rfl rfl rfl rfl))) (wi_or1 (pi_tcmp (or_ne (G.K) (G.u 64)) os_ne (q_callB (ci_len G.K) Γ.n_len (q_cons (q_var 0) ai_nil)) q_int (by with_unfolding_all rfl))))) (si_cons
      (si_ret q_bl)
      si_nil) si_nil)
    (si_cons
    (si_ret (q_callB (ci_all G.K G.calm) Γ.n_all (q_cons (pi_fz (q_lc G 1000 [("house", 2)] (q_val G (q_var 0)) (fun _ _ _ _ _ => (q_name G.blk 2 [2])) (fun _ _ _ _ _ => q_yes) (fun _ _ _ _ _ => (q_call G.blk takes_no (ok_is_between Γ) Γ.m_is_between Γ.k15 Γ.b15 (q_cons (q_var 2) (q_cons q_int (q_cons (pi_bin op_sub os_sub (q_var 1) q_int) ai_nil))))))) ai_nil)))
    si_nil))
  exact body_of (N := N_is_pair) (np := 2) body (fun _ _ => rfl) (spI_fz hsp)
theorem ok_check_pair (Γ : Facts K mg W A) : FnG P w K mg base 3 (A.f 17) (A.d 17) ["value", "many"] (spI W 2 cf_check_pair) := by
  refine Fun_okG Γ.f17 sc_check_pair spI_len fun cdv A₁ outer s H vs Q E hr hg hsp => ?_
  have G : Gd (cxG P w K mg base N_check_pair "check_pair" (defScope s_check_pair) (A.f 17) cdv A₁ outer s H E) W 2 := ⟨Γ.hW.symm, hr, hg, rfl, sc_check_pair.nd⟩
  have tk : Takes (cxG P w K mg base N_check_pair "check_pair" (defScope s_check_pair) (A.f 17) cdv A₁ outer s H E) (fun cls dd _ H => E cls dd H) := takes_cx
  have body : PSs (cxG P w K mg base N_check_pair "check_pair" (defScope s_check_pair) (A.f 17) cdv A₁ outer s H E) (defBody s_check_pair) (tS W (fun cls dd _ H => E cls dd H) f_check_pair) :=
    (si_cons
    (si_if (pt_notI (q_tru G (q_call G tk (ok_is_pair Γ) Γ.m_is_pair Γ.k16 Γ.b16 (q_cons (q_var 0) (q_cons (q_var 1) ai_nil))))) (si_cons
      q_bad
      si_nil) si_nil)
    si_nil)
  exact body_of (N := N_check_pair) (np := 2) body (fun _ _ => rfl) (spI_fz hsp)
theorem ok_Web_houses (Γ : Facts K mg W A) : FnG P w K mg base 2 (A.f 18) (A.d 18) ["self"] (spI W 1 cf_Web_houses) := by
  refine Fun_okG Γ.f18 sc_Web_houses spI_len fun cdv A₁ outer s H vs Q E hr hg hsp => ?_
  have G : Gd (cxG P w K mg base N_Web_houses "Web.houses" (defScope s_Web_houses) (A.f 18) cdv A₁ outer s H E) W 1 := ⟨Γ.hW.symm, hr, hg, rfl, sc_Web_houses.nd⟩
  have tk : Takes (cxG P w K mg base N_Web_houses "Web.houses" (defScope s_Web_houses) (A.f 18) cdv A₁ outer s H E) (fun cls dd _ H => E cls dd H) := takes_cx
  have body : PSs (cxG P w K mg base N_Web_houses "Web.houses" (defScope s_Web_houses) (A.f 18) cdv A₁ outer s H E) (defBody s_Web_houses) (tS W (fun cls dd _ H => E cls dd H) f_Web_houses) :=
    (si_cons
    (si_ret (q_callB (ci_len G.K) Γ.n_len (q_cons (q_fld (call := call0) (nps := nps) (fn := A.fn) (ct := ct) G Γ.ct (q_var 0)) ai_nil)))
    si_nil)
  exact body_of (N := N_Web_houses) (np := 1) body (fun _ _ => rfl) (spI_fz hsp)
theorem ok_steps_of_two (Γ : Facts K mg W A) : FnG P w K mg base 1 (A.f 19) (A.d 19) ["ways", "two"] (spI W 2 cf_steps_of_two) := by
  refine Fun_okG Γ.f19 sc_steps_of_two spI_len fun cdv A₁ outer s H vs Q E hr hg hsp => ?_
  have G : Gd (cxG P w K mg base N_steps_of_two "steps_of_two" (defScope s_steps_of_two) (A.f 19) cdv A₁ outer s H E) W 0 := ⟨Γ.hW.symm, hr, hg, rfl, sc_steps_of_two.nd⟩
  have tk : Takes (cxG P w K mg base N_steps_of_two "steps_of_two" (defScope s_steps_of_two) (A.f 19) cdv A₁ outer s H E) (fun cls dd _ H => E cls dd H) := takes_cx
  have body : PSs (cxG P w K mg base N_steps_of_two "steps_of_two" (defScope s_steps_of_two) (A.f 19) cdv A₁ outer s H E) (defBody s_steps_of_two) (tS W (fun cls dd _ H => E cls dd H) f_steps_of_two) :=
    (si_cons
    (q_asg (q_var 1) (q_gtup G 2 (q_gcons (q_name G 3 [3, 4]) (q_gcons (q_name G 4 [3, 4]) gsi_nil))))
    (si_cons
    (q_set G 2 (pi_fz (q_callB (ci_sorted G.K (G.u 100)) Γ.n_sorted (q_cons (pi_fz (q_lc G 1000 [("mark", 5)] (q_val G (q_ix G (q_var 0) (q_var 3))) (fun _ _ _ _ _ => (q_name G.blk 5 [5])) (fun _ _ _ _ _ => (q_one (pi_tcmp (or_in (G.blk.K) (G.blk.u 65)) os_in (q_var 5) (q_ix G.blk (q_var 0) (q_var 4)) (by with_unfolding_all rfl)))) (fun _ _ _ _ _ => (q_var 5)))) ai_nil))))
    (si_cons
    (si_ret (pi_fz (q_lc G 1000 [("mark", 5)] (q_val G (q_var 2)) (fun _ _ _ _ _ => (q_name G.blk 5 [5])) (fun _ _ _ _ _ => q_yes) (fun _ _ _ _ _ => (pi_tup (q_cons (q_var 5) (q_cons (pi_tup (q_cons (q_ix G.blk (q_ix G.blk (q_var 0) (q_var 3)) (q_var 5)) (q_cons (q_ix G.blk (q_ix G.blk (q_var 0) (q_var 4)) (q_var 5)) ai_nil))) ai_nil)))))))
    si_nil)))
  exact body_of (N := N_steps_of_two) (np := 2) body (fun _ _ => rfl) (spI_fz hsp)
theorem ok_words_of_two (Γ : Facts K mg W A) : FnG P w K mg base 2 (A.f 20) (A.d 20) ["ways", "start"] (spI W 2 cf_words_of_two) := by
  refine Fun_okG Γ.f20 sc_words_of_two spI_len fun cdv A₁ outer s H vs Q E hr hg hsp => ?_
  have G : Gd (cxG P w K mg base N_words_of_two "words_of_two" (defScope s_words_of_two) (A.f 20) cdv A₁ outer s H E) W 1 := ⟨Γ.hW.symm, hr, hg, rfl, sc_words_of_two.nd⟩
  have tk : Takes (cxG P w K mg base N_words_of_two "words_of_two" (defScope s_words_of_two) (A.f 20) cdv A₁ outer s H E) (fun cls dd _ H => E cls dd H) := takes_cx
  have body : PSs (cxG P w K mg base N_words_of_two "words_of_two" (defScope s_words_of_two) (A.f 20) cdv A₁ outer s H E) (defBody s_words_of_two) (tS W (fun cls dd _ H => E cls dd H) f_words_of_two) :=
    (si_cons
    (q_set G 2 pi_dicT)
    (si_cons
    (q_set G 3 (pi_lst (q_cons (pi_tup (q_cons q_str (q_cons (q_var 1) ai_nil))) ai_nil)))
    (si_cons
    (q_set G 4 q_int)
    (si_cons
    (si_whl 1000 own_cx (pi_tcmp or_lt os_lt (q_var 4) (q_callB (ci_len G.K) Γ.n_len (q_cons (q_var 3) ai_nil)) (by with_unfolding_all rfl)) (si_cons
      (q_asg (q_ix G (q_var 3) (q_var 4)) (q_gtup G 2 (q_gcons (q_name G 5 [5, 6]) (q_gcons (q_name G 6 [5, 6]) gsi_nil))))
      (si_cons
      (q_for G 1000 own_cx (q_val G (q_call G tk (ok_steps_of_two Γ) Γ.m_steps_of_two Γ.k19 Γ.b19 (q_cons (q_var 0) (q_cons (q_var 6) ai_nil)))) (q_gtup G 2 (q_gcons (q_name G 7 [7, 8]) (q_gcons (q_name G 8 [7, 8]) gsi_nil))) (si_cons
        (si_if (pi_tcmp (or_nin (G.K) (G.u 65)) os_nin (q_var 8) (q_var 2) (by with_unfolding_all rfl)) (si_cons
          (q_asg (pi_bin (or_add G.K) os_add (q_var 5) (q_var 7)) (q_gsub (Wx := fun _ _ _ _ => False) G [] (q_var 2) (q_var 8)))
          (si_cons
          (q_exp (q_bm G PySem.F.plainAttrs_list PySem.F.slot_list_append PySem.F.type_list_append mi_append (q_var 3) (q_cons (pi_tup (q_cons (pi_bin (or_add G.K) os_add (q_var 5) (q_var 7)) (q_cons (q_var 8) ai_nil))) ai_nil)))
          si_nil)) si_nil)
        si_nil))
      (si_cons
      (q_aug G 4 q_int)
      si_nil))))
    (si_cons
    (si_ret (q_var 2))
    si_nil)))))
  exact body_of (N := N_words_of_two) (np := 2) body (fun _ _ => rfl) (spI_fz hsp)
theorem ok_joined (Γ : Facts K mg W A) : FnG P w K mg base 4 (A.f 21) (A.d 21) ["web", "pair", "other"] (spI W 3 cf_joined) := by
  refine Fun_okG Γ.f21 sc_joined spI_len fun cdv A₁ outer s H vs Q E hr hg hsp => ?_
  have G : Gd (cxG P w K mg base N_joined "joined" (defScope s_joined) (A.f 21) cdv A₁ outer s H E) W 3 := ⟨Γ.hW.symm, hr, hg, rfl, sc_joined.nd⟩
  have tk : Takes (cxG P w K mg base N_joined "joined" (defScope s_joined) (A.f 21) cdv A₁ outer s H E) (fun cls dd _ H => E cls dd H) := takes_cx
  have body : PSs (cxG P w K mg base N_joined "joined" (defScope s_joined) (A.f 21) cdv A₁ outer s H E) (defBody s_joined) (tS W (fun cls dd _ H => E cls dd H) f_joined) :=
    (si_cons
    (q_exp (q_call G tk (ok_check_web Γ) Γ.m_check_web Γ.k9 Γ.b9 (q_cons (q_var 0) ai_nil)))
    (si_cons
    (q_exp (q_call G tk (ok_check_pair Γ) Γ.m_check_pair Γ.k17 Γ.b17 (q_cons (q_var 1) (q_cons (q_prop (call := call1) (nps := nps) (fn := A.fn) (ct := ct) G 18 Γ.ct (ok_Web_houses Γ) Γ.b18 Γ.k18 (q_var 0)) ai_nil))))
    (si_cons
    (q_exp (q_call G tk (ok_check_pair Γ) Γ.m_check_pair Γ.k17 Γ.b17 (q_cons (q_var 2) (q_cons (q_prop (call := call1) (nps := nps) (fn := A.fn) (ct := ct) G 18 Γ.ct (ok_Web_houses Γ) Γ.b18 Γ.k18 (q_var 0)) ai_nil))))
    (si_cons
    (q_set G 3 (q_call G tk (ok_words_of_two Γ) Γ.m_words_of_two Γ.k20 Γ.b20 (q_cons (q_fld (call := call1) (nps := nps) (fn := A.fn) (ct := ct) G Γ.ct (q_var 0)) (q_cons (pi_tup (q_cons (q_ix G (q_var 1) q_int) (q_cons (q_ix G (q_var 2) q_int) ai_nil))) ai_nil))))
    (si_cons
    (si_ret (q_get1 G (q_var 3) (pi_tup (q_cons (q_ix G (q_var 1) q_int) (q_cons (q_ix G (q_var 2) q_int) ai_nil)))))
    si_nil)))))
  exact body_of (N := N_joined) (np := 3) body (fun _ _ => rfl) (spI_fz hsp)
theorem ok_unlike (Γ : Facts K mg W A) : FnG P w K mg base 4 (A.f 22) (A.d 22) ["web", "word", "other"] (spI W 3 cf_unlike) := by
  refine Fun_okG Γ.f22 sc_unlike spI_len fun cdv A₁ outer s H vs Q E hr hg hsp => ?_
  have G : Gd (cxG P w K mg base N_unlike "unlike" (defScope s_unlike) (A.f 22) cdv A₁ outer s H E) W 3 := ⟨Γ.hW.symm, hr, hg, rfl, sc_unlike.nd⟩
  have tk : Takes (cxG P w K mg base N_unlike "unlike" (defScope s_unlike) (A.f 22) cdv A₁ outer s H E) (fun cls dd _ H => E cls dd H) := takes_cx
  have body : PSs (cxG P w K mg base N_unlike "unlike" (defScope s_unlike) (A.f 22) cdv A₁ outer s H E) (defBody s_unlike) (tS W (fun cls dd _ H => E cls dd H) f_unlike) :=
    (si_cons
    (q_exp (q_call G tk (ok_check_web Γ) Γ.m_check_web Γ.k9 Γ.b9 (q_cons (q_var 0) ai_nil)))
    (si_cons
    (q_exp (q_call G tk (ok_check_word Γ) Γ.m_check_word Γ.k11 Γ.b11 (q_cons (q_var 1) ai_nil)))
    (si_cons
    (q_exp (q_call G tk (ok_check_word Γ) Γ.m_check_word Γ.k11 Γ.b11 (q_cons (q_var 2) ai_nil)))
    (si_cons
    (q_set G 3 (pi_lst ai_nil))
    (si_cons
    (q_for G 1000 own_cx (q_rng1 Γ.n_range (q_cons (q_prop (call := call1) (nps := nps) (fn := A.fn) (ct := ct) G 18 Γ.ct (ok_Web_houses Γ) Γ.b18 Γ.k18 (q_var 0)) ai_nil)) (q_name G 4 [4]) (si_cons
      (q_par G 5 6 (q_cons (q_call G tk (ok_end_of Γ) Γ.m_end_of Γ.k12 Γ.b12 (q_cons (q_fld (call := call1) (nps := nps) (fn := A.fn) (ct := ct) G Γ.ct (q_var 0)) (q_cons (q_var 4) (q_cons (q_var 1) ai_nil)))) (q_cons (q_call G tk (ok_end_of Γ) Γ.m_end_of Γ.k12 Γ.b12 (q_cons (q_fld (call := call1) (nps := nps) (fn := A.fn) (ct := ct) G Γ.ct (q_var 0)) (q_cons (q_var 4) (q_cons (q_var 2) ai_nil)))) ai_nil)))
      (si_cons
      (si_if (PW.pt (wi_and (pi_tcmp or_isnt os_isnt (q_var 5) q_non (by with_unfolding_all rfl)) (wi_and (pi_tcmp or_isnt os_isnt (q_var 6) q_non (by with_unfolding_all rfl)) (wi_and1 (pi_tcmp (or_ne (G.K) (G.u 64)) os_ne (q_var 5) (q_var 6) (by with_unfolding_all rfl)))))) (si_cons
        (q_exp (q_bm G PySem.F.plainAttrs_list PySem.F.slot_list_append PySem.F.type_list_append mi_append (q_var 3) (q_cons (q_var 4) ai_nil)))
        si_nil) si_nil)
      si_nil)))
    (si_cons
    (si_ret (q_callTy (ci_tup G.K) Γ.n_tuple (q_cons (q_var 3) ai_nil)))
    si_nil))))))
  exact body_of (N := N_unlike) (np := 3) body (fun _ _ => rfl) (spI_fz hsp)
theorem ok__law_sip (Γ : Facts K mg W A) : FnG P w K mg base 1 (A.f 23) (A.d 23) ["cup", "top"] (spI W 2 cf__law_sip) := by
  refine Fun_okG Γ.f23 sc__law_sip spI_len fun cdv A₁ outer s H vs Q E hr hg hsp => ?_
  have G : Gd (cxG P w K mg base N__law_sip "_law_sip" (defScope s__law_sip) (A.f 23) cdv A₁ outer s H E) W 0 := ⟨Γ.hW.symm, hr, hg, rfl, sc__law_sip.nd⟩
  have tk : Takes (cxG P w K mg base N__law_sip "_law_sip" (defScope s__law_sip) (A.f 23) cdv A₁ outer s H E) (fun cls dd _ H => E cls dd H) := takes_cx
  have body : PSs (cxG P w K mg base N__law_sip "_law_sip" (defScope s__law_sip) (A.f 23) cdv A₁ outer s H E) (defBody s__law_sip) (tS W (fun cls dd _ H => E cls dd H) f__law_sip) :=
    (si_cons
    (q_asg (pi_bin op_mod os_mod (q_callTy ci_int Γ.n_int (q_cons (pi_bin (or_add G.K) os_add (pi_bin or_mul os_mul (q_ix G (q_var 0) q_int) q_int) q_int) ai_nil)) q_int) (q_gsub (Wx := fun _ _ _ _ => False) G [] (q_var 0) q_int))
    (si_cons
    (si_if (pi_tcmp op_gt os_gt (q_ix G (q_var 0) q_int) q_int (by with_unfolding_all rfl)) (si_cons
      (q_asg (q_callB ci_dm Γ.n_divmod (q_cons (q_ix G (q_var 0) q_int) (q_cons (q_var 1) ai_nil))) (q_gtup G 2 (q_gcons (q_gsub (Wx := fun _ _ _ _ => False) G [2] (q_var 0) q_int) (q_gcons (q_name G 2 [2]) gsi_nil))))
      (si_cons
      (si_ret (q_var 2))
      si_nil)) si_nil)
    (si_cons
    (si_ret (pi_bin op_mod os_mod (q_callTy ci_int Γ.n_int (q_cons (pi_bin op_fdiv os_fdiv (q_ix G (q_var 0) q_int) q_int) ai_nil)) (q_var 1)))
    si_nil)))
  exact body_of (N := N__law_sip) (np := 2) body (fun _ _ => rfl) (spI_fz hsp)
theorem ok__law_pick (Γ : Facts K mg W A) : FnG P w K mg base 2 (A.f 24) (A.d 24) ["cup", "things"] (spI W 2 cf__law_pick) := by
  refine Fun_okG Γ.f24 sc__law_pick spI_len fun cdv A₁ outer s H vs Q E hr hg hsp => ?_
  have G : Gd (cxG P w K mg base N__law_pick "_law_pick" (defScope s__law_pick) (A.f 24) cdv A₁ outer s H E) W 1 := ⟨Γ.hW.symm, hr, hg, rfl, sc__law_pick.nd⟩
  have tk : Takes (cxG P w K mg base N__law_pick "_law_pick" (defScope s__law_pick) (A.f 24) cdv A₁ outer s H E) (fun cls dd _ H => E cls dd H) := takes_cx
  have body : PSs (cxG P w K mg base N__law_pick "_law_pick" (defScope s__law_pick) (A.f 24) cdv A₁ outer s H E) (defBody s__law_pick) (tS W (fun cls dd _ H => E cls dd H) f__law_pick) :=
    (si_cons
    (si_ret (q_ix G (q_var 1) (q_call G tk (ok__law_sip Γ) Γ.m__law_sip Γ.k23 Γ.b23 (q_cons (q_var 0) (q_cons (q_callB (ci_len G.K) Γ.n_len (q_cons (q_var 1) ai_nil)) ai_nil)))))
    si_nil)
  exact body_of (N := N__law_pick) (np := 2) body (fun _ _ => rfl) (spI_fz hsp)
theorem ok__law_drawn (Γ : Facts K mg W A) : FnG P w K mg base 3 (A.f 25) (A.d 25) ["cup", "most"] (spI W 2 cf__law_drawn) := by
  refine Fun_okG Γ.f25 sc__law_drawn spI_len fun cdv A₁ outer s H vs Q E hr hg hsp => ?_
  have G : Gd (cxG P w K mg base N__law_drawn "_law_drawn" (defScope s__law_drawn) (A.f 25) cdv A₁ outer s H E) W 2 := ⟨Γ.hW.symm, hr, hg, rfl, sc__law_drawn.nd⟩
  have tk : Takes (cxG P w K mg base N__law_drawn "_law_drawn" (defScope s__law_drawn) (A.f 25) cdv A₁ outer s H E) (fun cls dd _ H => E cls dd H) := takes_cx
  have body : PSs (cxG P w K mg base N__law_drawn "_law_drawn" (defScope s__law_drawn) (A.f 25) cdv A₁ outer s H E) (defBody s__law_drawn) (tS W (fun cls dd _ H => E cls dd H) f__law_drawn) :=
    (si_cons
    (q_set G 2 (pi_bin (or_add G.K) os_add q_int (q_call G tk (ok__law_sip Γ) Γ.m__law_sip Γ.k23 Γ.b23 (q_cons (q_var 0) (q_cons (pi_bin op_sub os_sub (q_var 1) q_int) ai_nil)))))
    (si_cons
    (q_setLcZ G 1000 [("last", 5)] 3 (q_rng2 Γ.n_range (q_cons q_int (q_cons (q_var 2) ai_nil))) (fun _ _ _ _ _ => (q_name G.blk 5 [5])) (fun _ _ _ _ _ => q_yes) (fun _ _ _ _ _ => (pi_tup (q_cons (q_call G.blk takes_no (ok__law_sip Γ) Γ.m__law_sip Γ.k23 Γ.b23 (q_cons (q_var 0) (q_cons (q_var 5) ai_nil))) (q_cons (q_var 5) ai_nil)))))
    (si_cons
    (q_for G 1000 own_cx (q_rng1 Γ.n_range (q_cons (q_call G tk (ok__law_sip Γ) Γ.m__law_sip Γ.k23 Γ.b23 (q_cons (q_var 0) (q_cons q_int ai_nil))) ai_nil)) (q_name G 4 [4]) (si_cons
      (q_set G 5 (pi_bin (or_add G.K) os_add q_int (q_call G tk (ok__law_sip Γ) Γ.m__law_sip Γ.k23 Γ.b23 (q_cons (q_var 0) (q_cons (pi_bin op_sub os_sub (q_var 2) q_int) ai_nil)))))
      (si_cons
      (q_set G 6 (pi_tup (q_cons (q_call G tk (ok__law_sip Γ) Γ.m__law_sip Γ.k23 Γ.b23 (q_cons (q_var 0) (q_cons (q_var 5) ai_nil))) (q_cons (q_var 5) ai_nil))))
      (si_cons
      (q_set G 3 (pi_ite (pi_tcmp (or_in (G.K) (G.u 65)) os_in (q_var 6) (q_var 3) (by with_unfolding_all rfl)) (q_var 3) (pi_fz (pi_bin (or_add G.K) os_add (q_var 3) (pi_fz (pi_lst (q_cons (q_var 6) ai_nil)))))))
      si_nil))))
    (si_cons
    (q_asg (pi_tup (q_cons (q_lc G 1000 [("house", 13)] (q_rng1 Γ.n_range (q_cons (q_var 2) ai_nil)) (fun _ _ _ _ _ => (q_name G.blk 13 [13])) (fun _ _ _ _ _ => q_yes) (fun _ _ _ _ _ => (pi_lst ai_nil))) (q_cons (pi_lst ai_nil) ai_nil))) (q_gtup G 2 (q_gcons (q_name G 7 [7, 8]) (q_gcons (q_name G 8 [7, 8]) gsi_nil))))
    (si_cons
    (q_for G 1000 own_cx (q_val G (pi_fz (q_callB (ci_sorted G.K (G.u 100)) Γ.n_sorted (q_cons (q_var 3) ai_nil)))) (q_gtup G 2 (q_gcons (q_name G 9 [5, 9]) (q_gcons (q_name G 5 [5, 9]) gsi_nil))) (si_cons
      (q_setLcZ G 1000 [("house", 13)] 10 (q_val G (pi_fz (pi_lst (q_cons (q_var 9) (q_cons (q_var 5) ai_nil))))) (fun _ _ _ _ _ => (q_name G.blk 13 [13])) (fun _ _ _ _ _ => q_yes) (fun _ _ _ _ _ => (pi_fz (pi_slice G.blk.K (pi_fz (q_lc G.blk 1000 [("mark", 14)] (q_val G.blk q_str) (fun _ _ _ _ _ => (q_name G.blk.blk 14 [14])) (fun _ _ _ _ _ => (q_one (pi_tcmp (or_nin (G.blk.blk.K) (G.blk.blk.u 65)) os_nin (q_var 14) (q_ix G.blk.blk (q_var 7) (q_var 13)) (by with_unfolding_all rfl)))) (fun _ _ _ _ _ => (q_var 14)))) oi_no (oi_int (pi_bin (or_add G.blk.K) os_add q_int (q_call G.blk takes_no (ok__law_sip Γ) Γ.m__law_sip Γ.k23 Γ.b23 (q_cons (q_var 0) (q_cons q_int ai_nil)))))))))
      (si_cons
      (q_par G 11 12 (q_cons (q_call G tk (ok__law_pick Γ) Γ.m__law_pick Γ.k24 Γ.b24 (q_cons (q_var 0) (q_cons (q_ix G (q_var 10) q_int) ai_nil))) (q_cons (q_call G tk (ok__law_pick Γ) Γ.m__law_pick Γ.k24 Γ.b24 (q_cons (q_var 0) (q_cons (q_ix G (q_var 10) q_int) ai_nil))) ai_nil)))
      (si_cons
      (q_exp (q_bm G PySem.F.plainAttrs_list PySem.F.slot_list_append PySem.F.type_list_append mi_append (q_ix G (q_var 7) (q_var 9)) (q_cons (q_var 11) ai_nil)))
      (si_cons
      (q_exp (q_bm G PySem.F.plainAttrs_list PySem.F.slot_list_append PySem.F.type_list_append mi_append (q_ix G (q_var 7) (q_var 5)) (q_cons (q_var 12) ai_nil)))
      (si_cons
      (q_exp (q_bm G PySem.F.plainAttrs_list PySem.F.slot_list_append PySem.F.type_list_append mi_append (q_var 8) (q_cons (pi_tup (q_cons (q_var 9) (q_cons (q_var 11) (q_cons (q_var 5) (q_cons (q_var 12) ai_nil))))) ai_nil)))
      si_nil))))))
    (si_cons
    (si_ret (q_var 8))
    si_nil))))))
  exact body_of (N := N__law_drawn) (np := 2) body (fun _ _ => rfl) (spI_fz hsp)
theorem ok__law_ways (Γ : Facts K mg W A) : FnG P w K mg base 1 (A.f 26) (A.d 26) ["told"] (spI W 1 cf__law_ways) := by
  refine Fun_okG Γ.f26 sc__law_ways spI_len fun cdv A₁ outer s H vs Q E hr hg hsp => ?_
  have G : Gd (cxG P w K mg base N__law_ways "_law_ways" (defScope s__law_ways) (A.f 26) cdv A₁ outer s H E) W 0 := ⟨Γ.hW.symm, hr, hg, rfl, sc__law_ways.nd⟩
  have tk : Takes (cxG P w K mg base N__law_ways "_law_ways" (defScope s__law_ways) (A.f 26) cdv A₁ outer s H E) (fun cls dd _ H => E cls dd H) := takes_cx
  have body : PSs (cxG P w K mg base N__law_ways "_law_ways" (defScope s__law_ways) (A.f 26) cdv A₁ outer s H E) (defBody s__law_ways) (tS W (fun cls dd _ H => E cls dd H) f__law_ways) :=
    (si_cons
    (q_setLc G 1000 [("house", 6)] 1 (q_rng1 Γ.n_range (q_cons (pi_bin (or_add G.K) os_add q_int (q_callB (ci_maxL G.K G.calm) Γ.n_max (q_cons (pi_fz (q_lc G 1000 [("tie", 7)] (q_val G (q_var 0)) (fun _ _ _ _ _ => (q_name G.blk 7 [7])) (fun _ _ _ _ _ => q_yes) (fun _ _ _ _ _ => (q_ix G.blk (q_var 7) q_int)))) ai_nil))) ai_nil)) (fun _ _ _ _ _ => (q_name G.blk 6 [6])) (fun _ _ _ _ _ => q_yes) (fun _ _ _ _ _ => pi_dicK))
    (si_cons
    (q_for G 1000 own_cx (q_val G (q_var 0)) (q_gtup G 4 (q_gcons (q_name G 2 [2, 3, 4, 5]) (q_gcons (q_name G 3 [2, 3, 4, 5]) (q_gcons (q_name G 4 [2, 3, 4, 5]) (q_gcons (q_name G 5 [2, 3, 4, 5]) gsi_nil))))) (si_cons
      (q_asg (q_var 4) (q_gsub (Wx := fun _ _ _ _ => False) G [] (q_ix G (q_var 1) (q_var 2)) (q_var 3)))
      (si_cons
      (q_asg (q_var 2) (q_gsub (Wx := fun _ _ _ _ => False) G [] (q_ix G (q_var 1) (q_var 4)) (q_var 5)))
      si_nil)))
    (si_cons
    (si_ret (q_var 1))
    si_nil)))
  exact body_of (N := N__law_ways) (np := 1) body (fun _ _ => rfl) (spI_fz hsp)
theorem ok__law_walk (Γ : Facts K mg W A) : FnG P w K mg base 1 (A.f 27) (A.d 27) ["ways_here", "start", "letters"] (spI W 3 cf__law_walk) := by
  refine Fun_okG Γ.f27 sc__law_walk spI_len fun cdv A₁ outer s H vs Q E hr hg hsp => ?_
  have G : Gd (cxG P w K mg base N__law_walk "_law_walk" (defScope s__law_walk) (A.f 27) cdv A₁ outer s H E) W 0 := ⟨Γ.hW.symm, hr, hg, rfl, sc__law_walk.nd⟩
  have tk : Takes (cxG P w K mg base N__law_walk "_law_walk" (defScope s__law_walk) (A.f 27) cdv A₁ outer s H E) (fun cls dd _ H => E cls dd H) := takes_cx
  have body : PSs (cxG P w K mg base N__law_walk "_law_walk" (defScope s__law_walk) (A.f 27) cdv A₁ outer s H E) (defBody s__law_walk) (tS W (fun cls dd _ H => E cls dd H) f__law_walk) :=
    (si_cons
    (q_for G 1000 own_cx (q_val G (q_var 2)) (q_name G 3 [3]) (si_cons
      (si_if (pi_tcmp (or_nin (G.K) (G.u 65)) os_nin (q_var 3) (q_ix G (q_var 0) (q_var 1)) (by with_unfolding_all rfl)) (si_cons
        (si_ret q_non)
        si_nil) si_nil)
      (si_cons
      (q_set G 1 (q_ix G (q_ix G (q_var 0) (q_var 1)) (q_var 3)))
      si_nil)))
    (si_cons
    (si_ret (q_var 1))
    si_nil))
  exact body_of (N := N__law_walk) (np := 3) body (fun _ _ => rfl) (spI_fz hsp)
theorem ok__law_shortest (Γ : Facts K mg W A) : FnG P w K mg base 1 (A.f 28) (A.d 28) ["ways_here", "pair", "other"] (spI W 3 cf__law_shortest) := by
  refine Fun_okG Γ.f28 sc__law_shortest spI_len fun cdv A₁ outer s H vs Q E hr hg hsp => ?_
  have G : Gd (cxG P w K mg base N__law_shortest "_law_shortest" (defScope s__law_shortest) (A.f 28) cdv A₁ outer s H E) W 0 := ⟨Γ.hW.symm, hr, hg, rfl, sc__law_shortest.nd⟩
  have tk : Takes (cxG P w K mg base N__law_shortest "_law_shortest" (defScope s__law_shortest) (A.f 28) cdv A₁ outer s H E) (fun cls dd _ H => E cls dd H) := takes_cx
  have body : PSs (cxG P w K mg base N__law_shortest "_law_shortest" (defScope s__law_shortest) (A.f 28) cdv A₁ outer s H E) (defBody s__law_shortest) (tS W (fun cls dd _ H => E cls dd H) f__law_shortest) :=
    (si_cons
    (q_asg (pi_tup (q_cons (pi_fz (pi_lst (q_cons (pi_tup (q_cons (q_ix G (q_var 1) q_int) (q_cons (q_ix G (q_var 2) q_int) ai_nil))) ai_nil))) (q_cons (pi_fz (pi_lst ai_nil)) ai_nil))) (q_gtup G 2 (q_gcons (q_name G 4 [4, 5]) (q_gcons (q_name G 5 [4, 5]) gsi_nil))))
    (si_cons
    (q_for G 1000 own_cx (q_rng2 Γ.n_range (q_cons q_int (q_cons q_int ai_nil))) (q_name G 3 [3]) (si_cons
      (q_set G 6 (pi_lst ai_nil))
      (si_cons
      (q_for G 1000 own_cx (q_val G (q_var 4)) (q_gtup G 2 (q_gcons (q_name G 7 [7, 8]) (q_gcons (q_name G 8 [7, 8]) gsi_nil))) (si_cons
        (q_for G 1000 own_cx (q_val G q_str) (q_name G 9 [9]) (si_cons
          (si_if (PW.pt (wi_and (pi_tcmp (or_in (G.K) (G.u 65)) os_in (q_var 9) (q_ix G (q_var 0) (q_var 7)) (by with_unfolding_all rfl)) (wi_and1 (pi_tcmp (or_in (G.K) (G.u 65)) os_in (q_var 9) (q_ix G (q_var 0) (q_var 8)) (by with_unfolding_all rfl))))) (si_cons
            (q_exp (q_bm G PySem.F.plainAttrs_list PySem.F.slot_list_append PySem.F.type_list_append mi_append (q_var 6) (q_cons (pi_tup (q_cons (q_ix G (q_ix G (q_var 0) (q_var 7)) (q_var 9)) (q_cons (q_ix G (q_ix G (q_var 0) (q_var 8)) (q_var 9)) ai_nil))) ai_nil)))
            si_nil) si_nil)
          si_nil))
        si_nil))
      (si_cons
      (si_if (pi_tcmp (or_in (G.K) (G.u 65)) os_in (pi_tup (q_cons (q_ix G (q_var 1) q_int) (q_cons (q_ix G (q_var 2) q_int) ai_nil))) (q_var 6) (by with_unfolding_all rfl)) (si_cons
        (si_ret (q_var 3))
        si_nil) si_nil)
      (si_cons
      (q_setLcZ G 1000 [("two", 8)] 4 (q_val G (pi_fz (q_ssT G Γ.n_sorted Γ.n_set (q_cons (q_var 6) ai_nil)))) (fun _ _ _ _ _ => (q_name G.blk 8 [8])) (fun _ _ _ _ _ => (q_one (pi_tcmp (or_nin (G.blk.K) (G.blk.u 65)) os_nin (q_var 8) (q_var 5) (by with_unfolding_all rfl)))) (fun _ _ _ _ _ => (q_var 8)))
      (si_cons
      (q_set G 5 (pi_fz (pi_bin (or_add G.K) os_add (q_var 5) (q_var 4))))
      si_nil))))))
    (si_cons
    (si_ret q_int)
    si_nil)))
  exact body_of (N := N__law_shortest) (np := 3) body (fun _ _ => rfl) (spI_fz hsp)
theorem ok__law_text (Γ : Facts K mg W A) : FnG P w K mg base 1 (A.f 29) (A.d 29) ["told"] (spI W 1 cf__law_text) := by
  refine Fun_okG Γ.f29 sc__law_text spI_len fun cdv A₁ outer s H vs Q E hr hg hsp => ?_
  have G : Gd (cxG P w K mg base N__law_text "_law_text" (defScope s__law_text) (A.f 29) cdv A₁ outer s H E) W 0 := ⟨Γ.hW.symm, hr, hg, rfl, sc__law_text.nd⟩
  have tk : Takes (cxG P w K mg base N__law_text "_law_text" (defScope s__law_text) (A.f 29) cdv A₁ outer s H E) (fun cls dd _ H => E cls dd H) := takes_cx
  have body : PSs (cxG P w K mg base N__law_text "_law_text" (defScope s__law_text) (A.f 29) cdv A₁ outer s H E) (defBody s__law_text) (tS W (fun cls dd _ H => E cls dd H) f__law_text) :=
    (si_cons
    (si_ret (q_bm G PySem.F.plainAttrs_str PySem.F.slot_str_join PySem.F.type_str_join (mi_join G.K) q_str (q_cons (pi_fz (q_lc G 1000 [("tie", 1)] (q_val G (q_var 0)) (fun _ _ _ _ _ => (q_name G.blk 1 [1])) (fun _ _ _ _ _ => q_yes) (fun _ _ _ _ _ => (q_bm G.blk PySem.F.plainAttrs_str PySem.F.slot_str_join PySem.F.type_str_join (mi_join G.blk.K) q_str (q_cons (pi_fz (q_lc G.blk 1000 [("part", 2)] (q_val G.blk (q_var 1)) (fun _ _ _ _ _ => (q_name G.blk.blk 2 [2])) (fun _ _ _ _ _ => q_yes) (fun _ _ _ _ _ => (q_callTy ci_str Γ.n_str (q_cons (q_var 2) ai_nil))))) ai_nil))))) ai_nil)))
    si_nil)
  exact body_of (N := N__law_text) (np := 1) body (fun _ _ => rfl) (spI_fz hsp)
theorem ok_Web_marks (Γ : Facts K mg W A) : FnG P w K mg base 2 (A.f 30) (A.d 30) ["self"] (spI W 1 cf_Web_marks) := by
  refine Fun_okG Γ.f30 sc_Web_marks spI_len fun cdv A₁ outer s H vs Q E hr hg hsp => ?_
  have G : Gd (cxG P w K mg base N_Web_marks "Web.marks" (defScope s_Web_marks) (A.f 30) cdv A₁ outer s H E) W 1 := ⟨Γ.hW.symm, hr, hg, rfl, sc_Web_marks.nd⟩
  have tk : Takes (cxG P w K mg base N_Web_marks "Web.marks" (defScope s_Web_marks) (A.f 30) cdv A₁ outer s H E) (fun cls dd _ H => E cls dd H) := takes_cx
  have body : PSs (cxG P w K mg base N_Web_marks "Web.marks" (defScope s_Web_marks) (A.f 30) cdv A₁ outer s H E) (defBody s_Web_marks) (tS W (fun cls dd _ H => E cls dd H) f_Web_marks) :=
    (si_cons
    (si_ret (q_fld (call := call1) (nps := nps) (fn := A.fn) (ct := ct) G Γ.ct (q_var 0)))
    si_nil)
  exact body_of (N := N_Web_marks) (np := 1) body (fun _ _ => rfl) (spI_fz hsp)
theorem ok__law_right (Γ : Facts K mg W A) : FnG P w K mg base 11 (A.f 31) (A.d 31) ["cup"] (spI W 1 cf__law_right) := by
  refine Fun_okG Γ.f31 sc__law_right spI_len fun cdv A₁ outer s H vs Q E hr hg hsp => ?_
  have G : Gd (cxG P w K mg base N__law_right "_law_right" (defScope s__law_right) (A.f 31) cdv A₁ outer s H E) W 10 := ⟨Γ.hW.symm, hr, hg, rfl, sc__law_right.nd⟩
  have tk : Takes (cxG P w K mg base N__law_right "_law_right" (defScope s__law_right) (A.f 31) cdv A₁ outer s H E) (fun cls dd _ H => E cls dd H) := takes_cx
  have body : PSs (cxG P w K mg base N__law_right "_law_right" (defScope s__law_right) (A.f 31) cdv A₁ outer s H E) (defBody s__law_right) (tS W (fun cls dd _ H => E cls dd H) f__law_right) :=
    (si_cons
    (q_for G 1000 own_cx (q_rng1 Γ.n_range (q_cons q_int ai_nil)) (q_name G 1 [1]) (si_cons
      (q_set G 2 (q_call G tk (ok__law_drawn Γ) Γ.m__law_drawn Γ.k25 Γ.b25 (q_cons (q_var 0) (q_cons q_int ai_nil))))
      (si_cons
      (q_asg (pi_tup (q_cons (pi_fz (q_make G tk 0 Γ.mk0 (ok_Web___init__ Γ) Γ.mc0 Γ.b8 (q_cons (q_call G tk (ok__law_text Γ) Γ.m__law_text Γ.k29 Γ.b29 (q_cons (q_var 2) ai_nil)) ai_nil))) (q_cons (q_call G tk (ok__law_ways Γ) Γ.m__law_ways Γ.k26 Γ.b26 (q_cons (q_var 2) ai_nil)) ai_nil))) (q_gtup G 2 (q_gcons (q_name G 11 [11, 12]) (q_gcons (q_name G 12 [11, 12]) gsi_nil))))
      (si_cons
      (q_set G 3 (q_bm G PySem.F.plainAttrs_str PySem.F.slot_str_join PySem.F.type_str_join (mi_join G.K) q_str (q_cons (pi_fz (q_lc G 1000 [("step", 16)] (q_rng1 Γ.n_range (q_cons (pi_bin (or_add G.K) os_add q_int (q_call G tk (ok__law_sip Γ) Γ.m__law_sip Γ.k23 Γ.b23 (q_cons (q_var 0) (q_cons q_int ai_nil)))) ai_nil)) (fun _ _ _ _ _ => (q_name G.blk 16 [16])) (fun _ _ _ _ _ => q_yes) (fun _ _ _ _ _ => (q_call G.blk takes_no (ok__law_pick Γ) Γ.m__law_pick Γ.k24 Γ.b24 (q_cons (q_var 0) (q_cons (pi_fz (q_callTy (ci_listS G.blk.calm) Γ.n_list (q_cons (q_prop (call := call2) (nps := nps) (fn := A.fn) (ct := ct) G.blk 30 Γ.ct (ok_Web_marks Γ) Γ.b30 Γ.k30 (q_var 11)) ai_nil))) ai_nil)))))) ai_nil)))
      (si_cons
      (q_set G 4 (q_bm G PySem.F.plainAttrs_str PySem.F.slot_str_join PySem.F.type_str_join (mi_join G.K) q_str (q_cons (pi_fz (q_lc G 1000 [("step", 16)] (q_rng1 Γ.n_range (q_cons (pi_bin (or_add G.K) os_add q_int (q_call G tk (ok__law_sip Γ) Γ.m__law_sip Γ.k23 Γ.b23 (q_cons (q_var 0) (q_cons q_int ai_nil)))) ai_nil)) (fun _ _ _ _ _ => (q_name G.blk 16 [16])) (fun _ _ _ _ _ => q_yes) (fun _ _ _ _ _ => (q_call G.blk takes_no (ok__law_pick Γ) Γ.m__law_pick Γ.k24 Γ.b24 (q_cons (q_var 0) (q_cons (pi_fz (q_callTy (ci_listS G.blk.calm) Γ.n_list (q_cons (q_prop (call := call2) (nps := nps) (fn := A.fn) (ct := ct) G.blk 30 Γ.ct (ok_Web_marks Γ) Γ.b30 Γ.k30 (q_var 11)) ai_nil))) ai_nil)))))) ai_nil)))
      (si_cons
      (q_set G 5 (pi_fz (q_lc G 1000 [("spot", 15)] (q_rng1 Γ.n_range (q_cons (q_prop (call := call2) (nps := nps) (fn := A.fn) (ct := ct) G 18 Γ.ct (ok_Web_houses Γ) Γ.b18 Γ.k18 (q_var 11)) ai_nil)) (fun _ _ _ _ _ => (q_name G.blk 15 [15])) (fun _ _ _ _ _ => q_yes) (fun _ _ _ _ _ => (q_call G.blk takes_no (ok__law_walk Γ) Γ.m__law_walk Γ.k27 Γ.b27 (q_cons (q_var 12) (q_cons (q_var 15) (q_cons (q_var 3) ai_nil))))))))
      (si_cons
      (q_set G 6 (pi_fz (q_lc G 1000 [("spot", 15)] (q_rng1 Γ.n_range (q_cons (q_prop (call := call2) (nps := nps) (fn := A.fn) (ct := ct) G 18 Γ.ct (ok_Web_houses Γ) Γ.b18 Γ.k18 (q_var 11)) ai_nil)) (fun _ _ _ _ _ => (q_name G.blk 15 [15])) (fun _ _ _ _ _ => q_yes) (fun _ _ _ _ _ => (q_call G.blk takes_no (ok__law_walk Γ) Γ.m__law_walk Γ.k27 Γ.b27 (q_cons (q_var 12) (q_cons (q_var 15) (q_cons (q_var 4) ai_nil))))))))
      (si_cons
      (q_set G 7 (q_callTy (ci_tup G.K) Γ.n_tuple (q_cons (pi_fz (q_lc G 1000 [("spot", 15)] (q_rng1 Γ.n_range (q_cons (q_prop (call := call2) (nps := nps) (fn := A.fn) (ct := ct) G 18 Γ.ct (ok_Web_houses Γ) Γ.b18 Γ.k18 (q_var 11)) ai_nil)) (fun _ _ _ _ _ => (q_name G.blk 15 [15])) (fun _ _ _ _ _ => (q_one (pi_tcmp or_isnt os_isnt (q_ix G.blk (q_var 5) (q_var 15)) q_non (by with_unfolding_all rfl)))) (fun _ _ _ _ _ => (pi_tup (q_cons (q_var 15) (q_cons (q_ix G.blk (q_var 5) (q_var 15)) ai_nil)))))) ai_nil)))
      (si_cons
      (si_if (pi_tcmp (or_ne (G.K) (G.u 64)) os_ne (pi_fz (pi_lst (q_cons (q_call G tk (ok_led Γ) Γ.m_led Γ.k14 Γ.b14 (q_cons (q_var 11) (q_cons (q_var 3) ai_nil))) (q_cons (q_callK0 G tk [1, 0] ["word", "web"] (ok_led Γ) Γ.m_led Γ.k14 Γ.kw0 (ki_cons (q_var 3) (ki_cons (q_var 11) ki_nil))) ai_nil)))) (pi_fz (pi_lst (q_cons (q_var 7) (q_cons (q_var 7) ai_nil)))) (by with_unfolding_all rfl)) (si_cons
        (si_ret q_bl)
        si_nil) si_nil)
      (si_cons
      (q_setLcZ G 1000 [("spot", 15)] 8 (q_rng1 Γ.n_range (q_cons (q_prop (call := call2) (nps := nps) (fn := A.fn) (ct := ct) G 18 Γ.ct (ok_Web_houses Γ) Γ.b18 Γ.k18 (q_var 11)) ai_nil)) (fun _ _ _ _ _ => (q_name G.blk 15 [15])) (fun _ _ _ _ _ => (q_one (PW.pt (wi_and (pi_tcmp or_isnt os_isnt (q_ix G.blk (q_var 5) (q_var 15)) q_non (by with_unfolding_all rfl)) (wi_and1 (pi_tcmp or_isnt os_isnt (q_ix G.blk (q_var 6) (q_var 15)) q_non (by with_unfolding_all rfl))))))) (fun _ _ _ _ _ => (q_var 15)))
      (si_cons
      (q_set G 8 (q_callTy (ci_tup G.K) Γ.n_tuple (q_cons (pi_fz (q_lc G 1000 [("spot", 15)] (q_val G (q_var 8)) (fun _ _ _ _ _ => (q_name G.blk 15 [15])) (fun _ _ _ _ _ => (q_one (pi_tcmp (or_ne (G.blk.K) (G.blk.u 64)) os_ne (q_ix G.blk (q_var 5) (q_var 15)) (q_ix G.blk (q_var 6) (q_var 15)) (by with_unfolding_all rfl)))) (fun _ _ _ _ _ => (q_var 15)))) ai_nil)))
      (si_cons
      (si_if (pi_tcmp (or_ne (G.K) (G.u 64)) os_ne (pi_fz (pi_lst (q_cons (q_call G tk (ok_unlike Γ) Γ.m_unlike Γ.k22 Γ.b22 (q_cons (q_var 11) (q_cons (q_var 3) (q_cons (q_var 4) ai_nil)))) (q_cons (q_callK0 G tk [2, 1, 0] ["other", "word", "web"] (ok_unlike Γ) Γ.m_unlike Γ.k22 Γ.kw1 (ki_cons (q_var 3) (ki_cons (q_var 4) (ki_cons (q_var 11) ki_nil)))) ai_nil)))) (pi_fz (pi_lst (q_cons (q_var 8) (q_cons (q_var 8) ai_nil)))) (by with_unfolding_all rfl)) (si_cons
        (si_ret q_bl)
        si_nil) si_nil)
      (si_cons
      (q_set G 9 (pi_tup (q_cons (q_call G tk (ok__law_sip Γ) Γ.m__law_sip Γ.k23 Γ.b23 (q_cons (q_var 0) (q_cons (q_prop (call := call2) (nps := nps) (fn := A.fn) (ct := ct) G 18 Γ.ct (ok_Web_houses Γ) Γ.b18 Γ.k18 (q_var 11)) ai_nil))) (q_cons (q_call G tk (ok__law_sip Γ) Γ.m__law_sip Γ.k23 Γ.b23 (q_cons (q_var 0) (q_cons (q_prop (call := call2) (nps := nps) (fn := A.fn) (ct := ct) G 18 Γ.ct (ok_Web_houses Γ) Γ.b18 Γ.k18 (q_var 11)) ai_nil))) ai_nil))))
      (si_cons
      (q_set G 10 (pi_tup (q_cons (q_call G tk (ok__law_sip Γ) Γ.m__law_sip Γ.k23 Γ.b23 (q_cons (q_var 0) (q_cons (q_prop (call := call2) (nps := nps) (fn := A.fn) (ct := ct) G 18 Γ.ct (ok_Web_houses Γ) Γ.b18 Γ.k18 (q_var 11)) ai_nil))) (q_cons (q_call G tk (ok__law_sip Γ) Γ.m__law_sip Γ.k23 Γ.b23 (q_cons (q_var 0) (q_cons (q_prop (call := call2) (nps := nps) (fn := A.fn) (ct := ct) G 18 Γ.ct (ok_Web_houses Γ) Γ.b18 Γ.k18 (q_var 11)) ai_nil))) ai_nil))))
      (si_cons
      (q_par G 13 14 (q_cons (q_call G tk (ok_joined Γ) Γ.m_joined Γ.k21 Γ.b21 (q_cons (q_var 11) (q_cons (q_var 9) (q_cons (q_var 10) ai_nil)))) (q_cons (q_call G tk (ok__law_shortest Γ) Γ.m__law_shortest Γ.k28 Γ.b28 (q_cons (q_var 12) (q_cons (q_var 9) (q_cons (q_var 10) ai_nil)))) ai_nil)))
      (si_cons
      (si_if (PW.pt (wi_or (pi_tcmp (or_ne (G.K) (G.u 64)) os_ne (pi_cmp or_is os_is (q_var 13) q_non (by with_unfolding_all rfl)) (pi_cmp (or_eq (G.K) (G.u 64)) os_eq (q_var 14) q_int (by with_unfolding_all rfl)) (by with_unfolding_all rfl)) (wi_or1 (pi_tcmp (or_ne (G.K) (G.u 64)) os_ne (pi_cmp or_is os_is (q_callK0 G tk [2, 1, 0] ["other", "pair", "web"] (ok_joined Γ) Γ.m_joined Γ.k21 Γ.kw2 (ki_cons (q_var 9) (ki_cons (q_var 10) (ki_cons (q_var 11) ki_nil)))) q_non (by with_unfolding_all rfl)) (pi_cmp (or_eq (G.K) (G.u 64)) os_eq (q_var 14) q_int (by with_unfolding_all rfl)) (by with_unfolding_all rfl))))) (si_cons
        (si_ret q_bl)
        si_nil) si_nil)
      (si_cons
      (si_if (PW.pt (wi_and (pi_tcmp or_isnt os_isnt (q_var 13) q_non (by with_unfolding_all rfl)) (wi_and1 (PW.pt (wi_or (pi_tcmp (or_ne (G.K) (G.u 64)) os_ne (q_callB (ci_len G.K) Γ.n_len (q_cons (q_var 13) ai_nil)) (q_var 14) (by with_unfolding_all rfl)) (wi_or (pi_tcmp (or_nin (G.K) (G.u 65)) os_nin (q_var 9) (q_call G tk (ok_led Γ) Γ.m_led Γ.k14 Γ.b14 (q_cons (q_var 11) (q_cons (q_var 13) ai_nil))) (by with_unfolding_all rfl)) (wi_or1 (pi_tcmp (or_nin (G.K) (G.u 65)) os_nin (q_var 10) (q_call G tk (ok_led Γ) Γ.m_led Γ.k14 Γ.b14 (q_cons (q_var 11) (q_cons (q_var 13) ai_nil))) (by with_unfolding_all rfl))))))))) (si_cons
        (si_ret q_bl)
        si_nil) si_nil)
      si_nil)))))))))))))))))
    (si_cons
    (si_ret q_bl)
    si_nil))
  exact body_of (N := N__law_right) (np := 1) body (fun _ _ => rfl) (spI_fz hsp)
theorem ok__law_cup (Γ : Facts K mg W A) : FnG P w K mg base 1 (A.f 32) (A.d 32) ["script", "spot"] (spI W 2 cf__law_cup) := by
  refine Fun_okG Γ.f32 sc__law_cup spI_len fun cdv A₁ outer s H vs Q E hr hg hsp => ?_
  have G : Gd (cxG P w K mg base N__law_cup "_law_cup" (defScope s__law_cup) (A.f 32) cdv A₁ outer s H E) W 0 := ⟨Γ.hW.symm, hr, hg, rfl, sc__law_cup.nd⟩
  have tk : Takes (cxG P w K mg base N__law_cup "_law_cup" (defScope s__law_cup) (A.f 32) cdv A₁ outer s H E) (fun cls dd _ H => E cls dd H) := takes_cx
  have body : PSs (cxG P w K mg base N__law_cup "_law_cup" (defScope s__law_cup) (A.f 32) cdv A₁ outer s H E) (defBody s__law_cup) (tS W (fun cls dd _ H => E cls dd H) f__law_cup) :=
    (si_cons
    (q_set G 2 (pi_ite (pi_tcmp or_lt os_lt (q_var 1) (q_callB (ci_len G.K) Γ.n_len (q_cons (q_var 0) ai_nil)) (by with_unfolding_all rfl)) (q_ix G (q_var 0) (q_var 1)) (pi_bin (or_add G.K) os_add (pi_bin or_mul os_mul q_int (q_var 1)) q_int)))
    (si_cons
    (q_for G 1000 own_cx (q_val G (pi_ite (pi_tcmp op_ge os_ge (q_var 1) (q_callB (ci_len G.K) Γ.n_len (q_cons (q_var 0) ai_nil)) (by with_unfolding_all rfl)) (pi_fz (pi_slice G.K (q_var 0) oi_no (oi_int q_int))) (pi_fz (pi_lst ai_nil)))) (q_name G 3 [3]) (si_cons
      (q_set G 2 (pi_bin op_mod os_mod (q_callTy ci_int Γ.n_int (q_cons (pi_bin (or_add G.K) os_add (pi_bin or_mul os_mul (q_var 2) q_int) (q_var 3)) ai_nil)) q_int))
      si_nil))
    (si_cons
    (si_ret (pi_lst (q_cons (pi_bin op_mod os_mod (q_callTy ci_int Γ.n_int (q_cons (pi_bin (or_add G.K) os_add (pi_bin (or_add G.K) os_add (pi_bin or_mul os_mul (q_var 2) q_int) (pi_bin or_mul os_mul q_int (q_var 1))) q_int) ai_nil)) q_int) (q_cons (pi_ite (PW.pt (wi_or (pi_tcmp or_lt os_lt (q_var 2) q_int (by with_unfolding_all rfl)) (wi_or1 (pi_tcmp op_ge os_ge (q_var 2) (pi_bin op_pow os_pow q_int q_int) (by with_unfolding_all rfl))))) (q_callB ci_abs Γ.n_abs (q_cons (q_var 2) ai_nil)) q_int) ai_nil))))
    si_nil)))
  exact body_of (N := N__law_cup) (np := 2) body (fun _ _ => rfl) hsp
theorem ok_law (Γ : Facts K mg W A) : FnG P w K mg base 12 (A.f 33) (A.d 33) ["script"] (spI W 1 cf_law) := by
  refine Fun_okG Γ.f33 sc_law spI_len fun cdv A₁ outer s H vs Q E hr hg hsp => ?_
  have G : Gd (cxG P w K mg base N_law "law" (defScope s_law) (A.f 33) cdv A₁ outer s H E) W 11 := ⟨Γ.hW.symm, hr, hg, rfl, sc_law.nd⟩
  have tk : Takes (cxG P w K mg base N_law "law" (defScope s_law) (A.f 33) cdv A₁ outer s H E) (fun cls dd _ H => E cls dd H) := takes_cx
  have body : PSs (cxG P w K mg base N_law "law" (defScope s_law) (A.f 33) cdv A₁ outer s H E) (defBody s_law) (tS W (fun cls dd _ H => E cls dd H) f_law) :=
    (si_cons
    (q_set G 1 (pi_fz (q_make G tk 0 Γ.mk0 (ok_Web___init__ Γ) Γ.mc0 Γ.b8 (q_cons q_str ai_nil))))
    (si_cons
    (si_if (pi_tcmp (or_ne (G.K) (G.u 64)) os_ne (pi_fz (pi_lst (q_cons (q_call G tk (ok_led Γ) Γ.m_led Γ.k14 Γ.b14 (q_cons (q_var 1) (q_cons q_str ai_nil))) (q_cons (q_call G tk (ok_joined Γ) Γ.m_joined Γ.k21 Γ.b21 (q_cons (q_var 1) (q_cons (pi_tup (q_cons q_int (q_cons q_int ai_nil))) (q_cons (pi_tup (q_cons q_int (q_cons q_int ai_nil))) ai_nil)))) (q_cons (q_call G tk (ok_joined Γ) Γ.m_joined Γ.k21 Γ.b21 (q_cons (q_var 1) (q_cons (pi_tup (q_cons q_int (q_cons q_int ai_nil))) (q_cons (pi_tup (q_cons q_int (q_cons q_int ai_nil))) ai_nil)))) ai_nil))))) (pi_fz (pi_lst (q_cons (pi_tup (q_cons (pi_tup (q_cons q_int (q_cons q_int ai_nil))) (q_cons (pi_tup (q_cons q_int (q_cons q_int ai_nil))) ai_nil))) (q_cons q_str (q_cons q_non ai_nil))))) (by with_unfolding_all rfl)) (si_cons
      (si_ret q_bl)
      si_nil) si_nil)
    (si_cons
    (si_if (PW.pt (wi_or (pi_tcmp (or_ne (G.K) (G.u 64)) os_ne (q_callB (ci_len G.K) Γ.n_len (q_cons (q_call G tk (ok_joined Γ) Γ.m_joined Γ.k21 Γ.b21 (q_cons (q_var 1) (q_cons (pi_tup (q_cons q_int (q_cons q_int ai_nil))) (q_cons (pi_tup (q_cons q_int (q_cons q_int ai_nil))) ai_nil)))) ai_nil)) q_int (by with_unfolding_all rfl)) (wi_or (pi_tcmp or_isnt os_isnt (q_call G tk (ok_joined Γ) Γ.m_joined Γ.k21 Γ.b21 (q_cons (q_var 1) (q_cons (pi_tup (q_cons q_int (q_cons q_int ai_nil))) (q_cons (pi_tup (q_cons q_int (q_cons q_int ai_nil))) ai_nil)))) q_non (by with_unfolding_all rfl)) (wi_or1 (pi_tcmp (or_ne (G.K) (G.u 64)) os_ne (q_call G tk (ok_unlike Γ) Γ.m_unlike Γ.k22 Γ.b22 (q_cons (q_var 1) (q_cons q_str (q_cons q_str ai_nil)))) (pi_tup (q_cons q_int (q_cons q_int ai_nil))) (by with_unfolding_all rfl)))))) (si_cons
      (si_ret q_bl)
      si_nil) si_nil)
    (si_cons
    (si_ret (q_callB (ci_all G.K G.calm) Γ.n_all (q_cons (pi_fz (q_lc G 1000 [("spot", 2)] (q_rng1 Γ.n_range (q_cons (q_callB (ci_max2 G.calm) Γ.n_max (q_cons q_int (q_cons (q_callB (ci_min2 G.calm) Γ.n_min (q_cons (q_callB (ci_len G.K) Γ.n_len (q_cons (q_var 0) ai_nil)) (q_cons q_int ai_nil))) ai_nil))) ai_nil)) (fun _ _ _ _ _ => (q_name G.blk 2 [2])) (fun _ _ _ _ _ => q_yes) (fun _ _ _ _ _ => (pi_fz (q_call G.blk takes_no (ok__law_right Γ) Γ.m__law_right Γ.k31 Γ.b31 (q_cons (q_call G.blk takes_no (ok__law_cup Γ) Γ.m__law_cup Γ.k32 Γ.b32 (q_cons (q_var 0) (q_cons (q_var 2) ai_nil))) ai_nil)))))) ai_nil)))
    si_nil))))
  exact body_of (N := N_law) (np := 1) body (fun _ _ => rfl) (spI_fz hsp)
end
end K05
namespace K05
open PySem L2 PI
set_option maxHeartbeats 0 in
theorem all_mk {P : Program} {w : World} {K : PySem.W.Frag} {h : Heap} {mg : Str → Option Value} {fa : Addr} {C0 : Addr} {f0 : Addr} {od0 an0 : Option Addr} {sl0 : Array (Option Value)} {oc0 kV0 dc0 pm0 cd0 tt0 : Value} {f1 : Addr} {od1 an1 : Option Addr} {sl1 : Array (Option Value)} {oc1 kV1 dc1 pm1 cd1 tt1 : Value} {f2 : Addr} {od2 an2 : Option Addr} {sl2 : Array (Option Value)} {oc2 kV2 dc2 pm2 cd2 tt2 : Value} {f3 : Addr} {od3 an3 : Option Addr} {sl3 : Array (Option Value)} {oc3 kV3 dc3 pm3 cd3 tt3 : Value} {f4 : Addr} {od4 an4 : Option Addr} {sl4 : Array (Option Value)} {oc4 kV4 dc4 pm4 cd4 tt4 : Value} {f5 : Addr} {od5 an5 : Option Addr} {sl5 : Array (Option Value)} {oc5 kV5 dc5 pm5 cd5 tt5 : Value} {f6 : Addr} {od6 an6 : Option Addr} {sl6 : Array (Option Value)} {oc6 kV6 dc6 pm6 cd6 tt6 : Value} {f7 : Addr} {od7 an7 : Option Addr} {sl7 : Array (Option Value)} {oc7 kV7 dc7 pm7 cd7 tt7 : Value} {f8 : Addr} {od8 an8 : Option Addr} {sl8 : Array (Option Value)} {oc8 kV8 dc8 pm8 cd8 tt8 : Value} {f9 : Addr} {od9 an9 : Option Addr} {sl9 : Array (Option Value)} {oc9 kV9 dc9 pm9 cd9 tt9 : Value} {f10 : Addr} {od10 an10 : Option Addr} {sl10 : Array (Option Value)} {oc10 kV10 dc10 pm10 cd10 tt10 : Value} {f11 : Addr} {od11 an11 : Option Addr} {sl11 : Array (Option Value)} {oc11 kV11 dc11 pm11 cd11 tt11 : Value} {f12 : Addr} {od12 an12 : Option Addr} {sl12 : Array (Option Value)} {oc12 kV12 dc12 pm12 cd12 tt12 : Value} {f13 : Addr} {od13 an13 : Option Addr} {sl13 : Array (Option Value)} {oc13 kV13 dc13 pm13 cd13 tt13 : Value} {f14 : Addr} {od14 an14 : Option Addr} {sl14 : Array (Option Value)} {oc14 kV14 dc14 pm14 cd14 tt14 : Value} {f15 : Addr} {od15 an15 : Option Addr} {sl15 : Array (Option Value)} {oc15 kV15 dc15 pm15 cd15 tt15 : Value} {f16 : Addr} {od16 an16 : Option Addr} {sl16 : Array (Option Value)} {oc16 kV16 dc16 pm16 cd16 tt16 : Value} {f17 : Addr} {od17 an17 : Option Addr} {sl17 : Array (Option Value)} {oc17 kV17 dc17 pm17 cd17 tt17 : Value} {f18 : Addr} {od18 an18 : Option Addr} {sl18 : Array (Option Value)} {oc18 kV18 dc18 pm18 cd18 tt18 : Value} {p18 : Addr} {rs18 : List Value} {f19 : Addr} {od19 an19 : Option Addr} {sl19 : Array (Option Value)} {oc19 kV19 dc19 pm19 cd19 tt19 : Value} {f20 : Addr} {od20 an20 : Option Addr} {sl20 : Array (Option Value)} {oc20 kV20 dc20 pm20 cd20 tt20 : Value} {f21 : Addr} {od21 an21 : Option Addr} {sl21 : Array (Option Value)} {oc21 kV21 dc21 pm21 cd21 tt21 : Value} {f22 : Addr} {od22 an22 : Option Addr} {sl22 : Array (Option Value)} {oc22 kV22 dc22 pm22 cd22 tt22 : Value} {f23 : Addr} {od23 an23 : Option Addr} {sl23 : Array (Option Value)} {oc23 kV23 dc23 pm23 cd23 tt23 : Value} {f24 : Addr} {od24 an24 : Option Addr} {sl24 : Array (Option Value)} {oc24 kV24 dc24 pm24 cd24 tt24 : Value} {f25 : Addr} {od25 an25 : Option Addr} {sl25 : Array (Option Value)} {oc25 kV25 dc25 pm25 cd25 tt25 : Value} {f26 : Addr} {od26 an26 : Option Addr} {sl26 : Array (Option Value)} {oc26 kV26 dc26 pm26 cd26 tt26 : Value} {f27 : Addr} {od27 an27 : Option Addr} {sl27 : Array (Option Value)} {oc27 kV27 dc27 pm27 cd27 tt27 : Value} {f28 : Addr} {od28 an28 : Option Addr} {sl28 : Array (Option Value)} {oc28 kV28 dc28 pm28 cd28 tt28 : Value} {f29 : Addr} {od29 an29 : Option Addr} {sl29 : Array (Option Value)} {oc29 kV29 dc29 pm29 cd29 tt29 : Value} {f30 : Addr} {od30 an30 : Option Addr} {sl30 : Array (Option Value)} {oc30 kV30 dc30 pm30 cd30 tt30 : Value} {p30 : Addr} {rs30 : List Value} {f31 : Addr} {od31 an31 : Option Addr} {sl31 : Array (Option Value)} {oc31 kV31 dc31 pm31 cd31 tt31 : Value} {f32 : Addr} {od32 an32 : Option Addr} {sl32 : Array (Option Value)} {oc32 kV32 dc32 pm32 cd32 tt32 : Value} {f33 : Addr} {od33 an33 : Option Addr} {sl33 : Array (Option Value)} {oc33 kV33 dc33 pm33 cd33 tt33 : Value} {t_MARKS : Tok} {t_MOST_HOUSES : Tok} {t_MOST_WORD : Tok} {t_NUMBERS : Addr} {n_NUMBERS : Nat} {e_NUMBERS : Array (Option Value)} {t_NUMBERS0 t_NUMBERS1 t_NUMBERS2 t_NUMBERS3 t_NUMBERS4 t_NUMBERS5 t_NUMBERS6 t_NUMBERS7 t_NUMBERS8 t_NUMBERS9 : Tok}
    (X : K.In h) (G : h.Ns mainGlobals mg) (hfa : mg "law" = some (.ref fa))
    (aC0 : PySem.W.nsIn K mainGlobals "Web" = some (some (.ref C0)))
    (pg0 : PySem.W.plainGet K C0 Str.empty = true)
    (hd0 : PySem.W.hasDictIn K C0 = true)
    (po0 : PySem.W.plainOver K C0 = true)
    (sa0 : PySem.W.findIn K (.ref C0) "__setattr__" = some (some (.builtin "object.__setattr__")))
    (mk0 : PySem.W.makesIn K C0 = true)
    (kc0 : PySem.W.keepIn K (.ref C0) = true)
    (ia0 : PySem.W.findIn K (.ref C0) "__class__" = some (some (.builtin "object.__class__")))
    (ib0 : PySem.W.specialIn K (.builtin "object.__class__") "__get__" = some (some (.builtin "getset_descriptor.__get__")))
    (ic0 : PySem.W.takesIn K (.builtin "object.__class__") = some true)
    (id0 : PySem.W.mroIn K C0 (.type "object") = some true)
    (no0_0 : PySem.W.findIn K (.ref C0) "text" = some none)
    (no0_1 : PySem.W.findIn K (.ref C0) "rows" = some none)
    (no0_2 : PySem.W.findIn K (.ref C0) "quadruples" = some none)
    (no0_3 : PySem.W.findIn K (.ref C0) "ways" = some none)
    (no0_4 : PySem.W.findIn K (.ref C0) "lines" = some none)
    (no0_5 : PySem.W.findIn K (.ref C0) "letters" = some none)
    (a0 : PySem.W.nsIn K mainGlobals "tie_of" = some (some (.ref f0)))
    (l0 : K.lookup f0 = some ⟨oc0, od0, .func (PySem.W.fnOf "tie_of" "tie_of" (defArgs s_tie_of) (defBody s_tie_of) (defScope s_tie_of) .none kV0 dc0 pm0 an0 cd0 tt0), sl0⟩)
    (c0 : PySem.W.codeIn K cd0 "tie_of" = true)
    (k0 : PySem.W.keepIn K (.ref f0) = true)
    (a1 : PySem.W.nsIn K mainGlobals "places_of" = some (some (.ref f1)))
    (l1 : K.lookup f1 = some ⟨oc1, od1, .func (PySem.W.fnOf "places_of" "places_of" (defArgs s_places_of) (defBody s_places_of) (defScope s_places_of) .none kV1 dc1 pm1 an1 cd1 tt1), sl1⟩)
    (c1 : PySem.W.codeIn K cd1 "places_of" = true)
    (k1 : PySem.W.keepIn K (.ref f1) = true)
    (a2 : PySem.W.nsIn K mainGlobals "ties_in" = some (some (.ref f2)))
    (l2 : K.lookup f2 = some ⟨oc2, od2, .func (PySem.W.fnOf "ties_in" "ties_in" (defArgs s_ties_in) (defBody s_ties_in) (defScope s_ties_in) .none kV2 dc2 pm2 an2 cd2 tt2), sl2⟩)
    (c2 : PySem.W.codeIn K cd2 "ties_in" = true)
    (k2 : PySem.W.keepIn K (.ref f2) = true)
    (a3 : PySem.W.nsIn K mainGlobals "are_together" = some (some (.ref f3)))
    (l3 : K.lookup f3 = some ⟨oc3, od3, .func (PySem.W.fnOf "are_together" "are_together" (defArgs s_are_together) (defBody s_are_together) (defScope s_are_together) .none kV3 dc3 pm3 an3 cd3 tt3), sl3⟩)
    (c3 : PySem.W.codeIn K cd3 "are_together" = true)
    (k3 : PySem.W.keepIn K (.ref f3) = true)
    (a4 : PySem.W.nsIn K mainGlobals "ways_of" = some (some (.ref f4)))
    (l4 : K.lookup f4 = some ⟨oc4, od4, .func (PySem.W.fnOf "ways_of" "ways_of" (defArgs s_ways_of) (defBody s_ways_of) (defScope s_ways_of) .none kV4 dc4 pm4 an4 cd4 tt4), sl4⟩)
    (c4 : PySem.W.codeIn K cd4 "ways_of" = true)
    (k4 : PySem.W.keepIn K (.ref f4) = true)
    (a5 : PySem.W.nsIn K mainGlobals "web_ties" = some (some (.ref f5)))
    (l5 : K.lookup f5 = some ⟨oc5, od5, .func (PySem.W.fnOf "web_ties" "web_ties" (defArgs s_web_ties) (defBody s_web_ties) (defScope s_web_ties) .none kV5 dc5 pm5 an5 cd5 tt5), sl5⟩)
    (c5 : PySem.W.codeIn K cd5 "web_ties" = true)
    (k5 : PySem.W.keepIn K (.ref f5) = true)
    (a6 : PySem.W.nsIn K mainGlobals "plain_text" = some (some (.ref f6)))
    (l6 : K.lookup f6 = some ⟨oc6, od6, .func (PySem.W.fnOf "plain_text" "plain_text" (defArgs s_plain_text) (defBody s_plain_text) (defScope s_plain_text) .none kV6 dc6 pm6 an6 cd6 tt6), sl6⟩)
    (c6 : PySem.W.codeIn K cd6 "plain_text" = true)
    (k6 : PySem.W.keepIn K (.ref f6) = true)
    (a7 : PySem.W.nsIn K mainGlobals "letters_of" = some (some (.ref f7)))
    (l7 : K.lookup f7 = some ⟨oc7, od7, .func (PySem.W.fnOf "letters_of" "letters_of" (defArgs s_letters_of) (defBody s_letters_of) (defScope s_letters_of) .none kV7 dc7 pm7 an7 cd7 tt7), sl7⟩)
    (c7 : PySem.W.codeIn K cd7 "letters_of" = true)
    (k7 : PySem.W.keepIn K (.ref f7) = true)
    (a8 : PySem.W.findIn K (.ref C0) "__init__" = some (some (.ref f8)))
    (i8 : PySem.W.isFn K (.ref f8) = true)
    (l8 : K.lookup f8 = some ⟨oc8, od8, .func (PySem.W.fnOf "__init__" "Web.__init__" (defArgs s_Web___init__) (defBody s_Web___init__) (defScope s_Web___init__) .none kV8 dc8 pm8 an8 cd8 tt8), sl8⟩)
    (c8 : PySem.W.codeIn K cd8 "Web.__init__" = true)
    (k8 : PySem.W.keepIn K (.ref f8) = true)
    (a9 : PySem.W.nsIn K mainGlobals "check_web" = some (some (.ref f9)))
    (l9 : K.lookup f9 = some ⟨oc9, od9, .func (PySem.W.fnOf "check_web" "check_web" (defArgs s_check_web) (defBody s_check_web) (defScope s_check_web) .none kV9 dc9 pm9 an9 cd9 tt9), sl9⟩)
    (c9 : PySem.W.codeIn K cd9 "check_web" = true)
    (k9 : PySem.W.keepIn K (.ref f9) = true)
    (a10 : PySem.W.nsIn K mainGlobals "is_word" = some (some (.ref f10)))
    (l10 : K.lookup f10 = some ⟨oc10, od10, .func (PySem.W.fnOf "is_word" "is_word" (defArgs s_is_word) (defBody s_is_word) (defScope s_is_word) .none kV10 dc10 pm10 an10 cd10 tt10), sl10⟩)
    (c10 : PySem.W.codeIn K cd10 "is_word" = true)
    (k10 : PySem.W.keepIn K (.ref f10) = true)
    (a11 : PySem.W.nsIn K mainGlobals "check_word" = some (some (.ref f11)))
    (l11 : K.lookup f11 = some ⟨oc11, od11, .func (PySem.W.fnOf "check_word" "check_word" (defArgs s_check_word) (defBody s_check_word) (defScope s_check_word) .none kV11 dc11 pm11 an11 cd11 tt11), sl11⟩)
    (c11 : PySem.W.codeIn K cd11 "check_word" = true)
    (k11 : PySem.W.keepIn K (.ref f11) = true)
    (a12 : PySem.W.nsIn K mainGlobals "end_of" = some (some (.ref f12)))
    (l12 : K.lookup f12 = some ⟨oc12, od12, .func (PySem.W.fnOf "end_of" "end_of" (defArgs s_end_of) (defBody s_end_of) (defScope s_end_of) .none kV12 dc12 pm12 an12 cd12 tt12), sl12⟩)
    (c12 : PySem.W.codeIn K cd12 "end_of" = true)
    (k12 : PySem.W.keepIn K (.ref f12) = true)
    (a13 : PySem.W.nsIn K mainGlobals "led_by" = some (some (.ref f13)))
    (l13 : K.lookup f13 = some ⟨oc13, od13, .func (PySem.W.fnOf "led_by" "led_by" (defArgs s_led_by) (defBody s_led_by) (defScope s_led_by) .none kV13 dc13 pm13 an13 cd13 tt13), sl13⟩)
    (c13 : PySem.W.codeIn K cd13 "led_by" = true)
    (k13 : PySem.W.keepIn K (.ref f13) = true)
    (a14 : PySem.W.nsIn K mainGlobals "led" = some (some (.ref f14)))
    (l14 : K.lookup f14 = some ⟨oc14, od14, .func (PySem.W.fnOf "led" "led" (defArgs s_led) (defBody s_led) (defScope s_led) .none kV14 dc14 pm14 an14 cd14 tt14), sl14⟩)
    (c14 : PySem.W.codeIn K cd14 "led" = true)
    (k14 : PySem.W.keepIn K (.ref f14) = true)
    (a15 : PySem.W.nsIn K mainGlobals "is_between" = some (some (.ref f15)))
    (l15 : K.lookup f15 = some ⟨oc15, od15, .func (PySem.W.fnOf "is_between" "is_between" (defArgs s_is_between) (defBody s_is_between) (defScope s_is_between) .none kV15 dc15 pm15 an15 cd15 tt15), sl15⟩)
    (c15 : PySem.W.codeIn K cd15 "is_between" = true)
    (k15 : PySem.W.keepIn K (.ref f15) = true)
    (a16 : PySem.W.nsIn K mainGlobals "is_pair" = some (some (.ref f16)))
    (l16 : K.lookup f16 = some ⟨oc16, od16, .func (PySem.W.fnOf "is_pair" "is_pair" (defArgs s_is_pair) (defBody s_is_pair) (defScope s_is_pair) .none kV16 dc16 pm16 an16 cd16 tt16), sl16⟩)
    (c16 : PySem.W.codeIn K cd16 "is_pair" = true)
    (k16 : PySem.W.keepIn K (.ref f16) = true)
    (a17 : PySem.W.nsIn K mainGlobals "check_pair" = some (some (.ref f17)))
    (l17 : K.lookup f17 = some ⟨oc17, od17, .func (PySem.W.fnOf "check_pair" "check_pair" (defArgs s_check_pair) (defBody s_check_pair) (defScope s_check_pair) .none kV17 dc17 pm17 an17 cd17 tt17), sl17⟩)
    (c17 : PySem.W.codeIn K cd17 "check_pair" = true)
    (k17 : PySem.W.keepIn K (.ref f17) = true)
    (a18 : PySem.W.findIn K (.ref C0) "houses" = some (some (.ref p18)))
    (pq18 : PySem.W.specialIn K (.ref p18) "__get__" = some (some (.builtin "property.__get__")))
    (pt18 : PySem.W.takesIn K (.ref p18) = some true)
    (pr18 : PySem.W.recIn K p18 "property" = some (.ref f18 :: rs18))
    (l18 : K.lookup f18 = some ⟨oc18, od18, .func (PySem.W.fnOf "houses" "Web.houses" (defArgs s_Web_houses) (defBody s_Web_houses) (defScope s_Web_houses) .none kV18 dc18 pm18 an18 cd18 tt18), sl18⟩)
    (c18 : PySem.W.codeIn K cd18 "Web.houses" = true)
    (k18 : PySem.W.keepIn K (.ref f18) = true)
    (a19 : PySem.W.nsIn K mainGlobals "steps_of_two" = some (some (.ref f19)))
    (l19 : K.lookup f19 = some ⟨oc19, od19, .func (PySem.W.fnOf "steps_of_two" "steps_of_two" (defArgs s_steps_of_two) (defBody s_steps_of_two) (defScope s_steps_of_two) .none kV19 dc19 pm19 an19 cd19 tt19), sl19⟩)
    (c19 : PySem.W.codeIn K cd19 "steps_of_two" = true)
    (k19 : PySem.W.keepIn K (.ref f19) = true)
    (a20 : PySem.W.nsIn K mainGlobals "words_of_two" = some (some (.ref f20)))
    (l20 : K.lookup f20 = some ⟨oc20, od20, .func (PySem.W.fnOf "words_of_two" "words_of_two" (defArgs s_words_of_two) (defBody s_words_of_two) (defScope s_words_of_two) .none kV20 dc20 pm20 an20 cd20 tt20), sl20⟩)
    (c20 : PySem.W.codeIn K cd20 "words_of_two" = true)
    (k20 : PySem.W.keepIn K (.ref f20) = true)
    (a21 : PySem.W.nsIn K mainGlobals "joined" = some (some (.ref f21)))
    (l21 : K.lookup f21 = some ⟨oc21, od21, .func (PySem.W.fnOf "joined" "joined" (defArgs s_joined) (defBody s_joined) (defScope s_joined) .none kV21 dc21 pm21 an21 cd21 tt21), sl21⟩)
    (c21 : PySem.W.codeIn K cd21 "joined" = true)
    (k21 : PySem.W.keepIn K (.ref f21) = true)
    (a22 : PySem.W.nsIn K mainGlobals "unlike" = some (some (.ref f22)))
    (l22 : K.lookup f22 = some ⟨oc22, od22, .func (PySem.W.fnOf "unlike" "unlike" (defArgs s_unlike) (defBody s_unlike) (defScope s_unlike) .none kV22 dc22 pm22 an22 cd22 tt22), sl22⟩)
    (c22 : PySem.W.codeIn K cd22 "unlike" = true)
    (k22 : PySem.W.keepIn K (.ref f22) = true)
    (a23 : PySem.W.nsIn K mainGlobals "_law_sip" = some (some (.ref f23)))
    (l23 : K.lookup f23 = some ⟨oc23, od23, .func (PySem.W.fnOf "_law_sip" "_law_sip" (defArgs s__law_sip) (defBody s__law_sip) (defScope s__law_sip) .none kV23 dc23 pm23 an23 cd23 tt23), sl23⟩)
    (c23 : PySem.W.codeIn K cd23 "_law_sip" = true)
    (k23 : PySem.W.keepIn K (.ref f23) = true)
    (a24 : PySem.W.nsIn K mainGlobals "_law_pick" = some (some (.ref f24)))
    (l24 : K.lookup f24 = some ⟨oc24, od24, .func (PySem.W.fnOf "_law_pick" "_law_pick" (defArgs s__law_pick) (defBody s__law_pick) (defScope s__law_pick) .none kV24 dc24 pm24 an24 cd24 tt24), sl24⟩)
    (c24 : PySem.W.codeIn K cd24 "_law_pick" = true)
    (k24 : PySem.W.keepIn K (.ref f24) = true)
    (a25 : PySem.W.nsIn K mainGlobals "_law_drawn" = some (some (.ref f25)))
    (l25 : K.lookup f25 = some ⟨oc25, od25, .func (PySem.W.fnOf "_law_drawn" "_law_drawn" (defArgs s__law_drawn) (defBody s__law_drawn) (defScope s__law_drawn) .none kV25 dc25 pm25 an25 cd25 tt25), sl25⟩)
    (c25 : PySem.W.codeIn K cd25 "_law_drawn" = true)
    (k25 : PySem.W.keepIn K (.ref f25) = true)
    (a26 : PySem.W.nsIn K mainGlobals "_law_ways" = some (some (.ref f26)))
    (l26 : K.lookup f26 = some ⟨oc26, od26, .func (PySem.W.fnOf "_law_ways" "_law_ways" (defArgs s__law_ways) (defBody s__law_ways) (defScope s__law_ways) .none kV26 dc26 pm26 an26 cd26 tt26), sl26⟩)
    (c26 : PySem.W.codeIn K cd26 "_law_ways" = true)
    (k26 : PySem.W.keepIn K (.ref f26) = true)
    (a27 : PySem.W.nsIn K mainGlobals "_law_walk" = some (some (.ref f27)))
    (l27 : K.lookup f27 = some ⟨oc27, od27, .func (PySem.W.fnOf "_law_walk" "_law_walk" (defArgs s__law_walk) (defBody s__law_walk) (defScope s__law_walk) .none kV27 dc27 pm27 an27 cd27 tt27), sl27⟩)
    (c27 : PySem.W.codeIn K cd27 "_law_walk" = true)
    (k27 : PySem.W.keepIn K (.ref f27) = true)
    (a28 : PySem.W.nsIn K mainGlobals "_law_shortest" = some (some (.ref f28)))
    (l28 : K.lookup f28 = some ⟨oc28, od28, .func (PySem.W.fnOf "_law_shortest" "_law_shortest" (defArgs s__law_shortest) (defBody s__law_shortest) (defScope s__law_shortest) .none kV28 dc28 pm28 an28 cd28 tt28), sl28⟩)
    (c28 : PySem.W.codeIn K cd28 "_law_shortest" = true)
    (k28 : PySem.W.keepIn K (.ref f28) = true)
    (a29 : PySem.W.nsIn K mainGlobals "_law_text" = some (some (.ref f29)))
    (l29 : K.lookup f29 = some ⟨oc29, od29, .func (PySem.W.fnOf "_law_text" "_law_text" (defArgs s__law_text) (defBody s__law_text) (defScope s__law_text) .none kV29 dc29 pm29 an29 cd29 tt29), sl29⟩)
    (c29 : PySem.W.codeIn K cd29 "_law_text" = true)
    (k29 : PySem.W.keepIn K (.ref f29) = true)
    (a30 : PySem.W.findIn K (.ref C0) "marks" = some (some (.ref p30)))
    (pq30 : PySem.W.specialIn K (.ref p30) "__get__" = some (some (.builtin "property.__get__")))
    (pt30 : PySem.W.takesIn K (.ref p30) = some true)
    (pr30 : PySem.W.recIn K p30 "property" = some (.ref f30 :: rs30))
    (l30 : K.lookup f30 = some ⟨oc30, od30, .func (PySem.W.fnOf "marks" "Web.marks" (defArgs s_Web_marks) (defBody s_Web_marks) (defScope s_Web_marks) .none kV30 dc30 pm30 an30 cd30 tt30), sl30⟩)
    (c30 : PySem.W.codeIn K cd30 "Web.marks" = true)
    (k30 : PySem.W.keepIn K (.ref f30) = true)
    (a31 : PySem.W.nsIn K mainGlobals "_law_right" = some (some (.ref f31)))
    (l31 : K.lookup f31 = some ⟨oc31, od31, .func (PySem.W.fnOf "_law_right" "_law_right" (defArgs s__law_right) (defBody s__law_right) (defScope s__law_right) .none kV31 dc31 pm31 an31 cd31 tt31), sl31⟩)
    (c31 : PySem.W.codeIn K cd31 "_law_right" = true)
    (k31 : PySem.W.keepIn K (.ref f31) = true)
    (a32 : PySem.W.nsIn K mainGlobals "_law_cup" = some (some (.ref f32)))
    (l32 : K.lookup f32 = some ⟨oc32, od32, .func (PySem.W.fnOf "_law_cup" "_law_cup" (defArgs s__law_cup) (defBody s__law_cup) (defScope s__law_cup) .none kV32 dc32 pm32 an32 cd32 tt32), sl32⟩)
    (c32 : PySem.W.codeIn K cd32 "_law_cup" = true)
    (k32 : PySem.W.keepIn K (.ref f32) = true)
    (a33 : PySem.W.nsIn K mainGlobals "law" = some (some (.ref f33)))
    (l33 : K.lookup f33 = some ⟨oc33, od33, .func (PySem.W.fnOf "law" "law" (defArgs s_law) (defBody s_law) (defScope s_law) .none kV33 dc33 pm33 an33 cd33 tt33), sl33⟩)
    (c33 : PySem.W.codeIn K cd33 "law" = true)
    (k33 : PySem.W.keepIn K (.ref f33) = true)
    (z_abs : PySem.W.nsIn K mainGlobals "abs" = some none)
    (z_all : PySem.W.nsIn K mainGlobals "all" = some none)
    (z_any : PySem.W.nsIn K mainGlobals "any" = some none)
    (z_bool : PySem.W.nsIn K mainGlobals "bool" = some none)
    (z_divmod : PySem.W.nsIn K mainGlobals "divmod" = some none)
    (z_int : PySem.W.nsIn K mainGlobals "int" = some none)
    (z_isinstance : PySem.W.nsIn K mainGlobals "isinstance" = some none)
    (z_len : PySem.W.nsIn K mainGlobals "len" = some none)
    (z_list : PySem.W.nsIn K mainGlobals "list" = some none)
    (z_max : PySem.W.nsIn K mainGlobals "max" = some none)
    (z_min : PySem.W.nsIn K mainGlobals "min" = some none)
    (z_range : PySem.W.nsIn K mainGlobals "range" = some none)
    (z_set : PySem.W.nsIn K mainGlobals "set" = some none)
    (z_sorted : PySem.W.nsIn K mainGlobals "sorted" = some none)
    (z_str : PySem.W.nsIn K mainGlobals "str" = some none)
    (z_tuple : PySem.W.nsIn K mainGlobals "tuple" = some none)
    (v_MARKS : PySem.W.nsIn K mainGlobals "MARKS" = some (some (.str "abcdefghijkl" t_MARKS)))
    (v_MOST_HOUSES : PySem.W.nsIn K mainGlobals "MOST_HOUSES" = some (some (.int 10 t_MOST_HOUSES)))
    (v_MOST_WORD : PySem.W.nsIn K mainGlobals "MOST_WORD" = some (some (.int 200 t_MOST_WORD)))
    (v_NUMBERS : PySem.W.nsIn K mainGlobals "NUMBERS" = some (some (.ref t_NUMBERS)))
    (w_NUMBERS : K.lookup t_NUMBERS = some ⟨.type "tuple", none, .seq #[.str "0" t_NUMBERS0, .str "1" t_NUMBERS1, .str "2" t_NUMBERS2, .str "3" t_NUMBERS3, .str "4" t_NUMBERS4, .str "5" t_NUMBERS5, .str "6" t_NUMBERS6, .str "7" t_NUMBERS7, .str "8" t_NUMBERS8, .str "9" t_NUMBERS9] n_NUMBERS, e_NUMBERS⟩)
    (y_Web_NoneType : PySem.W.kitOne K (.type "NoneType") (.ref C0) = some false)
    (y_Web_bool : PySem.W.kitOne K (.type "bool") (.ref C0) = some false)
    (y_Web_int : PySem.W.kitOne K (.type "int") (.ref C0) = some false)
    (y_Web_str : PySem.W.kitOne K (.type "str") (.ref C0) = some false)
    (y_Web_tuple : PySem.W.kitOne K (.type "tuple") (.ref C0) = some false)
    (y_Web_list : PySem.W.kitOne K (.type "list") (.ref C0) = some false)
    (y_Web_dict : PySem.W.kitOne K (.type "dict") (.ref C0) = some false)
    (x_Web_0 : PySem.W.kitOne K (.ref C0) (.ref C0) = some true)
    (x_bool_0 : PySem.W.kitOne K (.ref C0) (.type "bool") = some false)
    (x_int_0 : PySem.W.kitOne K (.ref C0) (.type "int") = some false)
    (x_str_0 : PySem.W.kitOne K (.ref C0) (.type "str") = some false)
    (x_tuple_0 : PySem.W.kitOne K (.ref C0) (.type "tuple") = some false)
    : ∃ (fd : FuncData) (W : Wd), W.K = K ∧ (∀ (s : Shared) (u : Value), BindsTo s fd ⟨[u], []⟩ [("script", u)]) ∧ ∀ base : Heap, K.In base → base.Ns mainGlobals mg → FnG P w K mg base 12 fa fd ["script"] (spI W 1 cf_law) := by
  have e := hfa.symm.trans (PySem.W.mg_of X G a33)
  cases e
  have F0 := fun_mk (st := s_tie_of) l0 c0 k0
  have B0 := F0.binds (ps := ["line", "signs"]) fun _ _ _ _ _ _ us hl => match us, hl with | [_, _], _ => rfl
  have F1 := fun_mk (st := s_places_of) l1 c1 k1
  have B1 := F1.binds (ps := ["tie"]) fun _ _ _ _ _ _ us hl => match us, hl with | [_], _ => rfl
  have F2 := fun_mk (st := s_ties_in) l2 c2 k2
  have B2 := F2.binds (ps := ["text", "signs"]) fun _ _ _ _ _ _ us hl => match us, hl with | [_, _], _ => rfl
  have F3 := fun_mk (st := s_are_together) l3 c3 k3
  have B3 := F3.binds (ps := ["ties"]) fun _ _ _ _ _ _ us hl => match us, hl with | [_], _ => rfl
  have F4 := fun_mk (st := s_ways_of) l4 c4 k4
  have B4 := F4.binds (ps := ["ties"]) fun _ _ _ _ _ _ us hl => match us, hl with | [_], _ => rfl
  have F5 := fun_mk (st := s_web_ties) l5 c5 k5
  have B5 := F5.binds (ps := ["text"]) fun _ _ _ _ _ _ us hl => match us, hl with | [_], _ => rfl
  have F6 := fun_mk (st := s_plain_text) l6 c6 k6
  have B6 := F6.binds (ps := ["ties"]) fun _ _ _ _ _ _ us hl => match us, hl with | [_], _ => rfl
  have F7 := fun_mk (st := s_letters_of) l7 c7 k7
  have B7 := F7.binds (ps := ["ties"]) fun _ _ _ _ _ _ us hl => match us, hl with | [_], _ => rfl
  have F8 := fun_mk (st := s_Web___init__) l8 c8 k8
  have B8 := F8.binds (ps := ["self", "text"]) fun _ _ _ _ _ _ us hl => match us, hl with | [_, _], _ => rfl
  have F9 := fun_mk (st := s_check_web) l9 c9 k9
  have B9 := F9.binds (ps := ["value"]) fun _ _ _ _ _ _ us hl => match us, hl with | [_], _ => rfl
  have F10 := fun_mk (st := s_is_word) l10 c10 k10
  have B10 := F10.binds (ps := ["value"]) fun _ _ _ _ _ _ us hl => match us, hl with | [_], _ => rfl
  have F11 := fun_mk (st := s_check_word) l11 c11 k11
  have B11 := F11.binds (ps := ["value"]) fun _ _ _ _ _ _ us hl => match us, hl with | [_], _ => rfl
  have F12 := fun_mk (st := s_end_of) l12 c12 k12
  have B12 := F12.binds (ps := ["ways", "house", "word"]) fun _ _ _ _ _ _ us hl => match us, hl with | [_, _, _], _ => rfl
  have F13 := fun_mk (st := s_led_by) l13 c13 k13
  have B13 := F13.binds (ps := ["ways", "word"]) fun _ _ _ _ _ _ us hl => match us, hl with | [_, _], _ => rfl
  have F14 := fun_mk (st := s_led) l14 c14 k14
  have B14 := F14.binds (ps := ["web", "word"]) fun _ _ _ _ _ _ us hl => match us, hl with | [_, _], _ => rfl
  have F15 := fun_mk (st := s_is_between) l15 c15 k15
  have B15 := F15.binds (ps := ["value", "least", "most"]) fun _ _ _ _ _ _ us hl => match us, hl with | [_, _, _], _ => rfl
  have F16 := fun_mk (st := s_is_pair) l16 c16 k16
  have B16 := F16.binds (ps := ["value", "many"]) fun _ _ _ _ _ _ us hl => match us, hl with | [_, _], _ => rfl
  have F17 := fun_mk (st := s_check_pair) l17 c17 k17
  have B17 := F17.binds (ps := ["value", "many"]) fun _ _ _ _ _ _ us hl => match us, hl with | [_, _], _ => rfl
  have F18 := fun_mk (st := s_Web_houses) l18 c18 k18
  have B18 := F18.binds (ps := ["self"]) fun _ _ _ _ _ _ us hl => match us, hl with | [_], _ => rfl
  have F19 := fun_mk (st := s_steps_of_two) l19 c19 k19
  have B19 := F19.binds (ps := ["ways", "two"]) fun _ _ _ _ _ _ us hl => match us, hl with | [_, _], _ => rfl
  have F20 := fun_mk (st := s_words_of_two) l20 c20 k20
  have B20 := F20.binds (ps := ["ways", "start"]) fun _ _ _ _ _ _ us hl => match us, hl with | [_, _], _ => rfl
  have F21 := fun_mk (st := s_joined) l21 c21 k21
  have B21 := F21.binds (ps := ["web", "pair", "other"]) fun _ _ _ _ _ _ us hl => match us, hl with | [_, _, _], _ => rfl
  have F22 := fun_mk (st := s_unlike) l22 c22 k22
  have B22 := F22.binds (ps := ["web", "word", "other"]) fun _ _ _ _ _ _ us hl => match us, hl with | [_, _, _], _ => rfl
  have F23 := fun_mk (st := s__law_sip) l23 c23 k23
  have B23 := F23.binds (ps := ["cup", "top"]) fun _ _ _ _ _ _ us hl => match us, hl with | [_, _], _ => rfl
  have F24 := fun_mk (st := s__law_pick) l24 c24 k24
  have B24 := F24.binds (ps := ["cup", "things"]) fun _ _ _ _ _ _ us hl => match us, hl with | [_, _], _ => rfl
  have F25 := fun_mk (st := s__law_drawn) l25 c25 k25
  have B25 := F25.binds (ps := ["cup", "most"]) fun _ _ _ _ _ _ us hl => match us, hl with | [_, _], _ => rfl
  have F26 := fun_mk (st := s__law_ways) l26 c26 k26
  have B26 := F26.binds (ps := ["told"]) fun _ _ _ _ _ _ us hl => match us, hl with | [_], _ => rfl
  have F27 := fun_mk (st := s__law_walk) l27 c27 k27
  have B27 := F27.binds (ps := ["ways_here", "start", "letters"]) fun _ _ _ _ _ _ us hl => match us, hl with | [_, _, _], _ => rfl
  have F28 := fun_mk (st := s__law_shortest) l28 c28 k28
  have B28 := F28.binds (ps := ["ways_here", "pair", "other"]) fun _ _ _ _ _ _ us hl => match us, hl with | [_, _, _], _ => rfl
  have F29 := fun_mk (st := s__law_text) l29 c29 k29
  have B29 := F29.binds (ps := ["told"]) fun _ _ _ _ _ _ us hl => match us, hl with | [_], _ => rfl
  have F30 := fun_mk (st := s_Web_marks) l30 c30 k30
  have B30 := F30.binds (ps := ["self"]) fun _ _ _ _ _ _ us hl => match us, hl with | [_], _ => rfl
  have F31 := fun_mk (st := s__law_right) l31 c31 k31
  have B31 := F31.binds (ps := ["cup"]) fun _ _ _ _ _ _ us hl => match us, hl with | [_], _ => rfl
  have F32 := fun_mk (st := s__law_cup) l32 c32 k32
  have B32 := F32.binds (ps := ["script", "spot"]) fun _ _ _ _ _ _ us hl => match us, hl with | [_, _], _ => rfl
  have F33 := fun_mk (st := s_law) l33 c33 k33
  have B33 := F33.binds (ps := ["script"]) fun _ _ _ _ _ _ us hl => match us, hl with | [_], _ => rfl
  let A : Ad := ⟨fun i => [f0, f1, f2, f3, f4, f5, f6, f7, f8, f9, f10, f11, f12, f13, f14, f15, f16, f17, f18, f19, f20, f21, f22, f23, f24, f25, f26, f27, f28, f29, f30, f31, f32, fa].getD i 0, fun i => [PySem.W.fnOf "tie_of" "tie_of" (defArgs s_tie_of) (defBody s_tie_of) (defScope s_tie_of) .none kV0 dc0 pm0 an0 cd0 tt0, PySem.W.fnOf "places_of" "places_of" (defArgs s_places_of) (defBody s_places_of) (defScope s_places_of) .none kV1 dc1 pm1 an1 cd1 tt1, PySem.W.fnOf "ties_in" "ties_in" (defArgs s_ties_in) (defBody s_ties_in) (defScope s_ties_in) .none kV2 dc2 pm2 an2 cd2 tt2, PySem.W.fnOf "are_together" "are_together" (defArgs s_are_together) (defBody s_are_together) (defScope s_are_together) .none kV3 dc3 pm3 an3 cd3 tt3, PySem.W.fnOf "ways_of" "ways_of" (defArgs s_ways_of) (defBody s_ways_of) (defScope s_ways_of) .none kV4 dc4 pm4 an4 cd4 tt4, PySem.W.fnOf "web_ties" "web_ties" (defArgs s_web_ties) (defBody s_web_ties) (defScope s_web_ties) .none kV5 dc5 pm5 an5 cd5 tt5, PySem.W.fnOf "plain_text" "plain_text" (defArgs s_plain_text) (defBody s_plain_text) (defScope s_plain_text) .none kV6 dc6 pm6 an6 cd6 tt6, PySem.W.fnOf "letters_of" "letters_of" (defArgs s_letters_of) (defBody s_letters_of) (defScope s_letters_of) .none kV7 dc7 pm7 an7 cd7 tt7, PySem.W.fnOf "__init__" "Web.__init__" (defArgs s_Web___init__) (defBody s_Web___init__) (defScope s_Web___init__) .none kV8 dc8 pm8 an8 cd8 tt8, PySem.W.fnOf "check_web" "check_web" (defArgs s_check_web) (defBody s_check_web) (defScope s_check_web) .none kV9 dc9 pm9 an9 cd9 tt9, PySem.W.fnOf "is_word" "is_word" (defArgs s_is_word) (defBody s_is_word) (defScope s_is_word) .none kV10 dc10 pm10 an10 cd10 tt10, PySem.W.fnOf "check_word" "check_word" (defArgs s_check_word) (defBody s_check_word) (defScope s_check_word) .none kV11 dc11 pm11 an11 cd11 tt11, PySem.W.fnOf "end_of" "end_of" (defArgs s_end_of) (defBody s_end_of) (defScope s_end_of) .none kV12 dc12 pm12 an12 cd12 tt12, PySem.W.fnOf "led_by" "led_by" (defArgs s_led_by) (defBody s_led_by) (defScope s_led_by) .none kV13 dc13 pm13 an13 cd13 tt13, PySem.W.fnOf "led" "led" (defArgs s_led) (defBody s_led) (defScope s_led) .none kV14 dc14 pm14 an14 cd14 tt14, PySem.W.fnOf "is_between" "is_between" (defArgs s_is_between) (defBody s_is_between) (defScope s_is_between) .none kV15 dc15 pm15 an15 cd15 tt15, PySem.W.fnOf "is_pair" "is_pair" (defArgs s_is_pair) (defBody s_is_pair) (defScope s_is_pair) .none kV16 dc16 pm16 an16 cd16 tt16, PySem.W.fnOf "check_pair" "check_pair" (defArgs s_check_pair) (defBody s_check_pair) (defScope s_check_pair) .none kV17 dc17 pm17 an17 cd17 tt17, PySem.W.fnOf "houses" "Web.houses" (defArgs s_Web_houses) (defBody s_Web_houses) (defScope s_Web_houses) .none kV18 dc18 pm18 an18 cd18 tt18, PySem.W.fnOf "steps_of_two" "steps_of_two" (defArgs s_steps_of_two) (defBody s_steps_of_two) (defScope s_steps_of_two) .none kV19 dc19 pm19 an19 cd19 tt19, PySem.W.fnOf "words_of_two" "words_of_two" (defArgs s_words_of_two) (defBody s_words_of_two) (defScope s_words_of_two) .none kV20 dc20 pm20 an20 cd20 tt20, PySem.W.fnOf "joined" "joined" (defArgs s_joined) (defBody s_joined) (defScope s_joined) .none kV21 dc21 pm21 an21 cd21 tt21, PySem.W.fnOf "unlike" "unlike" (defArgs s_unlike) (defBody s_unlike) (defScope s_unlike) .none kV22 dc22 pm22 an22 cd22 tt22, PySem.W.fnOf "_law_sip" "_law_sip" (defArgs s__law_sip) (defBody s__law_sip) (defScope s__law_sip) .none kV23 dc23 pm23 an23 cd23 tt23, PySem.W.fnOf "_law_pick" "_law_pick" (defArgs s__law_pick) (defBody s__law_pick) (defScope s__law_pick) .none kV24 dc24 pm24 an24 cd24 tt24, PySem.W.fnOf "_law_drawn" "_law_drawn" (defArgs s__law_drawn) (defBody s__law_drawn) (defScope s__law_drawn) .none kV25 dc25 pm25 an25 cd25 tt25, PySem.W.fnOf "_law_ways" "_law_ways" (defArgs s__law_ways) (defBody s__law_ways) (defScope s__law_ways) .none kV26 dc26 pm26 an26 cd26 tt26, PySem.W.fnOf "_law_walk" "_law_walk" (defArgs s__law_walk) (defBody s__law_walk) (defScope s__law_walk) .none kV27 dc27 pm27 an27 cd27 tt27, PySem.W.fnOf "_law_shortest" "_law_shortest" (defArgs s__law_shortest) (defBody s__law_shortest) (defScope s__law_shortest) .none kV28 dc28 pm28 an28 cd28 tt28, PySem.W.fnOf "_law_text" "_law_text" (defArgs s__law_text) (defBody s__law_text) (defScope s__law_text) .none kV29 dc29 pm29 an29 cd29 tt29, PySem.W.fnOf "marks" "Web.marks" (defArgs s_Web_marks) (defBody s_Web_marks) (defScope s_Web_marks) .none kV30 dc30 pm30 an30 cd30 tt30, PySem.W.fnOf "_law_right" "_law_right" (defArgs s__law_right) (defBody s__law_right) (defScope s__law_right) .none kV31 dc31 pm31 an31 cd31 tt31, PySem.W.fnOf "_law_cup" "_law_cup" (defArgs s__law_cup) (defBody s__law_cup) (defScope s__law_cup) .none kV32 dc32 pm32 an32 cd32 tt32, PySem.W.fnOf "law" "law" (defArgs s_law) (defBody s_law) (defScope s_law) .none kV33 dc33 pm33 an33 cd33 tt33].getD i default, fun i => [C0].getD i 0⟩
  let W : Wd := ⟨K, A.c, fun _ => 0⟩
  have Cl0 : Cls K C0 := ⟨pg0, hd0, po0, sa0⟩
  have Is0 : IsC K C0 := ⟨Cl0, ia0, ib0, ic0, id0⟩
  have Mk0 : Mk K C0 f8 := ⟨mk0, a8, i8, kc0⟩
  have T : CtOk K W ct A.fn := CtOk.of fun c r e => match c, e with
    | 0, e => by
      cases e
      exact ⟨Cl0, List.forall_mem_cons.mpr ⟨no0_0, List.forall_mem_cons.mpr ⟨no0_1, List.forall_mem_cons.mpr ⟨no0_2, List.forall_mem_cons.mpr ⟨no0_3, List.forall_mem_cons.mpr ⟨no0_4, List.forall_mem_cons.mpr ⟨no0_5, fun _ h => absurd h List.not_mem_nil⟩⟩⟩⟩⟩⟩, fun _ h => absurd h List.not_mem_nil, List.forall_mem_cons.mpr ⟨⟨p18, a18, pq18, pt18, rs18, pr18⟩, List.forall_mem_cons.mpr ⟨⟨p30, a30, pq30, pt30, rs30, pr30⟩, fun _ h => absurd h List.not_mem_nil⟩⟩, fun j ej => by cases ej; exact Mk0⟩
    | k + 1, e => by cases e
  have Γ : Facts K mg W A := {
    hW := rfl, cl := rfl, ct := T,
    f0 := F0, b0 := B0, k0 := k0,
    m_tie_of := PySem.W.mg_of X G a0,
    f1 := F1, b1 := B1, k1 := k1,
    m_places_of := PySem.W.mg_of X G a1,
    f2 := F2, b2 := B2, k2 := k2,
    m_ties_in := PySem.W.mg_of X G a2,
    f3 := F3, b3 := B3, k3 := k3,
    m_are_together := PySem.W.mg_of X G a3,
    f4 := F4, b4 := B4, k4 := k4,
    m_ways_of := PySem.W.mg_of X G a4,
    f5 := F5, b5 := B5, k5 := k5,
    m_web_ties := PySem.W.mg_of X G a5,
    f6 := F6, b6 := B6, k6 := k6,
    m_plain_text := PySem.W.mg_of X G a6,
    f7 := F7, b7 := B7, k7 := k7,
    m_letters_of := PySem.W.mg_of X G a7,
    f8 := F8, b8 := B8, k8 := k8,
    f9 := F9, b9 := B9, k9 := k9,
    m_check_web := PySem.W.mg_of X G a9,
    f10 := F10, b10 := B10, k10 := k10,
    m_is_word := PySem.W.mg_of X G a10,
    f11 := F11, b11 := B11, k11 := k11,
    m_check_word := PySem.W.mg_of X G a11,
    f12 := F12, b12 := B12, k12 := k12,
    m_end_of := PySem.W.mg_of X G a12,
    f13 := F13, b13 := B13, k13 := k13,
    m_led_by := PySem.W.mg_of X G a13,
    f14 := F14, b14 := B14, k14 := k14,
    m_led := PySem.W.mg_of X G a14,
    f15 := F15, b15 := B15, k15 := k15,
    m_is_between := PySem.W.mg_of X G a15,
    f16 := F16, b16 := B16, k16 := k16,
    m_is_pair := PySem.W.mg_of X G a16,
    f17 := F17, b17 := B17, k17 := k17,
    m_check_pair := PySem.W.mg_of X G a17,
    f18 := F18, b18 := B18, k18 := k18,
    f19 := F19, b19 := B19, k19 := k19,
    m_steps_of_two := PySem.W.mg_of X G a19,
    f20 := F20, b20 := B20, k20 := k20,
    m_words_of_two := PySem.W.mg_of X G a20,
    f21 := F21, b21 := B21, k21 := k21,
    m_joined := PySem.W.mg_of X G a21,
    f22 := F22, b22 := B22, k22 := k22,
    m_unlike := PySem.W.mg_of X G a22,
    f23 := F23, b23 := B23, k23 := k23,
    m__law_sip := PySem.W.mg_of X G a23,
    f24 := F24, b24 := B24, k24 := k24,
    m__law_pick := PySem.W.mg_of X G a24,
    f25 := F25, b25 := B25, k25 := k25,
    m__law_drawn := PySem.W.mg_of X G a25,
    f26 := F26, b26 := B26, k26 := k26,
    m__law_ways := PySem.W.mg_of X G a26,
    f27 := F27, b27 := B27, k27 := k27,
    m__law_walk := PySem.W.mg_of X G a27,
    f28 := F28, b28 := B28, k28 := k28,
    m__law_shortest := PySem.W.mg_of X G a28,
    f29 := F29, b29 := B29, k29 := k29,
    m__law_text := PySem.W.mg_of X G a29,
    f30 := F30, b30 := B30, k30 := k30,
    f31 := F31, b31 := B31, k31 := k31,
    m__law_right := PySem.W.mg_of X G a31,
    f32 := F32, b32 := B32, k32 := k32,
    m__law_cup := PySem.W.mg_of X G a32,
    f33 := F33, b33 := B33, k33 := k33,
    m_law := PySem.W.mg_of X G a33,
    mc0 := PySem.W.mg_of X G aC0, mk0 := Mk0, is0 := Is0,
    n_abs := PySem.W.mg_none_of X G z_abs,
    n_all := PySem.W.mg_none_of X G z_all,
    n_any := PySem.W.mg_none_of X G z_any,
    n_bool := PySem.W.mg_none_of X G z_bool,
    n_divmod := PySem.W.mg_none_of X G z_divmod,
    n_int := PySem.W.mg_none_of X G z_int,
    n_isinstance := PySem.W.mg_none_of X G z_isinstance,
    n_len := PySem.W.mg_none_of X G z_len,
    n_list := PySem.W.mg_none_of X G z_list,
    n_max := PySem.W.mg_none_of X G z_max,
    n_min := PySem.W.mg_none_of X G z_min,
    n_range := PySem.W.mg_none_of X G z_range,
    n_set := PySem.W.mg_none_of X G z_set,
    n_sorted := PySem.W.mg_none_of X G z_sorted,
    n_str := PySem.W.mg_none_of X G z_str,
    n_tuple := PySem.W.mg_none_of X G z_tuple,
    c_MARKS := ⟨_, .str "abcdefghijkl", PySem.W.mg_of X G v_MARKS, ⟨t_MARKS, rfl⟩, fun _ _ _ => by simp only [k_MARKS, VR]⟩,
    c_MOST_HOUSES := ⟨_, .int 10, PySem.W.mg_of X G v_MOST_HOUSES, ⟨t_MOST_HOUSES, rfl⟩, fun _ _ _ => by simp only [k_MOST_HOUSES, VR]⟩,
    c_MOST_WORD := ⟨_, .int 200, PySem.W.mg_of X G v_MOST_WORD, ⟨t_MOST_WORD, rfl⟩, fun _ _ _ => by simp only [k_MOST_WORD, VR]⟩,
    c_NUMBERS := ⟨_, .ref t_NUMBERS, PySem.W.mg_of X G v_NUMBERS, rfl, fun _ _ _ => by
        simp only [k_NUMBERS, VR]
        exact ⟨t_NUMBERS, [V.str "0", V.str "1", V.str "2", V.str "3", V.str "4", V.str "5", V.str "6", V.str "7", V.str "8", V.str "9"], rfl, ⟨_, _, _, w_NUMBERS, rfl, rfl, rfl, (by show 10 ≤ sizeLine; decide), .cons ⟨_, rfl⟩ (.cons ⟨_, rfl⟩ (.cons ⟨_, rfl⟩ (.cons ⟨_, rfl⟩ (.cons ⟨_, rfl⟩ (.cons ⟨_, rfl⟩ (.cons ⟨_, rfl⟩ (.cons ⟨_, rfl⟩ (.cons ⟨_, rfl⟩ (.cons ⟨_, rfl⟩ (.nil))))))))))⟩, VRs.cons (by simp only [VR]) (VRs.cons (by simp only [VR]) (VRs.cons (by simp only [VR]) (VRs.cons (by simp only [VR]) (VRs.cons (by simp only [VR]) (VRs.cons (by simp only [VR]) (VRs.cons (by simp only [VR]) (VRs.cons (by simp only [VR]) (VRs.cons (by simp only [VR]) (VRs.cons (by simp only [VR]) (VRs.nil))))))))))⟩⟩,
    tb_Web := List.forall_mem_cons.mpr ⟨y_Web_NoneType, List.forall_mem_cons.mpr ⟨y_Web_bool, List.forall_mem_cons.mpr ⟨y_Web_int, List.forall_mem_cons.mpr ⟨y_Web_str, List.forall_mem_cons.mpr ⟨y_Web_tuple, List.forall_mem_cons.mpr ⟨y_Web_list, List.forall_mem_cons.mpr ⟨y_Web_dict, List.forall_mem_cons.mpr ⟨x_Web_0, fun _ h => absurd h List.not_mem_nil⟩⟩⟩⟩⟩⟩⟩⟩, tbo_Web := List.forall_mem_cons.mpr ⟨trivial, List.forall_mem_cons.mpr ⟨trivial, List.forall_mem_cons.mpr ⟨trivial, List.forall_mem_cons.mpr ⟨trivial, List.forall_mem_cons.mpr ⟨trivial, List.forall_mem_cons.mpr ⟨trivial, List.forall_mem_cons.mpr ⟨trivial, List.forall_mem_cons.mpr ⟨Is0, fun _ h => absurd h List.not_mem_nil⟩⟩⟩⟩⟩⟩⟩⟩,
    tb_bool := List.forall_mem_cons.mpr ⟨rfl, List.forall_mem_cons.mpr ⟨rfl, List.forall_mem_cons.mpr ⟨rfl, List.forall_mem_cons.mpr ⟨rfl, List.forall_mem_cons.mpr ⟨rfl, List.forall_mem_cons.mpr ⟨rfl, List.forall_mem_cons.mpr ⟨rfl, List.forall_mem_cons.mpr ⟨x_bool_0, fun _ h => absurd h List.not_mem_nil⟩⟩⟩⟩⟩⟩⟩⟩, tbo_bool := List.forall_mem_cons.mpr ⟨trivial, List.forall_mem_cons.mpr ⟨trivial, List.forall_mem_cons.mpr ⟨trivial, List.forall_mem_cons.mpr ⟨trivial, List.forall_mem_cons.mpr ⟨trivial, List.forall_mem_cons.mpr ⟨trivial, List.forall_mem_cons.mpr ⟨trivial, List.forall_mem_cons.mpr ⟨Is0, fun _ h => absurd h List.not_mem_nil⟩⟩⟩⟩⟩⟩⟩⟩,
    tb_int := List.forall_mem_cons.mpr ⟨rfl, List.forall_mem_cons.mpr ⟨rfl, List.forall_mem_cons.mpr ⟨rfl, List.forall_mem_cons.mpr ⟨rfl, List.forall_mem_cons.mpr ⟨rfl, List.forall_mem_cons.mpr ⟨rfl, List.forall_mem_cons.mpr ⟨rfl, List.forall_mem_cons.mpr ⟨x_int_0, fun _ h => absurd h List.not_mem_nil⟩⟩⟩⟩⟩⟩⟩⟩, tbo_int := List.forall_mem_cons.mpr ⟨trivial, List.forall_mem_cons.mpr ⟨trivial, List.forall_mem_cons.mpr ⟨trivial, List.forall_mem_cons.mpr ⟨trivial, List.forall_mem_cons.mpr ⟨trivial, List.forall_mem_cons.mpr ⟨trivial, List.forall_mem_cons.mpr ⟨trivial, List.forall_mem_cons.mpr ⟨Is0, fun _ h => absurd h List.not_mem_nil⟩⟩⟩⟩⟩⟩⟩⟩,
    tb_str := List.forall_mem_cons.mpr ⟨rfl, List.forall_mem_cons.mpr ⟨rfl, List.forall_mem_cons.mpr ⟨rfl, List.forall_mem_cons.mpr ⟨rfl, List.forall_mem_cons.mpr ⟨rfl, List.forall_mem_cons.mpr ⟨rfl, List.forall_mem_cons.mpr ⟨rfl, List.forall_mem_cons.mpr ⟨x_str_0, fun _ h => absurd h List.not_mem_nil⟩⟩⟩⟩⟩⟩⟩⟩, tbo_str := List.forall_mem_cons.mpr ⟨trivial, List.forall_mem_cons.mpr ⟨trivial, List.forall_mem_cons.mpr ⟨trivial, List.forall_mem_cons.mpr ⟨trivial, List.forall_mem_cons.mpr ⟨trivial, List.forall_mem_cons.mpr ⟨trivial, List.forall_mem_cons.mpr ⟨trivial, List.forall_mem_cons.mpr ⟨Is0, fun _ h => absurd h List.not_mem_nil⟩⟩⟩⟩⟩⟩⟩⟩,
    tb_tuple := List.forall_mem_cons.mpr ⟨rfl, List.forall_mem_cons.mpr ⟨rfl, List.forall_mem_cons.mpr ⟨rfl, List.forall_mem_cons.mpr ⟨rfl, List.forall_mem_cons.mpr ⟨rfl, List.forall_mem_cons.mpr ⟨rfl, List.forall_mem_cons.mpr ⟨rfl, List.forall_mem_cons.mpr ⟨x_tuple_0, fun _ h => absurd h List.not_mem_nil⟩⟩⟩⟩⟩⟩⟩⟩, tbo_tuple := List.forall_mem_cons.mpr ⟨trivial, List.forall_mem_cons.mpr ⟨trivial, List.forall_mem_cons.mpr ⟨trivial, List.forall_mem_cons.mpr ⟨trivial, List.forall_mem_cons.mpr ⟨trivial, List.forall_mem_cons.mpr ⟨trivial, List.forall_mem_cons.mpr ⟨trivial, List.forall_mem_cons.mpr ⟨Is0, fun _ h => absurd h List.not_mem_nil⟩⟩⟩⟩⟩⟩⟩⟩,
    kw0 := fun _ us ws _ h1 h2 => match us, ws, h1, h2 with | [], [_, _], _, _ => .of_eq rfl,
    kw1 := fun _ us ws _ h1 h2 => match us, ws, h1, h2 with | [], [_, _, _], _, _ => .of_eq rfl,
    kw2 := fun _ us ws _ h1 h2 => match us, ws, h1, h2 with | [], [_, _, _], _, _ => .of_eq rfl }
  exact ⟨_, W, rfl, fun s u => .of_eq rfl, fun base _ _ => ok_law Γ⟩
end K05
open PySem PySem.W PyProof.Rows in
set_option maxHeartbeats 0 in
open_top hd for PySem.Challenge.rw_whichhouse_k05_whole_walks_of_one_and_tw
open PySem PySem.W PyProof.Rows in
set_option maxRecDepth 100000 in
set_option maxHeartbeats 0 in
theorem PySem.Challenge.cw_whichhouse_k05_whole_walks_of_one_and_tw_holds : PySem.Challenge.rw_whichhouse_k05_whole_walks_of_one_and_tw.Holds := by
  refine hd ?_
  k_fill
  refine PI.walkLaw (l := PySem.Challenge.rw_whichhouse_k05_whole_walks_of_one_and_tw) (n := 63) (k := 12) (x := "script") K05.plain rfl (by decide) rfl ⟨rfl, by decide, by decide⟩ (fun w h Y => PySem.W.kIn_of Y) ?F
  case F =>
    intro w mg fa h KX G hmg
    refine' K05.all_mk KX G hmg ?aC0 ?pg0 ?hd0 ?po0 ?sa0 ?mk0 ?kc0 ?ia0 ?ib0 ?ic0 ?id0 ?no0_0 ?no0_1 ?no0_2 ?no0_3 ?no0_4 ?no0_5 ?a0 ?l0 ?c0 ?k0 ?a1 ?l1 ?c1 ?k1 ?a2 ?l2 ?c2 ?k2 ?a3 ?l3 ?c3 ?k3 ?a4 ?l4 ?c4 ?k4 ?a5 ?l5 ?c5 ?k5 ?a6 ?l6 ?c6 ?k6 ?a7 ?l7 ?c7 ?k7 ?a8 ?i8 ?l8 ?c8 ?k8 ?a9 ?l9 ?c9 ?k9 ?a10 ?l10 ?c10 ?k10 ?a11 ?l11 ?c11 ?k11 ?a12 ?l12 ?c12 ?k12 ?a13 ?l13 ?c13 ?k13 ?a14 ?l14 ?c14 ?k14 ?a15 ?l15 ?c15 ?k15 ?a16 ?l16 ?c16 ?k16 ?a17 ?l17 ?c17 ?k17 ?a18 ?pq18 ?pt18 ?pr18 ?l18 ?c18 ?k18 ?a19 ?l19 ?c19 ?k19 ?a20 ?l20 ?c20 ?k20 ?a21 ?l21 ?c21 ?k21 ?a22 ?l22 ?c22 ?k22 ?a23 ?l23 ?c23 ?k23 ?a24 ?l24 ?c24 ?k24 ?a25 ?l25 ?c25 ?k25 ?a26 ?l26 ?c26 ?k26 ?a27 ?l27 ?c27 ?k27 ?a28 ?l28 ?c28 ?k28 ?a29 ?l29 ?c29 ?k29 ?a30 ?pq30 ?pt30 ?pr30 ?l30 ?c30 ?k30 ?a31 ?l31 ?c31 ?k31 ?a32 ?l32 ?c32 ?k32 ?a33 ?l33 ?c33 ?k33 ?z_abs ?z_all ?z_any ?z_bool ?z_divmod ?z_int ?z_isinstance ?z_len ?z_list ?z_max ?z_min ?z_range ?z_set ?z_sorted ?z_str ?z_tuple ?v_MARKS ?v_MOST_HOUSES ?v_MOST_WORD ?v_NUMBERS ?w_NUMBERS ?y_Web_NoneType ?y_Web_bool ?y_Web_int ?y_Web_str ?y_Web_tuple ?y_Web_list ?y_Web_dict ?x_Web_0 ?x_bool_0 ?x_int_0 ?x_str_0 ?x_tuple_0
    (case aC0 => k_is)
    (case pg0 => k_is)
    (case hd0 => k_is)
    (case po0 => k_is)
    (case sa0 => k_is)
    (case mk0 => k_is)
    (case kc0 => k_is)
    (case ia0 => k_is)
    (case ib0 => k_is)
    (case ic0 => k_is)
    (case id0 => k_is)
    (case no0_0 => k_is)
    (case no0_1 => k_is)
    (case no0_2 => k_is)
    (case no0_3 => k_is)
    (case no0_4 => k_is)
    (case no0_5 => k_is)
    (case a0 => k_is)
    (case l0 => k_is)
    (case c0 => k_is)
    (case k0 => k_is)
    (case a1 => k_is)
    (case l1 => k_is)
    (case c1 => k_is)
    (case k1 => k_is)
    (case a2 => k_is)
    (case l2 => k_is)
    (case c2 => k_is)
    (case k2 => k_is)
    (case a3 => k_is)
    (case l3 => k_is)
    (case c3 => k_is)
    (case k3 => k_is)
    (case a4 => k_is)
    (case l4 => k_is)
    (case c4 => k_is)
    (case k4 => k_is)
    (case a5 => k_is)
    (case l5 => k_is)
    (case c5 => k_is)
    (case k5 => k_is)
    (case a6 => k_is)
    (case l6 => k_is)
    (case c6 => k_is)
    (case k6 => k_is)
    (case a7 => k_is)
    (case l7 => k_is)
    (case c7 => k_is)
    (case k7 => k_is)
    (case a8 => k_is)
    (case i8 => k_is)
    (case l8 => k_is)
    (case c8 => k_is)
    (case k8 => k_is)
    (case a9 => k_is)
    (case l9 => k_is)
    (case c9 => k_is)
    (case k9 => k_is)
    (case a10 => k_is)
    (case l10 => k_is)
    (case c10 => k_is)
    (case k10 => k_is)
    (case a11 => k_is)
    (case l11 => k_is)
    (case c11 => k_is)
    (case k11 => k_is)
    (case a12 => k_is)
    (case l12 => k_is)
    (case c12 => k_is)
    (case k12 => k_is)
    (case a13 => k_is)
    (case l13 => k_is)
    (case c13 => k_is)
    (case k13 => k_is)
    (case a14 => k_is)
    (case l14 => k_is)
    (case c14 => k_is)
    (case k14 => k_is)
    (case a15 => k_is)
    (case l15 => k_is)
    (case c15 => k_is)
    (case k15 => k_is)
    (case a16 => k_is)
    (case l16 => k_is)
    (case c16 => k_is)
    (case k16 => k_is)
    (case a17 => k_is)
    (case l17 => k_is)
    (case c17 => k_is)
    (case k17 => k_is)
    (case a18 => k_is)
    (case pq18 => k_is)
    (case pt18 => k_is)
    (case pr18 => k_is)
    (case l18 => k_is)
    (case c18 => k_is)
    (case k18 => k_is)
    (case a19 => k_is)
    (case l19 => k_is)
    (case c19 => k_is)
    (case k19 => k_is)
    (case a20 => k_is)
    (case l20 => k_is)
    (case c20 => k_is)
    (case k20 => k_is)
    (case a21 => k_is)
    (case l21 => k_is)
    (case c21 => k_is)
    (case k21 => k_is)
    (case a22 => k_is)
    (case l22 => k_is)
    (case c22 => k_is)
    (case k22 => k_is)
    (case a23 => k_is)
    (case l23 => k_is)
    (case c23 => k_is)
    (case k23 => k_is)
    (case a24 => k_is)
    (case l24 => k_is)
    (case c24 => k_is)
    (case k24 => k_is)
    (case a25 => k_is)
    (case l25 => k_is)
    (case c25 => k_is)
    (case k25 => k_is)
    (case a26 => k_is)
    (case l26 => k_is)
    (case c26 => k_is)
    (case k26 => k_is)
    (case a27 => k_is)
    (case l27 => k_is)
    (case c27 => k_is)
    (case k27 => k_is)
    (case a28 => k_is)
    (case l28 => k_is)
    (case c28 => k_is)
    (case k28 => k_is)
    (case a29 => k_is)
    (case l29 => k_is)
    (case c29 => k_is)
    (case k29 => k_is)
    (case a30 => k_is)
    (case pq30 => k_is)
    (case pt30 => k_is)
    (case pr30 => k_is)
    (case l30 => k_is)
    (case c30 => k_is)
    (case k30 => k_is)
    (case a31 => k_is)
    (case l31 => k_is)
    (case c31 => k_is)
    (case k31 => k_is)
    (case a32 => k_is)
    (case l32 => k_is)
    (case c32 => k_is)
    (case k32 => k_is)
    (case a33 => k_is)
    (case l33 => k_is)
    (case c33 => k_is)
    (case k33 => k_is)
    (case z_abs => k_is)
    (case z_all => k_is)
    (case z_any => k_is)
    (case z_bool => k_is)
    (case z_divmod => k_is)
    (case z_int => k_is)
    (case z_isinstance => k_is)
    (case z_len => k_is)
    (case z_list => k_is)
    (case z_max => k_is)
    (case z_min => k_is)
    (case z_range => k_is)
    (case z_set => k_is)
    (case z_sorted => k_is)
    (case z_str => k_is)
    (case z_tuple => k_is)
    (case v_MARKS => k_is)
    (case v_MOST_HOUSES => k_is)
    (case v_MOST_WORD => k_is)
    (case v_NUMBERS => k_is)
    (case w_NUMBERS => k_is)
    (case y_Web_NoneType => kit_is)
    (case y_Web_bool => kit_is)
    (case y_Web_int => kit_is)
    (case y_Web_str => kit_is)
    (case y_Web_tuple => kit_is)
    (case y_Web_list => kit_is)
    (case y_Web_dict => kit_is)
    (case x_Web_0 => kit_is)
    (case x_bool_0 => kit_is)
    (case x_int_0 => kit_is)
    (case x_str_0 => kit_is)
    (case x_tuple_0 => kit_is)
