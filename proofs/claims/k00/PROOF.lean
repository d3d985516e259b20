import PyProof.Rows.All
import Wide.All
import OpenK.AllK
import Wide.FinOn
import HandS.ForMost
import HandS.Exc
import HandS.ExcOwn
import HandS.TryMany
import HandS.WordsExc
import HandS.Style
import HandS.ExcInit
import KE.KExcSuper
import HandS.Deep
import HandS.IsInst
import HandS.DictComp
import PyProof.DictUpdate
import HandS.TupLen
import HandS.TupLe
import HandS.TryOnly
import HandS.WordsDict
import HandS.Sort
import KE.KDictDisplayH
import HandS.RaiseMore
import HandS.Defaults
import PySem.Challenge.RW_ropebook_k00_tokens_of_texts
set_option Elab.async false
set_option linter.all false
set_option maxRecDepth 100000
set_option maxHeartbeats 4000000
namespace M
open PySem PySem.Spec PyProof.Rows L2

/-! ### plain values -/
inductive PV where
  | non | bl (b : Bool) | int (i : Int) | str (x : Str)
  | tup (xs : List PV) | ktp (xs : List PV) | rng (lo hi : Int) | lst (xs : List PV) | scr (xs : List PV) | dct (t : Bool) (kvs : List (PV × PV)) | ins (c : Str) (fs : List (Str × PV))
  deriving Inhabited

def kP : Key → PV
  | .inl i => .int i
  | .inr x => .str x
def kPs (l : List Key) : PV := .tup (l.map kP)

abbrev Cnt := Addr → Nat
/-- a list of the module -/
def KL (K : PySem.W.Frag) (a : Addr) (xs : List V) : Prop :=
  ∃ (its : Array Value) (n : Nat), K.lookup a = some ({ cls := .type "list", data := .seq its n } : Obj) ∧ its.size ≤ sizeLine ∧ Vals xs its.toList
/-- a list of the module, in the layer's words -/
def KS (K : PySem.W.Frag) (a : Addr) (xs : List V) : Prop :=
  ∃ (o : Obj) (its : Array Value) (n : Nat), K.lookup a = some o ∧ o.cls = .type "list" ∧ o.dict = none ∧ o.data = .seq its n ∧ its.size ≤ sizeLine ∧ Vals xs its.toList
/-- a tuple of the module -/
def KT (K : PySem.W.Frag) (a : Addr) (xs : List V) : Prop :=
  ∃ (o : Obj) (its : Array Value) (n : Nat), K.lookup a = some o ∧ o.cls = .type "tuple" ∧ o.data = .seq its n ∧ its.size ≤ sizeLine ∧ Vals xs its.toList
/-- a list: of the heap, or of the module -/
def LL (K : PySem.W.Frag) (H : Hp) (a : Addr) (xs : List V) : Prop := Rd H a (.lst xs) ∨ KL K a xs
theorem LL.sq {K : PySem.W.Frag} {H : Hp} {a : Addr} {xs : List V} (h : LL K H a xs) : SqL K H a xs := by
  rcases h with h | ⟨its, n, h, z, r⟩
  · exact .inl h
  · exact .inr ⟨_, its, n, h, rfl, rfl, rfl, z, r⟩
theorem LL.of {K : PySem.W.Frag} {H : Hp} {a : Addr} {xs : List V} (h : H a = some (.lst xs)) : LL K H a xs := .inl (.inl h)
/-- its object -/
theorem LL.obj {X : Cx} {pins : List (Addr × Obj)} {σ : L2.St} {H : Hp} {s : Shared} {a : Addr} {xs : List V} (I : L2.Inv X pins σ H s) (h : LL X.K H a xs) : xs.length ≤ sizeLine ∧ ∃ (its : List Value) (n : Nat), Vals xs its ∧ s.heap.get? a = some { cls := .type "list", data := .seq its.toArray n } := by
  rcases h with (h | ⟨o, h⟩) | ⟨its, n, h, z, r⟩
  · exact I.hok a _ h
  · obtain ⟨_, q⟩ := I.hok a _ h
    exact q
  · refine ⟨?_, its.toList, n, r, by simpa using I.kIn a _ h⟩
    have e := r.length
    simp only [Array.length_toList] at e
    omega
/-- objects that never change -/
def Still : HO → Prop
  | .tup _ => True
  | .frz _ _ => True
  | .rng _ _ => True
  | _ => False

mutual
/-- v stands for the plain value -/
inductive Rep (K : PySem.W.Frag) (mg : Str → Option Value) (H : Hp) : V → PV → Prop
  | non : Rep K mg H .non .non
  | bl (b : Bool) : Rep K mg H (.bl b) (.bl b)
  | int (i : Int) : Rep K mg H (.int i) (.int i)
  | str (x : Str) : Rep K mg H (.str x) (.str x)
  | tup {a : Addr} {vs : List V} {ps : List PV} : H a = some (.tup vs) → Reps K mg H vs ps → Rep K mg H (.ref a) (.tup ps)
  | ktp {a : Addr} {vs : List V} {ps : List PV} : KT K a vs → Reps K mg H vs ps → Rep K mg H (.ref a) (.ktp ps)
  | rng {a : Addr} {lo hi : Int} : H a = some (.rng lo hi) → Rep K mg H (.ref a) (.rng lo hi)
  | lst {a : Addr} {vs : List V} {ps : List PV} : LL K H a vs → Reps K mg H vs ps → Rep K mg H (.ref a) (.lst ps)
  | scr {a : Addr} {vs : List V} {ps : List PV} : Rd H a (.lst vs) ∨ KS K a vs → Reps K mg H vs ps → Rep K mg H (.ref a) (.scr ps)
  | dK {a : Addr} {es : List (Key × V)} {vs : List V} {kvs : List (PV × PV)} : H a = some (.dK es) → es.map (fun e => kP e.1) = kvs.map (·.1) → vs = es.map (·.2) → Reps K mg H vs (kvs.map (·.2)) → Rep K mg H (.ref a) (.dct false kvs)
  | dT {a : Addr} {es : List (List Key × V)} {vs : List V} {kvs : List (PV × PV)} : H a = some (.dT es) → es.map (fun e => kPs e.1) = kvs.map (·.1) → vs = es.map (·.2) → Reps K mg H vs (kvs.map (·.2)) → Rep K mg H (.ref a) (.dct true kvs)
  | ins {a C dx : Addr} {c : Str} {fs : List (Str × V)} {vs : List V} {ps : List (Str × PV)} : H a = some (.ins C dx fs) → mg c = some (.ref C) → fs.map (·.1) = ps.map (·.1) → vs = fs.map (·.2) → Reps K mg H vs (ps.map (·.2)) → Rep K mg H (.ref a) (.ins c ps)
inductive Reps (K : PySem.W.Frag) (mg : Str → Option Value) (H : Hp) : List V → List PV → Prop
  | nil : Reps K mg H [] []
  | cons {v : V} {vs : List V} {p : PV} {ps : List PV} : Rep K mg H v p → Reps K mg H vs ps → Reps K mg H (v :: vs) (p :: ps)
end

mutual
/-- .. d levels of its lists and dicts are ours alone: f counts them; T: all that is owned -/
inductive Own (K : PySem.W.Frag) (mg : Str → Option Value) (H : Hp) (T : Cnt) : Nat → V → PV → Cnt → Prop
  | non {d : Nat} {f : Cnt} : (∀ b, f b = 0) → Own K mg H T d .non .non f
  | bl {d : Nat} {f : Cnt} (k : Bool) : (∀ b, f b = 0) → Own K mg H T d (.bl k) (.bl k) f
  | int {d : Nat} {f : Cnt} (i : Int) : (∀ b, f b = 0) → Own K mg H T d (.int i) (.int i) f
  | str {d : Nat} {f : Cnt} (x : Str) : (∀ b, f b = 0) → Own K mg H T d (.str x) (.str x) f
  | tup {d : Nat} {f : Cnt} {a : Addr} {vs : List V} {ps : List PV} : H a = some (.tup vs) → Owns K mg H T d vs ps f → Own K mg H T d (.ref a) (.tup ps) f
  | ktp {d : Nat} {f : Cnt} {a : Addr} {vs : List V} {ps : List PV} : KT K a vs → Owns K mg H T d vs ps f → Own K mg H T d (.ref a) (.ktp ps) f
  | rng {d : Nat} {f : Cnt} {a : Addr} {lo hi : Int} : H a = some (.rng lo hi) → (∀ b, f b = 0) → Own K mg H T d (.ref a) (.rng lo hi) f
  | lst0 {f : Cnt} {a : Addr} {vs : List V} {ps : List PV} : ((Rd H a (.lst vs) ∧ T a = 0) ∨ KL K a vs) → Owns K mg H T 0 vs ps f → Own K mg H T 0 (.ref a) (.lst ps) f
  | scr0 {f : Cnt} {a : Addr} {vs : List V} {ps : List PV} : ((Rd H a (.lst vs) ∧ T a = 0) ∨ KS K a vs) → Owns K mg H T 0 vs ps f → Own K mg H T 0 (.ref a) (.scr ps) f
  | lst1 {d : Nat} {f g : Cnt} {a : Addr} {vs : List V} {ps : List PV} : H a = some (.lst vs) → Owns K mg H T d vs ps f → (∀ b, g b = f b + if b = a then 1 else 0) → Own K mg H T (d + 1) (.ref a) (.lst ps) g
  | dK0 {f : Cnt} {a : Addr} {es : List (Key × V)} {vs : List V} {kvs : List (PV × PV)} : H a = some (.dK es) → T a = 0 → es.map (fun e => kP e.1) = kvs.map (·.1) → vs = es.map (·.2) → Owns K mg H T 0 vs (kvs.map (·.2)) f → Own K mg H T 0 (.ref a) (.dct false kvs) f
  | dK1 {d : Nat} {f g : Cnt} {a : Addr} {es : List (Key × V)} {vs : List V} {kvs : List (PV × PV)} : H a = some (.dK es) → es.map (fun e => kP e.1) = kvs.map (·.1) → vs = es.map (·.2) → Owns K mg H T d vs (kvs.map (·.2)) f →
      (∀ b, g b = f b + if b = a then 1 else 0) → Own K mg H T (d + 1) (.ref a) (.dct false kvs) g
  | dT0 {f : Cnt} {a : Addr} {es : List (List Key × V)} {vs : List V} {kvs : List (PV × PV)} : H a = some (.dT es) → T a = 0 → es.map (fun e => kPs e.1) = kvs.map (·.1) → vs = es.map (·.2) → Owns K mg H T 0 vs (kvs.map (·.2)) f → Own K mg H T 0 (.ref a) (.dct true kvs) f
  | dT1 {d : Nat} {f g : Cnt} {a : Addr} {es : List (List Key × V)} {vs : List V} {kvs : List (PV × PV)} : H a = some (.dT es) → es.map (fun e => kPs e.1) = kvs.map (·.1) → vs = es.map (·.2) → Owns K mg H T d vs (kvs.map (·.2)) f →
      (∀ b, g b = f b + if b = a then 1 else 0) → Own K mg H T (d + 1) (.ref a) (.dct true kvs) g
  | ins0 {f : Cnt} {a C dx : Addr} {c : Str} {fs : List (Str × V)} {vs : List V} {ps : List (Str × PV)} : H a = some (.ins C dx fs) → T a = 0 → mg c = some (.ref C) → fs.map (·.1) = ps.map (·.1) → vs = fs.map (·.2) → Owns K mg H T 0 vs (ps.map (·.2)) f → Own K mg H T 0 (.ref a) (.ins c ps) f
  | ins1 {d : Nat} {f g : Cnt} {a C dx : Addr} {c : Str} {fs : List (Str × V)} {vs : List V} {ps : List (Str × PV)} : H a = some (.ins C dx fs) → mg c = some (.ref C) → fs.map (·.1) = ps.map (·.1) → vs = fs.map (·.2) → Owns K mg H T d vs (ps.map (·.2)) f →
      (∀ b, g b = f b + if b = a then 1 else 0) → Own K mg H T (d + 1) (.ref a) (.ins c ps) g
inductive Owns (K : PySem.W.Frag) (mg : Str → Option Value) (H : Hp) (T : Cnt) : Nat → List V → List PV → Cnt → Prop
  | nil {d : Nat} {f : Cnt} : (∀ b, f b = 0) → Owns K mg H T d [] [] f
  | cons {d : Nat} {v : V} {vs : List V} {p : PV} {ps : List PV} {f g h : Cnt} : Own K mg H T d v p f → Owns K mg H T d vs ps g → (∀ b, h b = f b + g b) → Owns K mg H T d (v :: vs) (p :: ps) h
end

section
variable {K : PySem.W.Frag} {mg : Str → Option Value} {H H' : Hp} {T T' : Cnt}

/-! ### Rep is kept by a heap that keeps -/
def Grow (H H' : Hp) : Prop := ∀ a o, H a = some o → H' a = some o
theorem Grow.refl (H : Hp) : Grow H H := fun _ _ h => h
theorem Grow.trans {H1 H2 H3 : Hp} (a : Grow H1 H2) (b : Grow H2 H3) : Grow H1 H3 := fun c o h => b c o (a c o h)
theorem Grow.upd {p : Addr} {o : HO} (h : H p = none) : Grow H (upd H p o) := fun b x e => by rw [upd_ne (ne_of_none e h)]; exact e
theorem Rd.grow {a : Addr} {o : HO} (h : Rd H a o) (g : Grow H H') : Rd H' a o := by
  rcases h with h | ⟨x, h⟩
  · exact .inl (g _ _ h)
  · exact .inr ⟨x, g _ _ h⟩
theorem sqL_grow {a : Addr} {vs : List V} (h : LL K H a vs) (g : Grow H H') : LL K H' a vs := by
  rcases h with h | h
  · exact .inl (Rd.grow h g)
  · exact .inr h
theorem sqT_grow {a : Addr} {vs : List V} (h : SqT K H a vs) (g : Grow H H') : SqT K H' a vs := by
  rcases h with h | h
  · exact .inl (Rd.grow h g)
  · exact .inr h
mutual
theorem Rep.grow (g : Grow H H') : ∀ {v : V} {p : PV}, Rep K mg H v p → Rep K mg H' v p
  | _, _, .non => .non
  | _, _, .bl b => .bl b
  | _, _, .int i => .int i
  | _, _, .str x => .str x
  | _, _, .tup h r => .tup (g _ _ h) (Reps.grow g r)
  | _, _, .ktp h r => .ktp h (Reps.grow g r)
  | _, _, .rng h => .rng (g _ _ h)
  | _, _, .lst h r => .lst (sqL_grow h g) (Reps.grow g r)
  | _, _, .scr h r => .scr (by rcases h with h | h; exact .inl (Rd.grow h g); exact .inr h) (Reps.grow g r)
  | _, _, .dK h e1 e2 r => .dK (g _ _ h) e1 e2 (Reps.grow g r)
  | _, _, .dT h e1 e2 r => .dT (g _ _ h) e1 e2 (Reps.grow g r)
  | _, _, .ins h m e1 e2 r => .ins (g _ _ h) m e1 e2 (Reps.grow g r)
theorem Reps.grow (g : Grow H H') : ∀ {vs : List V} {ps : List PV}, Reps K mg H vs ps → Reps K mg H' vs ps
  | _, _, .nil => .nil
  | _, _, .cons h r => .cons (Rep.grow g h) (Reps.grow g r)
end

/-! ### Own: what it says of Rep, of counts -/
mutual
theorem Own.rep : ∀ {d : Nat} {v : V} {p : PV} {f : Cnt}, Own K mg H T d v p f → Rep K mg H v p
  | _, _, _, _, .non _ => .non
  | _, _, _, _, .bl k _ => .bl k
  | _, _, _, _, .int i _ => .int i
  | _, _, _, _, .str x _ => .str x
  | _, _, _, _, .tup h r => .tup h (Owns.rep r)
  | _, _, _, _, .ktp h r => .ktp h (Owns.rep r)
  | _, _, _, _, .rng h _ => .rng h
  | _, _, _, _, .lst0 h r => .lst (by rcases h with ⟨h, _⟩ | h; exact .inl h; exact .inr h) (Owns.rep r)
  | _, _, _, _, .scr0 h r => .scr (by rcases h with ⟨h, _⟩ | h; exact .inl h; exact .inr h) (Owns.rep r)
  | _, _, _, _, .lst1 h r _ => .lst (LL.of h) (Owns.rep r)
  | _, _, _, _, .dK0 h _ e1 e2 r => .dK h e1 e2 (Owns.rep r)
  | _, _, _, _, .dK1 h e1 e2 r _ => .dK h e1 e2 (Owns.rep r)
  | _, _, _, _, .dT0 h _ e1 e2 r => .dT h e1 e2 (Owns.rep r)
  | _, _, _, _, .dT1 h e1 e2 r _ => .dT h e1 e2 (Owns.rep r)
  | _, _, _, _, .ins0 h _ m e1 e2 r => .ins h m e1 e2 (Owns.rep r)
  | _, _, _, _, .ins1 h m e1 e2 r _ => .ins h m e1 e2 (Owns.rep r)
theorem Owns.rep : ∀ {d : Nat} {vs : List V} {ps : List PV} {f : Cnt}, Owns K mg H T d vs ps f → Reps K mg H vs ps
  | _, _, _, _, .nil _ => .nil
  | _, _, _, _, .cons h r _ => .cons (Own.rep h) (Owns.rep r)
end

/-- what is owned is tracked -/
theorem cnt_split {f g : Cnt} {a b : Addr} (hg : ∀ b, g b = f b + if b = a then 1 else 0) : (b = a ∧ g b = f b + 1) ∨ (b ≠ a ∧ g b = f b) := by
  by_cases e : b = a
  · exact .inl ⟨e, by rw [hg, if_pos e]⟩
  · exact .inr ⟨e, by rw [hg, if_neg e]; rfl⟩
mutual
theorem Own.there : ∀ {d : Nat} {v : V} {p : PV} {f : Cnt}, Own K mg H T d v p f → ∀ b, f b ≠ 0 → ∃ o, H b = some o ∧ ¬ Still o
  | _, _, _, _, .non z, b, h => absurd (z b) h
  | _, _, _, _, .bl _ z, b, h => absurd (z b) h
  | _, _, _, _, .int _ z, b, h => absurd (z b) h
  | _, _, _, _, .str _ z, b, h => absurd (z b) h
  | _, _, _, _, .tup _ r, b, h => Owns.there r b h
  | _, _, _, _, .ktp _ r, b, h => Owns.there r b h
  | _, _, _, _, .rng _ z, b, h => absurd (z b) h
  | _, _, _, _, .lst0 _ r, b, h => Owns.there r b h
  | _, _, _, _, .scr0 _ r, b, h => Owns.there r b h
  | _, _, _, _, .lst1 e r hg, b, h => by
    rcases cnt_split (b := b) hg with ⟨rfl, _⟩ | ⟨_, q⟩
    · exact ⟨_, e, fun z => z⟩
    · exact Owns.there r b (by rw [← q]; exact h)
  | _, _, _, _, .dK0 _ _ _ _ r, b, h => Owns.there r b h
  | _, _, _, _, .dK1 e _ _ r hg, b, h => by
    rcases cnt_split (b := b) hg with ⟨rfl, _⟩ | ⟨_, q⟩
    · exact ⟨_, e, fun z => z⟩
    · exact Owns.there r b (by rw [← q]; exact h)
  | _, _, _, _, .dT0 _ _ _ _ r, b, h => Owns.there r b h
  | _, _, _, _, .dT1 e _ _ r hg, b, h => by
    rcases cnt_split (b := b) hg with ⟨rfl, _⟩ | ⟨_, q⟩
    · exact ⟨_, e, fun z => z⟩
    · exact Owns.there r b (by rw [← q]; exact h)
  | _, _, _, _, .ins0 _ _ _ _ _ r, b, h => Owns.there r b h
  | _, _, _, _, .ins1 e _ _ _ r hg, b, h => by
    rcases cnt_split (b := b) hg with ⟨rfl, _⟩ | ⟨_, q⟩
    · exact ⟨_, e, fun z => z⟩
    · exact Owns.there r b (by rw [← q]; exact h)
theorem Owns.there : ∀ {d : Nat} {vs : List V} {ps : List PV} {f : Cnt}, Owns K mg H T d vs ps f → ∀ b, f b ≠ 0 → ∃ o, H b = some o ∧ ¬ Still o
  | _, _, _, _, .nil z, b, h => absurd (z b) h
  | _, _, _, _, @Owns.cons _ _ _ _ _ _ _ _ _ f g k h r hk, b, hb => by
    by_cases e : f b = 0
    · exact Owns.there r b (by have := hk b; omega)
    · exact Own.there h b e
end
mutual
theorem Own.zero_ : ∀ {d : Nat} {v : V} {p : PV} {f : Cnt}, Own K mg H T d v p f → d = 0 → ∀ b, f b = 0
  | _, _, _, _, .non z, _, b => z b
  | _, _, _, _, .bl _ z, _, b => z b
  | _, _, _, _, .int _ z, _, b => z b
  | _, _, _, _, .str _ z, _, b => z b
  | _, _, _, _, .tup _ r, e, b => Owns.zero_ r e b
  | _, _, _, _, .ktp _ r, e, b => Owns.zero_ r e b
  | _, _, _, _, .rng _ z, _, b => z b
  | _, _, _, _, .lst0 _ r, e, b => Owns.zero_ r e b
  | _, _, _, _, .scr0 _ r, e, b => Owns.zero_ r e b
  | _, _, _, _, .lst1 _ _ _, e, _ => nomatch e
  | _, _, _, _, .dK0 _ _ _ _ r, e, b => Owns.zero_ r e b
  | _, _, _, _, .dK1 _ _ _ _ _, e, _ => nomatch e
  | _, _, _, _, .dT0 _ _ _ _ r, e, b => Owns.zero_ r e b
  | _, _, _, _, .dT1 _ _ _ _ _, e, _ => nomatch e
  | _, _, _, _, .ins0 _ _ _ _ _ r, e, b => Owns.zero_ r e b
  | _, _, _, _, .ins1 _ _ _ _ _ _, e, _ => nomatch e
theorem Owns.zero_ : ∀ {d : Nat} {vs : List V} {ps : List PV} {f : Cnt}, Owns K mg H T d vs ps f → d = 0 → ∀ b, f b = 0
  | _, _, _, _, .nil z, _, b => z b
  | _, _, _, _, .cons h r hk, e, b => by rw [hk b, Own.zero_ h e b, Owns.zero_ r e b]
end
theorem Own.zero {v : V} {p : PV} {f : Cnt} (h : Own K mg H T 0 v p f) (b : Addr) : f b = 0 := h.zero_ rfl b
theorem Owns.zero {vs : List V} {ps : List PV} {f : Cnt} (h : Owns K mg H T 0 vs ps f) (b : Addr) : f b = 0 := h.zero_ rfl b
/-! counts may be written otherwise -/
mutual
theorem Own.cnt : ∀ {d : Nat} {v : V} {p : PV} {f f' : Cnt}, Own K mg H T d v p f → (∀ b, f' b = f b) → Own K mg H T d v p f'
  | _, _, _, _, _, .non z, e => .non fun b => (e b).trans (z b)
  | _, _, _, _, _, .bl k z, e => .bl k fun b => (e b).trans (z b)
  | _, _, _, _, _, .int i z, e => .int i fun b => (e b).trans (z b)
  | _, _, _, _, _, .str x z, e => .str x fun b => (e b).trans (z b)
  | _, _, _, _, _, .tup h r, e => .tup h (Owns.cnt r e)
  | _, _, _, _, _, .ktp h r, e => .ktp h (Owns.cnt r e)
  | _, _, _, _, _, .rng h z, e => .rng h fun b => (e b).trans (z b)
  | _, _, _, _, _, .lst0 h r, e => .lst0 h (Owns.cnt r e)
  | _, _, _, _, _, .scr0 h r, e => .scr0 h (Owns.cnt r e)
  | _, _, _, _, _, .lst1 h r hg, e => .lst1 h r fun b => (e b).trans (hg b)
  | _, _, _, _, _, .dK0 h t e1 e2 r, e => .dK0 h t e1 e2 (Owns.cnt r e)
  | _, _, _, _, _, .dK1 h e1 e2 r hg, e => .dK1 h e1 e2 r fun b => (e b).trans (hg b)
  | _, _, _, _, _, .dT0 h t e1 e2 r, e => .dT0 h t e1 e2 (Owns.cnt r e)
  | _, _, _, _, _, .dT1 h e1 e2 r hg, e => .dT1 h e1 e2 r fun b => (e b).trans (hg b)
  | _, _, _, _, _, .ins0 h t m e1 e2 r, e => .ins0 h t m e1 e2 (Owns.cnt r e)
  | _, _, _, _, _, .ins1 h m e1 e2 r hg, e => .ins1 h m e1 e2 r fun b => (e b).trans (hg b)
theorem Owns.cnt : ∀ {d : Nat} {vs : List V} {ps : List PV} {f f' : Cnt}, Owns K mg H T d vs ps f → (∀ b, f' b = f b) → Owns K mg H T d vs ps f'
  | _, _, _, _, _, .nil z, e => .nil fun b => (e b).trans (z b)
  | _, _, _, _, _, .cons h r hk, e => .cons h r fun b => (e b).trans (hk b)
end

/-! ### Own is kept where what it leans on is kept -/
mutual
theorem Own.keep (h2 : ∀ a o, H a = some o → T a = 0 → T' a = 0) : ∀ {d : Nat} {v : V} {p : PV} {f : Cnt}, Own K mg H T d v p f → (∀ a o, H a = some o → (f a ≠ 0 ∨ T a = 0 ∨ Still o) → H' a = some o) → Own K mg H' T' d v p f
  | _, _, _, _, .non z, _ => .non z
  | _, _, _, _, .bl k z, _ => .bl k z
  | _, _, _, _, .int i z, _ => .int i z
  | _, _, _, _, .str x z, _ => .str x z
  | _, _, _, _, .tup h r, k => .tup (k _ _ h (.inr (.inr trivial))) (Owns.keep h2 r k)
  | _, _, _, _, .ktp h r, k => .ktp h (Owns.keep h2 r k)
  | _, _, _, _, .rng h z, k => .rng (k _ _ h (.inr (.inr trivial))) z
  | _, _, _, _, .lst0 h r, k => .lst0 (by
      rcases h with ⟨h | ⟨o, h⟩, t⟩ | h
      · exact .inl ⟨.inl (k _ _ h (.inr (.inl t))), h2 _ _ h t⟩
      · exact .inl ⟨.inr ⟨o, k _ _ h (.inr (.inr trivial))⟩, h2 _ _ h t⟩
      · exact .inr h) (Owns.keep h2 r k)
  | _, _, _, _, .scr0 h r, k => .scr0 (by
      rcases h with ⟨h | ⟨o, h⟩, t⟩ | h
      · exact .inl ⟨.inl (k _ _ h (.inr (.inl t))), h2 _ _ h t⟩
      · exact .inl ⟨.inr ⟨o, k _ _ h (.inr (.inr trivial))⟩, h2 _ _ h t⟩
      · exact .inr h) (Owns.keep h2 r k)
  | _, _, _, _, .lst1 h r hg, k => .lst1 (k _ _ h (.inl (by rw [hg, if_pos rfl]; omega))) (Owns.keep h2 r fun a o e z => k a o e (z.imp (fun q => by rw [hg]; omega) id)) hg
  | _, _, _, _, .dK0 h t e1 e2 r, k => .dK0 (k _ _ h (.inr (.inl t))) (h2 _ _ h t) e1 e2 (Owns.keep h2 r k)
  | _, _, _, _, .dK1 h e1 e2 r hg, k => .dK1 (k _ _ h (.inl (by rw [hg, if_pos rfl]; omega))) e1 e2 (Owns.keep h2 r fun a o e z => k a o e (z.imp (fun q => by rw [hg]; omega) id)) hg
  | _, _, _, _, .dT0 h t e1 e2 r, k => .dT0 (k _ _ h (.inr (.inl t))) (h2 _ _ h t) e1 e2 (Owns.keep h2 r k)
  | _, _, _, _, .dT1 h e1 e2 r hg, k => .dT1 (k _ _ h (.inl (by rw [hg, if_pos rfl]; omega))) e1 e2 (Owns.keep h2 r fun a o e z => k a o e (z.imp (fun q => by rw [hg]; omega) id)) hg
  | _, _, _, _, .ins0 h t m e1 e2 r, k => .ins0 (k _ _ h (.inr (.inl t))) (h2 _ _ h t) m e1 e2 (Owns.keep h2 r k)
  | _, _, _, _, .ins1 h m e1 e2 r hg, k => .ins1 (k _ _ h (.inl (by rw [hg, if_pos rfl]; omega))) m e1 e2 (Owns.keep h2 r fun a o e z => k a o e (z.imp (fun q => by rw [hg]; omega) id)) hg
theorem Owns.keep (h2 : ∀ a o, H a = some o → T a = 0 → T' a = 0) : ∀ {d : Nat} {vs : List V} {ps : List PV} {f : Cnt}, Owns K mg H T d vs ps f → (∀ a o, H a = some o → (f a ≠ 0 ∨ T a = 0 ∨ Still o) → H' a = some o) → Owns K mg H' T' d vs ps f
  | _, _, _, _, .nil z, _ => .nil z
  | _, _, _, _, .cons h r hk, k => .cons (Own.keep h2 h fun a o e z => k a o e (z.imp (fun q => by rw [hk]; omega) id)) (Owns.keep h2 r fun a o e z => k a o e (z.imp (fun q => by rw [hk]; omega) id)) hk
end

/-! ### given up: fewer levels are ours -/
/-- lowered -/
def Low (K : PySem.W.Frag) (mg : Str → Option Value) (H : Hp) (T : Cnt) (e : Nat) (v : V) (p : PV) (f : Cnt) : Prop :=
  ∃ f', (∀ b, f' b ≤ f b) ∧ ∀ T', (∀ b, T' b ≤ T b) → (∀ b, f b ≠ 0 → f' b = 0 → T' b = 0) → Own K mg H T' e v p f'
def Lows (K : PySem.W.Frag) (mg : Str → Option Value) (H : Hp) (T : Cnt) (e : Nat) (vs : List V) (ps : List PV) (f : Cnt) : Prop :=
  ∃ f', (∀ b, f' b ≤ f b) ∧ ∀ T', (∀ b, T' b ≤ T b) → (∀ b, f b ≠ 0 → f' b = 0 → T' b = 0) → Owns K mg H T' e vs ps f'
theorem le0 {T T' : Cnt} {a : Addr} (h : ∀ b, T' b ≤ T b) (z : T a = 0) : T' a = 0 := by have := h a; omega
theorem low1 {e : Nat} {a : Addr} {vs : List V} {qs : List PV} {f g : Cnt} {v : V} {p : PV} (hg : ∀ b, g b = f b + if b = a then 1 else 0) (u : ∀ b, g b ≤ 1) (h : Lows K mg H T e vs qs f)
    (mk : ∀ T' f' g', Owns K mg H T' e vs qs f' → (∀ b, g' b = f' b + if b = a then 1 else 0) → Own K mg H T' (e + 1) v p g') : Low K mg H T (e + 1) v p g := by
  obtain ⟨f', l, h⟩ := h
  refine ⟨fun b => f' b + if b = a then 1 else 0, fun b => by show f' b + _ ≤ g b; rw [hg]; have := l b; omega, fun T' t z => mk T' f' _ (h T' t fun b n n' => z b (by rw [hg]; omega) ?_) fun _ => rfl⟩
  have q := u b
  show f' b + _ = 0
  rw [hg] at q
  split
  · rename_i e; rw [if_pos e] at q; omega
  · omega
theorem low0 {a : Addr} {vs : List V} {qs : List PV} {f g : Cnt} {v : V} {p : PV} (hg : ∀ b, g b = f b + if b = a then 1 else 0) (h : Lows K mg H T 0 vs qs f)
    (mk : ∀ T', T' a = 0 → Owns K mg H T' 0 vs qs (fun _ => 0) → Own K mg H T' 0 v p (fun _ => 0)) : Low K mg H T 0 v p g := by
  obtain ⟨f', l, h⟩ := h
  refine ⟨fun _ => 0, fun b => Nat.zero_le _, fun T' t z => mk T' (z a (by rw [hg, if_pos rfl]; omega) rfl) ?_⟩
  have hz : ∀ b, f b ≠ 0 → f' b = 0 → T' b = 0 := fun b n _ => z b (by rw [hg]; omega) rfl
  have q := h T' t hz
  exact Owns.cnt q fun b => (Owns.zero q b).symm
mutual
theorem Own.low : ∀ {d e : Nat} {v : V} {p : PV} {f : Cnt}, Own K mg H T d v p f → (∀ b, f b ≤ 1) → e ≤ d → Low K mg H T e v p f
  | _, _, _, _, _, .non z, _, _ => ⟨fun _ => 0, fun _ => Nat.zero_le _, fun _ _ _ => .non fun _ => rfl⟩
  | _, _, _, _, _, .bl k z, _, _ => ⟨fun _ => 0, fun _ => Nat.zero_le _, fun _ _ _ => .bl k fun _ => rfl⟩
  | _, _, _, _, _, .int i z, _, _ => ⟨fun _ => 0, fun _ => Nat.zero_le _, fun _ _ _ => .int i fun _ => rfl⟩
  | _, _, _, _, _, .str x z, _, _ => ⟨fun _ => 0, fun _ => Nat.zero_le _, fun _ _ _ => .str x fun _ => rfl⟩
  | _, _, _, _, _, .tup h r, u, l => let ⟨f', a, b⟩ := Owns.low r u l; ⟨f', a, fun T' t z => .tup h (b T' t z)⟩
  | _, _, _, _, _, .ktp h r, u, l => let ⟨f', a, b⟩ := Owns.low r u l; ⟨f', a, fun T' t z => .ktp h (b T' t z)⟩
  | _, _, _, _, _, .rng h z, _, _ => ⟨fun _ => 0, fun _ => Nat.zero_le _, fun _ _ _ => .rng h fun _ => rfl⟩
  | _, e, _, _, _, .lst0 h r, u, l => by
    obtain rfl : e = 0 := by omega
    obtain ⟨f', a, b⟩ := Owns.low r u (Nat.le_refl 0)
    exact ⟨f', a, fun T' t z => .lst0 (h.imp (fun q => ⟨q.1, le0 t q.2⟩) id) (b T' t z)⟩
  | _, e, _, _, _, .scr0 h r, u, l => by
    obtain rfl : e = 0 := by omega
    obtain ⟨f', a, b⟩ := Owns.low r u (Nat.le_refl 0)
    exact ⟨f', a, fun T' t z => .scr0 (h.imp (fun q => ⟨q.1, le0 t q.2⟩) id) (b T' t z)⟩
  | _, 0, _, _, _, .lst1 h r hg, u, l => low0 hg (Owns.low r (fun b => by have := u b; rw [hg] at this; omega) (Nat.zero_le _)) fun T' z q => .lst0 (.inl ⟨.inl h, z⟩) q
  | _, e + 1, _, _, _, .lst1 h r hg, u, l => low1 hg u (Owns.low r (fun b => by have := u b; rw [hg] at this; omega) (Nat.le_of_succ_le_succ l)) fun T' f' g' q k => .lst1 h q k
  | _, e, _, _, _, .dK0 h t0 e1 e2 r, u, l => by
    obtain rfl : e = 0 := by omega
    obtain ⟨f', a, b⟩ := Owns.low r u (Nat.le_refl 0)
    exact ⟨f', a, fun T' t z => .dK0 h (le0 t t0) e1 e2 (b T' t z)⟩
  | _, 0, _, _, _, .dK1 h e1 e2 r hg, u, l => low0 hg (Owns.low r (fun b => by have := u b; rw [hg] at this; omega) (Nat.zero_le _)) fun T' z q => .dK0 h z e1 e2 q
  | _, e + 1, _, _, _, .dK1 h e1 e2 r hg, u, l => low1 hg u (Owns.low r (fun b => by have := u b; rw [hg] at this; omega) (Nat.le_of_succ_le_succ l)) fun T' f' g' q k => .dK1 h e1 e2 q k
  | _, e, _, _, _, .dT0 h t0 e1 e2 r, u, l => by
    obtain rfl : e = 0 := by omega
    obtain ⟨f', a, b⟩ := Owns.low r u (Nat.le_refl 0)
    exact ⟨f', a, fun T' t z => .dT0 h (le0 t t0) e1 e2 (b T' t z)⟩
  | _, 0, _, _, _, .dT1 h e1 e2 r hg, u, l => low0 hg (Owns.low r (fun b => by have := u b; rw [hg] at this; omega) (Nat.zero_le _)) fun T' z q => .dT0 h z e1 e2 q
  | _, e + 1, _, _, _, .dT1 h e1 e2 r hg, u, l => low1 hg u (Owns.low r (fun b => by have := u b; rw [hg] at this; omega) (Nat.le_of_succ_le_succ l)) fun T' f' g' q k => .dT1 h e1 e2 q k
  | _, e, _, _, _, .ins0 h t0 m e1 e2 r, u, l => by
    obtain rfl : e = 0 := by omega
    obtain ⟨f', a, b⟩ := Owns.low r u (Nat.le_refl 0)
    exact ⟨f', a, fun T' t z => .ins0 h (le0 t t0) m e1 e2 (b T' t z)⟩
  | _, 0, _, _, _, .ins1 h m e1 e2 r hg, u, l => low0 hg (Owns.low r (fun b => by have := u b; rw [hg] at this; omega) (Nat.zero_le _)) fun T' z q => .ins0 h z m e1 e2 q
  | _, e + 1, _, _, _, .ins1 h m e1 e2 r hg, u, l => low1 hg u (Owns.low r (fun b => by have := u b; rw [hg] at this; omega) (Nat.le_of_succ_le_succ l)) fun T' f' g' q k => .ins1 h m e1 e2 q k
theorem Owns.low : ∀ {d e : Nat} {vs : List V} {ps : List PV} {f : Cnt}, Owns K mg H T d vs ps f → (∀ b, f b ≤ 1) → e ≤ d → Lows K mg H T e vs ps f
  | _, _, _, _, _, .nil z, _, _ => ⟨fun _ => 0, fun _ => Nat.zero_le _, fun _ _ _ => .nil fun _ => rfl⟩
  | _, _, _, _, _, @Owns.cons _ _ _ _ _ _ _ _ _ f g k h r hk, u, l => by
    obtain ⟨f', a1, b1⟩ := Own.low h (fun b => by have := u b; rw [hk] at this; omega) l
    obtain ⟨g', a2, b2⟩ := Owns.low r (fun b => by have := u b; rw [hk] at this; omega) l
    refine ⟨fun b => f' b + g' b, fun b => by show f' b + g' b ≤ k b; rw [hk]; have := a1 b; have := a2 b; omega, fun T' t z => .cons (b1 T' t fun b n n' => z b (by rw [hk]; omega) ?_) (b2 T' t fun b n n' => z b (by rw [hk]; omega) ?_) fun _ => rfl⟩
    · have q := u b; rw [hk] at q; have := a2 b
      show f' b + g' b = 0; omega
    · have q := u b; rw [hk] at q; have := a1 b
      show f' b + g' b = 0; omega
end
end
end M

set_option Elab.async false
set_option linter.all false
set_option maxRecDepth 100000
set_option maxHeartbeats 4000000
namespace M
open PySem PySem.Spec PyProof.Rows L2

/-! ### heights, data -/
mutual
def hgt : PV → Nat
  | .tup xs => hgts xs
  | .ktp xs => hgts xs
  | .rng _ _ => 1
  | .lst xs => hgts xs + 1
  | .scr xs => hgts xs + 1
  | .dct _ kvs => hgtK kvs + 1
  | .ins _ fs => hgtF fs + 1
  | _ => 0
def hgts : List PV → Nat
  | [] => 0
  | p :: ps => max (hgt p) (hgts ps)
def hgtK : List (PV × PV) → Nat
  | [] => 0
  | (_, p) :: ps => max (hgt p) (hgtK ps)
def hgtF : List (Str × PV) → Nat
  | [] => 0
  | (_, p) :: ps => max (hgt p) (hgtF ps)
end
def flat (p : PV) : Bool := hgt p == 0
mutual
def py : PV → Option PyData
  | .non => some .none
  | .bl b => some (.bool b)
  | .int i => some (.int i)
  | .str x => some (.str x)
  | .tup xs => (pys xs).map .tuple
  | .ktp xs => (pys xs).map .tuple
  | .rng _ _ => none
  | .lst xs => (pys xs).map .list
  | .scr _ => none
  | .dct _ _ => none
  | .ins _ _ => none
def pys : List PV → Option (List PyData)
  | [] => some []
  | p :: ps => (py p).bind fun d => (pys ps).map (d :: ·)
end
theorem hgtK_map : ∀ kvs : List (PV × PV), hgtK kvs = hgts (kvs.map (·.2))
  | [] => rfl
  | (_, p) :: r => by rw [hgtK, List.map_cons, hgts, hgtK_map r]
theorem hgtF_map : ∀ kvs : List (Str × PV), hgtF kvs = hgts (kvs.map (·.2))
  | [] => rfl
  | (_, p) :: r => by rw [hgtF, List.map_cons, hgts, hgtF_map r]

section
variable {K : PySem.W.Frag} {mg : Str → Option Value} {H H' : Hp} {T T' : Cnt}
mutual
theorem Rep.dp : ∀ {v : V} {p : PV} {d : PyData}, Rep K mg H v p → py p = some d → Dp K H v d
  | _, _, _, .non, e => by cases e; exact .non
  | _, _, _, .bl b, e => by cases e; exact .bl b
  | _, _, _, .int i, e => by cases e; exact .int i
  | _, _, _, .str x, e => by cases e; exact .str x
  | _, _, _, @Rep.tup _ _ _ a vs ps h r, e => by
    rw [py, Option.map_eq_some_iff] at e
    obtain ⟨ds, e, rfl⟩ := e
    exact .tup (SqT.of h) (Reps.dp r e)
  | _, _, _, @Rep.ktp _ _ _ a vs ps h r, e => by
    rw [py, Option.map_eq_some_iff] at e
    obtain ⟨ds, e, rfl⟩ := e
    exact .tup (.inr h) (Reps.dp r e)
  | _, _, _, @Rep.lst _ _ _ a vs ps h r, e => by
    rw [py, Option.map_eq_some_iff] at e
    obtain ⟨ds, e, rfl⟩ := e
    exact .lst h.sq (Reps.dp r e)
  | _, _, _, .rng _, e => by cases e
  | _, _, _, .scr _ _, e => by cases e
  | _, _, _, .dK _ _ _ _, e => by cases e
  | _, _, _, .dT _ _ _ _, e => by cases e
  | _, _, _, .ins _ _ _ _ _, e => by cases e
theorem Reps.dp : ∀ {vs : List V} {ps : List PV} {ds : List PyData}, Reps K mg H vs ps → pys ps = some ds → DpAll K H vs ds
  | _, _, _, .nil, e => by cases e; exact .nil
  | _, _, _, .cons h r, e => by
    rw [pys, Option.bind_eq_some_iff] at e
    obtain ⟨d, e1, e⟩ := e
    rw [Option.map_eq_some_iff] at e
    obtain ⟨ds, e, rfl⟩ := e
    exact .cons (Rep.dp h e1) (Reps.dp r e)
end
mutual
/-- as many levels as there are: nothing of it is shared -/
theorem Own.tall : ∀ {d : Nat} {v : V} {p : PV} {f : Cnt}, Own K mg H T d v p f → hgt p ≤ d → Own K mg H T' d v p f
  | _, _, _, _, .non z, _ => .non z
  | _, _, _, _, .bl k z, _ => .bl k z
  | _, _, _, _, .int i z, _ => .int i z
  | _, _, _, _, .str x z, _ => .str x z
  | _, _, _, _, .tup h r, l => .tup h (Owns.tall r (by rw [hgt] at l; exact l))
  | _, _, _, _, .ktp h r, l => .ktp h (Owns.tall r (by rw [hgt] at l; exact l))
  | _, _, _, _, .rng h z, _ => .rng h z
  | _, _, _, _, .lst0 h r, l => by rw [hgt] at l; omega
  | _, _, _, _, .scr0 h r, l => by rw [hgt] at l; omega
  | _, _, _, _, .lst1 h r hg, l => .lst1 h (Owns.tall r (by rw [hgt] at l; omega)) hg
  | _, _, _, _, .dK0 h t e1 e2 r, l => by rw [hgt] at l; omega
  | _, _, _, _, .dK1 h e1 e2 r hg, l => .dK1 h e1 e2 (Owns.tall r (by rw [hgt, hgtK_map] at l; omega)) hg
  | _, _, _, _, .dT0 h t e1 e2 r, l => by rw [hgt] at l; omega
  | _, _, _, _, .dT1 h e1 e2 r hg, l => .dT1 h e1 e2 (Owns.tall r (by rw [hgt, hgtK_map] at l; omega)) hg
  | _, _, _, _, .ins0 h t m e1 e2 r, l => by rw [hgt] at l; omega
  | _, _, _, _, .ins1 h m e1 e2 r hg, l => .ins1 h m e1 e2 (Owns.tall r (by rw [hgt, hgtF_map] at l; omega)) hg
theorem Owns.tall : ∀ {d : Nat} {vs : List V} {ps : List PV} {f : Cnt}, Owns K mg H T d vs ps f → hgts ps ≤ d → Owns K mg H T' d vs ps f
  | _, _, _, _, .nil z, _ => .nil z
  | _, _, _, _, .cons h r hk, l => .cons (Own.tall h (by rw [hgts] at l; omega)) (Owns.tall r (by rw [hgts] at l; omega)) hk
end
mutual
/-- no list in it: any levels are ours -/
theorem Rep.own : ∀ {v : V} {p : PV}, Rep K mg H v p → hgt p = 0 → ∀ (d : Nat), Own K mg H T d v p fun _ => 0
  | _, _, .non, _, _ => .non fun _ => rfl
  | _, _, .bl k, _, _ => .bl k fun _ => rfl
  | _, _, .int i, _, _ => .int i fun _ => rfl
  | _, _, .str x, _, _ => .str x fun _ => rfl
  | _, _, .tup h r, l, d => .tup h (Reps.own r (by rw [hgt] at l; exact l) d)
  | _, _, .ktp h r, l, d => .ktp h (Reps.own r (by rw [hgt] at l; exact l) d)
  | _, _, .rng h, l, _ => by rw [hgt] at l; omega
  | _, _, .lst h r, l, _ => by rw [hgt] at l; omega
  | _, _, .scr h r, l, _ => by rw [hgt] at l; omega
  | _, _, .dK h e1 e2 r, l, _ => by rw [hgt] at l; omega
  | _, _, .dT h e1 e2 r, l, _ => by rw [hgt] at l; omega
  | _, _, .ins h m e1 e2 r, l, _ => by rw [hgt] at l; omega
theorem Reps.own : ∀ {vs : List V} {ps : List PV}, Reps K mg H vs ps → hgts ps = 0 → ∀ (d : Nat), Owns K mg H T d vs ps fun _ => 0
  | _, _, .nil, _, _ => .nil fun _ => rfl
  | _, _, .cons h r, l, d => .cons (Rep.own h (by rw [hgts] at l; omega) d) (Reps.own r (by rw [hgts] at l; omega) d) fun _ => rfl
end
theorem Reps.length : ∀ {vs : List V} {ps : List PV}, Reps K mg H vs ps → vs.length = ps.length
  | _, _, .nil => rfl
  | _, _, .cons _ r => by rw [List.length_cons, List.length_cons, r.length]
theorem Reps.get : ∀ {vs : List V} {ps : List PV} {i : Nat} {p : PV}, Reps K mg H vs ps → ps[i]? = some p → ∃ v, vs[i]? = some v ∧ Rep K mg H v p
  | _, _, _, _, .nil, e => by simp at e
  | _, _, 0, _, .cons h _, e => by simp at e; subst e; exact ⟨_, rfl, h⟩
  | _, _, i + 1, _, .cons _ r, e => by
    obtain ⟨v, a, b⟩ := r.get (i := i) (by simpa using e)
    exact ⟨v, by simpa using a, b⟩
theorem Reps.get' : ∀ {vs : List V} {ps : List PV} {i : Nat} {v : V}, Reps K mg H vs ps → vs[i]? = some v → ∃ p, ps[i]? = some p ∧ Rep K mg H v p
  | _, _, _, _, .nil, e => by simp at e
  | _, _, 0, _, .cons h _, e => by simp at e; subst e; exact ⟨_, rfl, h⟩
  | _, _, i + 1, _, .cons _ r, e => by
    obtain ⟨v, a, b⟩ := r.get' (i := i) (by simpa using e)
    exact ⟨v, by simpa using a, b⟩
theorem Reps.append : ∀ {vs ws : List V} {ps qs : List PV}, Reps K mg H vs ps → Reps K mg H ws qs → Reps K mg H (vs ++ ws) (ps ++ qs)
  | _, _, _, _, .nil, s => s
  | _, _, _, _, .cons h r, s => .cons h (r.append s)
theorem Reps.take : ∀ {vs : List V} {ps : List PV} (n : Nat), Reps K mg H vs ps → Reps K mg H (vs.take n) (ps.take n)
  | _, _, 0, _ => .nil
  | _, _, _ + 1, .nil => .nil
  | _, _, n + 1, .cons h r => .cons h (r.take n)
theorem Reps.drop : ∀ {vs : List V} {ps : List PV} (n : Nat), Reps K mg H vs ps → Reps K mg H (vs.drop n) (ps.drop n)
  | _, _, 0, r => r
  | _, _, _ + 1, .nil => .nil
  | _, _, n + 1, .cons _ r => r.drop n
theorem Reps.reverse : ∀ {vs : List V} {ps : List PV}, Reps K mg H vs ps → Reps K mg H vs.reverse ps.reverse
  | _, _, .nil => .nil
  | _, _, .cons h r => by rw [List.reverse_cons, List.reverse_cons]; exact r.reverse.append (.cons h .nil)
theorem Reps.rep {vs : List V} {ps : List PV} (h : Reps K mg H vs ps) : ∀ n, Reps K mg H (List.replicate n vs).flatten (List.replicate n ps).flatten
  | 0 => .nil
  | n + 1 => by rw [List.replicate_succ, List.replicate_succ, List.flatten_cons, List.flatten_cons]; exact h.append (h.rep n)
theorem Reps.atI {vs : List V} {ps : List PV} {i : Int} {p : PV} (h : Reps K mg H vs ps) (e : L2.atI ps i = some p) : ∃ v, L2.atI vs i = some v ∧ Rep K mg H v p := by
  unfold L2.atI at e ⊢
  rw [h.length]
  cases q : ixN ps.length i with
  | none => rw [q] at e; cases e
  | some j =>
    rw [q] at e
    exact h.get e
end

/-! ### results -/
inductive Rs (ε α : Type) where
  | stuck | ok (a : α) | exc (e : ε)
def Rs.bind {ε α β : Type} (r : Rs ε α) (k : α → Rs ε β) : Rs ε β :=
  match r with
  | .stuck => .stuck
  | .ok a => k a
  | .exc e => .exc e
structure Xn where
  nm : Str
  fl : List (Str × PV)
structure Slot where
  d : Nat
  pin : Bool
  v : PV
abbrev LEnv := List (Option Slot)
def ofO {ε α : Type} : Option α → Rs ε α
  | none => .stuck
  | some a => .ok a
/-- an exception's own dict -/
def XcAt (K : PySem.W.Frag) (mg : Str → Option Value) (H : Hp) (x : Xn) (C dd : Addr) : Prop :=
  mg x.nm = some (.ref C) ∧ ∃ fv vs, H dd = some (.xd fv) ∧ fv.map (·.1) = x.fl.map (·.1) ∧ vs = fv.map (·.2) ∧ Reps K mg H vs (x.fl.map (·.2))
theorem XcAt.grow {K : PySem.W.Frag} {mg : Str → Option Value} {H H' : Hp} {x : Xn} {C dd : Addr} (h : XcAt K mg H x C dd) (g : Grow H H') : XcAt K mg H' x C dd := by
  obtain ⟨a, fv, vs, b, c, d, e⟩ := h
  exact ⟨a, fv, vs, g _ _ b, c, d, e.grow g⟩

/-! ### pure expressions: the slots stand, the heap grows -/
def Sees (K : PySem.W.Frag) (mg : Str → Option Value) (H : Hp) (env : LEnv) (σ : L2.St) : Prop := (∀ (i : Nat) (s : Slot), env[i]? = some (some s) → ∃ v, σ[i]? = some (some v) ∧ Rep K mg H v s.v) ∧ env.length = σ.length
theorem Sees.grow {K : PySem.W.Frag} {mg : Str → Option Value} {H H' : Hp} {env : LEnv} {σ : L2.St} (h : Sees K mg H env σ) (g : Grow H H') : Sees K mg H' env σ := ⟨fun i s e => let ⟨v, a, b⟩ := h.1 i s e; ⟨v, a, b.grow g⟩, h.2⟩
abbrev MP (α : Type) := LEnv → Rs Xn α
def wpP {α : Type} (W : WX) (K : PySem.W.Frag) (mg : Str → Option Value) (σ : L2.St) (H : Hp) (r : Rs Xn α) (Q : α → Hp → Prop) : Prop :=
  match r with
  | .stuck => False
  | .ok a => ∀ H', Grow H H' → Q a H'
  | .exc xn => ∀ C dd H', Grow H H' → XcAt K mg H' xn C dd → W (.ref C) (some dd) σ H'
def tSP (K : PySem.W.Frag) (mg : Str → Option Value) (W : WX) (m : MP PV) : TE := fun σ H Q => ∃ env, Sees K mg H env σ ∧ wpP W K mg σ H (m env) fun p H' => ∀ x, Rep K mg H' x p → Q x H'
def tSPT (K : PySem.W.Frag) (mg : Str → Option Value) (W : WX) (m : MP Bool) : TT := fun σ H Q => ∃ env, Sees K mg H env σ ∧ wpP W K mg σ H (m env) fun b H' => Q b H'
def tSPs (K : PySem.W.Frag) (mg : Str → Option Value) (W : WX) (m : MP (List PV)) : TA := fun σ H Q => ∃ env, Sees K mg H env σ ∧ wpP W K mg σ H (m env) fun ps H' => ∀ xs, Reps K mg H' xs ps → Q xs H'
/-- .. whose value is a new list -/
def tSPF (K : PySem.W.Frag) (mg : Str → Option Value) (W : WX) (m : MP (List PV)) : TE := fun σ H Q => ∃ env, Sees K mg H env σ ∧ wpP W K mg σ H (m env) fun ps H' => ∀ xs q, Reps K mg H' xs ps → H' q = none → Q (.ref q) (upd H' q (.lst xs))
def SP (X : Cx) (W : WX) (e : Expr) (m : MP PV) : Prop := PE X e (tSP X.K X.mg W m)
def SPT (X : Cx) (W : WX) (e : Expr) (m : MP Bool) : Prop := PT X e (tSPT X.K X.mg W m)
def SPs (X : Cx) (W : WX) (es : List Expr) (m : MP (List PV)) : Prop := PA X es (tSPs X.K X.mg W m)
def SPF (X : Cx) (W : WX) (e : Expr) (m : MP (List PV)) : Prop := PE X e (tSPF X.K X.mg W m)

theorem _root_.L2.PE.weak {X : Cx} {e : Expr} {t t' : TE} (h : PE X e t) (w : ∀ σ H Q, t' σ H Q → t σ H Q) : PE X e t' := ⟨fun pins s σ H Q I q => h.run pins s σ H Q I (w σ H Q q)⟩
theorem _root_.L2.PT.weak {X : Cx} {e : Expr} {t t' : TT} (h : PT X e t) (w : ∀ σ H Q, t' σ H Q → t σ H Q) : PT X e t' := ⟨fun pins s σ H Q I q => h.run pins s σ H Q I (w σ H Q q)⟩
theorem _root_.L2.PA.weak {X : Cx} {e : List Expr} {t t' : TA} (h : PA X e t) (w : ∀ σ H Q, t' σ H Q → t σ H Q) : PA X e t' := ⟨fun pos pins s σ H Q I q => h.run pos pins s σ H Q I (w σ H Q q)⟩
theorem _root_.L2.PS.weak {X : Cx} {e : Stmt} {t t' : TS} (h : PS X e t) (w : ∀ D σ H, t' D σ H → t D σ H) : PS X e t' := ⟨fun pins s σ H D I q => h.run pins s σ H D I (w D σ H q)⟩
theorem _root_.L2.PSs.weak {X : Cx} {e : List Stmt} {t t' : TS} (h : PSs X e t) (w : ∀ D σ H, t' D σ H → t D σ H) : PSs X e t' := ⟨fun pins s σ H D I q => h.run pins s σ H D I (w D σ H q)⟩

section
variable {K : PySem.W.Frag} {mg : Str → Option Value} {W : WX} {σ : L2.St} {H : Hp} {α β : Type}
theorem wpP_mono {r : Rs Xn α} {Q Q' : α → Hp → Prop} (h : wpP W K mg σ H r Q) (k : ∀ a H', Grow H H' → Q a H' → Q' a H') : wpP W K mg σ H r Q' := by
  cases r with
  | stuck => exact h
  | ok a => exact fun H' g => k a H' g (h H' g)
  | exc x => exact h
theorem wpP_bind {r : Rs Xn α} {f : α → Rs Xn β} {Q : β → Hp → Prop} (h : wpP W K mg σ H (r.bind f) Q) : wpP W K mg σ H r fun a H' => wpP W K mg σ H' (f a) Q := by
  cases r with
  | stuck => exact h
  | ok a =>
    intro H' g
    show wpP W K mg σ H' (f a) Q
    have h' : wpP W K mg σ H (f a) Q := h
    generalize f a = z at h' ⊢
    cases z with
    | stuck => exact h'
    | ok b => exact fun H'' g' => h' H'' (g.trans g')
    | exc x => exact fun C dd H'' g' => h' C dd H'' (g.trans g')
  | exc x => exact h
/-- the first of two is evaluated -/
theorem tsp_bind {ma : MP PV} {k : LEnv → PV → Rs Xn β} {env : LEnv} {Q : β → Hp → Prop} {Q' : VK} (s : Sees K mg H env σ) (h : wpP W K mg σ H ((ma env).bind (k env)) Q)
    (q : ∀ p x H1, Grow H H1 → Rep K mg H1 x p → Sees K mg H1 env σ → wpP W K mg σ H1 (k env p) Q → Q' x H1) : tSP K mg W ma σ H Q' :=
  ⟨env, s, wpP_mono (wpP_bind h) fun p H1 g w x r => q p x H1 g r (s.grow g) w⟩
theorem tspT_bind {ma : MP Bool} {k : LEnv → Bool → Rs Xn β} {env : LEnv} {Q : β → Hp → Prop} {Q' : Bool → Hp → Prop} (s : Sees K mg H env σ) (h : wpP W K mg σ H ((ma env).bind (k env)) Q)
    (q : ∀ b H1, Grow H H1 → Sees K mg H1 env σ → wpP W K mg σ H1 (k env b) Q → Q' b H1) : tSPT K mg W ma σ H Q' :=
  ⟨env, s, wpP_mono (wpP_bind h) fun b H1 g w => q b H1 g (s.grow g) w⟩
theorem tsps_bind {ma : MP (List PV)} {k : LEnv → List PV → Rs Xn β} {env : LEnv} {Q : β → Hp → Prop} {Q' : List V → Hp → Prop} (s : Sees K mg H env σ) (h : wpP W K mg σ H ((ma env).bind (k env)) Q)
    (q : ∀ ps xs H1, Grow H H1 → Reps K mg H1 xs ps → Sees K mg H1 env σ → wpP W K mg σ H1 (k env ps) Q → Q' xs H1) : tSPs K mg W ma σ H Q' :=
  ⟨env, s, wpP_mono (wpP_bind h) fun p H1 g w x r => q p x H1 g r (s.grow g) w⟩
theorem wpP_ofO {o : Option α} {Q : α → Hp → Prop} (h : wpP W K mg σ H (ofO o) Q) : ∃ a, o = some a ∧ ∀ H', Grow H H' → Q a H' := by
  cases o with
  | none => exact h.elim
  | some a => exact ⟨a, rfl, h⟩
end

/-! ### operations on values -/
def VOp (K : PySem.W.Frag) (mg : Str → Option Value) (r : R2) (g : PV → PV → Option PV) : Prop :=
  ∀ H x y p q z Q, Rep K mg H x p → Rep K mg H y q → g p q = some z → (∀ v H', Grow H H' → Rep K mg H' v z → Q v H') → r x y H Q
/-- .. giving a new list -/
def VOpF (K : PySem.W.Frag) (mg : Str → Option Value) (r : R2) (g : PV → PV → Option (List PV)) : Prop :=
  ∀ H x y p q z Q, Rep K mg H x p → Rep K mg H y q → g p q = some z → (∀ vs a, Reps K mg H vs z → H a = none → Q (.ref a) (upd H a (.lst vs))) → r x y H Q
def UOp (K : PySem.W.Frag) (mg : Str → Option Value) (r : V → Hp → VK → Prop) (g : PV → Option PV) : Prop :=
  ∀ H x p z Q, Rep K mg H x p → g p = some z → (∀ v H', Grow H H' → Rep K mg H' v z → Q v H') → r x H Q
def COp (K : PySem.W.Frag) (mg : Str → Option Value) (r : List V → Hp → VK → Prop) (g : List PV → Option PV) : Prop :=
  ∀ H xs ps z Q, Reps K mg H xs ps → g ps = some z → (∀ v H', Grow H H' → Rep K mg H' v z → Q v H') → r xs H Q
def COpF (K : PySem.W.Frag) (mg : Str → Option Value) (r : List V → Hp → VK → Prop) (g : List PV → Option (List PV)) : Prop :=
  ∀ H xs ps z Q, Reps K mg H xs ps → g ps = some z → (∀ vs a, Reps K mg H vs z → H a = none → Q (.ref a) (upd H a (.lst vs))) → r xs H Q

def mBin (g : PV → PV → Option PV) (ma mb : MP PV) : MP PV := fun env => (ma env).bind fun p => (mb env).bind fun q => ofO (g p q)
def mBinF (g : PV → PV → Option (List PV)) (ma mb : MP PV) : MP (List PV) := fun env => (ma env).bind fun p => (mb env).bind fun q => ofO (g p q)
def mUn (g : PV → Option PV) (ma : MP PV) : MP PV := fun env => (ma env).bind fun p => ofO (g p)
def mFn (g : List PV → Option PV) (ma : MP (List PV)) : MP PV := fun env => (ma env).bind fun p => ofO (g p)
def mFnF (g : List PV → Option (List PV)) (ma : MP (List PV)) : MP (List PV) := fun env => (ma env).bind fun p => ofO (g p)
def mNil : MP (List PV) := fun _ => .ok []
def mCons (ma : MP PV) (mr : MP (List PV)) : MP (List PV) := fun env => (ma env).bind fun p => (mr env).bind fun ps => .ok (p :: ps)
def mV (i : Nat) : MP PV := fun env => match env[i]? with
  | some (some s) => .ok s.v
  | _ => .stuck
def mC (p : PV) : MP PV := fun _ => .ok p
def sizeOk (n : Nat) : Bool := decide (n ≤ 16777216)
theorem sizeOk_le {n : Nat} (h : sizeOk n = true) : n ≤ sizeLine := by rw [sizeLine_eq]; exact of_decide_eq_true h
def mTup (mr : MP (List PV)) : MP PV := fun env => (mr env).bind fun ps => if sizeOk ps.length then .ok (.tup ps) else .stuck
def mLst (mr : MP (List PV)) : MP (List PV) := fun env => (mr env).bind fun ps => if sizeOk ps.length then .ok ps else .stuck
def mOfF (m : MP (List PV)) : MP PV := fun env => (m env).bind fun ps => .ok (.lst ps)
def mIf (mt : MP Bool) (ma mb : MP PV) : MP PV := fun env => (mt env).bind fun b => if b = true then ma env else mb env
def mTst (ma : MP PV) : MP Bool := fun env => (ma env).bind fun p => match p with
  | .bl b => .ok b
  | _ => .stuck
def mNot (mt : MP Bool) : MP Bool := fun env => (mt env).bind fun b => .ok (!b)
def mAnd (ma mb : MP Bool) : MP Bool := fun env => (ma env).bind fun b => if b = true then mb env else .ok false
def mOr (ma mb : MP Bool) : MP Bool := fun env => (ma env).bind fun b => if b = true then .ok true else mb env
def mBl (mt : MP Bool) : MP PV := fun env => (mt env).bind fun b => .ok (.bl b)

section
variable {X : Cx} {W : WX} {a b c : Expr} {es : List Expr} {pos p p2 : Pos} {ma mb mc : MP PV} {ms : MP (List PV)} {mt mu : MP Bool}

theorem sp_var {i : Nat} {x : Str} (h : PE X (.Name x pos) (tVar i)) : SP X W (.Name x pos) (mV i) := h.weak fun σ H Q q => by
  obtain ⟨env, s, w⟩ := q
  unfold mV at w
  split at w
  · rename_i sl e
    obtain ⟨v, e1, r⟩ := s.1 i sl e
    exact ⟨v, e1, w H (Grow.refl H) v r⟩
  · exact w.elim
theorem sp_c {v : V} {z : PV} (h : PE X a (tC v)) (r : ∀ H, Rep X.K X.mg H v z) : SP X W a (mC z) := h.weak fun σ H Q ⟨env, s, w⟩ => w H (Grow.refl H) v (r H)
theorem sp_int {i : Int} {j} : SP X W (.Constant (.int i) j pos) (mC (.int i)) := sp_c pe_int fun _ => .int i
theorem sp_str {x : Str} {j} : SP X W (.Constant (.str x) j pos) (mC (.str x)) := sp_c pe_str fun _ => .str x
theorem sp_bl {k : Bool} {j} : SP X W (.Constant (.bool k) j pos) (mC (.bl k)) := sp_c pe_bl fun _ => .bl k
theorem sp_non {j} : SP X W (.Constant .none j pos) (mC .non) := sp_c pe_non fun _ => .non
theorem sps_nil : SPs X W [] mNil := pa_nil.weak fun σ H Q ⟨env, s, w⟩ => w H (Grow.refl H) [] .nil
theorem sps_cons (ha : SP X W a ma) (hr : SPs X W es ms) (hs : starEach (a :: es) X.env = (false, eval a X.env) :: starEach es X.env := by rfl) : SPs X W (a :: es) (mCons ma ms) :=
  (pa_cons ha hr hs).weak fun σ H Q ⟨env, s, w⟩ => tsp_bind (k := fun env p => (ms env).bind fun ps => .ok (p :: ps)) s w fun p x H1 g r s1 w1 =>
    tsps_bind (k := fun env ps => .ok (p :: ps)) s1 w1 fun ps xs H2 g2 rs s2 w2 => w2 H2 (Grow.refl H2) (x :: xs) (.cons (r.grow g2) rs)

/-- two operands, whatever stands behind -/
theorem two {r : R2} {β : Type} {k : PV → PV → Rs Xn β} {Q' : β → Hp → Prop} {σ : L2.St} {H : Hp} {Q : VK} {env : LEnv} (s : Sees X.K X.mg H env σ) (w : wpP W X.K X.mg σ H ((ma env).bind fun p => (mb env).bind fun q => k p q) Q')
    (h : ∀ x y p q H2, Rep X.K X.mg H2 x p → Rep X.K X.mg H2 y q → wpP W X.K X.mg σ H2 (k p q) Q' → r x y H2 Q) : tOp r (tSP X.K X.mg W ma) (tSP X.K X.mg W mb) σ H Q :=
  tsp_bind (k := fun env p => (mb env).bind fun q => k p q) s w fun p x H1 g r1 s1 w1 => tsp_bind (k := fun env q => k p q) s1 w1 fun q y H2 g2 r2 s2 w2 => h x y p q H2 (r1.grow g2) r2 w2
theorem op_sp {r : R2} {g : PV → PV → Option PV} (hg : VOp X.K X.mg r g) {e : Expr} (h : PE X e (tOp r (tSP X.K X.mg W ma) (tSP X.K X.mg W mb))) : SP X W e (mBin g ma mb) := h.weak fun σ H Q ⟨env, s, w⟩ =>
  two (k := fun p q => ofO (g p q)) s w fun x y p q H2 r1 r2 w2 => by
    obtain ⟨z, e, q2⟩ := wpP_ofO w2
    exact hg H2 x y p q z Q r1 r2 e fun v H' g' rv => q2 H' g' v rv
theorem op_spF {r : R2} {g : PV → PV → Option (List PV)} (hg : VOpF X.K X.mg r g) {e : Expr} (h : PE X e (tOp r (tSP X.K X.mg W ma) (tSP X.K X.mg W mb))) : SPF X W e (mBinF g ma mb) := h.weak fun σ H Q ⟨env, s, w⟩ =>
  two (k := fun p q => ofO (g p q)) s w fun x y p q H2 r1 r2 w2 => by
    obtain ⟨z, e, q2⟩ := wpP_ofO w2
    exact hg H2 x y p q z Q r1 r2 e fun vs a rv na => q2 H2 (Grow.refl H2) vs a rv na
theorem sp_bin {op : Operator} {r : R2} {g : PV → PV → Option PV} (ho : OpR X (binaryOp op) r) (hg : VOp X.K X.mg r g) (ha : SP X W a ma) (hb : SP X W b mb) : SP X W (.BinOp a op b pos) (mBin g ma mb) := op_sp hg (pe_op ho ha hb)
theorem sp_binF {op : Operator} {r : R2} {g : PV → PV → Option (List PV)} (ho : OpR X (binaryOp op) r) (hg : VOpF X.K X.mg r g) (ha : SP X W a ma) (hb : SP X W b mb) : SPF X W (.BinOp a op b pos) (mBinF g ma mb) := op_spF hg (pe_op ho ha hb)
theorem sp_cmp {op : CmpOp} {r : R2} {g : PV → PV → Option PV} (ho : OpR X (compareOp op) r) (hg : VOp X.K X.mg r g) (ha : SP X W a ma) (hb : SP X W b mb) (hm : behindInMarks op b = false) : SP X W (.Compare a [op] [b] pos) (mBin g ma mb) := op_sp hg (pe_cmpR ho ha hb hm)
theorem sp_un {op : UnaryOp} {r : V → Hp → VK → Prop} {g : PV → Option PV} (ho : UnR X (unaryOp op) r) (hg : UOp X.K X.mg r g) (ha : SP X W a ma) : SP X W (.UnaryOp op a pos) (mUn g ma) := (pe_un ho ha).weak fun σ H Q ⟨env, s, w⟩ =>
  tsp_bind (k := fun env p => ofO (g p)) s w fun p x H1 g1 r1 s1 w1 => by
    obtain ⟨z, e, q2⟩ := wpP_ofO w1
    exact hg H1 x p z Q r1 e fun v H' g' rv => q2 H' g' v rv
theorem fn_sp {r : List V → Hp → VK → Prop} {g : List PV → Option PV} (hg : COp X.K X.mg r g) {e : Expr} (h : PE X e (tCB r (tSPs X.K X.mg W ms))) : SP X W e (mFn g ms) := h.weak fun σ H Q ⟨env, s, w⟩ =>
  tsps_bind (k := fun env p => ofO (g p)) s w fun p x H1 g1 r1 s1 w1 => by
    obtain ⟨z, e, q2⟩ := wpP_ofO w1
    exact hg H1 x p z Q r1 e fun v H' g' rv => q2 H' g' v rv
theorem fn_spF {r : List V → Hp → VK → Prop} {g : List PV → Option (List PV)} (hg : COpF X.K X.mg r g) {e : Expr} (h : PE X e (tCB r (tSPs X.K X.mg W ms))) : SPF X W e (mFnF g ms) := h.weak fun σ H Q ⟨env, s, w⟩ =>
  tsps_bind (k := fun env p => ofO (g p)) s w fun p x H1 g1 r1 s1 w1 => by
    obtain ⟨z, e, q2⟩ := wpP_ofO w1
    exact hg H1 x p z Q r1 e fun vs a rv na => q2 H1 (Grow.refl H1) vs a rv na
theorem sp_tup {x1} (h : SPs X W es ms) : SP X W (.Tuple es x1 pos) (mTup ms) := (pe_tup h).weak fun σ H Q ⟨env, s, w⟩ =>
  tsps_bind (k := fun env ps => if sizeOk ps.length then .ok (PV.tup ps) else .stuck) s w fun ps xs H1 g1 r1 s1 w1 => by
    split at w1
    · rename_i hz
      exact ⟨by rw [r1.length]; exact sizeOk_le hz, fun q hq => w1 _ (Grow.upd hq) _ (.tup upd_same (r1.grow (Grow.upd hq)))⟩
    · exact w1.elim
theorem sp_lst (h : SPs X W es ms) : SPF X W (.List es pos) (mLst ms) := (pe_lst h).weak fun σ H Q ⟨env, s, w⟩ =>
  tsps_bind (k := fun env ps => if sizeOk ps.length then .ok ps else .stuck) s w fun ps xs H1 g1 r1 s1 w1 => by
    split at w1
    · rename_i hz
      exact ⟨by rw [r1.length]; exact sizeOk_le hz, fun q hq => w1 _ (Grow.refl _) _ _ r1 hq⟩
    · exact w1.elim
theorem sp_ofF (h : SPF X W a ms) : SP X W a (mOfF ms) := h.weak fun σ H Q ⟨env, s, w⟩ => ⟨env, s, wpP_mono (wpP_bind w) fun ps H1 g w1 xs q r na =>
  w1 _ (Grow.upd na) _ (.lst (LL.of upd_same) (r.grow (Grow.upd na)))⟩
theorem spt_val (h : SP X W a ma) (he : ∀ whole, isTrue a X.env whole = (do let v ← whole; standAt a.pos; holding [v] (truthy v)) := by intro _; rfl) : SPT X W a (mTst ma) := (pt_val h he).weak fun σ H Q ⟨env, s, w⟩ =>
  tsp_bind (k := fun env p => match p with | .bl b => .ok b | _ => .stuck) s w fun p x H1 g r s1 w1 => by
    cases r with
    | bl k => exact ⟨k, rfl, w1 H1 (Grow.refl _)⟩
    | _ => exact w1.elim
theorem spt_cmp {op : CmpOp} {r : R2} {g : PV → PV → Option PV} (ho : OpR X (compareOp op) r) (hg : VOp X.K X.mg r g) (ha : SP X W a ma) (hb : SP X W b mb) (hm : behindInMarks op b = false) : SPT X W (.Compare a [op] [b] pos) (mTst (mBin g ma mb)) :=
  (pt_cmpR ho ha hb hm).weak fun σ H Q ⟨env, s, w⟩ => by
    have h : tSP X.K X.mg W (mBin g ma mb) σ H (fun x H' => ∃ k, x = .bl k ∧ Q k H') := tsp_bind (k := fun env p => match p with | .bl b => .ok b | _ => .stuck) s w fun p x H1 g r s1 w1 => by
      cases r with
      | bl k => exact ⟨k, rfl, w1 H1 (Grow.refl _)⟩
      | _ => exact w1.elim
    obtain ⟨env, s, w⟩ := h
    exact two (k := fun p q => ofO (g p q)) s w fun x y p q H2 r1 r2 w2 => by
      obtain ⟨z, e, q2⟩ := wpP_ofO w2
      exact hg H2 x y p q z _ r1 r2 e fun v H' g' rv => q2 H' g' v rv
theorem spt_not (h : SPT X W a mt) : SPT X W (.UnaryOp .Not a pos) (mNot mt) := (pt_not h).weak fun σ H Q ⟨env, s, w⟩ => tspT_bind (k := fun env b => .ok (!b)) s w fun b H1 g s1 w1 => w1 H1 (Grow.refl _)
theorem sp_if (hc : SPT X W c mt) (ha : SP X W a ma) (hb : SP X W b mb) : SP X W (.IfExp c a b pos) (mIf mt ma mb) := (pe_ifExp hc ha hb).weak fun σ H Q ⟨env, s, w⟩ =>
  tspT_bind (k := fun env b => if b = true then ma env else mb env) s w fun b H1 g s1 w1 => by
    cases b with
    | true => exact ⟨env, s1, w1⟩
    | false => exact ⟨env, s1, w1⟩
/-- and, or: a chain's link -/
def SPW (X : Cx) (W : WX) (e : Expr) (m : MP Bool) : Prop := PW X e (tSPT X.K X.mg W m)
theorem _root_.L2.PW.weak {e : Expr} {t t' : TT} (h : PW X e t) (w : ∀ σ H Q, t' σ H Q → t σ H Q) : PW X e t' := ⟨fun wh pins s σ H Q I q => h.run wh pins s σ H Q I (w σ H Q q)⟩
theorem spt_w (h : SPW X W a mt) : SPT X W a mt := h.pt
theorem spw_and1 (h : SPT X W a mt) : SPW X W (.BoolOp .And [a] pos) mt := pw_and1 h
theorem spw_or1 (h : SPT X W a mt) : SPW X W (.BoolOp .Or [a] pos) mt := pw_or1 h
theorem spw_and {rest : List Expr} (h : SPT X W a mt) (hr : SPW X W (.BoolOp .And (b :: rest) pos) mu) : SPW X W (.BoolOp .And (a :: b :: rest) pos) (mAnd mt mu) := L2.PW.weak (pw_and h hr) fun σ H Q ⟨env, s, w⟩ =>
  tspT_bind (k := fun env b => if b = true then mu env else .ok false) s w fun b H1 g s1 w1 => by
    cases b with
    | true => exact ⟨env, s1, w1⟩
    | false => exact w1 H1 (Grow.refl _)
theorem spw_or {rest : List Expr} (h : SPT X W a mt) (hr : SPW X W (.BoolOp .Or (b :: rest) pos) mu) : SPW X W (.BoolOp .Or (a :: b :: rest) pos) (mOr mt mu) := L2.PW.weak (pw_or h hr) fun σ H Q ⟨env, s, w⟩ =>
  tspT_bind (k := fun env b => if b = true then .ok true else mu env) s w fun b H1 g s1 w1 => by
    cases b with
    | true => exact w1 H1 (Grow.refl _)
    | false => exact ⟨env, s1, w1⟩
end
end M

set_option Elab.async false
set_option linter.all false
set_option maxRecDepth 100000
set_option maxHeartbeats 4000000
namespace M
open PySem PySem.Spec PyProof.Rows L2

/-! ### the slots -/
inductive Slots (K : PySem.W.Frag) (mg : Str → Option Value) (H : Hp) (T : Cnt) : LEnv → L2.St → L2.St → Cnt → Prop
  | nil {f : Cnt} : (∀ b, f b = 0) → Slots K mg H T [] [] [] f
  | off {env : LEnv} {σ σ0 : L2.St} {o o0 : Option V} {f : Cnt} : Slots K mg H T env σ σ0 f → Slots K mg H T (none :: env) (o :: σ) (o0 :: σ0) f
  | on {s : Slot} {env : LEnv} {v : V} {σ σ0 : L2.St} {o0 : Option V} {f g h : Cnt} : Own K mg H T s.d v s.v f → Slots K mg H T env σ σ0 g → (∀ b, h b = f b + g b) → (s.pin = true → o0 = some v) → Slots K mg H T (some s :: env) (some v :: σ) (o0 :: σ0) h

section
variable {K : PySem.W.Frag} {mg : Str → Option Value} {H H' : Hp} {T T' : Cnt} {env : LEnv} {σ σ0 : L2.St} {F : Cnt}
theorem Slots.sees1 (h : Slots K mg H T env σ σ0 F) : ∀ (i : Nat) (s : Slot), env[i]? = some (some s) → ∃ v, σ[i]? = some (some v) ∧ Rep K mg H v s.v := by
  induction h with
  | nil _ => intro i s e; simp at e
  | off _ ih =>
    intro i s e
    cases i with
    | zero => simp at e
    | succ i => simpa using ih i s (by simpa using e)
  | on h _ _ _ ih =>
    intro i s e
    cases i with
    | zero => simp at e; subst e; exact ⟨_, rfl, h.rep⟩
    | succ i => simpa using ih i s (by simpa using e)
theorem Slots.len (h : Slots K mg H T env σ σ0 F) : env.length = σ.length := by
  induction h with
  | nil _ => rfl
  | off _ ih => simp [ih]
  | on _ _ _ _ ih => simp [ih]
theorem Slots.sees (h : Slots K mg H T env σ σ0 F) : Sees K mg H env σ := ⟨h.sees1, h.len⟩
theorem Slots.there (h : Slots K mg H T env σ σ0 F) : ∀ b, F b ≠ 0 → ∃ o, H b = some o ∧ ¬ Still o := by
  induction h with
  | nil z => intro b hb; exact absurd (z b) hb
  | off _ ih => exact ih
  | @on s env v σ σ0 o0 f g h x _ e _ ih =>
    intro b hb
    by_cases q : f b = 0
    · exact ih b (by have := e b; omega)
    · exact x.there b q
theorem Slots.cnt (h : Slots K mg H T env σ σ0 F) {G : Cnt} (e : ∀ b, G b = F b) : Slots K mg H T env σ σ0 G := by
  induction h generalizing G with
  | nil z => exact .nil fun b => (e b).trans (z b)
  | off _ ih => exact .off (ih e)
  | on x r k p ih => exact .on x r (fun b => (e b).trans (k b)) p
theorem Slots.keep (h : Slots K mg H T env σ σ0 F) (h2 : ∀ a o, H a = some o → T a = 0 → T' a = 0) (k : ∀ a o, H a = some o → (F a ≠ 0 ∨ T a = 0 ∨ Still o) → H' a = some o) : Slots K mg H' T' env σ σ0 F := by
  induction h with
  | nil z => exact .nil z
  | off _ ih => exact .off (ih k)
  | on x r e p ih => exact .on (x.keep h2 fun a o q z => k a o q (z.imp (fun n => by rw [e]; omega) id)) (ih fun a o q z => k a o q (z.imp (fun n => by rw [e]; omega) id)) e p
/-- a slot's value is taken out -/
theorem Slots.get (h : Slots K mg H T env σ σ0 F) : ∀ {i : Nat} {s : Slot}, env[i]? = some (some s) → ∃ v f g, σ[i]? = some (some v) ∧ Own K mg H T s.d v s.v f ∧ Slots K mg H T (env.set i none) σ σ0 g ∧ (∀ b, F b = g b + f b) ∧ (s.pin = true → σ0[i]? = some (some v)) := by
  induction h with
  | nil _ => intro i s e; simp at e
  | off r ih =>
    intro i s e
    cases i with
    | zero => simp at e
    | succ i =>
      obtain ⟨v, f, g, a, b, c, d, p⟩ := ih (i := i) (by simpa using e)
      exact ⟨v, f, g, by simpa using a, b, .off c, d, by simpa using p⟩
  | @on s' env v σ σ0 o0 f g h x r e p ih =>
    intro i s q
    cases i with
    | zero =>
      simp at q; subst q
      exact ⟨v, f, g, rfl, x, .off r, fun b => by rw [e b]; omega, fun z => by rw [p z]; rfl⟩
    | succ i =>
      obtain ⟨v', f', g', a, b, c, d, p'⟩ := ih (i := i) (by simpa using q)
      exact ⟨v', f', _, by simpa using a, b, .on x c (fun _ => rfl) p, fun b => by rw [e b, d b]; omega, by simpa using p'⟩
/-- .. is let go -/
theorem Slots.clear (h : Slots K mg H T env σ σ0 F) : ∀ (i : Nat), ∃ g, (∀ b, g b ≤ F b) ∧ Slots K mg H T (env.set i none) σ σ0 g := by
  induction h with
  | nil z => intro i; exact ⟨_, fun b => Nat.le_refl _, .nil z⟩
  | @off env σ σ0 o o0 f r ih =>
    intro i
    cases i with
    | zero => exact ⟨f, fun _ => Nat.le_refl _, .off r⟩
    | succ i => obtain ⟨g, a, b⟩ := ih i; exact ⟨g, a, .off b⟩
  | @on s' env v σ σ0 o0 f g h x r e p ih =>
    intro i
    cases i with
    | zero => exact ⟨g, fun b => by rw [e b]; omega, .off r⟩
    | succ i => obtain ⟨g', a, b⟩ := ih i; exact ⟨_, fun b => by rw [e b]; have := a b; exact Nat.add_le_add_left this _, .on x b (fun _ => rfl) p⟩
/-- .. is put in -/
theorem Slots.put (h : Slots K mg H T env σ σ0 F) : ∀ {i : Nat} {s : Slot} {v : V} {f : Cnt}, env[i]? = some none → Own K mg H T s.d v s.v f → (s.pin = true → σ0[i]? = some (some v)) → Slots K mg H T (env.set i (some s)) (σ.set i (some v)) σ0 fun b => F b + f b := by
  induction h with
  | nil _ => intro i s v f e; simp at e
  | off r ih =>
    intro i s v f e x p
    cases i with
    | zero => exact .on x r (fun b => Nat.add_comm _ _) fun z => by simpa using p z
    | succ i => exact .off (ih (by simpa using e) x (by simpa using p))
  | @on s' env v' σ σ0 o0 f' g h x' r e' p' ih =>
    intro i s v f e x p
    cases i with
    | zero => simp at e
    | succ i => exact .on x' (ih (by simpa using e) x (by simpa using p)) (fun b => by show h b + f b = f' b + (g b + f b); rw [e' b]; omega) p'
theorem Slots.any (h : Slots K mg H T env σ σ0 F) : ∀ {i : Nat} {o : Option V}, env[i]? = some none → Slots K mg H T env (σ.set i o) σ0 F := by
  induction h with
  | nil z => intro i o e; simp at e
  | off r ih =>
    intro i o e
    cases i with
    | zero => exact .off r
    | succ i => exact .off (ih (by simpa using e))
  | on x r e' p ih =>
    intro i o e
    cases i with
    | zero => simp at e
    | succ i => exact .on x (ih (by simpa using e)) e' p
end

/-! ### the state -/
structure Now (K : PySem.W.Frag) (mg : Str → Option Value) (H : Hp) (env : LEnv) (σ σ0 : L2.St) (τ T F : Cnt) : Prop where
  sl : Slots K mg H T env σ σ0 F
  sum : ∀ b, T b = F b + τ b
  one : ∀ b, T b ≤ 1
  ex : ∀ b, τ b ≠ 0 → ∃ o, H b = some o
/-- what code may have done: it wrote what it owned, it made new things; G: what it owns now -/
structure Frm (H : Hp) (F : Cnt) (H' : Hp) (G : Cnt) : Prop where
  keep : ∀ a o, H a = some o → (F a = 0 ∨ Still o) → H' a = some o
  own : ∀ a o, H a = some o → (∃ o', H' a = some o') ∧ G a ≤ F a
section
variable {K : PySem.W.Frag} {mg : Str → Option Value} {H H' H1 H2 : Hp} {T T' F G F1 F2 f τ : Cnt} {env : LEnv} {σ σ0 : L2.St}
theorem Frm.trans (a : Frm H F H1 F1) (b : Frm H1 F1 H2 F2) : Frm H F H2 F2 := by
  refine ⟨fun c o e z => ?_, fun c o e => ?_⟩
  · have e1 := a.keep c o e z
    exact b.keep c o e1 (z.imp (fun q => by have := (a.own c o e).2; omega) id)
  · obtain ⟨⟨o1, e1⟩, l⟩ := a.own c o e
    obtain ⟨⟨o2, e2⟩, l2⟩ := b.own c o1 e1
    exact ⟨⟨o2, e2⟩, Nat.le_trans l2 l⟩
theorem Frm.grow (g : Grow H H') (l : ∀ a o, H a = some o → G a ≤ F a) : Frm H F H' G := ⟨fun a o e _ => g a o e, fun a o e => ⟨⟨o, g a o e⟩, l a o e⟩⟩
theorem Frm.refl : Frm H F H F := .grow (.refl H) fun _ _ _ => Nat.le_refl _
theorem Frm.less (a : Frm H F H' F1) (l : ∀ b, G b ≤ F1 b) : Frm H F H' G := ⟨a.keep, fun c o e => ⟨(a.own c o e).1, Nat.le_trans (l c) (a.own c o e).2⟩⟩
theorem Frm.cnt (a : Frm H F H' F1) (l : ∀ b, G b = F1 b) : Frm H F H' G := a.less fun b => Nat.le_of_eq (l b)
theorem Now.sees (n : Now K mg H env σ σ0 τ T F) : Sees K mg H env σ := n.sl.sees
/-- a temporary value's description stands through code -/
theorem Own.frm {d : Nat} {v : V} {p : PV} (x : Own K mg H T d v p f) (sum : ∀ b, T b = F b + τ b) (one : ∀ b, T b ≤ 1) (l : ∀ b, f b ≤ τ b) (fr : Frm H F H' G) (sum' : ∀ b, T' b = G b + τ b) : Own K mg H' T' d v p f :=
  x.keep (fun a o e t => by have := (fr.own a o e).2; have := sum a; have := sum' a; omega) fun a o e z => fr.keep a o e (by
    rcases z with z | z | z
    · left; have := l a; have := sum a; have := one a; omega
    · left; have := sum a; omega
    · exact .inr z)
theorem Owns.frm {d : Nat} {v : List V} {p : List PV} (x : Owns K mg H T d v p f) (sum : ∀ b, T b = F b + τ b) (one : ∀ b, T b ≤ 1) (l : ∀ b, f b ≤ τ b) (fr : Frm H F H' G) (sum' : ∀ b, T' b = G b + τ b) : Owns K mg H' T' d v p f :=
  x.keep (fun a o e t => by have := (fr.own a o e).2; have := sum a; have := sum' a; omega) fun a o e z => fr.keep a o e (by
    rcases z with z | z | z
    · left; have := l a; have := sum a; have := one a; omega
    · left; have := sum a; omega
    · exact .inr z)
theorem Slots.grow (h : Slots K mg H T env σ σ0 F) (g : Grow H H') : Slots K mg H' T env σ σ0 F := h.keep (fun _ _ _ z => z) fun a o e _ => g a o e
theorem Now.grow (h : Now K mg H env σ σ0 τ T F) (g : Grow H H') : Now K mg H' env σ σ0 τ T F := ⟨h.sl.grow g, h.sum, h.one, fun b z => let ⟨o, e⟩ := h.ex b z; ⟨o, g b o e⟩⟩
end

/-! ### expressions that may give up or hand over what is owned -/
abbrev ME (α : Type) := LEnv → Rs (Xn × LEnv) (α × LEnv)
def wpX (W : WX) (K : PySem.W.Frag) (mg : Str → Option Value) (σ σ0 : L2.St) (τ : Cnt) (H : Hp) (F : Cnt) (x : Xn) (env : LEnv) : Prop :=
  ∀ C dd H' T' F', Now K mg H' env σ σ0 τ T' F' → Frm H F H' F' → XcAt K mg H' x C dd → W (.ref C) (some dd) σ H'
/-- R: what is told of the value -/
def wpE {α : Type} (W : WX) (K : PySem.W.Frag) (mg : Str → Option Value) (σ σ0 : L2.St) (τ : Cnt) (H : Hp) (F : Cnt) (r : Rs (Xn × LEnv) (α × LEnv)) (Q : α → LEnv → Hp → Cnt → Cnt → Cnt → Prop) : Prop :=
  match r with
  | .stuck => False
  | .ok (a, env') => ∀ H' T' F' f, Slots K mg H' T' env' σ σ0 F' → (∀ b, T' b = F' b + f b + τ b) → (∀ b, T' b ≤ 1) → Frm H F H' (fun b => F' b + f b) → Q a env' H' T' F' f
  | .exc (x, env') => wpX W K mg σ σ0 τ H F x env'
def tSE (K : PySem.W.Frag) (mg : Str → Option Value) (W : WX) (m : ME (Nat × PV)) : TE := fun σ H Q => ∃ env σ0 τ T F, Now K mg H env σ σ0 τ T F ∧
  wpE W K mg σ σ0 τ H F (m env) fun a env' H' T' F' f => ∀ x, Own K mg H' T' a.1 x a.2 f → Q x H'
def tSEs (K : PySem.W.Frag) (mg : Str → Option Value) (W : WX) (m : ME (Nat × List PV)) : TA := fun σ H Q => ∃ env σ0 τ T F, Now K mg H env σ σ0 τ T F ∧
  wpE W K mg σ σ0 τ H F (m env) fun a env' H' T' F' f => ∀ xs, Owns K mg H' T' a.1 xs a.2 f → Q xs H'
def SE (X : Cx) (W : WX) (e : Expr) (m : ME (Nat × PV)) : Prop := PE X e (tSE X.K X.mg W m)
def SEs (X : Cx) (W : WX) (e : List Expr) (m : ME (Nat × List PV)) : Prop := PA X e (tSEs X.K X.mg W m)

/-- a pure one's value, settled -/
def liftP {α β : Type} (env : LEnv) (r : Rs Xn α) (k : α → Option β) : Rs (Xn × LEnv) (β × LEnv) :=
  match r with
  | .stuck => .stuck
  | .ok a => match k a with
    | none => .stuck
    | some b => .ok (b, env)
  | .exc x => .exc (x, env)
def mFlat (m : MP PV) : ME (Nat × PV) := fun env => liftP env (m env) fun p => if hgt p = 0 then some (8, p) else none
def mNew (m : MP (List PV)) : ME (Nat × PV) := fun env => liftP env (m env) fun ps => if hgts ps = 0 then some (9, .lst ps) else none
def mMove (i : Nat) : ME (Nat × PV) := fun env => match env[i]? with
  | some (some s) => if hgt s.v = 0 then .ok ((8, s.v), env) else if s.pin then .stuck else .ok ((s.d, s.v), env.set i none)
  | _ => .stuck
def mFrz (i : Nat) : ME (Nat × PV) := fun env => match env[i]? with
  | some (some s) => if hgt s.v = 0 then .ok ((8, s.v), env) else .ok ((0, s.v), env.set i (some ⟨0, s.pin, s.v⟩))
  | _ => .stuck
def mENil : ME (Nat × List PV) := fun env => .ok ((8, []), env)
def eMap {α β : Type} (g : α → Option β) (m : ME α) : ME β := fun env => (m env).bind fun z => match g z.1 with
  | none => .stuck
  | some b => .ok (b, z.2)
def mECons (ma : ME (Nat × PV)) (mr : ME (Nat × List PV)) : ME (Nat × List PV) := fun env => (ma env).bind fun z => eMap (fun r => some (min z.1.1 r.1, z.1.2 :: r.2)) mr z.2
def gTupE (r : Nat × List PV) : Option (Nat × PV) := if sizeOk r.2.length then some (r.1, .tup r.2) else none
def gLstE (r : Nat × List PV) : Option (Nat × PV) := if sizeOk r.2.length then some (r.1 + 1, .lst r.2) else none
def mETup (mr : ME (Nat × List PV)) : ME (Nat × PV) := eMap gTupE mr
def mELst (mr : ME (Nat × List PV)) : ME (Nat × PV) := eMap gLstE mr

section
variable {K : PySem.W.Frag} {mg : Str → Option Value} {W : WX} {σ σ0 : L2.St} {H H1 : Hp} {F F1 f T T1 τ : Cnt} {α β : Type} {env env1 : LEnv}
theorem wpX_frm {x : Xn} (h : wpX W K mg σ σ0 τ H F x env) (fr : Frm H F H1 F1) : wpX W K mg σ σ0 τ H1 F1 x env := fun C dd H' T' F' n g c => h C dd H' T' F' n (fr.trans g) c
/-- a temporary is dropped -/
theorem wpX_drop {x : Xn} (h : wpX W K mg σ σ0 τ H F x env) (fr : Frm H F H1 (fun b => F1 b + f b)) (sum : ∀ b, T1 b = F1 b + f b + τ b) (one : ∀ b, T1 b ≤ 1) : wpX W K mg σ σ0 (fun b => τ b + f b) H1 F1 x env := fun C dd H' T' F' n g c => by
  refine h C dd H' (fun b => F' b + τ b) F' ⟨n.sl.keep (fun a o e t => ?_) (fun a o e z => e), fun b => rfl, fun b => ?_, fun b z => n.ex b (by show τ b + f b ≠ 0; omega)⟩ ⟨fun a o e z => ?_, fun a o e => ?_⟩ c
  · have := n.sum a; show F' a + τ a = 0; omega
  · have := n.sum b; have := n.one b; show F' b + τ b ≤ 1; omega
  · exact g.keep a o (fr.keep a o e z) (z.imp (fun q => by have : F1 a + f a ≤ F a := (fr.own a o e).2; omega) id)
  · obtain ⟨⟨o1, e1⟩, l⟩ := fr.own a o e
    obtain ⟨q, l2⟩ := g.own a o1 e1
    exact ⟨q, by have l' : F1 a + f a ≤ F a := l; omega⟩
/-- what a pure one gives -/
theorem wpE_lift {r : Rs Xn α} {k : α → Option β} {Q : β → LEnv → Hp → Cnt → Cnt → Cnt → Prop} (n : Now K mg H env σ σ0 τ T F) (h : wpE W K mg σ σ0 τ H F (liftP env r k) Q) :
    wpP W K mg σ H r fun a H' => ∃ b, k a = some b ∧ ∀ H2 f, Grow H H2 → (∀ a o, H a = some o → f a = 0) → (∀ b, f b ≤ 1) → Q b env H2 (fun b => F b + f b + τ b) F f := by
  cases r with
  | stuck => exact h
  | ok a =>
    intro H' g
    unfold liftP at h
    simp only at h
    split at h
    · exact h.elim
    · rename_i b e
      refine ⟨b, e, fun H2 f g2 fz fo => h H2 _ F f (n.sl.keep (fun a o e t => ?_) fun a o e _ => g2 a o e) (fun _ => rfl) (fun b => ?_) (.grow g2 fun a o e => ?_)⟩
      · have := fz a o e; have := n.sum a; omega
      · by_cases q : f b = 0
        · have := n.sum b; have := n.one b; omega
        · have t0 : T b = 0 := by
            cases hb : H b with
            | some o => exact absurd (fz b o hb) q
            | none =>
              have h1 : F b = 0 := Classical.byContradiction fun z => by obtain ⟨o, e, _⟩ := n.sl.there b z; rw [hb] at e; cases e
              have h2 : τ b = 0 := Classical.byContradiction fun z => by obtain ⟨o, e⟩ := n.ex b z; rw [hb] at e; cases e
              have := n.sum b; omega
          have := n.sum b; have := fo b; omega
      · have := fz a o e; omega
  | exc x =>
    intro C dd H' g c
    exact h C dd H' T F (n.grow g) (.grow g fun _ _ _ => Nat.le_refl _) c
end
end M

set_option Elab.async false
set_option linter.all false
set_option maxRecDepth 100000
set_option maxHeartbeats 4000000
namespace M
open PySem PySem.Spec PyProof.Rows L2

section
variable {X : Cx} {W : WX} {a b c : Expr} {es : List Expr} {pos p p2 : Pos} {m : MP PV} {mn : MP (List PV)} {ma : ME (Nat × PV)} {ms : ME (Nat × List PV)}
theorem se_flat (h : SP X W a m) : SE X W a (mFlat m) := h.weak fun σ H Q ⟨env, σ0, τ, T, F, n, w⟩ => ⟨env, n.sees, wpP_mono (wpE_lift n w) fun p H' g ⟨q, e, k⟩ x r => by
  split at e
  · rename_i hz
    cases e
    exact k H' (fun _ => 0) g (fun _ _ _ => rfl) (fun _ => Nat.zero_le _) x (r.own hz 8)
  · cases e⟩
theorem se_new (h : SPF X W a mn) : SE X W a (mNew mn) := h.weak fun σ H Q ⟨env, σ0, τ, T, F, n, w⟩ => ⟨env, n.sees, wpP_mono (wpE_lift n w) fun ps H' g ⟨q, e, k⟩ xs l r na => by
  split at e
  · rename_i hz
    cases e
    refine k (upd H' l (.lst xs)) (fun b => if b = l then 1 else 0) (g.trans (Grow.upd na)) (fun a o e => if_neg ?_) (fun b => ?_) (.ref l) (.lst1 upd_same ((r.grow (Grow.upd na)).own hz 8) fun b => (Nat.zero_add _).symm)
    · rintro rfl
      rw [g _ _ e] at na; cases na
    · show (if b = l then 1 else 0) ≤ 1
      split <;> omega
  · cases e⟩
theorem se_move {i : Nat} {x : Str} (h : PE X (.Name x pos) (tVar i)) : SE X W (.Name x pos) (mMove i) := h.weak fun σ H Q ⟨env, σ0, τ, T, F, n, w⟩ => by
  unfold mMove at w
  split at w
  · rename_i s e
    split at w
    · rename_i hz
      obtain ⟨v, e1, r⟩ := n.sees.1 i s e
      exact ⟨v, e1, w H T F (fun _ => 0) n.sl n.sum n.one .refl v (r.own hz 8)⟩
    split at w
    · exact w.elim
    · obtain ⟨v, f, g, e1, o, sl, hs, _⟩ := n.sl.get e
      exact ⟨v, e1, w H T g f sl (fun b => by rw [n.sum b, hs b]) n.one (.grow (.refl H) fun a o e => Nat.le_of_eq (hs a).symm) v o⟩
  · exact w.elim
theorem set_self {α : Type} : ∀ {l : List α} {i : Nat} {a : α}, l[i]? = some a → l.set i a = l
  | [], _, _, e => by simp at e
  | x :: l, 0, a, e => by simp at e; subst e; rfl
  | x :: l, i + 1, a, e => by simp at e; simp [set_self e]
theorem set_set_none {l : LEnv} {i : Nat} {s : Option Slot} : (l.set i none).set i s = l.set i s := by simp
theorem get_set_none {l : LEnv} {i : Nat} {s : Option Slot} (e : l[i]? = some s) : (l.set i none)[i]? = some none := by
  have := (List.getElem?_eq_some_iff.mp e).1
  simp [this]
theorem se_frz {i : Nat} {x : Str} (h : PE X (.Name x pos) (tVar i)) : SE X W (.Name x pos) (mFrz i) := h.weak fun σ H Q ⟨env, σ0, τ, T, F, n, w⟩ => by
  unfold mFrz at w
  split at w
  · rename_i s e
    split at w
    · rename_i hz
      obtain ⟨v, e1, r⟩ := n.sees.1 i s e
      exact ⟨v, e1, w H T F (fun _ => 0) n.sl n.sum n.one .refl v (r.own hz 8)⟩
    · obtain ⟨v, f, g, e1, o, sl, hs, hp⟩ := n.sl.get e
      obtain ⟨f', l, lo⟩ := o.low (fun b => by have := hs b; have := n.sum b; have := n.one b; omega) (Nat.zero_le _)
      have t' : ∀ b, g b + τ b ≤ T b := fun b => by have := hs b; have := n.sum b; omega
      have z : ∀ b, f b ≠ 0 → g b + τ b = 0 := fun b hb => by have := hs b; have := n.sum b; have := n.one b; omega
      have o' := lo (fun b => g b + τ b) t' fun b hb _ => z b hb
      have f0 : ∀ b, f' b = 0 := o'.zero
      have sl' := (sl.keep (T' := fun b => g b + τ b) (fun a o e t => by have := t' a; show g a + τ a = 0; omega) fun a o e _ => e).put (s := ⟨0, s.pin, s.v⟩) (get_set_none e) o' hp
      rw [set_set_none, set_self e1] at sl'
      refine ⟨v, e1, w H (fun b => g b + τ b) (fun b => g b + f' b) (fun _ => 0) sl' (fun b => ?_) (fun b => Nat.le_trans (t' b) (n.one b)) (.grow (.refl H) fun a o e => ?_) v (o'.cnt fun b => (f0 b).symm)⟩
      · have := f0 b; show g b + τ b = g b + f' b + 0 + τ b; omega
      · have := f0 a; have := hs a; show g a + f' a + 0 ≤ F a; omega
  · exact w.elim
theorem ses_nil : SEs X W [] mENil := pa_nil.weak fun σ H Q ⟨env, σ0, τ, T, F, n, w⟩ => w H T F (fun _ => 0) n.sl n.sum n.one .refl [] (.nil fun _ => rfl)

/-- the first of two is evaluated: what follows, with it in hand; behind the second: one operation more -/
theorem wpE_bind {α β : Type} {K : PySem.W.Frag} {mg : Str → Option Value} {σ σ0 : L2.St} {τ : Cnt} {H : Hp} {F : Cnt} {r : Rs (Xn × LEnv) (α × LEnv)} {k : α × LEnv → Rs (Xn × LEnv) (β × LEnv)} {Q : β → LEnv → Hp → Cnt → Cnt → Cnt → Prop}
    (h : wpE W K mg σ σ0 τ H F (r.bind k) Q) : wpE W K mg σ σ0 τ H F r fun a env1 H1 T1 F1 f1 =>
      wpE W K mg σ σ0 (fun b => τ b + f1 b) H1 F1 (k (a, env1)) fun c env2 H2 T2 F2 f2 => ∀ H3 T3 F3 f3, Slots K mg H3 T3 env2 σ σ0 F3 → (∀ b, T3 b = F3 b + f3 b + τ b) → (∀ b, T3 b ≤ 1) →
        Frm H2 (fun b => F2 b + f1 b + f2 b) H3 (fun b => F3 b + f3 b) → Q c env2 H3 T3 F3 f3 := by
  cases r with
  | stuck => exact h
  | ok a =>
    obtain ⟨a, env1⟩ := a
    intro H1 T1 F1 f1 sl1 sum1 one1 fr1
    have h' : wpE W K mg σ σ0 τ H F (k (a, env1)) Q := h
    generalize k (a, env1) = z at h' ⊢
    cases z with
    | stuck => exact h'
    | ok c =>
      obtain ⟨c, env2⟩ := c
      intro H2 T2 F2 f2 sl2 sum2 one2 fr2 H3 T3 F3 f3 sl3 sum3 one3 fr3
      refine h' H3 T3 F3 f3 sl3 sum3 one3 ⟨fun a o e z => ?_, fun a o e => ?_⟩
      · refine fr3.keep a o (fr2.keep a o (fr1.keep a o e z) (z.imp (fun q => by have : F1 a + f1 a ≤ F a := (fr1.own a o e).2; omega) id)) (z.imp (fun q => ?_) id)
        have l1 : F1 a + f1 a ≤ F a := (fr1.own a o e).2
        have l2 : F2 a + f2 a ≤ F1 a := (fr2.own a o (fr1.keep a o e (.inl q))).2
        show F2 a + f1 a + f2 a = 0
        omega
      · obtain ⟨⟨o1, e1⟩, l1⟩ := fr1.own a o e
        obtain ⟨⟨o2, e2⟩, l2⟩ := fr2.own a o1 e1
        obtain ⟨q, l3⟩ := fr3.own a o2 e2
        have l1' : F1 a + f1 a ≤ F a := l1
        have l2' : F2 a + f2 a ≤ F1 a := l2
        have l3' : F3 a + f3 a ≤ F2 a + f1 a + f2 a := l3
        exact ⟨q, by show F3 a + f3 a ≤ F a; omega⟩
    | exc x => 
      obtain ⟨x, env2⟩ := x
      exact wpX_drop h' fr1 sum1 one1
  | exc x => exact h
theorem wpE_mono {α : Type} {K : PySem.W.Frag} {mg : Str → Option Value} {σ σ0 : L2.St} {τ : Cnt} {H : Hp} {F : Cnt} {r : Rs (Xn × LEnv) (α × LEnv)} {Q Q' : α → LEnv → Hp → Cnt → Cnt → Cnt → Prop}
    (h : wpE W K mg σ σ0 τ H F r Q) (k : ∀ a env' H' T' F' f, Slots K mg H' T' env' σ σ0 F' → (∀ b, T' b = F' b + f b + τ b) → (∀ b, T' b ≤ 1) → Frm H F H' (fun b => F' b + f b) → Q a env' H' T' F' f → Q' a env' H' T' F' f) :
    wpE W K mg σ σ0 τ H F r Q' := by
  cases r with
  | stuck => exact h
  | ok a => exact fun H' T' F' f sl su on fr => k _ _ _ _ _ _ sl su on fr (h H' T' F' f sl su on fr)
  | exc x => exact h
/-- the state behind the first, the value among the temporaries -/
theorem Now.temp {K : PySem.W.Frag} {mg : Str → Option Value} {σ σ0 : L2.St} {τ T F : Cnt} {H : Hp} {env : LEnv} (n : Now K mg H env σ σ0 τ T F) {env1 : LEnv} {H1 : Hp} {T1 F1 f1 : Cnt} (sl : Slots K mg H1 T1 env1 σ σ0 F1) (sum : ∀ b, T1 b = F1 b + f1 b + τ b) (one : ∀ b, T1 b ≤ 1)
    (fr : Frm H F H1 (fun b => F1 b + f1 b)) (ex : ∀ b, f1 b ≠ 0 → ∃ o, H1 b = some o) : Now K mg H1 env1 σ σ0 (fun b => τ b + f1 b) T1 F1 :=
  ⟨sl, fun b => by rw [sum b]; show F1 b + f1 b + τ b = F1 b + (τ b + f1 b); omega, one, fun b z => by
    by_cases q : f1 b = 0
    · obtain ⟨o, e⟩ := n.ex b (by have z' : τ b + f1 b ≠ 0 := z; omega)
      exact (fr.own b o e).1
    · exact ex b q⟩
theorem Owns.there' {K : PySem.W.Frag} {mg : Str → Option Value} {H : Hp} {T : Cnt} {d : Nat} {vs : List V} {ps : List PV} {f : Cnt} (h : Owns K mg H T d vs ps f) (b : Addr) (hb : f b ≠ 0) : ∃ o, H b = some o := let ⟨o, e, _⟩ := h.there b hb; ⟨o, e⟩
theorem Own.there' {K : PySem.W.Frag} {mg : Str → Option Value} {H : Hp} {T : Cnt} {d : Nat} {v : V} {p : PV} {f : Cnt} (h : Own K mg H T d v p f) (b : Addr) (hb : f b ≠ 0) : ∃ o, H b = some o := let ⟨o, e, _⟩ := h.there b hb; ⟨o, e⟩

theorem wpE_map {α β : Type} {K : PySem.W.Frag} {mg : Str → Option Value} {σ σ0 : L2.St} {τ : Cnt} {H : Hp} {F : Cnt} {m : ME α} {env : LEnv} {g : α → Option β} {Q : β → LEnv → Hp → Cnt → Cnt → Cnt → Prop}
    (h : wpE W K mg σ σ0 τ H F (eMap g m env) Q) : wpE W K mg σ σ0 τ H F (m env) fun a env' _ _ _ _ => ∃ b, g a = some b ∧ ∀ H' T' F' f, Slots K mg H' T' env' σ σ0 F' → (∀ b, T' b = F' b + f b + τ b) → (∀ b, T' b ≤ 1) → Frm H F H' (fun b => F' b + f b) → Q b env' H' T' F' f := by
  unfold eMap at h
  generalize m env = r at h ⊢
  cases r with
  | stuck => exact h
  | ok a =>
    intro _ _ _ _ _ _ _ _
    have h' : wpE W K mg σ σ0 τ H F (match g a.1 with | none => .stuck | some b => .ok (b, a.2)) Q := h
    split at h'
    · exact h'.elim
    · rename_i b e
      exact ⟨b, e, fun H' T' F' f sl su on fr => h' H' T' F' f sl su on fr⟩
  | exc x => exact h
theorem ses_cons (ha : SE X W a ma) (hr : SEs X W es ms) (hs : starEach (a :: es) X.env = (false, eval a X.env) :: starEach es X.env := by rfl) : SEs X W (a :: es) (mECons ma ms) :=
  (pa_cons ha hr hs).weak fun σ H Q ⟨env, σ0, τ, T, F, n, w⟩ => ⟨env, σ0, τ, T, F, n, wpE_mono (wpE_bind w) fun c env1 H1 T1 F1 f1 sl1 su1 on1 fr1 w1 x o1 =>
    ⟨env1, σ0, _, T1, F1, n.temp sl1 su1 on1 fr1 o1.there', wpE_mono (wpE_map w1) fun r env2 H2 T2 F2 f2 sl2 su2 on2 fr2 ⟨z, ez, w2⟩ xs o2 => by
      cases ez
      have o1' := o1.frm (τ := fun b => τ b + f1 b) (T' := fun b => F2 b + f2 b + (τ b + f1 b)) (F := F1) (fun b => by rw [su1 b]; show F1 b + f1 b + τ b = F1 b + (τ b + f1 b); omega) on1 (fun b => Nat.le_add_left _ _) fr2 (fun b => rfl)
      have e2 : ∀ b, T2 b = F2 b + f2 b + (τ b + f1 b) := su2
      have u2 : ∀ b, F2 b + f2 b + (τ b + f1 b) ≤ 1 := fun b => by rw [← e2 b]; exact on2 b
      obtain ⟨f1', l1, k1⟩ := o1'.low (fun b => by have := u2 b; omega) (Nat.min_le_left c.1 r.1)
      obtain ⟨f2', l2, k2⟩ := o2.low (fun b => by have := u2 b; omega) (Nat.min_le_right c.1 r.1)
      refine w2 H2 T2 F2 f2 sl2 su2 on2 fr2 H2 (fun b => F2 b + (f1' b + f2' b) + τ b) F2 (fun b => f1' b + f2' b) (sl2.keep (fun a o e t => ?_) fun a o e _ => e) (fun b => rfl) (fun b => ?_) (.grow (.refl _) fun b _ _ => ?_) (x :: xs) (.cons (k1 _ (fun b => ?_) fun b z z' => ?_) (k2 _ (fun b => ?_) fun b z z' => ?_) fun _ => rfl)
      · have := e2 a; have := l1 a; have := l2 a; show F2 a + (f1' a + f2' a) + τ a = 0; omega
      · have := u2 b; have := l1 b; have := l2 b; show F2 b + (f1' b + f2' b) + τ b ≤ 1; omega
      · have := l1 b; have := l2 b; show F2 b + (f1' b + f2' b) ≤ F2 b + f1 b + f2 b; omega
      · have := l1 b; have := l2 b; show F2 b + (f1' b + f2' b) + τ b ≤ F2 b + f2 b + (τ b + f1 b); omega
      · have := u2 b; have := l2 b; show F2 b + (f1' b + f2' b) + τ b = 0; omega
      · have := e2 b; have := l1 b; have := l2 b; show F2 b + (f1' b + f2' b) + τ b ≤ T2 b; omega
      · have := u2 b; have := l1 b; show F2 b + (f1' b + f2' b) + τ b = 0; omega⟩⟩
theorem Owns.grow {K : PySem.W.Frag} {mg : Str → Option Value} {H H' : Hp} {T : Cnt} {d : Nat} {vs : List V} {ps : List PV} {f : Cnt} (h : Owns K mg H T d vs ps f) (g : Grow H H') : Owns K mg H' T d vs ps f := h.keep (fun _ _ _ z => z) fun a o e _ => g a o e
theorem Own.grow {K : PySem.W.Frag} {mg : Str → Option Value} {H H' : Hp} {T : Cnt} {d : Nat} {vs : V} {ps : PV} {f : Cnt} (h : Own K mg H T d vs ps f) (g : Grow H H') : Own K mg H' T d vs ps f := h.keep (fun _ _ _ z => z) fun a o e _ => g a o e
theorem Frm.then_grow {H H1 H2 : Hp} {F G : Cnt} (fr : Frm H F H1 G) (g : Grow H1 H2) : Frm H F H2 G := ⟨fun a o e z => g a o (fr.keep a o e z), fun a o e => let ⟨⟨o1, e1⟩, l⟩ := fr.own a o e; ⟨⟨o1, g a o1 e1⟩, l⟩⟩
theorem se_tup {x1} (h : SEs X W es ms) : SE X W (.Tuple es x1 pos) (mETup ms) := (pe_tup h).weak fun σ H Q ⟨env, σ0, τ, T, F, n, w⟩ =>
  ⟨env, σ0, τ, T, F, n, wpE_mono (wpE_map w) fun r env2 H2 T2 F2 f2 sl2 su2 on2 fr2 ⟨z, ez, w2⟩ xs o => by
    unfold gTupE at ez
    split at ez
    · rename_i hz
      cases ez
      exact ⟨by rw [o.rep.length]; exact sizeOk_le hz, fun q hq => w2 _ T2 F2 f2 (sl2.grow (Grow.upd hq)) su2 on2 (fr2.then_grow (Grow.upd hq)) _ (.tup upd_same (o.grow (Grow.upd hq)))⟩
    · cases ez⟩
theorem se_lst (h : SEs X W es ms) : SE X W (.List es pos) (mELst ms) := (pe_lst h).weak fun σ H Q ⟨env, σ0, τ, T, F, n, w⟩ =>
  ⟨env, σ0, τ, T, F, n, wpE_mono (wpE_map w) fun r env2 H2 T2 F2 f2 sl2 su2 on2 fr2 ⟨z, ez, w2⟩ xs o => by
    unfold gLstE at ez
    split at ez
    · rename_i hz
      cases ez
      refine ⟨by rw [o.rep.length]; exact sizeOk_le hz, fun q hq => ?_⟩
      have g := Grow.upd (o := .lst xs) hq
      have t0 : T2 q = 0 := by
        have h1 : F2 q = 0 := Classical.byContradiction fun z => by obtain ⟨o, e, _⟩ := sl2.there q z; rw [hq] at e; cases e
        have h2 : f2 q = 0 := Classical.byContradiction fun z => by obtain ⟨o, e⟩ := o.there' q z; rw [hq] at e; cases e
        have h3 : τ q = 0 := Classical.byContradiction fun z => by
          obtain ⟨o, e⟩ := n.ex q z
          obtain ⟨⟨o1, e1⟩, _⟩ := fr2.own q o e
          rw [hq] at e1; cases e1
        have := su2 q; omega
      refine w2 _ (fun b => F2 b + (f2 b + if b = q then 1 else 0) + τ b) F2 (fun b => f2 b + if b = q then 1 else 0) (sl2.keep (fun a o e t => ?_) fun a o e _ => g a o e) (fun b => rfl) (fun b => ?_) ⟨fun a o e z => (fr2.then_grow g).keep a o e z, fun a o e => ?_⟩ (.ref q)
        (.lst1 upd_same (o.keep (fun a o e t => ?_) fun a o e _ => g a o e) fun b => rfl)
      · have := su2 a; have ne : a ≠ q := fun z => by rw [z, hq] at e; cases e
        show F2 a + (f2 a + if a = q then 1 else 0) + τ a = 0; rw [if_neg ne]; omega
      · have := su2 b; have := on2 b; show F2 b + (f2 b + if b = q then 1 else 0) + τ b ≤ 1
        by_cases hb : b = q
        · subst hb; rw [if_pos rfl]; omega
        · rw [if_neg hb]; omega
      · obtain ⟨z, l⟩ := (fr2.then_grow g).own a o e
        refine ⟨z, ?_⟩
        have ne : a ≠ q := fun z => by
          obtain ⟨⟨o1, e1⟩, _⟩ := fr2.own a o e
          rw [z, hq] at e1; cases e1
        have l' : F2 a + f2 a ≤ F a := l
        show F2 a + (f2 a + if a = q then 1 else 0) ≤ F a; rw [if_neg ne]; omega
      · have := su2 a; have ne : a ≠ q := fun z => by rw [z, hq] at e; cases e
        show F2 a + (f2 a + if a = q then 1 else 0) + τ a = 0; rw [if_neg ne]; omega
    · cases ez⟩
end
end M

set_option Elab.async false
set_option linter.all false
set_option maxRecDepth 100000
set_option maxHeartbeats 4000000
namespace M
open PySem PySem.Spec PyProof.Rows L2

/-! ### statements -/
inductive Fl where
  | nx (env : LEnv) | bk (env : LEnv) | ct (env : LEnv) | rt (d : Nat) (p : PV) (env : LEnv)
abbrev RF := Rs (Xn × LEnv) Fl
abbrev MS := LEnv → RF
def wpN (K : PySem.W.Frag) (mg : Str → Option Value) (σ0 : L2.St) (τ : Cnt) (H : Hp) (F : Cnt) (env : LEnv) (Q : L2.St → Hp → Prop) : Prop :=
  ∀ σ' H' T' F', Now K mg H' env σ' σ0 τ T' F' → Frm H F H' F' → Q σ' H'
def wpS (W : WX) (K : PySem.W.Frag) (mg : Str → Option Value) (σ0 : L2.St) (τ : Cnt) (H : Hp) (F : Cnt) (r : RF) (D : Ends) : Prop :=
  match r with
  | .stuck => False
  | .ok (.nx e) => wpN K mg σ0 τ H F e D.nx
  | .ok (.bk e) => wpN K mg σ0 τ H F e D.bk
  | .ok (.ct e) => wpN K mg σ0 τ H F e D.ct
  | .ok (.rt d p e) => ∀ x σ' H' T' F' f, Slots K mg H' T' e σ' σ0 F' → (∀ b, T' b = F' b + f b + τ b) → (∀ b, T' b ≤ 1) → Own K mg H' T' d x p f → Frm H F H' (fun b => F' b + f b) → D.rt x H'
  | .exc (x, e) => ∀ σ', wpX W K mg σ' σ0 τ H F x e
def tSS (K : PySem.W.Frag) (mg : Str → Option Value) (W : WX) (m : MS) : TS := fun D σ H => ∃ env σ0 τ T F, Now K mg H env σ σ0 τ T F ∧ wpS W K mg σ0 τ H F (m env) D
def SS (X : Cx) (W : WX) (st : Stmt) (m : MS) : Prop := PS X st (tSS X.K X.mg W m)
def SSs (X : Cx) (W : WX) (st : List Stmt) (m : MS) : Prop := PSs X st (tSS X.K X.mg W m)

section
variable {W : WX} {K : PySem.W.Frag} {mg : Str → Option Value} {σ σ0 : L2.St} {τ T F F1 f : Cnt} {H H1 : Hp} {env : LEnv}
theorem wpN_frm {Q : L2.St → Hp → Prop} (h : wpN K mg σ0 τ H F env Q) (fr : Frm H F H1 F1) : wpN K mg σ0 τ H1 F1 env Q := fun σ' H' T' F' n g => h σ' H' T' F' n (fr.trans g)
theorem wpS_frm {r : RF} {D : Ends} (h : wpS W K mg σ0 τ H F r D) (fr : Frm H F H1 F1) : wpS W K mg σ0 τ H1 F1 r D := by
  cases r with
  | stuck => exact h
  | ok a =>
    cases a with
    | nx e => exact wpN_frm h fr
    | bk e => exact wpN_frm h fr
    | ct e => exact wpN_frm h fr
    | rt d p e => exact fun x σ' H' T' F' f sl su on o g => h x σ' H' T' F' f sl su on o (fr.trans g)
  | exc x => exact fun σ' => wpX_frm (h σ') fr
theorem wpS_mono {r : RF} {D D' : Ends} (h : wpS W K mg σ0 τ H F r D) (h1 : ∀ σ H, D.nx σ H → D'.nx σ H) (h2 : ∀ σ H, D.bk σ H → D'.bk σ H) (h3 : ∀ σ H, D.ct σ H → D'.ct σ H) (h4 : ∀ σ H, D.rt σ H → D'.rt σ H) : wpS W K mg σ0 τ H F r D' := by
  cases r with
  | stuck => exact h
  | ok a =>
    cases a with
    | nx e => exact fun σ' H' T' F' n g => h1 _ _ (h σ' H' T' F' n g)
    | bk e => exact fun σ' H' T' F' n g => h2 _ _ (h σ' H' T' F' n g)
    | ct e => exact fun σ' H' T' F' n g => h3 _ _ (h σ' H' T' F' n g)
    | rt d p e => exact fun x σ' H' T' F' f sl su on o g => h4 _ _ (h x σ' H' T' F' f sl su on o g)
  | exc x => exact h
end

def mSkip : MS := fun env => .ok (.nx env)
def mBrk : MS := fun env => .ok (.bk env)
def mCnt : MS := fun env => .ok (.ct env)
def seqR (r : RF) (b : MS) : RF := match r with
  | .ok (.nx e) => b e
  | z => z
def mSeq (a b : MS) : MS := fun env => seqR (a env) b
def mRet (m : ME (Nat × PV)) : MS := fun env => (m env).bind fun z => .ok (.rt z.1.1 z.1.2 z.2)
def mRetN : MS := fun env => .ok (.rt 8 .non env)
def liftT (env : LEnv) (r : Rs Xn Bool) (k : Bool → RF) : RF := match r with
  | .stuck => .stuck
  | .ok b => k b
  | .exc x => .exc (x, env)
def mIfS (mt : MP Bool) (a b : MS) : MS := fun env => liftT env (mt env) fun t => if t = true then a env else b env
def mDrop (m : MP PV) : MS := fun env => match m env with
  | .stuck => .stuck
  | .ok _ => .ok (.nx env)
  | .exc x => .exc (x, env)
def setS (env : LEnv) (i d : Nat) (p : PV) : Option LEnv := match env[i]? with
  | some none => some (env.set i (some ⟨d, false, p⟩))
  | some (some s) => if s.pin then none else some (env.set i (some ⟨d, false, p⟩))
  | none => none
inductive Tg where
  | nm (i : Nat) | tup (ts : List Tg)
mutual
def setT : Tg → Nat → PV → LEnv → Option LEnv
  | .nm i, d, p, env => setS env i d p
  | .tup ts, d, .tup ps, env => setTs ts d ps env
  | .tup ts, d, .ktp ps, env => setTs ts d ps env
  | .tup _, _, _, _ => none
def setTs : List Tg → Nat → List PV → LEnv → Option LEnv
  | [], _, [], env => some env
  | t :: ts, d, p :: ps, env => (setT t d p env).bind fun e => setTs ts d ps e
  | _, _, _, _ => none
end
def ofNx : Option LEnv → RF
  | none => .stuck
  | some e => .ok (.nx e)
def mAsg (t : Tg) (m : ME (Nat × PV)) : MS := fun env => (m env).bind fun z => ofNx (setT t z.1.1 z.1.2 z.2)
def tTG (K : PySem.W.Frag) (mg : Str → Option Value) (t : Tg) : TG := fun v σ H Q => ∃ (env : LEnv) (σ0 : L2.St) (τ T F f : Cnt) (d : Nat) (p : PV) (env' : LEnv), Slots K mg H T env σ σ0 F ∧ (∀ b, T b = F b + f b + τ b) ∧ (∀ b, T b ≤ 1) ∧ Own K mg H T d v p f ∧ setT t d p env = some env' ∧
  ∀ σ' T' F', Slots K mg H T' env' σ' σ0 F' → (∀ b, T' b = F' b + τ b) → (∀ b, F' b ≤ F b + f b) → Q σ' H
def tTGs (K : PySem.W.Frag) (mg : Str → Option Value) (t : List Tg) : TGs := fun v σ H Q => ∃ (env : LEnv) (σ0 : L2.St) (τ T F f : Cnt) (d : Nat) (p : List PV) (env' : LEnv), Slots K mg H T env σ σ0 F ∧ (∀ b, T b = F b + f b + τ b) ∧ (∀ b, T b ≤ 1) ∧ Owns K mg H T d v p f ∧ setTs t d p env = some env' ∧
  ∀ σ' T' F', Slots K mg H T' env' σ' σ0 F' → (∀ b, T' b = F' b + τ b) → (∀ b, F' b ≤ F b + f b) → Q σ' H
def SG (X : Cx) (tg : Expr) (t : Tg) : Prop := PG X tg (tTG X.K X.mg t)
def SGs (X : Cx) (tg : List Expr) (t : List Tg) : Prop := PGs X tg (tTGs X.K X.mg t)

section
variable {X : Cx} {W : WX} {a b c tg : Expr} {es tgs : List Expr} {st : Stmt} {sts : List Stmt} {pos p p2 : Pos} {m : MP PV} {mt : MP Bool} {me : ME (Nat × PV)} {ms ns : MS} {t : Tg} {ts : List Tg}
theorem _root_.L2.PG.weak {t t' : TG} (h : PG X tg t) (w : ∀ v σ H Q, t' v σ H Q → t v σ H Q) : PG X tg t' := ⟨fun pins s σ H v u Q I r q => h.run pins s σ H v u Q I r (w v σ H Q q)⟩
theorem _root_.L2.PGs.weak {t t' : TGs} (h : PGs X tgs t) (w : ∀ v σ H Q, t' v σ H Q → t v σ H Q) : PGs X tgs t' := ⟨fun pins s σ H v u Q I r q => h.run pins s σ H v u Q I r (w v σ H Q q)⟩
theorem tg_name {i : Nat} {v : V} {σ : L2.St} {H : Hp} {Q : L2.St → Hp → Prop} : tTG X.K X.mg (.nm i) v σ H Q → gName i v σ H Q := fun ⟨env, σ0, τ, T, F, f, d, p, env', sl, su, on, o, e, q⟩ => by
  have key : ∀ (so : Option Slot), env[i]? = some so → env' = env.set i (some ⟨d, false, p⟩) → Q (σ.set i (some v)) H := fun so hi he => by
    subst he
    obtain ⟨g, l, sl'⟩ := sl.clear i
    have lt : ∀ b, g b + f b + τ b ≤ T b := fun b => by have := l b; have := su b; omega
    have o' : Own X.K X.mg H (fun b => g b + f b + τ b) d v p f := o.keep (fun a x e t => by have := lt a; show g a + f a + τ a = 0; omega) fun a x e _ => e
    have sl2 := (sl'.keep (T' := fun b => g b + f b + τ b) (fun a x e t => by have := lt a; show g a + f a + τ a = 0; omega) fun a x e _ => e).put (s := ⟨d, false, p⟩) (get_set_none hi) o' (fun z => by cases z)
    rw [set_set_none] at sl2
    exact q _ _ _ sl2 (fun b => rfl) fun b => Nat.add_le_add_right (l b) _
  have e2 : setS env i d p = some env' := by rw [setT] at e; exact e
  unfold setS at e2
  split at e2
  · rename_i hi; exact key _ hi (Option.some.inj e2).symm
  · rename_i s hi
    split at e2
    · cases e2
    · exact key _ hi (Option.some.inj e2).symm
  · cases e2
theorem sg_name {i : Nat} (h : PG X tg (gName i)) : SG X tg (.nm i) := h.weak fun v σ H Q => tg_name
theorem sgs_nil : SGs X [] [] := pgs_nil.weak fun v σ H Q ⟨env, σ0, τ, T, F, f, d, p, env', sl, su, on, o, e, q⟩ => by
  cases o with
  | nil z =>
    rw [setTs] at e; cases e
    exact ⟨rfl, q σ T F sl (fun b => by rw [su b, z b]; omega) fun b => Nat.le_add_right _ _⟩
  | cons _ _ _ => rw [setTs] at e; cases e; all_goals simp
theorem sgs_cons (h1 : SG X tg t) (h2 : SGs X tgs ts) (hs : (assignEach (tg :: tgs) X.env).map (·.2) = assign tg X.env :: (assignEach tgs X.env).map (·.2) := by rfl) : SGs X (tg :: tgs) (t :: ts) := (pgs_cons h1 h2 hs).weak fun v σ H Q ⟨env, σ0, τ, T, F, f, d, p, env', sl, su, on, o, e, q⟩ => by
  cases o with
  | nil z => rw [setTs] at e; cases e; all_goals simp
  | @cons _ v vs p ps f1 f2 _ o1 o2 hk =>
    rw [setTs, Option.bind_eq_some_iff] at e
    obtain ⟨e1, ea, eb⟩ := e
    refine ⟨v, vs, rfl, env, σ0, (fun b => τ b + f2 b), T, F, f1, d, p, e1, sl, fun b => by rw [su b, hk b]; show F b + (f1 b + f2 b) + τ b = F b + f1 b + (τ b + f2 b); omega, on, o1, ea, fun σ1 T1 F1 sl1 su1 l1 => ?_⟩
    have lt : ∀ b, T1 b ≤ T b := fun b => by have : T1 b = F1 b + (τ b + f2 b) := su1 b; have := l1 b; have := su b; have := hk b; omega
    exact ⟨e1, σ0, τ, T1, F1, f2, d, ps, env', sl1, fun b => by rw [su1 b]; show F1 b + (τ b + f2 b) = _; omega, fun b => Nat.le_trans (lt b) (on b), o2.keep (fun a x e t => by have := lt a; omega) (fun a x e _ => e), eb,
      fun σ' T' F' s' u' l' => q σ' T' F' s' u' fun b => by have := l' b; have := l1 b; have := hk b; omega⟩
theorem sg_tup {n k : Nat} (hc : X.calm = true) (h : SGs X es ts) (hl : ts.length = n) (hn : (assignEach es X.env).length = n := by rfl) (hst : (assignEach es X.env).findIdx? (·.1) = none := by rfl) : SG X (.Tuple es k pos) (.tup ts) :=
  (pg_tup (k := k) (n := n) hc h hn hst).weak fun v σ H Q ⟨env, σ0, τ, T, F, f, d, p, env', sl, su, on, o, e, q⟩ => by
    have len : ∀ (ts : List Tg) (ps : List PV) (env : LEnv), setTs ts d ps env = some env' → ps.length = ts.length := by
      intro ts
      induction ts with
      | nil => intro ps env e; cases ps with
        | nil => rfl
        | cons => rw [setTs] at e; cases e; all_goals simp
      | cons t ts ih => intro ps env e; cases ps with
        | nil => rw [setTs] at e; cases e; all_goals simp
        | cons p ps =>
          rw [setTs, Option.bind_eq_some_iff] at e
          obtain ⟨e1, _, eb⟩ := e
          rw [List.length_cons, List.length_cons, ih ps e1 eb]
    cases o with
    | @tup _ _ a vs ps hs r =>
      rw [setT] at e
      refine ⟨a, vs, rfl, SqT.of hs, ?_, env, σ0, τ, T, F, f, d, ps, env', sl, su, on, r, e, q⟩
      rw [r.rep.length, len ts ps env e, hl]
    | @ktp _ _ a vs ps hs r =>
      rw [setT] at e
      refine ⟨a, vs, rfl, .inr hs, ?_, env, σ0, τ, T, F, f, d, ps, env', sl, su, on, r, e, q⟩
      rw [r.rep.length, len ts ps env e, hl]
    | _ => rw [setT] at e; cases e; all_goals simp

/-! ### blocks, tests, returns -/
theorem sss_nil : SSs X W [] mSkip := pss_nil.weak fun D σ H ⟨env, σ0, τ, T, F, n, w⟩ => w σ H T F n .refl
theorem seq_wp {K : PySem.W.Frag} {mg : Str → Option Value} {σ0 : L2.St} {τ F : Cnt} {H : Hp} {r : RF} {D : Ends} (h : wpS W K mg σ0 τ H F (seqR r ns) D) : wpS W K mg σ0 τ H F r { D with nx := fun σ' H' => tSS K mg W ns D σ' H' } := by
  cases r with
  | stuck => exact h
  | ok a =>
    cases a with
    | nx e => exact fun σ' H' T' F' n g => ⟨e, σ0, τ, T', F', n, wpS_frm h g⟩
    | bk e => exact h
    | ct e => exact h
    | rt d p e => exact h
  | exc x => exact h
theorem sss_cons (h1 : SS X W st ms) (h2 : SSs X W sts ns) : SSs X W (st :: sts) (mSeq ms ns) := (pss_cons h1 h2).weak fun D σ H ⟨env, σ0, τ, T, F, n, w⟩ => ⟨env, σ0, τ, T, F, n, seq_wp w⟩
theorem sss_one (h : SS X W st ms) : SSs X W [st] ms := pss_one h
theorem ss_pass : SS X W (.Pass pos) mSkip := ps_pass.weak fun D σ H ⟨env, σ0, τ, T, F, n, w⟩ => w σ H T F n .refl
theorem ss_break : SS X W (.Break pos) mBrk := ps_break.weak fun D σ H ⟨env, σ0, τ, T, F, n, w⟩ => w σ H T F n .refl
theorem ss_continue : SS X W (.Continue pos) mCnt := ps_continue.weak fun D σ H ⟨env, σ0, τ, T, F, n, w⟩ => w σ H T F n .refl
/-- from an expression's result to a statement's -/
theorem wpE_S {α : Type} {K : PySem.W.Frag} {mg : Str → Option Value} {σ σ0 : L2.St} {τ F : Cnt} {H : Hp} {r : Rs (Xn × LEnv) (α × LEnv)} {k : α × LEnv → RF} {D : Ends} (h : wpS W K mg σ0 τ H F (r.bind k) D) :
    wpE W K mg σ σ0 τ H F r fun a e H' T' F' f => wpS W K mg σ0 τ H F (k (a, e)) D := by
  cases r with
  | stuck => exact h
  | ok a => exact fun H' T' F' f sl su on fr => h
  | exc x => exact h σ
theorem ss_ret (h : SE X W a me) : SS X W (.Return (some a) pos) (mRet me) := (ps_ret h).weak fun D σ H ⟨env, σ0, τ, T, F, n, w⟩ =>
  ⟨env, σ0, τ, T, F, n, wpE_mono (wpE_S w) fun r e H' T' F' f sl su on fr w' x o => w' x σ H' T' F' f sl su on o fr⟩
theorem ss_retN : SS X W (.Return none pos) mRetN := ps_retN.weak fun D σ H ⟨env, σ0, τ, T, F, n, w⟩ => w .non σ H T F (fun _ => 0) n.sl n.sum n.one (.non fun _ => rfl) .refl
theorem liftT_wp {K : PySem.W.Frag} {mg : Str → Option Value} {σ σ0 : L2.St} {τ T F : Cnt} {H : Hp} {r : Rs Xn Bool} {k : Bool → RF} {D : Ends} {env : LEnv} (n : Now K mg H env σ σ0 τ T F) (w : wpS W K mg σ0 τ H F (liftT env r k) D) :
    wpP W K mg σ H r fun b H' => wpS W K mg σ0 τ H' F (k b) D := by
  cases r with
  | stuck => exact w
  | ok b => exact fun H' g => wpS_frm w (.grow g fun _ _ _ => Nat.le_refl _)
  | exc x => exact fun C dd H' g c => w σ C dd H' T F (n.grow g) (.grow g fun _ _ _ => Nat.le_refl _) c
theorem ss_if {sa sb : List Stmt} (hc : SPT X W c mt) (ha : SSs X W sa ms) (hb : SSs X W sb ns) : SS X W (.If c sa sb pos) (mIfS mt ms ns) := (ps_if hc ha hb).weak fun D σ H ⟨env, σ0, τ, T, F, n, w⟩ =>
  ⟨env, n.sees, by
    have z := liftT_wp n w
    cases h : mt env with
    | stuck => rw [h] at z; exact z
    | exc x => rw [h] at z; exact z
    | ok b =>
      rw [h] at z
      intro H' g
      have z' := z H' g
      cases b with
      | true => exact ⟨env, σ0, τ, T, F, n.grow g, z'⟩
      | false => exact ⟨env, σ0, τ, T, F, n.grow g, z'⟩⟩
theorem ss_drop (h : SP X W a m) (hs : swapsWith a none pos.line X.env = pure false := by rfl) : SS X W (.Expr a pos) (mDrop m) := (ps_expr h hs).weak fun D σ H ⟨env, σ0, τ, T, F, n, w⟩ =>
  ⟨env, n.sees, by
    unfold mDrop at w
    cases h : m env with
    | stuck => rw [h] at w; exact w
    | ok b => rw [h] at w; exact fun H' g x r => w σ H' T F (n.grow g) (.grow g fun _ _ _ => Nat.le_refl _)
    | exc x => rw [h] at w; exact fun C dd H' g c => w σ C dd H' T F (n.grow g) (.grow g fun _ _ _ => Nat.le_refl _) c⟩
/-- a target stored to -/
theorem asg_wp {K : PySem.W.Frag} {mg : Str → Option Value} {σ σ0 : L2.St} {τ T F : Cnt} {H : Hp} {env : LEnv} {D : Ends} {r : Nat × PV} {e : LEnv} {H' : Hp} {T' F' f : Cnt} {x : V} (n : Now K mg H env σ σ0 τ T F) (sl : Slots K mg H' T' e σ σ0 F') (su : ∀ b, T' b = F' b + f b + τ b) (on : ∀ b, T' b ≤ 1)
    (fr : Frm H F H' fun b => F' b + f b) (o : Own K mg H' T' r.1 x r.2 f) (w : wpS W K mg σ0 τ H F (ofNx (setT t r.1 r.2 e)) D) : tTG K mg t x σ H' D.nx := by
  cases q : setT t r.1 r.2 e with
  | none => rw [q] at w; exact w.elim
  | some e2 =>
    rw [q] at w
    refine ⟨e, σ0, τ, T', F', f, r.1, r.2, e2, sl, su, on, o, q, fun σ2 T2 F2 s2 u2 l2 => w σ2 H' T2 F2 ⟨s2, u2, fun b => ?_, fun b z => ?_⟩ (fr.less l2)⟩
    · have := u2 b; have := l2 b; have := su b; have := on b; omega
    · obtain ⟨o, e⟩ := n.ex b z; exact (fr.own b o e).1
theorem ss_set {x : Str} {i : Nat} {pos' : Pos} (he : SE X W a me) (hN : X.N.Nodup) (hi : X.N[i]? = some x) (hx : Loc X.env.scope x) (hs : swapsWith a (some (.Name x pos')) pos.line X.env = pure false := by rfl)
    (hf : X.fn x = true ∨ X.env.scope.names.lookup x = some .local := by first | exact .inl rfl | exact .inr rfl | assumption) : SS X W (.Assign [.Name x pos'] a pos) (mAsg (.nm i) me) :=
  (ps_set hN hi hx he hs hf).weak fun D σ H ⟨env, σ0, τ, T, F, n, w⟩ => ⟨env, σ0, τ, T, F, n, wpE_mono (wpE_S w) fun r e H' T' F' f sl su on fr w' x o => tg_name (asg_wp n sl su on fr o w')⟩
theorem ss_asg (he : SE X W a me) (hg : SG X tg t) (hs : swapsWithSole [tg] a pos.line X.env = pure false := by rfl) (hw : swappedStores [tg] a X.env = pure none := by rfl) (h1 : (assignEach [tg] X.env).map (·.2) = [assign tg X.env] := by rfl) : SS X W (.Assign [tg] a pos) (mAsg t me) :=
  (ps_asg he hg hs hw h1).weak fun D σ H ⟨env, σ0, τ, T, F, n, w⟩ => ⟨env, σ0, τ, T, F, n, wpE_mono (wpE_S w) fun r e H' T' F' f sl su on fr w' x o => asg_wp n sl su on fr o w'⟩
end
end M

set_option Elab.async false
set_option linter.all false
set_option maxRecDepth 100000
set_option maxHeartbeats 4000000
namespace M
open PySem PySem.Spec PyProof.Rows L2

/-! ### parallel stores, loops -/
def mPar (i j : Nat) (m : ME (Nat × List PV)) : MS := fun env => (m env).bind fun z => ofNx (setTs [.nm i, .nm j] z.1.1 z.1.2 z.2)
def contR (r : RF) (k : MS) : RF := match r with
  | .ok (.nx e) => k e
  | .ok (.ct e) => k e
  | .ok (.bk e) => .ok (.nx e)
  | z => z
def loopW (mt : MP Bool) (b : MS) : Nat → MS
  | 0 => fun _ => .stuck
  | n + 1 => fun env => liftT env (mt env) fun t => if t = true then contR (b env) (loopW mt b n) else .ok (.nx env)
/-- what a list's items are for a loop -/
def itD (p : PV) : Nat := if hgt p = 0 then 8 else 0
def loopF (t : Tg) (b : MS) : List PV → MS
  | [] => fun env => .ok (.nx env)
  | p :: r => fun env => match setT t (itD p) p env with
    | none => .stuck
    | some e => contR (b e) (loopF t b r)
def lstOf : PV → Option (List PV)
  | .lst ps => some ps
  | _ => none
def tupOf : PV → Option (List PV)
  | .tup ps => some ps
  | .ktp ps => some ps
  | _ => none
def mForL (t : Tg) (m : ME (Nat × PV)) (b : MS) : MS := fun env => (m env).bind fun z => match lstOf z.1.2 with
  | none => .stuck
  | some ps => loopF t b ps z.2
def mForT (t : Tg) (m : ME (Nat × PV)) (b : MS) : MS := fun env => (m env).bind fun z => match tupOf z.1.2 with
  | none => .stuck
  | some ps => loopF t b ps z.2
def rngs (lo : Int) (n : Nat) : List PV := (List.range n).map fun (i : Nat) => PV.int (lo + (i : Int))
def rngOk (i : Int) : Bool := decide (i.natAbs < 4611686018427387904)
theorem rngOk_lt {i : Int} (h : rngOk i = true) : -4611686018427387904 ≤ i ∧ i < 4611686018427387904 := by
  have := of_decide_eq_true h
  omega
def mForR1 (t : Tg) (m : MP (List PV)) (b : MS) : MS := fun env => match m env with
  | .stuck => .stuck
  | .exc x => .exc (x, env)
  | .ok [.int j] => if rngOk j then loopF t b (rngs 0 j.toNat) env else .stuck
  | .ok _ => .stuck
def mForR2 (t : Tg) (m : MP (List PV)) (b : MS) : MS := fun env => match m env with
  | .stuck => .stuck
  | .exc x => .exc (x, env)
  | .ok [.int i, .int j] => if rngOk i && rngOk j then loopF t b (rngs i (j - i).toNat) env else .stuck
  | .ok _ => .stuck

section
variable {X : Cx} {W : WX} {a b c tg : Expr} {es tgs : List Expr} {st : Stmt} {sts : List Stmt} {pos p p2 : Pos} {m : MP PV} {mt : MP Bool} {me : ME (Nat × PV)} {mes : ME (Nat × List PV)} {ml : MP (List PV)} {ms ns : MS} {t : Tg} {ts : List Tg}
theorem ss_par {i j : Nat} {x y : Str} {px py pt : Pos} {kt k2 pt2} (hc : X.calm = true) (hN : X.N.Nodup) (hi : X.N[i]? = some x) (hj : X.N[j]? = some y) (hij : i ≠ j)
    (hx : X.env.scope.names.lookup x = some .local) (hy : X.env.scope.names.lookup y = some .local) (ha : SEs X W [a, b] mes)
    (hw : swappedStores [.Tuple [.Name x px, .Name y py] kt pt] (.Tuple [a, b] k2 pt2) X.env = pure (some [x, y]))
    (hs : swapsWithSole [.Tuple [.Name x px, .Name y py] kt pt] (.Tuple [a, b] k2 pt2) pos.line X.env = pure false := by rfl) :
    SS X W (.Assign [.Tuple [.Name x px, .Name y py] kt pt] (.Tuple [a, b] k2 pt2) pos) (mPar i j mes) := (ps_par hc hN hi hj hij hx hy ha hw hs).weak fun D σ H ⟨env, σ0, τ, T, F, n, w⟩ =>
  ⟨env, σ0, τ, T, F, n, wpE_mono (wpE_S w) fun r e H' T' F' f sl su on fr w' xs o => by
    cases q : setTs [.nm i, .nm j] r.1 r.2 e with
    | none => rw [show ofNx (setTs [.nm i, .nm j] r.1 r.2 e) = .stuck by rw [q]; rfl] at w'; exact w'.elim
    | some e2 =>
      have w2 : wpS W X.K X.mg σ0 τ H F (.ok (.nx e2)) D := by rw [show ofNx (setTs [.nm i, .nm j] r.1 r.2 e) = .ok (.nx e2) by rw [q]; rfl] at w'; exact w'
      have z : tTGs X.K X.mg [.nm i, .nm j] xs σ H' D.nx := ⟨e, σ0, τ, T', F', f, r.1, r.2, e2, sl, su, on, o, q, fun σ2 T2 F2 s2 u2 l2 => w2 σ2 H' T2 F2 ⟨s2, u2, fun b => by
        have := u2 b; have := l2 b; have := su b; have := on b; omega, fun b z => by obtain ⟨o, e⟩ := n.ex b z; exact (fr.own b o e).1⟩ (fr.less l2)⟩
      -- two names
      obtain ⟨env, σ0, τ, T, F, f, d, p, env', sl, su, on, o, e, q⟩ := z
      cases o with
      | nil z => rw [setTs] at e; cases e; all_goals simp
      | @cons _ v vs p ps f1 f2 _ o1 o2 hk =>
        cases o2 with
        | nil z => rw [setTs, Option.bind_eq_some_iff] at e; obtain ⟨_, _, e⟩ := e; rw [setTs] at e; cases e; all_goals simp
        | @cons _ v' vs' p' ps' g1 g2 _ o1' o2' hk' =>
          cases o2' with
          | cons _ _ _ => rw [setTs, Option.bind_eq_some_iff] at e; obtain ⟨_, _, e⟩ := e; rw [setTs, Option.bind_eq_some_iff] at e; obtain ⟨_, _, e⟩ := e; rw [setTs] at e; cases e; all_goals simp
          | nil z =>
            rw [setTs, Option.bind_eq_some_iff] at e
            obtain ⟨e1, ea, eb⟩ := e
            rw [setTs, Option.bind_eq_some_iff] at eb
            obtain ⟨e2, eb, ec⟩ := eb
            rw [setTs] at ec; cases ec
            refine ⟨v, v', rfl, ?_⟩
            have k1 : tTG X.K X.mg (.nm i) v σ H' fun σ1 H1 => tTG X.K X.mg (.nm j) v' σ1 H1 D.nx := ⟨env, σ0, (fun b => τ b + f2 b), T, F, f1, d, p, e1, sl, fun b => by rw [su b, hk b]; show F b + (f1 b + f2 b) + τ b = F b + f1 b + (τ b + f2 b); omega, on, o1, ea, fun σ1 T1 F1 sl1 su1 l1 => by
              have lt : ∀ b, T1 b ≤ T b := fun b => by have : T1 b = F1 b + (τ b + f2 b) := su1 b; have := l1 b; have := su b; have := hk b; omega
              exact ⟨e1, σ0, τ, T1, F1, g1, d, p', env', sl1, fun b => by have h1 : T1 b = F1 b + (τ b + f2 b) := su1 b; have := hk' b; have := z b; omega, fun b => Nat.le_trans (lt b) (on b), o1'.keep (fun a x e t => by have := lt a; omega) (fun a x e _ => e), eb,
                fun σ' T' F' s' u' l' => q σ' T' F' s' u' fun b => by have := l' b; have := l1 b; have := hk b; have := hk' b; have := z b; omega⟩⟩
            exact tg_name k1 |> fun z => tg_name z⟩
theorem cont_wp {K : PySem.W.Frag} {mg : Str → Option Value} {σ0 : L2.St} {τ F : Cnt} {H : Hp} {r : RF} {k : MS} {D : Ends} (h : wpS W K mg σ0 τ H F (contR r k) D) {N : L2.St → Hp → Prop}
    (hN : ∀ e σ' H' T' F', Now K mg H' e σ' σ0 τ T' F' → Frm H F H' F' → wpS W K mg σ0 τ H' F' (k e) D → N σ' H') : wpS W K mg σ0 τ H F r { D with nx := N, ct := N, bk := D.nx } := by
  cases r with
  | stuck => exact h
  | ok a =>
    cases a with
    | nx e => exact fun σ' H' T' F' n g => hN e σ' H' T' F' n g (wpS_frm h g)
    | bk e => exact h
    | ct e => exact fun σ' H' T' F' n g => hN e σ' H' T' F' n g (wpS_frm h g)
    | rt d p e => exact h
  | exc x => exact h
theorem ss_while {body : List Stmt} (fuel : Nat) (hp : PassesOwn (model X.prog X.w) X.A X.env X.xe) (hc : SPT X W c mt) (hb : SSs X W body ms) : SS X W (.While c body [] pos) (loopW mt ms fuel) := (ps_while hp hc hb).weak fun D σ H ⟨env, σ0, τ, T, F, n, w⟩ => by
  refine ⟨fun k σ H => ∃ env T F, Now X.K X.mg H env σ σ0 τ T F ∧ wpS W X.K X.mg σ0 τ H F (loopW mt ms k env) D, ⟨fuel, env, T, F, n, w⟩, ?_⟩
  rintro k σ H ⟨env, T, F, n, w⟩
  cases k with
  | zero => exact w.elim
  | succ k =>
    refine ⟨env, n.sees, ?_⟩
    have z := liftT_wp n w
    cases h : mt env with
    | stuck => rw [h] at z; exact z
    | exc x => rw [h] at z; exact z
    | ok b =>
      rw [h] at z
      intro H' g
      have z' := z H' g
      cases b with
      | true => exact ⟨fun σ' H' => ∃ env T F, Now X.K X.mg H' env σ' σ0 τ T F ∧ wpS W X.K X.mg σ0 τ H' F (loopW mt ms k env) D, fun σ' H' q => ⟨k, Nat.lt_succ_self k, q⟩, env, σ0, τ, T, F, n.grow g, cont_wp (k := loopW mt ms k) z' fun e σ' H' T' F' n g w => ⟨e, T', F', n, w⟩⟩
      | false => exact z' σ H' T F (n.grow g) .refl
/-- a loop over things that stand still: one turn after the other -/
theorem for_go {J : It} {K : PySem.W.Frag} {mg : Str → Option Value} {σ σ0 : L2.St} {τ T F : Cnt} {H : Hp} {D : Ends} {ps : List PV} {env : LEnv} {vs : List V} {f : Cnt} (hK : X.K = K) (hm : X.mg = mg) (n : Now K mg H env σ σ0 τ T F) (o : Owns K mg H T 0 vs ps f) (there : Hp → Cnt → Prop) (th : there H T)
    (stay : ∀ {H H' : Hp} {T F T' G : Cnt}, there H T → (∀ b, T b = F b + τ b) → Frm H F H' G → (∀ b, T' b = G b + τ b) → there H' T')
    (w : wpS W K mg σ0 τ H F (loopF t ms ps env) D) (g : TG) (hg : ∀ v σ H Q, tTG K mg t v σ H Q → g v σ H Q)
    (go : ∀ i H T v, there H T → vs[i]? = some v → J.go i H) (stop : ∀ i H T, there H T → vs.length ≤ i → J.stop i H) (yld : ∀ i H T x H', i < vs.length → there H T → J.yld i H x H' → H' = H ∧ vs[i]? = some x) :
    ∃ W' : Nat → Nat → L2.St → Hp → Prop, (∃ m, W' 0 m σ H) ∧ ∀ i m σ H, W' i m σ H →
      (J.stop i H ∧ D.nx σ H) ∨ (J.go i H ∧ ∃ N : L2.St → Hp → Prop, (∀ σ' H', N σ' H' → ∃ m', m' < m ∧ W' (i + 1) m' σ' H') ∧ ∀ x H', J.yld i H x H' → g x σ H' fun σ2 H2 => tSS K mg W ms { D with nx := N, ct := N, bk := D.nx } σ2 H2) := by
  have len := o.rep.length
  refine ⟨fun i m σ H => m = ps.length - i ∧ i ≤ ps.length ∧ ∃ env T F, Now K mg H env σ σ0 τ T F ∧ Owns K mg H T 0 vs ps f ∧ there H T ∧ wpS W K mg σ0 τ H F (loopF t ms (ps.drop i) env) D, ⟨ps.length, rfl, Nat.zero_le _, env, T, F, n, o, th, w⟩, ?_⟩
  rintro i m σ H ⟨rfl, hi, env, T, F, n, o, th, w⟩
  by_cases hlt : i < ps.length
  · have hv : i < vs.length := by rw [len]; exact hlt
    refine .inr ⟨go i H T vs[i] th (by simp [hv]), fun σ' H' => i + 1 ≤ ps.length ∧ ∃ env T F, Now K mg H' env σ' σ0 τ T F ∧ Owns K mg H' T 0 vs ps f ∧ there H' T ∧ wpS W K mg σ0 τ H' F (loopF t ms (ps.drop (i + 1)) env) D, fun σ' H' ⟨q1, q2⟩ => ⟨ps.length - (i + 1), by omega, rfl, q1, q2⟩, fun x H' y => ?_⟩
    obtain ⟨rfl, hx⟩ := yld i H T x H' hv th y
    have hd : ps.drop i = ps[i] :: ps.drop (i + 1) := List.drop_eq_getElem_cons hlt
    rw [hd] at w
    obtain ⟨v, hv', ov⟩ : ∃ v, vs[i]? = some v ∧ Own K mg H' T 0 v ps[i] fun _ => 0 := by
      clear hd w len hi y hx go stop yld stay hv
      revert i
      have : ∀ {vs : List V} {ps : List PV} {f : Cnt}, Owns K mg H' T 0 vs ps f → ∀ (i : Nat) (h : i < ps.length), ∃ v, vs[i]? = some v ∧ Own K mg H' T 0 v ps[i] fun _ => 0 := by
        intro vs ps
        induction ps generalizing vs with
        | nil => intro f o i h; simp at h
        | cons p ps ih =>
          intro f o i h
          cases o with
          | cons a r hk =>
            cases i with
            | zero => exact ⟨_, rfl, a.cnt fun b => (a.zero b).symm⟩
            | succ i => simpa using ih r i (by simpa using h)
      intro i h
      exact this o i h
    rw [hx] at hv'; cases hv'
    have ov' : Own K mg H' T (itD ps[i]) x ps[i] fun _ => 0 := by
      unfold itD
      split
      · rename_i hz; exact ov.rep.own hz 8
      · exact ov
    cases q : setT t (itD ps[i]) ps[i] env with
    | none => simp only [loopF, q] at w; exact w.elim
    | some e2 =>
      simp only [loopF, q] at w
      refine hg x σ H' _ ⟨env, σ0, τ, T, F, (fun _ => 0), _, _, e2, n.sl, n.sum, n.one, ov', q, fun σ2 T2 F2 s2 u2 l2 => ?_⟩
      have n2 : Now K mg H' e2 σ2 σ0 τ T2 F2 := ⟨s2, u2, fun b => by have := u2 b; have h := l2 b; have := n.sum b; have := n.one b; simp only at h; omega, n.ex⟩
      have fr : Frm H' F H' F2 := .grow (.refl _) fun b _ _ => l2 b
      have o2 : Owns K mg H' T2 0 vs ps f := o.keep (fun a x e t => by have := u2 a; have h := l2 a; have := n.sum a; simp only at h; omega) fun a x e _ => e
      refine ⟨e2, σ0, τ, T2, F2, n2, cont_wp (k := loopF t ms (ps.drop (i + 1))) (wpS_frm w fr) fun e σ' H2 T' F' n' g' w' => ⟨hlt, e, T', F', n', ?_, ?_, w'⟩⟩
      · have fz : ∀ b, f b = 0 := o.zero
        exact o2.frm n2.sum n2.one (fun b => by rw [fz b]; exact Nat.zero_le _) g' n'.sum
      · exact stay (stay th n.sum fr n2.sum) n2.sum g' n'.sum
  · have e : i = ps.length := by omega
    subst e
    refine .inl ⟨stop _ H T th (by rw [len]; exact Nat.le_refl _), ?_⟩
    rw [List.drop_length] at w
    exact w σ H T F n .refl
end
end M

set_option Elab.async false
set_option linter.all false
set_option maxRecDepth 100000
set_option maxHeartbeats 4000000
namespace M
open PySem PySem.Spec PyProof.Rows L2

section
variable {X : Cx} {W : WX} {a b c tg : Expr} {es tgs : List Expr} {st : Stmt} {sts : List Stmt} {pos p p2 : Pos} {m : MP PV} {mt : MP Bool} {me : ME (Nat × PV)} {mes : ME (Nat × List PV)} {ml : MP (List PV)} {ms ns : MS} {t : Tg} {ts : List Tg}

/-- a temporary value is given up: all of it is shared from now on -/
theorem give_up {K : PySem.W.Frag} {mg : Str → Option Value} {σ σ0 : L2.St} {τ T F F' f T' : Cnt} {H H' : Hp} {env e : LEnv} {d : Nat} {v : V} {p : PV} (n : Now K mg H env σ σ0 τ T F) (sl : Slots K mg H' T' e σ σ0 F') (su : ∀ b, T' b = F' b + f b + τ b) (on : ∀ b, T' b ≤ 1)
    (fr : Frm H F H' fun b => F' b + f b) (o : Own K mg H' T' d v p f) : ∃ T2, Now K mg H' e σ σ0 τ T2 F' ∧ Own K mg H' T2 0 v p (fun _ => 0) ∧ Frm H F H' F' := by
  obtain ⟨f', l, lo⟩ := o.low (fun b => by have := su b; have := on b; omega) (Nat.zero_le _)
  have o2 := lo (fun b => F' b + τ b) (fun b => by have := su b; show F' b + τ b ≤ T' b; omega) fun b z _ => by have := su b; have := on b; show F' b + τ b = 0; omega
  refine ⟨fun b => F' b + τ b, ⟨sl.keep (fun a o e t => by have := su a; show F' a + τ a = 0; omega) fun a o e _ => e, fun b => rfl, fun b => by have := su b; have := on b; show F' b + τ b ≤ 1; omega, fun b z => ?_⟩, o2.cnt fun b => (o2.zero b).symm, fr.less fun b => Nat.le_add_right _ _⟩
  obtain ⟨o, e⟩ := n.ex b z
  exact (fr.own b o e).1
theorem gives_up {K : PySem.W.Frag} {mg : Str → Option Value} {σ σ0 : L2.St} {τ T F F' f T' : Cnt} {H H' : Hp} {env e : LEnv} {d : Nat} {v : List V} {p : List PV} (n : Now K mg H env σ σ0 τ T F) (sl : Slots K mg H' T' e σ σ0 F') (su : ∀ b, T' b = F' b + f b + τ b) (on : ∀ b, T' b ≤ 1)
    (fr : Frm H F H' fun b => F' b + f b) (o : Owns K mg H' T' d v p f) : ∃ T2, Now K mg H' e σ σ0 τ T2 F' ∧ Owns K mg H' T2 0 v p (fun _ => 0) ∧ Frm H F H' F' := by
  obtain ⟨f', l, lo⟩ := o.low (fun b => by have := su b; have := on b; omega) (Nat.zero_le _)
  have o2 := lo (fun b => F' b + τ b) (fun b => by have := su b; show F' b + τ b ≤ T' b; omega) fun b z _ => by have := su b; have := on b; show F' b + τ b = 0; omega
  refine ⟨fun b => F' b + τ b, ⟨sl.keep (fun a o e t => by have := su a; show F' a + τ a = 0; omega) fun a o e _ => e, fun b => rfl, fun b => by have := su b; have := on b; show F' b + τ b ≤ 1; omega, fun b z => ?_⟩, o2.cnt fun b => (o2.zero b).symm, fr.less fun b => Nat.le_add_right _ _⟩
  obtain ⟨o, e⟩ := n.ex b z
  exact (fr.own b o e).1

theorem stay_rd {H H' : Hp} {T F T' G τ : Cnt} {a : Addr} {vs : List V} (q : Rd H a (.lst vs)) (z : T a = 0) (su : ∀ b, T b = F b + τ b) (fr : Frm H F H' G) (su' : ∀ b, T' b = G b + τ b) : Rd H' a (.lst vs) ∧ T' a = 0 := by
  have hz := su a
  have hz' := su' a
  rcases q with q | ⟨o, q⟩
  · exact ⟨.inl (fr.keep _ _ q (.inl (by omega))), by have := (fr.own _ _ q).2; omega⟩
  · exact ⟨.inr ⟨o, fr.keep _ _ q (.inr trivial)⟩, by have := (fr.own _ _ q).2; omega⟩
theorem ss_forL {body : List Stmt} (hp : PassesOwn (model X.prog X.w) X.A X.env X.xe) (hc : X.calm = true) (hi : SE X W a me) (hg : SG X tg t) (hb : SSs X W body ms) (hs : ∀ x, foldedSetIterable a X.env x = pure x := by intro _; rfl) : SS X W (.For tg a body [] pos) (mForL t me ms) :=
  (ps_for hp hc (pi_list hi) hg hb hs).weak fun D σ H ⟨env, σ0, τ, T, F, n, w⟩ => ⟨env, σ0, τ, T, F, n, wpE_mono (wpE_S w) fun r e H' T' F' f sl su on fr w' x o => by
    cases hr : lstOf r.2 with
    | none => rw [hr] at w'; exact w'.elim
    | some ps =>
      rw [hr] at w'
      have er : r.2 = .lst ps := by
        unfold lstOf at hr
        split at hr
        · rename_i q; cases hr; exact q
        · cases hr
      obtain ⟨T2, n2, o2, fr2⟩ := give_up n sl su on fr o
      rw [er] at o2
      cases o2 with
      | @lst0 f a vs ps hl r =>
        have sq : ∀ {H : Hp} {T : Cnt}, (Rd H a (.lst vs) ∧ T a = 0) ∨ KL X.K a vs → SqL X.K H a vs := fun h => LL.sq (h.imp (fun q => q.1) id)
        exact ⟨a, rfl, ⟨vs, sq hl⟩, for_go (J := Itl X.K a) rfl rfl n2 r (fun H T => (Rd H a (.lst vs) ∧ T a = 0) ∨ KL X.K a vs) hl (fun th su fr su' => th.imp (fun ⟨q, z⟩ => stay_rd q z su fr su') id) (wpS_frm w' fr2) _ (fun _ _ _ _ q => q)
          (fun i H T v th hv => ⟨vs, v, sq th, hv⟩) (fun i H T th hv => ⟨vs, sq th, hv⟩) fun i H T x H' _ th y => ⟨y.1, y.2 vs (sq th)⟩⟩⟩
theorem ss_forT {body : List Stmt} (hp : PassesOwn (model X.prog X.w) X.A X.env X.xe) (hc : X.calm = true) (hi : SE X W a me) (hg : SG X tg t) (hb : SSs X W body ms) (hs : ∀ x, foldedSetIterable a X.env x = pure x := by intro _; rfl) : SS X W (.For tg a body [] pos) (mForT t me ms) :=
  (ps_for hp hc (pi_tup hi) hg hb hs).weak fun D σ H ⟨env, σ0, τ, T, F, n, w⟩ => ⟨env, σ0, τ, T, F, n, wpE_mono (wpE_S w) fun r e H' T' F' f sl su on fr w' x o => by
    cases hr : tupOf r.2 with
    | none => rw [hr] at w'; exact w'.elim
    | some ps =>
      rw [hr] at w'
      obtain ⟨T2, n2, o2, fr2⟩ := give_up n sl su on fr o
      have go : ∀ a vs, SqT X.K H' a vs → Owns X.K X.mg H' T2 0 vs ps (fun _ => 0) → _ := fun a vs hl r => for_go (J := Itt X.K a) (ps := ps) (vs := vs) (t := t) (ms := ms) (D := D) rfl rfl n2 r (fun H T => SqT X.K H a vs) hl (fun th su fr su' => by
            rcases th with (th | ⟨o, th⟩) | th
            · exact .inl (.inl (fr.keep _ _ th (.inr trivial)))
            · exact .inl (.inr ⟨o, fr.keep _ _ th (.inr trivial)⟩)
            · exact .inr th) (wpS_frm w' fr2) _ (fun _ _ _ _ q => q)
          (fun i H T v th hv => ⟨vs, v, th, hv⟩) (fun i H T th hv => ⟨vs, th, hv⟩) fun i H T x H' _ th y => ⟨y.1, y.2 vs th⟩
      generalize r.2 = rr at o2 hr
      cases o2 with
      | @tup _ f a vs ps hl r => cases hr; exact ⟨a, rfl, ⟨vs, SqT.of hl⟩, go a vs (SqT.of hl) r⟩
      | @ktp _ f a vs ps hl r => cases hr; exact ⟨a, rfl, ⟨vs, .inr hl⟩, go a vs (.inr hl) r⟩
      | _ => cases hr⟩
theorem rngs_own {K : PySem.W.Frag} {mg : Str → Option Value} {H : Hp} {T : Cnt} (lo : Int) (n : Nat) : ∃ vs, Owns K mg H T 0 vs (rngs lo n) (fun _ => 0) ∧ vs = (List.range n).map fun (i : Nat) => V.int (lo + (i : Int)) := by
  refine ⟨_, ?_, rfl⟩
  unfold rngs
  generalize List.range n = l
  induction l with
  | nil => exact .nil fun _ => rfl
  | cons i l ih => exact .cons (.int _ fun _ => rfl) ih fun _ => rfl
theorem rng_go {K : PySem.W.Frag} {mg : Str → Option Value} {σ σ0 : L2.St} {τ T F : Cnt} {H : Hp} {D : Ends} {env : LEnv} {lo : Int} {k : Nat} (hK : X.K = K) (hm : X.mg = mg) (n : Now K mg H env σ σ0 τ T F) (w : wpS W K mg σ0 τ H F (loopF t ms (rngs lo k) env) D) (g : TG) (hg : ∀ v σ H Q, tTG K mg t v σ H Q → g v σ H Q) :
    ∃ W' : Nat → Nat → L2.St → Hp → Prop, (∃ m, W' 0 m σ H) ∧ ∀ i m σ H, W' i m σ H →
      ((Itr lo k).stop i H ∧ D.nx σ H) ∨ ((Itr lo k).go i H ∧ ∃ N : L2.St → Hp → Prop, (∀ σ' H', N σ' H' → ∃ m', m' < m ∧ W' (i + 1) m' σ' H') ∧ ∀ x H', (Itr lo k).yld i H x H' → g x σ H' fun σ2 H2 => tSS K mg W ms { D with nx := N, ct := N, bk := D.nx } σ2 H2) := by
  obtain ⟨vs, o, ev⟩ := rngs_own (K := K) (mg := mg) (H := H) (T := T) lo k
  have el : ∀ (i : Nat) (v : V), vs[i]? = some v → i < k ∧ v = .int (lo + i) := fun i v e => by
    rw [ev, List.getElem?_map] at e
    cases q : (List.range k)[i]? with
    | none => rw [q] at e; cases e
    | some j =>
      rw [q] at e
      have h1 := (List.getElem?_eq_some_iff.mp q)
      obtain ⟨h1, h2⟩ := h1
      rw [List.length_range] at h1
      rw [List.getElem_range] at h2
      subst h2
      exact ⟨h1, (Option.some.inj e).symm⟩
  have ln : vs.length = k := by rw [ev, List.length_map, List.length_range]
  refine for_go (J := Itr lo k) hK hm n o (fun _ _ => True) trivial (fun _ _ _ _ => trivial) w g hg (fun i H T v _ e => (el i v e).1) (fun i H T _ l => by rw [ln] at l; exact l) fun i H T x H' hl _ y => ⟨y.1, ?_⟩
  obtain ⟨v, hv⟩ : ∃ v, vs[i]? = some v := ⟨vs[i], by simp [hl]⟩
  rw [hv, (el i v hv).2, y.2]
theorem ss_forR1 {body : List Stmt} {pf pc : Pos} (hp : PassesOwn (model X.prog X.w) X.A X.env X.xe) (hc : X.calm = true) (hgl : Gl X "range") (hm : X.mg "range" = none) (ha : SPs X W [a] ml) (hg : SG X tg t) (hb : SSs X W body ms)
    (hst : starEach [a] X.env = [(false, eval a X.env)] := by rfl) (hs : ∀ x, foldedSetIterable (.Call (.Name "range" pf) [a] [] pc) X.env x = pure x := by intro _; rfl) : SS X W (.For tg (.Call (.Name "range" pf) [a] [] pc) body [] pos) (mForR1 t ml ms) :=
  (ps_for hp hc (pi_range1 hgl hm ha hst) hg hb hs).weak fun D σ H ⟨env, σ0, τ, T, F, n, w⟩ => ⟨env, n.sees, by
    unfold mForR1 at w
    split at w
    · exact w.elim
    · rename_i x hx; rw [hx]; exact fun C dd H' g c => w σ C dd H' T F (n.grow g) (.grow g fun _ _ _ => Nat.le_refl _) c
    · rename_i j hx
      rw [hx]
      split at w
      · rename_i hj
        intro H' g xs r
        obtain ⟨h1, h2⟩ : -4611686018427387904 ≤ j ∧ j < 4611686018427387904 := rngOk_lt hj
        cases r with
        | cons r1 r2 =>
          cases r2
          cases r1
          exact ⟨j, rfl, by omega, by omega, rng_go rfl rfl (n.grow g) (wpS_frm w (.grow g fun _ _ _ => Nat.le_refl _)) _ fun _ _ _ _ q => q⟩
      · exact w.elim
    · exact w.elim⟩
theorem ss_forR2 {body : List Stmt} {pf pc : Pos} (hp : PassesOwn (model X.prog X.w) X.A X.env X.xe) (hc : X.calm = true) (hgl : Gl X "range") (hm : X.mg "range" = none) (ha : SPs X W [a, b] ml) (hg : SG X tg t) (hb : SSs X W body ms)
    (hst : starEach [a, b] X.env = [(false, eval a X.env), (false, eval b X.env)] := by rfl) (hst2 : starEach [b] X.env = [(false, eval b X.env)] := by rfl) (hs : ∀ x, foldedSetIterable (.Call (.Name "range" pf) [a, b] [] pc) X.env x = pure x := by intro _; rfl) :
    SS X W (.For tg (.Call (.Name "range" pf) [a, b] [] pc) body [] pos) (mForR2 t ml ms) :=
  (ps_for hp hc (pi_range2 hgl hm ha hst hst2) hg hb hs).weak fun D σ H ⟨env, σ0, τ, T, F, n, w⟩ => ⟨env, n.sees, by
    unfold mForR2 at w
    split at w
    · exact w.elim
    · rename_i x hx; rw [hx]; exact fun C dd H' g c => w σ C dd H' T F (n.grow g) (.grow g fun _ _ _ => Nat.le_refl _) c
    · rename_i i j hx
      rw [hx]
      split at w
      · rename_i hj
        intro H' g xs r
        rw [Bool.and_eq_true] at hj
        obtain ⟨h1, h2⟩ : -4611686018427387904 ≤ i ∧ i < 4611686018427387904 := rngOk_lt hj.1
        obtain ⟨h3, h4⟩ : -4611686018427387904 ≤ j ∧ j < 4611686018427387904 := rngOk_lt hj.2
        cases r with
        | cons r1 r2 =>
          cases r2 with
          | cons r2 r3 =>
            cases r3
            cases r1
            cases r2
            exact ⟨i, j, rfl, ⟨by omega, by omega, by omega, by omega⟩, rng_go rfl rfl (n.grow g) (wpS_frm w (.grow g fun _ _ _ => Nat.le_refl _)) _ fun _ _ _ _ q => q⟩
      · exact w.elim
    · exact w.elim⟩
/-! ### a list's append -/
theorem Own.lstInv {K : PySem.W.Frag} {mg : Str → Option Value} {H : Hp} {T : Cnt} {d : Nat} {v : V} {ps : List PV} {f : Cnt} (o : Own K mg H T (d + 1) v (.lst ps) f) : ∃ a vs fc, v = .ref a ∧ H a = some (.lst vs) ∧ Owns K mg H T d vs ps fc ∧ ∀ b, f b = fc b + if b = a then 1 else 0 := by
  cases o with
  | lst1 h r hg => exact ⟨_, _, _, rfl, h, r, hg⟩
theorem Owns.append {K : PySem.W.Frag} {mg : Str → Option Value} {H : Hp} {T : Cnt} {d : Nat} : ∀ {vs ws : List V} {ps qs : List PV} {f g : Cnt}, Owns K mg H T d vs ps f → Owns K mg H T d ws qs g → Owns K mg H T d (vs ++ ws) (ps ++ qs) fun b => f b + g b
  | _, _, _, _, _, _, .nil z, s => s.cnt fun b => by show _ + _ = _; rw [z b]; omega
  | _, _, _, _, _, _, .cons a r hk, s => .cons a (r.append s) fun b => by show _ + _ = _ + (_ + _); rw [hk b]; omega
def appS (env : LEnv) (i dv : Nat) (p : PV) : Option LEnv := match env[i]? with
  | some (some s) => match s.d, s.v with
    | d + 1, .lst ps => if decide (ps.length < 16777216) then some (env.set i (some ⟨min d dv + 1, s.pin, .lst (ps ++ [p])⟩)) else none
    | _, _ => none
  | _ => none
def isLst (env : LEnv) (i : Nat) : Bool := match env[i]? with
  | some (some s) => (lstOf s.v).isSome
  | _ => false
def mApp (i : Nat) (m : ME (Nat × PV)) : MS := fun env => if isLst env i then (m env).bind fun z => ofNx (appS z.2 i z.1.1 z.1.2) else .stuck
theorem isLst_at {K : PySem.W.Frag} {mg : Str → Option Value} {H : Hp} {env : LEnv} {σ : L2.St} {i : Nat} (h : isLst env i = true) (s : Sees K mg H env σ) : ∃ a vs, σ[i]? = some (some (.ref a)) ∧ SqL K H a vs := by
  unfold isLst at h
  split at h
  · rename_i sl e
    obtain ⟨v, e1, r⟩ := s.1 i sl e
    obtain ⟨d, pn, pv⟩ := sl
    cases pv with
    | lst ps =>
      cases r with
      | lst hs hr => exact ⟨_, _, e1, hs.sq⟩
    | _ => cases h
  · cases h
/-- a write to an object that is owned: what else is described stands -/
theorem Own.wr {K : PySem.W.Frag} {mg : Str → Option Value} {H : Hp} {T : Cnt} {d : Nat} {v : V} {p : PV} {f : Cnt} {a : Addr} {o' : HO} (o : Own K mg H T d v p f) (ta : T a ≠ 0) (fa : f a = 0) (ha : ∀ x, H a = some x → ¬ Still x) : Own K mg (upd H a o') T d v p f :=
  o.keep (fun _ _ _ z => z) fun b x e z => by
    have ne : b ≠ a := fun q => by
      subst q
      rcases z with z | z | z
      · exact z fa
      · exact ta z
      · exact ha x e z
    rw [upd_ne ne]; exact e
theorem Owns.wr {K : PySem.W.Frag} {mg : Str → Option Value} {H : Hp} {T : Cnt} {d : Nat} {v : List V} {p : List PV} {f : Cnt} {a : Addr} {o' : HO} (o : Owns K mg H T d v p f) (ta : T a ≠ 0) (fa : f a = 0) (ha : ∀ x, H a = some x → ¬ Still x) : Owns K mg (upd H a o') T d v p f :=
  o.keep (fun _ _ _ z => z) fun b x e z => by
    have ne : b ≠ a := fun q => by
      subst q
      rcases z with z | z | z
      · exact z fa
      · exact ta z
      · exact ha x e z
    rw [upd_ne ne]; exact e
theorem Slots.wr {K : PySem.W.Frag} {mg : Str → Option Value} {H : Hp} {T : Cnt} {env : LEnv} {σ σ0 : L2.St} {f : Cnt} {a : Addr} {o' : HO} (o : Slots K mg H T env σ σ0 f) (ta : T a ≠ 0) (fa : f a = 0) (ha : ∀ x, H a = some x → ¬ Still x) : Slots K mg (upd H a o') T env σ σ0 f :=
  o.keep (fun _ _ _ z => z) fun b x e z => by
    have ne : b ≠ a := fun q => by
      subst q
      rcases z with z | z | z
      · exact z fa
      · exact ta z
      · exact ha x e z
    rw [upd_ne ne]; exact e
theorem ss_app {i : Nat} {x : Str} {px pa pc : Pos} (hv : PE X (.Name x px) (tVar i)) (he : SE X W a me) (hst : starEach [a] X.env = (false, eval a X.env) :: starEach [] X.env := by rfl)
    (hbase : attributeBase (.Name x px) "append" X.env (eval (.Name x px) X.env) = eval (.Name x px) X.env := by rfl)
    (hfew : ((backTo pc (starEach [a] X.env)).all (fun x => !x.1) && (backToKw pc (keywordEach [] X.env)).all (fun x => x.1.isSome)
      && decide ([a].length + ([] : List Keyword).length + (if ([] : List Keyword).isEmpty then 0 else 1) < 30)) = true := by rfl)
    (hline : (pa.endLine == pc.line) = true := by rfl) (hplain : (backTo pc (starEach [] X.env)).any (·.1) = false := by rfl)
    (hs : swapsWith (.Call (.Attribute (.Name x px) "append" pa) [a] [] pc) none pos.line X.env = pure false := by rfl) : SS X W (.Expr (.Call (.Attribute (.Name x px) "append" pa) [a] [] pc) pos) (mApp i me) :=
  (ps_expr (pe_bm PySem.F.plainAttrs_list PySem.F.slot_list_append PySem.F.type_list_append mt_append hv (pa_cons he pa_nil hst) hbase hfew hline hst hplain) hs).weak fun D σ H ⟨env, σ0, τ, T, F, n, w⟩ => by
    unfold mApp at w
    split at w
    · rename_i hi
      obtain ⟨l, vs0, e1, hs0⟩ := isLst_at hi n.sees
      refine ⟨.ref l, e1, .inl ⟨rfl, _, hs0⟩, env, σ0, τ, T, F, n, wpE_mono (wpE_S w) fun r e H' T' F' f sl su on fr w' x o => ?_⟩
      cases q : appS e i r.1 r.2 with
      | none => rw [show ofNx (appS (r, e).2 i (r, e).1.1 (r, e).1.2) = .stuck by show ofNx (appS e i r.1 r.2) = _; rw [q]; rfl] at w'; exact w'.elim
      | some e2 =>
        have w2 : wpS W X.K X.mg σ0 τ H F (.ok (.nx e2)) D := by rw [show ofNx (appS (r, e).2 i (r, e).1.1 (r, e).1.2) = .ok (.nx e2) by show ofNx (appS e i r.1 r.2) = _; rw [q]; rfl] at w'; exact w'
        unfold appS at q
        split at q
        · rename_i s es
          obtain ⟨d0, pin, pv⟩ := s
          dsimp only at q
          split at q
          · rename_i d ps
            split at q
            · rename_i hz
              cases q
              obtain ⟨v, g, G, ev, og, slG, hG, hp⟩ := sl.get es
              rw [e1] at ev; cases ev
              obtain ⟨a, vs, gc, ea, hH, oc, hg⟩ := og.lstInv
              cases ea
              have lv : vs.length = ps.length := oc.rep.length
              refine ⟨l, vs, x, rfl, rfl, hH, by rw [lv, sizeLine_eq]; exact of_decide_eq_true hz, ?_⟩
              have ga : g l = gc l + 1 := by rw [hg, if_pos rfl]
              have t1 := on l
              have t2 := su l
              have t3 := hG l
              have ta : T' l ≠ 0 := by omega
              have nst : ∀ y, H' l = some y → ¬ Still y := fun y ey => by rw [hH] at ey; cases ey; exact fun z => z
              have u2 : ∀ b, G b + g b + f b + τ b ≤ 1 := fun b => by have := su b; have := on b; have := hG b; omega
              obtain ⟨gc', l1, k1⟩ := oc.low (fun b => by have := u2 b; have := hg b; omega) (Nat.min_le_left d r.1)
              obtain ⟨f', l2, k2⟩ := o.low (fun b => by have := u2 b; omega) (Nat.min_le_right d r.1)
              -- the new counts
              have cz : ∀ b, gc b ≤ g b := fun b => by rw [hg]; omega
              let T2 : Cnt := fun b => G b + ((gc' b + f' b) + if b = l then 1 else 0) + τ b
              have tl : ∀ b, T2 b ≤ T' b := fun b => by
                show G b + ((gc' b + f' b) + if b = l then 1 else 0) + τ b ≤ T' b
                have := su b; have := hG b; have := hg b; have := l1 b; have := l2 b; omega
              have o1 : Owns X.K X.mg H' T2 (min d r.1) vs ps gc' := k1 T2 tl fun b z z' => by
                show G b + ((gc' b + f' b) + if b = l then 1 else 0) + τ b = 0
                have := u2 b; have := hg b; have := l2 b
                by_cases hb : b = l
                · subst hb; rw [if_pos rfl] at this; omega
                · rw [if_neg hb]; rw [if_neg hb] at *; omega
              have o2 : Own X.K X.mg H' T2 (min d r.1) x r.2 f' := k2 T2 tl fun b z z' => by
                show G b + ((gc' b + f' b) + if b = l then 1 else 0) + τ b = 0
                have := u2 b; have := hg b; have := l1 b
                by_cases hb : b = l
                · subst hb; rw [if_pos rfl] at *; omega
                · rw [if_neg hb]; rw [if_neg hb] at *; omega
              have t2l : T2 l ≠ 0 := by show G l + ((gc' l + f' l) + if l = l then 1 else 0) + τ l ≠ 0; rw [if_pos rfl]; omega
              have slG' : Slots X.K X.mg H' T2 (e.set i none) σ σ0 G := slG.keep (fun a o e t => by have := tl a; omega) fun a o e _ => e
              have f0 : ∀ b, gc' b ≤ gc b ∧ f' b ≤ f b := fun b => ⟨l1 b, l2 b⟩
              have s1 := slG'.wr (o' := .lst (vs ++ [x])) t2l (by omega) nst
              have s2 := (o1.append (.cons o2 (.nil (f := fun _ => 0) fun _ => rfl) fun b => rfl)).wr (o' := .lst (vs ++ [x])) t2l (by show gc' l + f' l = 0; have := f0 l; omega) nst
              have s3 : Own X.K X.mg (upd H' l (.lst (vs ++ [x]))) T2 (min d r.1 + 1) (.ref l) (.lst (ps ++ [r.2])) (fun b => (gc' b + f' b) + if b = l then 1 else 0) := .lst1 upd_same s2 fun b => rfl
              have s4 := s1.put (s := ⟨min d r.1 + 1, pin, .lst (ps ++ [r.2])⟩) (get_set_none es) s3 hp
              rw [set_set_none, set_self e1] at s4
              refine w2 σ _ T2 _ ⟨s4, fun b => rfl, fun b => Nat.le_trans (tl b) (on b), fun b z => ?_⟩ ⟨fun b y ey z => ?_, fun b y ey => ?_⟩
              · obtain ⟨y, ey⟩ := n.ex b z
                obtain ⟨⟨y', ey'⟩, _⟩ := fr.own b y ey
                by_cases hb : b = l
                · subst hb; exact ⟨_, upd_same⟩
                · exact ⟨y', by rw [upd_ne hb]; exact ey'⟩
              · have k := fr.keep b y ey z
                have ne : b ≠ l := fun q => by
                  subst q
                  rcases z with z | z
                  · have h : F' b + f b ≤ F b := (fr.own b y ey).2; have := hG b; omega
                  · exact nst y k z
                rw [upd_ne ne]; exact k
              · obtain ⟨⟨y', ey'⟩, lb⟩ := fr.own b y ey
                refine ⟨?_, ?_⟩
                · by_cases hb : b = l
                  · subst hb; exact ⟨_, upd_same⟩
                  · exact ⟨y', by rw [upd_ne hb]; exact ey'⟩
                · have lb' : F' b + f b ≤ F b := lb
                  show G b + ((gc' b + f' b) + if b = l then 1 else 0) ≤ F b
                  have := hG b; have := hg b; have := l1 b; have := l2 b; omega
            · cases q
          · cases q
        · cases q
    · exact w.elim
end
end M

set_option Elab.async false
set_option linter.all false
set_option maxRecDepth 100000
set_option maxHeartbeats 4000000
namespace M
open PySem PySem.Spec PyProof.Rows L2

/-! ### defs -/
abbrev Fn := List PV → Rs Xn (Nat × PV)
/-- what a def promises: its arguments are read, its value comes with its levels -/
def spM (K : PySem.W.Frag) (mg : Str → Option Value) (n : Nat) (G : Fn) : Sp := fun vs H Q E => ∃ ps τ, ps.length = n ∧ Owns K mg H τ 0 vs ps (fun _ => 0) ∧ (∀ b, τ b ≤ 1) ∧ (∀ b, τ b ≠ 0 → ∃ o, H b = some o) ∧
  match G ps with
  | .stuck => False
  | .ok r => ∀ x H' T' f, Grow H H' → Own K mg H' T' r.1 x r.2 f → (∀ b, T' b = f b + τ b) → (∀ b, T' b ≤ 1) → (∀ b o, H b = some o → f b = 0) → Q x H'
  | .exc xn => ∀ C dd H', Grow H H' → XcAt K mg H' xn C dd → E (.ref C) (some dd) H'
def slotsOf (n : Nat) (ps : List PV) : LEnv := ps.map (fun p => some ⟨0, false, p⟩) ++ List.replicate (n - ps.length) none
def runM (n : Nat) (b : MS) : Fn := fun ps => match b (slotsOf n ps) with
  | .ok (.rt d p _) => .ok (d, p)
  | .ok (.nx _) => .ok (8, .non)
  | .exc (x, _) => .exc x
  | _ => .stuck

section
variable {K : PySem.W.Frag} {mg : Str → Option Value}
mutual
theorem Rep.own0 {H : Hp} : ∀ {v : V} {p : PV}, Rep K mg H v p → Own K mg H (fun _ => 0) 0 v p fun _ => 0
  | _, _, .non => .non fun _ => rfl
  | _, _, .bl k => .bl k fun _ => rfl
  | _, _, .int i => .int i fun _ => rfl
  | _, _, .str x => .str x fun _ => rfl
  | _, _, .tup h r => .tup h (Reps.own0 r)
  | _, _, .ktp h r => .ktp h (Reps.own0 r)
  | _, _, .rng h => .rng h fun _ => rfl
  | _, _, .lst h r => .lst0 (by rcases h with h | h; exact .inl ⟨h, rfl⟩; exact .inr h) (Reps.own0 r)
  | _, _, .scr h r => .scr0 (by rcases h with h | h; exact .inl ⟨h, rfl⟩; exact .inr h) (Reps.own0 r)
  | _, _, .dK h e1 e2 r => .dK0 h rfl e1 e2 (Reps.own0 r)
  | _, _, .dT h e1 e2 r => .dT0 h rfl e1 e2 (Reps.own0 r)
  | _, _, .ins h m e1 e2 r => .ins0 h rfl m e1 e2 (Reps.own0 r)
theorem Reps.own0 {H : Hp} : ∀ {vs : List V} {ps : List PV}, Reps K mg H vs ps → Owns K mg H (fun _ => 0) 0 vs ps fun _ => 0
  | _, _, .nil => .nil fun _ => rfl
  | _, _, .cons h r => .cons (Rep.own0 h) (Reps.own0 r) fun _ => rfl
end
theorem Slots.nones {H : Hp} {T : Cnt} : ∀ n, Slots K mg H T (List.replicate n none) (List.replicate n none) (List.replicate n none) fun _ => 0
  | 0 => .nil fun _ => rfl
  | n + 1 => .off (Slots.nones n)
theorem Slots.start {H : Hp} {T : Cnt} : ∀ {vs : List V} {ps : List PV} {f : Cnt}, Owns K mg H T 0 vs ps f → ∀ n, Slots K mg H T (ps.map (fun p => some ⟨0, false, p⟩) ++ List.replicate n none) (vs.map some ++ List.replicate n none) (vs.map some ++ List.replicate n none) f
  | _, _, _, .nil z, n => (Slots.nones n).cnt fun b => z b
  | _, _, _, .cons h r hk, n => .on (s := ⟨0, false, _⟩) h (Slots.start r n) hk fun z => nomatch z
end

section
variable {P : Program} {w : World} {K : PySem.W.Frag} {mg : Str → Option Value} {base : Heap}
theorem fn_ok {x qual : Str} {st : Stmt} {f : Addr} {fd : FuncData} {N ps : List Str} {k : Nat} {b : MS} (F : Fun K x qual st f fd) (S : FnScope N ps (defScope st)) (n : Nat) (hn : n = ps.length)
    (hb : ∀ (cdv : Value) (A : Around) (outer : List PySem.Env) (s : Shared) (H : Hp) (E : XK), Room k (A.deeper (envOfC qual (defScope st) s.heap.objs.size f cdv)) →
      SSs (cxOf (L2.CX P w) P w K mg base N qual (defScope st) f cdv A outer s H E) (fun cls d _ H' => E cls d H') (defBody st) b) : FnOk P w K mg base (L2.CX P w) (k + 1) f fd ps (spM K mg n (runM N.length b)) := by
  refine F.okX S (fun vs H Q E h => by obtain ⟨ps', τ, hl, o, _⟩ := h; rw [o.rep.length, hl, hn]) (fun cdv A outer s H vs Q E hr h => ⟨_, hb cdv A outer s H E hr, ?_⟩)
  obtain ⟨ps', τ, hl, o, on, ex, w⟩ := h
  have ln : vs.length = ps'.length := o.rep.length
  refine ⟨slotsOf N.length ps', L2.start N vs, τ, τ, (fun _ => 0), ⟨by
    show Slots K mg H τ (slotsOf N.length ps') (L2.start N vs) (L2.start N vs) _
    unfold slotsOf L2.start
    rw [ln]
    exact Slots.start o _, fun b => (Nat.zero_add _).symm, on, ex⟩, ?_⟩
  unfold runM at w
  cases hr : b (slotsOf N.length ps') with
  | stuck => rw [hr] at w; exact w.elim
  | exc z => rw [hr] at w; exact fun σ' C dd H' T' F' n fr c => w C dd H' (fun a o e => fr.keep a o e (.inl rfl)) c
  | ok a =>
    cases a with
    | nx e => rw [hr] at w; exact fun σ' H' T' F' n fr => w .non H' τ (fun _ => 0) (fun a o e => fr.keep a o e (.inl rfl)) (.non fun _ => rfl) (fun b => (Nat.zero_add _).symm) on (fun _ _ _ => rfl)
    | bk e => rw [hr] at w; exact w.elim
    | ct e => rw [hr] at w; exact w.elim
    | rt d p e =>
      rw [hr] at w
      intro x σ' H' T' F' f sl su on' o fr
      have lo : ∀ b, f b + τ b ≤ T' b := fun b => by have := su b; omega
      exact w x H' (fun b => f b + τ b) f (fun a o e => fr.keep a o e (.inl rfl)) (o.keep (fun a o e t => by have := lo a; show f a + τ a = 0; omega) fun a o e _ => e) (fun b => rfl) (fun b => Nat.le_trans (lo b) (on' b)) fun b o e => by
        have h : F' b + f b ≤ 0 := (fr.own b o e).2
        omega
end

/-! ### calls -/
def callR {α : Type} (n : Nat) (G : Fn) (ps : List PV) (k : Nat × PV → Option α) : Rs Xn α := if ps.length = n then (match G ps with
  | .stuck => .stuck
  | .ok r => ofO (k r)
  | .exc x => .exc x) else .stuck
def okTall (r : Nat × PV) : Option (Nat × PV) := if hgt r.2 ≤ r.1 then some r else none
def mCall (n : Nat) (G : Fn) (ms : MP (List PV)) : MP PV := fun env => (ms env).bind fun ps => callR n G ps fun r => some r.2
def mCallE (n : Nat) (G : Fn) (ms : MP (List PV)) : ME (Nat × PV) := fun env => liftP env ((ms env).bind fun ps => callR n G ps okTall) some
section
variable {X : Cx} {W : WX} {a b c e tg : Expr} {es tgs : List Expr} {pos p p2 : Pos} {ms : MP (List PV)}
theorem call_wp {α : Type} {K : PySem.W.Frag} {mg : Str → Option Value} {n : Nat} {G : Fn} {ps : List PV} {vs : List V} {k : Nat × PV → Option α} {σ : L2.St} {H : Hp} {Q : α → Hp → Prop} {Q' : VK} (r : Reps K mg H vs ps) (w : wpP W K mg σ H (callR n G ps k) Q)
    (h : ∀ z c x H' f, k z = some c → Grow H H' → Own K mg H' f z.1 x z.2 f → (∀ b, f b ≤ 1) → (∀ b o, H b = some o → f b = 0) → (∀ H2, Grow H H2 → Q c H2) → Q' x H') : spM K mg n G vs H Q' (WE W σ) := by
  unfold callR at w
  split at w
  · rename_i hl
    refine ⟨ps, fun _ => 0, hl, Reps.own0 r, fun _ => Nat.zero_le _, fun b z => absurd rfl z, ?_⟩
    cases hG : G ps with
    | stuck => rw [hG] at w; exact w
    | exc x => rw [hG] at w; exact fun C dd H' g c => w C dd H' g c
    | ok z =>
      rw [hG] at w
      obtain ⟨c, e, q⟩ := wpP_ofO w
      intro x H' T' f g o su on fz
      exact h z c x H' f e g (o.keep (fun a o e t => by have := su a; omega) fun a o e _ => e) (fun b => by have := su b; have := on b; omega) fz q
  · exact w.elim
theorem sp_call {x : Str} {f : Addr} {fd : FuncData} {ps : List Str} {k n : Nat} {G : Fn} (F : FnOk X.prog X.w X.K X.mg X.base (L2.CX X.prog X.w) k f fd ps (spM X.K X.mg n G)) (tk : Takes X W) (hr : Room k X.A) (hm : X.mg x = some (.ref f)) (hk : PySem.W.keepIn X.K (.ref f) = true) (hb : Binds X.K fd ps [])
    (ha : SPs X W (e :: es) ms) (hg : Gl X x := by rfl) (hdb : (x == ("__debug__" : Str)) = false := by decide) (he : starEach (e :: es) X.env = (false, eval e X.env) :: starEach es X.env := by rfl) (hpl : (backTo pos (starEach es X.env)).any (·.1) = false := by rfl) :
    SP X W (.Call (.Name x p) (e :: es) [] pos) (mCall n G ms) := (pe_callS F hr hg hm hk hb (fun σ => passAt tk σ) ha hdb he hpl).weak fun σ H Q ⟨env, s, w⟩ =>
  tsps_bind (k := fun env ps => callR n G ps fun r => some r.2) s w fun ps xs H1 g r s1 w1 => call_wp r w1 fun z c x H' f e g o on fz q => by cases e; exact q H' g x o.rep
theorem se_call {x : Str} {f : Addr} {fd : FuncData} {ps : List Str} {k n : Nat} {G : Fn} (F : FnOk X.prog X.w X.K X.mg X.base (L2.CX X.prog X.w) k f fd ps (spM X.K X.mg n G)) (tk : Takes X W) (hr : Room k X.A) (hm : X.mg x = some (.ref f)) (hk : PySem.W.keepIn X.K (.ref f) = true) (hb : Binds X.K fd ps [])
    (ha : SPs X W (e :: es) ms) (hg : Gl X x := by rfl) (hdb : (x == ("__debug__" : Str)) = false := by decide) (he : starEach (e :: es) X.env = (false, eval e X.env) :: starEach es X.env := by rfl) (hpl : (backTo pos (starEach es X.env)).any (·.1) = false := by rfl) :
    SE X W (.Call (.Name x p) (e :: es) [] pos) (mCallE n G ms) := (pe_callS F hr hg hm hk hb (fun σ => passAt tk σ) ha hdb he hpl).weak fun σ H Q ⟨env, σ0, τ, T, F, n, w⟩ => by
  have w0 := wpE_lift n w
  obtain ⟨env, rfl⟩ : ∃ e, e = env := ⟨_, rfl⟩
  exact tsps_bind (k := fun env ps => callR _ G ps okTall) n.sees w0 fun ps xs H1 g0 r s1 w1 => call_wp r w1 fun z c x H' f e g o on fz q => by
    unfold okTall at e
    split at e
    · rename_i hz
      cases e
      obtain ⟨_, e, q⟩ := q H1 (.refl _)
      cases e
      exact q H' f (g0.trans g) (fun a o e => fz a o (g0 a o e)) on x (o.tall hz)
    · cases e
end
end M

set_option Elab.async false
set_option linter.all false
set_option maxRecDepth 100000
set_option maxHeartbeats 4000000
namespace M
open PySem PySem.Spec PyProof.Rows L2

theorem wpP_mono' {K : PySem.W.Frag} {mg : Str → Option Value} {W : WX} {σ : L2.St} {H H1 : Hp} {α : Type} {r : Rs Xn α} {Q : α → Hp → Prop} (h : wpP W K mg σ H r Q) (g : Grow H H1) : wpP W K mg σ H1 r Q := by
  cases r with
  | stuck => exact h
  | ok a => exact fun H' g' => h H' (g.trans g')
  | exc x => exact fun C dd H' g' => h C dd H' (g.trans g')
/-! ### operations on whole numbers -/
def gI (C : Int → Int → Bool) (f : Int → Int → PV) : PV → PV → Option PV
  | .int i, .int j => if C i j then some (f i j) else none
  | _, _ => none
abbrev cT : Int → Int → Bool := fun _ _ => true
def cMul (i j : Int) : Bool := decide (i.natAbs < 18446744073709551616) || decide (j.natAbs < 18446744073709551616)
def cDiv (_ j : Int) : Bool := decide (j ≠ 0) && decide (j.natAbs < 1073741824)
def cMod (_ j : Int) : Bool := decide (j ≠ 0)
/-- < of whole numbers, so that the kernel never counts down a great number -/
def ltZ : Int → Int → Bool
  | .ofNat a, .ofNat b => Nat.blt a b
  | .ofNat _, .negSucc _ => false
  | .negSucc _, .ofNat _ => true
  | .negSucc a, .negSucc b => Nat.blt b a
theorem ltZ_eq (i j : Int) : ltZ i j = decide (i < j) := by
  cases i <;> cases j <;> simp only [ltZ, Nat.blt]
  all_goals (rw [Bool.eq_iff_iff]; simp; try omega)
def gAdd := gI cT fun i j => .int (i + j)
def gSub := gI cT fun i j => .int (i - j)
def gMul := gI cMul fun i j => .int (i * j)
def gDiv := gI cDiv fun i j => .int (i.fdiv j)
def gMod := gI cMod fun i j => .int (i.fmod j)
def gLt := gI cT fun i j => .bl (ltZ i j)
def gLe := gI cT fun i j => .bl (!ltZ j i)
def gGt := gI cT fun i j => .bl (ltZ j i)
def gGe := gI cT fun i j => .bl (!ltZ i j)
def gNeg : PV → Option PV
  | .int i => some (.int (-i))
  | _ => none
def gAbs : List PV → Option PV
  | [.int i] => some (.int (i.natAbs : Int))
  | _ => none
def gInt : List PV → Option PV
  | [.int i] => some (.int i)
  | [.bl k] => some (.int (if k then 1 else 0))
  | _ => none
def gLen : List PV → Option PV
  | [.lst ps] => some (.int (ps.length : Int))
  | [.tup ps] => some (.int (ps.length : Int))
  | [.ktp ps] => some (.int (ps.length : Int))
  | [.scr ps] => some (.int (ps.length : Int))
  | [.str x] => if sizeOk x.length then some (.int (x.length : Int)) else none
  | _ => none
def gPy (p q : PV) (k : PyData → PyData → PV) : Option PV := match py p, py q with
  | some d, some e => if SeqAt.shaped d && SeqAt.shaped e then some (k d e) else none
  | _, _ => none
def gEq (p q : PV) : Option PV := gPy p q fun d e => .bl (PyData.eqv d e)
def gNe (p q : PV) : Option PV := gPy p q fun d e => .bl (!PyData.eqv d e)
def gIxL : PV → PV → Option PV
  | .lst ps, .int i => L2.atI ps i
  | .scr ps, .int i => L2.atI ps i
  | _, _ => none
def gIxT : PV → PV → Option PV
  | .tup ps, .int i => L2.atI ps i
  | .ktp ps, .int i => L2.atI ps i
  | _, _ => none
def gCat : PV → PV → Option (List PV)
  | .lst ps, .lst qs => if sizeOk (ps.length + qs.length) then some (ps ++ qs) else none
  | _, _ => none
def gRep : PV → PV → Option (List PV)
  | .lst ps, .int k => if decide (k.natAbs < 9223372036854775808) && sizeOk (ps.length * k.toNat) then some (List.replicate k.toNat ps).flatten else none
  | _, _ => none
def gList : List PV → Option (List PV)
  | [.lst ps] => some ps
  | [.tup ps] => some ps
  | [.ktp ps] => some ps
  | _ => none

section
variable {K : PySem.W.Frag} {mg : Str → Option Value}
theorem gI_some {C : Int → Int → Bool} {f : Int → Int → PV} {p q z : PV} (e : gI C f p q = some z) : ∃ i j, p = .int i ∧ q = .int j ∧ C i j = true ∧ z = f i j := by
  unfold gI at e
  split at e
  · split at e
    · cases e; exact ⟨_, _, rfl, rfl, by assumption, rfl⟩
    · cases e
  · cases e
theorem vI0 {g : Int → Int → V} {C : Int → Int → Bool} {f : Int → Int → PV} (r : ∀ H i j, Rep K mg H (g i j) (f i j)) : VOp K mg (rI0 g) (gI C f) := fun H x y p q z Q r1 r2 e h => by
  obtain ⟨i, j, rfl, rfl, _, rfl⟩ := gI_some e
  cases r1; cases r2
  exact ⟨i, j, rfl, rfl, h _ H (.refl H) (r H i j)⟩
theorem vI {g : Int → Int → V} {C : Int → Int → Bool} {D : Int → Int → Prop} {f : Int → Int → PV} (hC : ∀ i j, C i j = true → D i j) (r : ∀ H i j, Rep K mg H (g i j) (f i j)) : VOp K mg (rI D g) (gI C f) := fun H x y p q z Q r1 r2 e h => by
  obtain ⟨i, j, rfl, rfl, c, rfl⟩ := gI_some e
  cases r1; cases r2
  exact ⟨i, j, rfl, rfl, hC i j c, h _ H (.refl H) (r H i j)⟩
theorem v_add : VOp K mg (rI0 fun i j => V.int (i + j)) gAdd := vI0 fun _ _ _ => .int _
theorem v_sub : VOp K mg (rI0 fun i j => V.int (i - j)) gSub := vI0 fun _ _ _ => .int _
theorem v_mul : VOp K mg (rI CMul fun i j => V.int (i * j)) gMul := vI (fun i j c => by
  unfold cMul at c
  rw [Bool.or_eq_true] at c
  rcases c with c | c
  · left; have := of_decide_eq_true c; omega
  · right; have := of_decide_eq_true c; omega) fun _ _ _ => .int _
theorem v_div : VOp K mg (rI CDivN fun i j => V.int (i.fdiv j)) gDiv := vI (fun i j c => by
  unfold cDiv at c
  rw [Bool.and_eq_true] at c
  exact ⟨of_decide_eq_true c.1, of_decide_eq_true c.2⟩) fun _ _ _ => .int _
theorem v_mod : VOp K mg (rI (fun _ j => j ≠ 0) fun i j => V.int (i.fmod j)) gMod := vI (fun i j c => of_decide_eq_true c) fun _ _ _ => .int _
theorem leZ_eq (i j : Int) : (!ltZ j i) = decide (i ≤ j) := by rw [ltZ_eq, Bool.eq_iff_iff]; simp
theorem v_lt : VOp K mg (rI0 fun i j => V.bl (decide (i < j))) gLt := vI0 fun i j _ => by rw [← ltZ_eq]; exact .bl _
theorem v_le : VOp K mg (rI0 fun i j => V.bl (decide (i ≤ j))) gLe := vI0 fun i j _ => by rw [← leZ_eq]; exact .bl _
theorem v_gt : VOp K mg (rI0 fun i j => V.bl (decide (j < i))) gGt := vI0 fun i j _ => by rw [← ltZ_eq]; exact .bl _
theorem v_ge : VOp K mg (rI0 fun i j => V.bl (decide (j ≤ i))) gGe := vI0 fun i j _ => by rw [← leZ_eq]; exact .bl _
theorem v_neg : UOp K mg (rU fun i => V.int (-i)) gNeg := fun H x p z Q r e h => by
  unfold gNeg at e
  split at e
  · cases e; cases r; exact ⟨_, rfl, h _ H (.refl H) (.int _)⟩
  · cases e
theorem v_abs : COp K mg (fun xs H Q => ∃ i, xs = [V.int i] ∧ Q (V.int (if i < 0 then -i else i)) H) gAbs := fun H xs ps z Q r e h => by
  unfold gAbs at e
  split at e
  · rename_i i
    cases e
    cases r with
    | cons r1 r2 =>
      cases r1; cases r2
      refine ⟨i, rfl, ?_⟩
      have q := h _ H (.refl H) (.int (i.natAbs : Int))
      have e : (if i < 0 then -i else i) = (i.natAbs : Int) := by split <;> omega
      rw [e]; exact q
  · cases e
theorem v_int : COp K mg (fun xs H Q => (∃ i, xs = [V.int i] ∧ Q (V.int i) H) ∨ ∃ k, xs = [V.bl k] ∧ Q (V.int (if k then 1 else 0)) H) gInt := fun H xs ps z Q r e h => by
  unfold gInt at e
  split at e
  · cases e
    cases r with
    | cons r1 r2 => cases r1; cases r2; exact .inl ⟨_, rfl, h _ H (.refl H) (.int _)⟩
  · cases e
    cases r with
    | cons r1 r2 => cases r1; cases r2; exact .inr ⟨_, rfl, h _ H (.refl H) (.int _)⟩
  · cases e
theorem v_len : COp K mg (fun xs H Q => ∃ x n, xs = [x] ∧ LenV K x H n ∧ Q (V.int n) H) gLen := fun H xs ps z Q r e h => by
  unfold gLen at e
  split at e
  · cases e
    cases r with
    | cons r1 r2 => cases r1; cases r2; rename_i hs hr; exact ⟨_, _, rfl, .inl ⟨_, hs.sq, hr.length.symm⟩, h _ H (.refl H) (.int _)⟩
  · cases e
    cases r with
    | cons r1 r2 => cases r1; cases r2; rename_i hs hr; exact ⟨_, _, rfl, .inr ⟨_, SqT.of hs, hr.length.symm⟩, h _ H (.refl H) (.int _)⟩
  · cases e
    cases r with
    | cons r1 r2 => cases r1; cases r2; rename_i hs hr; exact ⟨_, _, rfl, .inr ⟨_, .inr hs, hr.length.symm⟩, h _ H (.refl H) (.int _)⟩
  · cases e
    cases r with
    | cons r1 r2 => cases r1; cases r2; rename_i hs hr; exact ⟨_, _, rfl, .inl ⟨_, hs, hr.length.symm⟩, h _ H (.refl H) (.int _)⟩
  · split at e
    · rename_i hz
      cases e
      cases r with
      | cons r1 r2 => cases r1; cases r2; exact ⟨_, _, rfl, ⟨sizeOk_le hz, rfl⟩, h _ H (.refl H) (.int _)⟩
    · cases e
  · cases e
theorem v_eq : VOp K mg (rEqD K) gEq := fun H x y p q z Q r1 r2 e h => by
  unfold gEq gPy at e
  split at e
  · rename_i d e1 hd he
    split at e
    · rename_i hz
      rw [Bool.and_eq_true] at hz
      cases e
      exact ⟨d, e1, r1.dp hd, r2.dp he, hz.1, hz.2, h _ H (.refl H) (.bl _)⟩
    · cases e
  · cases e
theorem v_ne : VOp K mg (rNeD K) gNe := fun H x y p q z Q r1 r2 e h => by
  unfold gNe gPy at e
  split at e
  · rename_i d e1 hd he
    split at e
    · rename_i hz
      rw [Bool.and_eq_true] at hz
      cases e
      exact ⟨d, e1, r1.dp hd, r2.dp he, hz.1, hz.2, h _ H (.refl H) (.bl _)⟩
    · cases e
  · cases e
theorem v_ixL : VOp K mg (rIxL K) gIxL := fun H x y p q z Q r1 r2 e h => by
  unfold gIxL at e
  split at e
  · cases r1; cases r2
    rename_i hs hr
    obtain ⟨v, ev, rv⟩ := hr.atI e
    exact ⟨_, _, _, v, rfl, rfl, hs.sq, ev, h v H (.refl H) rv⟩
  · cases r1; cases r2
    rename_i hs hr
    obtain ⟨v, ev, rv⟩ := hr.atI e
    exact ⟨_, _, _, v, rfl, rfl, hs, ev, h v H (.refl H) rv⟩
  · cases e
theorem v_ixT : VOp K mg (rIxT K) gIxT := fun H x y p q z Q r1 r2 e h => by
  unfold gIxT at e
  split at e
  · cases r1; cases r2
    rename_i hs hr
    obtain ⟨v, ev, rv⟩ := hr.atI e
    exact ⟨_, _, _, v, rfl, rfl, SqT.of hs, ev, h v H (.refl H) rv⟩
  · cases r1; cases r2
    rename_i hs hr
    obtain ⟨v, ev, rv⟩ := hr.atI e
    exact ⟨_, _, _, v, rfl, rfl, .inr hs, ev, h v H (.refl H) rv⟩
  · cases e
theorem v_list : COpF K mg (fun xs H Q => ∃ p ys, xs = [V.ref p] ∧ (SqL K H p ys ∨ SqT K H p ys) ∧ ∀ l, H l = none → Q (.ref l) (upd H l (.lst ys))) gList := fun H xs ps z Q r e h => by
  unfold gList at e
  split at e
  · cases e
    cases r with
    | cons r1 r2 => cases r1; cases r2; rename_i hs hr; exact ⟨_, _, rfl, .inl hs.sq, fun l hl => h _ l hr hl⟩
  · cases e
    cases r with
    | cons r1 r2 => cases r1; cases r2; rename_i hs hr; exact ⟨_, _, rfl, .inr (SqT.of hs), fun l hl => h _ l hr hl⟩
  · cases e
    cases r with
    | cons r1 r2 => cases r1; cases r2; rename_i hs hr; exact ⟨_, _, rfl, .inr (.inr hs), fun l hl => h _ l hr hl⟩
  · cases e
end

/-! ### list + list, of lists of any kind -/
def rCat' (K : PySem.W.Frag) : R2 := fun x y H Q => ∃ l b xs zs, x = .ref l ∧ y = .ref b ∧ LL K H l xs ∧ LL K H b zs ∧ xs.length + zs.length ≤ sizeLine ∧ ∀ p, H p = none → Q (.ref p) (upd H p (.lst (xs ++ zs)))
theorem op_cat' {X : Cx} : OpR X (binaryOp .Add) (rCat' X.K) := fun pins s σ H x y v u Q I rx ry h => by
  obtain ⟨a, b, xs, ys, ex, ey, ha, hb, hz, q⟩ := h
  subst ex; subst ey
  cases rx; cases ry
  obtain ⟨_, i1, n1, r1, e1⟩ := ha.obj I
  obtain ⟨_, i2, n2, r2, e2⟩ := hb.obj I
  have hsz : i1.toArray.size + i2.toArray.size ≤ sizeLine := by
    have h1 := r1.length; have h2 := r2.length
    simp only [List.size_toArray]; omega
  have q' := q s.heap.objs.size I.fresh
  have hl : (xs ++ ys).length ≤ sizeLine := by rw [List.length_append]; exact hz
  have J := I.lnew (t' := s.toks) (r1.append r2) hl
  rw [show (i1 ++ i2).toArray = i1.toArray ++ i2.toArray by simp] at J
  exact PySem.P.add_list e1 e2 ⟨.ref _, _, J, rfl, q'⟩ hsz
theorem v_cat {K : PySem.W.Frag} {mg : Str → Option Value} : VOpF K mg (rCat' K) gCat := fun H x y p q z Q r1 r2 e h => by
  unfold gCat at e
  split at e
  · split at e
    · rename_i hz
      cases e
      cases r1; cases r2
      rename_i h1 q1 _ _ h2 q2
      exact ⟨_, _, _, _, rfl, rfl, h1, h2, by rw [q1.length, q2.length]; exact sizeOk_le hz, fun l hl => h _ l (q1.append q2) hl⟩
    · cases e
  · cases e
def gRepK (ps : List PV) : PV → Option (List PV)
  | .int k => if decide (k.natAbs < 9223372036854775808) && sizeOk (ps.length * k.toNat) then some (List.replicate k.toNat ps).flatten else none
  | _ => none
def mRep (ma : MP (List PV)) (mb : MP PV) : MP (List PV) := fun env => (ma env).bind fun ps => (mb env).bind fun q => ofO (gRepK ps q)
section
variable {X : Cx} {W : WX} {a b c e tg : Expr} {es tgs : List Expr} {pos p p2 : Pos} {m mb : MP PV} {ms : MP (List PV)} {me : ME (Nat × PV)}
theorem sp_rep (ha : SPF X W a ms) (hb : SP X W b mb) : SPF X W (.BinOp a .Mult b pos) (mRep ms mb) := (pe_op op_rep ha hb).weak fun σ H Q ⟨env, s, w⟩ => ⟨env, s, wpP_mono (wpP_bind w) fun ps H1 g w1 xs l r na => by
  have g1 := Grow.upd (o := .lst xs) na
  refine tsp_bind (k := fun env q => ofO (gRepK ps q)) (s.grow (g.trans g1)) (wpP_mono' w1 g1) fun q y H2 g2 ry s2 w2 => ?_
  obtain ⟨z, ez, q2⟩ := wpP_ofO w2
  unfold gRepK at ez
  split at ez
  · rename_i k
    split at ez
    · rename_i hz
      cases ez
      rw [Bool.and_eq_true] at hz
      cases ry
      exact ⟨l, k, xs, rfl, rfl, g2 _ _ upd_same, by have := of_decide_eq_true hz.1; omega, by have := of_decide_eq_true hz.1; omega, by rw [r.length]; exact sizeOk_le hz.2, fun p hp => q2 H2 (.refl _) _ p ((r.grow (g1.trans g2)).rep _) hp⟩
    · cases ez
  · cases ez⟩
theorem sp_ixL (ha : SP X W a m) (hb : SP X W b mb) (hs : PlainIx b := by exact fun _ _ => rfl) : SP X W (.Subscript a b pos) (mBin gIxL m mb) := op_sp v_ixL (pe_ix ix_list ha hb hs)
theorem sp_ixT (ha : SP X W a m) (hb : SP X W b mb) (hs : PlainIx b := by exact fun _ _ => rfl) : SP X W (.Subscript a b pos) (mBin gIxT m mb) := op_sp v_ixT (pe_ix ix_tup ha hb hs)
/-- xs[::-1] -/
def mRevL (m : MP PV) : MP (List PV) := fun env => (m env).bind fun p => ofO ((lstOf p).map List.reverse)
theorem sp_revL {k : Nat} {p1 p2 p3 : Pos} (ha : SP X W a m) : SPF X W (.Subscript a (.Slice none none (some (.UnaryOp .USub (.Constant (.int 1) k p1) p2)) p3) pos) (mRevL m) := (pe_revL ha).weak fun σ H Q ⟨env, s, w⟩ =>
  tsp_bind (k := fun env p => ofO ((lstOf p).map List.reverse)) s w fun p x H1 g r s1 w1 => by
    obtain ⟨z, ez, q⟩ := wpP_ofO w1
    cases r with
    | lst hs hr => cases ez; exact ⟨_, _, rfl, hs.sq, fun l hl => q H1 (.refl _) _ l hr.reverse hl⟩
    | _ => cases ez
/-- x op= e, x a name that holds a flat value -/
def mAug (i : Nat) (g : PV → PV → Option PV) (m : MP PV) : MS := fun env => match env[i]? with
  | some (some s) => (match m env with
    | .stuck => .stuck
    | .exc x => .exc (x, env)
    | .ok q => match g s.v q with
      | none => .stuck
      | some z => if hgt z = 0 then ofNx (setS env i 8 z) else .stuck)
  | _ => .stuck
theorem ss_aug {i : Nat} {x : Str} {op : Operator} {ti : TIp} {g : PV → PV → Option PV} {pos' : Pos} (ho : PIp X op ti) (hg : VOp X.K X.mg ti g) (hN : X.N.Nodup) (hi : X.N[i]? = some x) (hx : Loc X.env.scope x) (he : SP X W e m)
    (hf : X.fn x = true ∨ X.env.scope.names.lookup x = some .local := by first | exact .inl rfl | exact .inr rfl | assumption) : SS X W (.AugAssign (.Name x pos') op e pos) (mAug i g m) := (ps_aug hN hi hx he ho hf).weak fun D σ H ⟨env, σ0, τ, T, F, n, w⟩ => by
  unfold mAug at w
  split at w
  · rename_i s es
    obtain ⟨v, ev, rv⟩ := n.sees.1 i s es
    refine ⟨v, ev, env, n.sees, ?_⟩
    cases hm : m env with
    | stuck => rw [hm] at w; exact w
    | exc x => rw [hm] at w; exact fun C dd H' g c => w σ C dd H' T F (n.grow g) (.grow g fun _ _ _ => Nat.le_refl _) c
    | ok q =>
      rw [hm] at w
      intro H1 g1 y ry
      dsimp only at w
      split at w
      · exact w.elim
      · rename_i z ez
        refine hg H1 v y s.v q z _ (rv.grow g1) ry ez fun u H2 g2 ru => ?_
        split at w
        · rename_i hz
          have g12 := g1.trans g2
          have k : tTG X.K X.mg (.nm i) u σ H2 D.nx := asg_wp (r := (8, z)) (f := fun _ => 0) n (n.grow g12).sl n.sum n.one (.grow g12 fun _ _ _ => Nat.le_refl _) (ru.own hz 8) (by rw [setT]; exact w)
          exact tg_name k
        · exact w.elim
  · exact w.elim
end
end M

set_option Elab.async false
set_option linter.all false
set_option maxRecDepth 100000
set_option maxHeartbeats 4000000
namespace M
open PySem PySem.Spec PyProof.Rows L2

/-! ### list comprehensions of flat things -/
mutual
def tgN : Tg → List Nat
  | .nm i => [i]
  | .tup ts => tgNs ts
def tgNs : List Tg → List Nat
  | [] => []
  | t :: ts => tgN t ++ tgNs ts
end
def tPG (K : PySem.W.Frag) (mg : Str → Option Value) (t : Tg) : TG := fun v σ H Q => ∃ (G : Hp) (env : LEnv) (p : PV) (env' : LEnv), Grow G H ∧ Sees K mg G env σ ∧ Rep K mg G v p ∧ setT t 0 p env = some env' ∧
  ∀ σ', Sees K mg G env' σ' → σ'.length = σ.length → (∀ j, j ∉ tgN t → σ'[j]? = σ[j]?) → Q σ' H
def tPGs (K : PySem.W.Frag) (mg : Str → Option Value) (t : List Tg) : TGs := fun v σ H Q => ∃ (G : Hp) (env : LEnv) (p : List PV) (env' : LEnv), Grow G H ∧ Sees K mg G env σ ∧ Reps K mg G v p ∧ setTs t 0 p env = some env' ∧
  ∀ σ', Sees K mg G env' σ' → σ'.length = σ.length → (∀ j, j ∉ tgNs t → σ'[j]? = σ[j]?) → Q σ' H
def PGm (X : Cx) (tg : Expr) (t : Tg) : Prop := PG X tg (tPG X.K X.mg t)
def PGms (X : Cx) (tg : List Expr) (t : List Tg) : Prop := PGs X tg (tPGs X.K X.mg t)
section
variable {X : Cx} {W : WX} {a b c tg : Expr} {es tgs : List Expr} {pos p p2 : Pos} {t : Tg} {ts : List Tg}
theorem setS_some {env env' : LEnv} {i d : Nat} {p : PV} (e : setS env i d p = some env') : i < env.length ∧ env' = env.set i (some ⟨d, false, p⟩) := by
  unfold setS at e
  split at e
  · rename_i h; exact ⟨(List.getElem?_eq_some_iff.mp h).1, (Option.some.inj e).symm⟩
  · rename_i s h
    split at e
    · cases e
    · exact ⟨(List.getElem?_eq_some_iff.mp h).1, (Option.some.inj e).symm⟩
  · cases e
theorem pgm_name {i : Nat} (h : PG X tg (gName i)) : PGm X tg (.nm i) := h.weak fun v σ H Q ⟨G, env, p, env', gG, s, r, e, q⟩ => by
  have e' : setS env i 0 p = some env' := by rw [setT] at e; exact e
  obtain ⟨hl, rfl⟩ := setS_some e'
  refine q (σ.set i (some v)) ⟨fun j sl hj => ?_, by simp [s.2]⟩ (by simp) fun j hj => ?_
  · by_cases ij : i = j
    · subst ij
      rw [List.getElem?_set_self hl] at hj
      cases hj
      exact ⟨v, by rw [List.getElem?_set_self (by rw [← s.2]; exact hl)], r⟩
    · rw [List.getElem?_set_ne ij] at hj
      obtain ⟨u, eu, ru⟩ := s.1 j sl hj
      exact ⟨u, by rw [List.getElem?_set_ne ij]; exact eu, ru⟩
  · have ij : i ≠ j := fun z => hj (by rw [tgN, z]; simp)
    rw [List.getElem?_set_ne ij]
theorem pgms_nil : PGms X [] [] := pgs_nil.weak fun v σ H Q ⟨G, env, p, env', gG, s, r, e, q⟩ => by
  cases r with
  | nil => rw [setTs] at e; cases e; exact ⟨rfl, q σ s rfl fun _ _ => rfl⟩
  | cons _ _ => rw [setTs] at e; cases e; all_goals simp
theorem pgms_cons (h1 : PGm X tg t) (h2 : PGms X tgs ts) (hs : (assignEach (tg :: tgs) X.env).map (·.2) = assign tg X.env :: (assignEach tgs X.env).map (·.2) := by rfl) : PGms X (tg :: tgs) (t :: ts) := (pgs_cons h1 h2 hs).weak fun v σ H Q ⟨G, env, p, env', gG, s, r, e, q⟩ => by
  cases r with
  | nil => rw [setTs] at e; cases e; all_goals simp
  | @cons v vs p ps r1 r2 =>
    rw [setTs, Option.bind_eq_some_iff] at e
    obtain ⟨e1, ea, eb⟩ := e
    exact ⟨v, vs, rfl, G, env, p, e1, gG, s, r1, ea, fun σ1 s1 n1 k1 => ⟨G, e1, ps, env', gG, s1, r2, eb, fun σ' s' n' k' => q σ' s' (n'.trans n1) fun j hj => by
      rw [tgNs, List.mem_append] at hj
      rw [k' j fun z => hj (.inr z), k1 j fun z => hj (.inl z)]⟩⟩
theorem pgm_tup {n k : Nat} (hc : X.calm = true) (h : PGms X es ts) (hl : ts.length = n) (hn : (assignEach es X.env).length = n := by rfl) (hst : (assignEach es X.env).findIdx? (·.1) = none := by rfl) : PGm X (.Tuple es k pos) (.tup ts) :=
  (pg_tup (k := k) (n := n) hc h hn hst).weak fun v σ H Q ⟨G, env, p, env', gG, s, r, e, q⟩ => by
    have len : ∀ (ts : List Tg) (ps : List PV) (env : LEnv), setTs ts 0 ps env = some env' → ps.length = ts.length := by
      intro ts
      induction ts with
      | nil => intro ps env e; cases ps with
        | nil => rfl
        | cons => rw [setTs] at e; cases e; all_goals simp
      | cons t ts ih => intro ps env e; cases ps with
        | nil => rw [setTs] at e; cases e; all_goals simp
        | cons p ps =>
          rw [setTs, Option.bind_eq_some_iff] at e
          obtain ⟨e1, _, eb⟩ := e
          rw [List.length_cons, List.length_cons, ih ps e1 eb]
    cases r with
    | @tup a vs ps hs r =>
      rw [setT] at e
      exact ⟨a, vs, rfl, SqT.of (gG _ _ hs), by rw [r.length, len ts ps env e, hl], G, env, ps, env', gG, s, r, e, fun σ' s' n' k' => q σ' s' n' fun j hj => k' j (by rw [tgN] at hj; exact hj)⟩
    | @ktp a vs ps hs r =>
      rw [setT] at e
      exact ⟨a, vs, rfl, .inr hs, by rw [r.length, len ts ps env e, hl], G, env, ps, env', gG, s, r, e, fun σ' s' n' k' => q σ' s' n' fun j hj => k' j (by rw [tgN] at hj; exact hj)⟩
    | _ => rw [setT] at e; cases e; all_goals simp
end

def wipeE (env : LEnv) : List Nat → LEnv
  | [] => env
  | v :: vs => (wipeE env vs).set v none
theorem wipeE_len (env : LEnv) : ∀ vs, (wipeE env vs).length = env.length
  | [] => rfl
  | v :: vs => by rw [wipeE, List.length_set, wipeE_len env vs]
theorem wipe_sees {K : PySem.W.Frag} {mg : Str → Option Value} {H : Hp} {env : LEnv} {σ : L2.St} (s : Sees K mg H env σ) : ∀ vs, Sees K mg H (wipeE env vs) (wipe σ vs)
  | [] => s
  | v :: vs => ⟨fun i sl e => by
    rw [wipeE] at e
    by_cases h : v = i
    · subst h
      rw [List.getElem?_set] at e
      simp at e
    · rw [List.getElem?_set_ne h] at e
      obtain ⟨u, eu, ru⟩ := (wipe_sees s vs).1 i sl e
      exact ⟨u, by unfold wipe; rw [List.getElem?_set_ne h]; exact eu, ru⟩, by rw [wipeE_len, wipe_length]; exact s.2⟩
theorem wipe_get (σ : L2.St) : ∀ (vs : List Nat) (j : Nat), (wipe σ vs)[j]? = if j ∈ vs then (if j < σ.length then some none else none) else σ[j]?
  | [], j => by simp [wipe]
  | v :: vs, j => by
    unfold wipe
    by_cases h : v = j
    · subst h
      rw [List.getElem?_set]
      simp [wipe_length]
    · rw [List.getElem?_set_ne h, wipe_get σ vs j]
      by_cases h2 : j ∈ vs
      · simp [h2]
      · have : j ≠ v := fun z => h z.symm
        simp [h2, this]
theorem wipe_eq {σ σ' : L2.St} {vs : List Nat} (l : σ'.length = σ.length) (k : ∀ j, j ∉ vs → σ'[j]? = σ[j]?) : wipe σ' vs = wipe σ vs := by
  refine List.ext_getElem? fun j => ?_
  rw [wipe_get, wipe_get, l]
  by_cases h : j ∈ vs
  · simp [h]
  · simp [h, k j h]

def noX {α : Type} : Rs Xn α → Option α
  | .ok a => some a
  | _ => none
def compF (t : Tg) (mt : MP Bool) (me : MP PV) (env : LEnv) : List PV → Option (List PV)
  | [] => some []
  | p :: r => (setT t 0 p env).bind fun e => (noX (mt e)).bind fun b => if b = true then (noX (me e)).bind fun y => if hgt y = 0 then (compF t mt me env r).map (y :: ·) else none else compF t mt me env r
def mYes : MP Bool := fun _ => .ok true
/-- the items of what is walked -/
def itL : PV → Option (List PV) := lstOf
def itT : PV → Option (List PV) := tupOf
def szL (ps : List PV) : Option (List PV) := if sizeOk ps.length then some ps else none
def mComp (vs : List Nat) (t : Tg) (mi : MP (List PV)) (mt : MP Bool) (me : MP PV) : MP (List PV) := fun env => (mi env).bind fun ps => ofO ((compF t mt me (wipeE env vs) ps).bind szL)
def mIt (g : PV → Option (List PV)) (m : MP PV) : MP (List PV) := fun env => (m env).bind fun p => ofO (g p)
def mRng1 (m : MP (List PV)) : MP (List PV) := fun env => (m env).bind fun ps => match ps with
  | [.int j] => if rngOk j then .ok (rngs 0 j.toNat) else .stuck
  | _ => .stuck
def mRng2 (m : MP (List PV)) : MP (List PV) := fun env => (m env).bind fun ps => match ps with
  | [.int i, .int j] => if rngOk i && rngOk j then .ok (rngs i (j - i).toNat) else .stuck
  | _ => .stuck
/-- an iterator over things that stand as long as the heap grows -/
def ItOk (K : PySem.W.Frag) (mg : Str → Option Value) (J : It) (H : Hp) (ps : List PV) : Prop := ∃ vs, Reps K mg H vs ps ∧ ∃ there : Hp → Prop, there H ∧ (∀ H H', there H → Grow H H' → there H') ∧ (∀ H D xs ys, there (upd H D (.lst xs)) → H D = none → there H → there (upd H D (.lst ys))) ∧
  (∀ i H v, there H → vs[i]? = some v → J.go i H) ∧ (∀ i H, there H → vs.length ≤ i → J.stop i H) ∧ (∀ i H x H', i < vs.length → there H → J.yld i H x H' → H' = H ∧ vs[i]? = some x)
def tSI (K : PySem.W.Frag) (mg : Str → Option Value) (W : WX) (m : MP (List PV)) : TI := fun σ H R => ∃ env, Sees K mg H env σ ∧ wpP W K mg σ H (m env) fun ps H' => ∀ J, ItOk K mg J H' ps → R J H'
def SI (X : Cx) (W : WX) (tg it : Expr) (m : MP (List PV)) : Prop := PI X tg it (tSI X.K X.mg W m)
theorem _root_.L2.PI.weak {X : Cx} {tg it : Expr} {t t' : TI} (h : PI X tg it t) (w : ∀ σ H R, t' σ H R → t σ H R) : PI X tg it t' := ⟨fun pins s σ H R I q => h.run pins s σ H R I (w σ H R q)⟩
theorem _root_.L2.PTs.weak {X : Cx} {e : List Expr} {t t' : TT} (h : PTs X e t) (w : ∀ σ H R, t' σ H R → t σ H R) : PTs X e t' := ⟨fun pins s σ H R I q => h.run pins s σ H R I (w σ H R q)⟩
section
variable {X : Cx} {W : WX} {a b c e tg : Expr} {es tgs : List Expr} {pos p p2 : Pos} {m : MP PV} {mi ml : MP (List PV)} {mt : MP Bool} {me : MP PV} {t : Tg}
theorem si_list (h : SP X W a m) : SI X W tg a (mIt itL m) := (pi_list h).weak fun σ H R ⟨env, s, w⟩ => tsp_bind (k := fun env p => ofO (itL p)) s w fun p x H1 g r s1 w1 => by
  obtain ⟨ps, ez, q⟩ := wpP_ofO w1
  cases r with
  | @lst a vs _ hs hr =>
    cases ez
    refine ⟨a, rfl, ⟨vs, hs.sq⟩, q H1 (.refl _) _ ⟨vs, hr, fun H => SqL X.K H a vs, hs.sq, fun H H' h g => ?_, fun H D xs ys h hD h0 => ?_, fun i H v h e => ⟨vs, v, h, e⟩, fun i H h e => ⟨vs, h, e⟩, fun i H x H' _ h y => ⟨y.1, y.2 vs h⟩⟩⟩
    · rcases h with h | h
      · exact .inl (Rd.grow h g)
      · exact .inr h
    · rcases h0 with h0 | h0
      · exact .inl (Rd.grow h0 (Grow.upd hD))
      · exact .inr h0
  | _ => cases ez
theorem si_tup (h : SP X W a m) : SI X W tg a (mIt itT m) := (pi_tup h).weak fun σ H R ⟨env, s, w⟩ => tsp_bind (k := fun env p => ofO (itT p)) s w fun p x H1 g r s1 w1 => by
  obtain ⟨ps, ez, q⟩ := wpP_ofO w1
  cases r with
  | @tup a vs _ hs hr =>
    cases ez
    exact ⟨a, rfl, ⟨vs, SqT.of hs⟩, q H1 (.refl _) _ ⟨vs, hr, fun H => SqT X.K H a vs, SqT.of hs, fun H H' h g => sqT_grow h g, fun H D xs ys h hD h0 => sqT_grow h0 (Grow.upd hD), fun i H v h e => ⟨vs, v, h, e⟩, fun i H h e => ⟨vs, h, e⟩, fun i H x H' _ h y => ⟨y.1, y.2 vs h⟩⟩⟩
  | @ktp a vs _ hs hr =>
    cases ez
    exact ⟨a, rfl, ⟨vs, .inr hs⟩, q H1 (.refl _) _ ⟨vs, hr, fun H => SqT X.K H a vs, .inr hs, fun H H' h g => sqT_grow h g, fun H D xs ys h hD h0 => sqT_grow h0 (Grow.upd hD), fun i H v h e => ⟨vs, v, h, e⟩, fun i H h e => ⟨vs, h, e⟩, fun i H x H' _ h y => ⟨y.1, y.2 vs h⟩⟩⟩
  | _ => cases ez
theorem rng_it {K : PySem.W.Frag} {mg : Str → Option Value} {H : Hp} (lo : Int) (k : Nat) : ItOk K mg (Itr lo k) H (rngs lo k) := by
  obtain ⟨vs, o, ev⟩ := rngs_own (K := K) (mg := mg) (H := H) (T := fun _ => 0) lo k
  have ln : vs.length = k := by rw [ev, List.length_map, List.length_range]
  refine ⟨vs, o.rep, fun _ => True, trivial, fun _ _ _ _ => trivial, fun _ _ _ _ _ _ _ => trivial, fun i H v _ e => ?_, fun i H _ l => by rw [ln] at l; exact l, fun i H x H' hl _ y => ⟨y.1, ?_⟩⟩
  · have := (List.getElem?_eq_some_iff.mp e).1
    show i < k; omega
  · rw [y.2, ev, List.getElem?_map, List.getElem?_range (by omega)]; rfl
theorem si_rng1 {pf pc : Pos} (hgl : Gl X "range") (hm : X.mg "range" = none) (ha : SPs X W [a] ml) (hst : starEach [a] X.env = [(false, eval a X.env)] := by rfl) : SI X W tg (.Call (.Name "range" pf) [a] [] pc) (mRng1 ml) := (pi_range1 hgl hm ha hst).weak fun σ H R ⟨env, s, w⟩ =>
  tsps_bind (k := fun env ps => match ps with | [.int j] => if rngOk j then .ok (rngs 0 j.toNat) else .stuck | _ => .stuck) s w fun ps xs H1 g r s1 w1 => by
    split at w1
    · rename_i j
      split at w1
      · rename_i hj
        obtain ⟨h1, h2⟩ : -4611686018427387904 ≤ j ∧ j < 4611686018427387904 := rngOk_lt hj
        cases r with
        | cons r1 r2 => cases r2; cases r1; exact ⟨j, rfl, by omega, by omega, w1 H1 (.refl _) _ (rng_it _ _)⟩
      · exact w1.elim
    · exact w1.elim
theorem si_rng2 {pf pc : Pos} (hgl : Gl X "range") (hm : X.mg "range" = none) (ha : SPs X W [a, b] ml) (hst : starEach [a, b] X.env = [(false, eval a X.env), (false, eval b X.env)] := by rfl) (hst2 : starEach [b] X.env = [(false, eval b X.env)] := by rfl) : SI X W tg (.Call (.Name "range" pf) [a, b] [] pc) (mRng2 ml) := (pi_range2 hgl hm ha hst hst2).weak fun σ H R ⟨env, s, w⟩ =>
  tsps_bind (k := fun env ps => match ps with | [.int i, .int j] => if rngOk i && rngOk j then .ok (rngs i (j - i).toNat) else .stuck | _ => .stuck) s w fun ps xs H1 g r s1 w1 => by
    split at w1
    · rename_i i j
      split at w1
      · rename_i hj
        rw [Bool.and_eq_true] at hj
        obtain ⟨h1, h2⟩ : -4611686018427387904 ≤ i ∧ i < 4611686018427387904 := rngOk_lt hj.1
        obtain ⟨h3, h4⟩ : -4611686018427387904 ≤ j ∧ j < 4611686018427387904 := rngOk_lt hj.2
        cases r with
        | cons r1 r2 => cases r2 with
          | cons r2 r3 => cases r3; cases r1; cases r2; exact ⟨i, j, rfl, ⟨by omega, by omega, by omega, by omega⟩, w1 H1 (.refl _) _ (rng_it _ _)⟩
      · exact w1.elim
    · exact w1.elim
abbrev W0 : WX := fun _ _ _ _ => False
theorem noX_wp {α : Type} {K : PySem.W.Frag} {mg : Str → Option Value} {σ : L2.St} {H : Hp} {r : Rs Xn α} {y : α} {Q : α → Hp → Prop} (e : noX r = some y) (q : ∀ H', Grow H H' → Q y H') : wpP W0 K mg σ H r Q := by
  cases r with
  | ok a => cases e; exact q
  | stuck => cases e
  | exc x => cases e
def SPTs (X : Cx) (W : WX) (es : List Expr) (m : MP Bool) : Prop := PTs X es (tSPT X.K X.mg W m)
theorem spts_nil : SPTs X W [] mYes := pts_nil.weak fun σ H R ⟨env, s, w⟩ => w H (.refl H)
theorem spts_one (h : SPT X W c mt) : SPTs X W [c] mt := pts_one h
theorem Rep.still {K : PySem.W.Frag} {mg : Str → Option Value} {H H' : Hp} (k : ∀ a vs, H a = some (.tup vs) → H' a = some (.tup vs)) {v : V} {p : PV} (r : Rep K mg H v p) (hz : hgt p = 0) : Rep K mg H' v p := by
  have key : ∀ {d f}, Own K mg H (fun _ => 0) d v p f → Own K mg H (fun _ => 0) d v p f := fun h => h
  have : (∀ {v : V} {p : PV}, Rep K mg H v p → hgt p = 0 → Rep K mg H' v p) := by
    intro v p r
    exact Rep.rec (motive_1 := fun v p _ => hgt p = 0 → Rep K mg H' v p) (motive_2 := fun vs ps _ => hgts ps = 0 → Reps K mg H' vs ps) (fun _ => .non) (fun b _ => .bl b) (fun i _ => .int i) (fun x _ => .str x) (fun h r ih z => .tup (k _ _ h) (ih (by rw [hgt] at z; exact z))) (fun h r ih z => .ktp h (ih (by rw [hgt] at z; exact z))) (fun h z => by rw [hgt] at z; omega)
      (fun h r ih z => by rw [hgt] at z; omega) (fun h r ih z => by rw [hgt] at z; omega) (fun h e1 e2 r ih z => by rw [hgt] at z; omega) (fun h e1 e2 r ih z => by rw [hgt] at z; omega) (fun h m e1 e2 r ih z => by rw [hgt] at z; omega) (fun _ => .nil)
      (fun r1 r2 i1 i2 z => .cons (i1 (by rw [hgts] at z; omega)) (i2 (by rw [hgts] at z; omega))) r
  exact this r hz
/-- [e for t in it if c], read -/
theorem lc_read {K : PySem.W.Frag} {mg : Str → Option Value} {vs' : List Nat} {σ : L2.St} {H : Hp} {Q : VK} (hl : (tgN t).all (fun j => vs'.contains j) = true) : tSPF K mg W (mComp vs' t mi mt me) σ H Q → tLc (tSI K mg W mi) (tPG K mg t) (tSPT K mg W0 mt) (tSP K mg W0 me) vs' σ H Q := fun ⟨env, s, w⟩ => ⟨env, s, by
  refine wpP_mono (wpP_bind w) fun ps H1 g w1 J hJ D hD => ?_
  obtain ⟨zs, ez, q⟩ := wpP_ofO w1
  obtain ⟨vs, rv, there, th, t1, t2, go, stop, yld⟩ := hJ
  rw [Option.bind_eq_some_iff] at ez
  obtain ⟨zs', ec, ez⟩ := ez
  unfold szL at ez
  split at ez
  case isFalse => cases ez
  rename_i hz
  cases ez
  have len := rv.length
  have s1 := s.grow g
  -- the invariant: the heap without the new list, what is made, what is still to be made
  refine ⟨fun i n H => n = ps.length - i ∧ i ≤ ps.length ∧ ∃ G acc ys rest, H = upd G D (.lst acc) ∧ G D = none ∧ Grow H1 G ∧ there G ∧ Reps K mg G acc ys ∧ compF t mt me (wipeE env vs') (ps.drop i) = some rest ∧ zs = ys ++ rest,
    ⟨ps.length, rfl, Nat.zero_le _, H1, [], [], zs, rfl, hD, .refl _, th, .nil, ec, rfl⟩, ?_⟩
  rintro i n H ⟨rfl, hi, G, acc, ys, rest, rfl, hG, gg, th, ra, ecr, ez⟩
  have gD : Grow G (upd G D (.lst acc)) := Grow.upd hG
  have thD := t1 _ _ th gD
  by_cases hlt : i < ps.length
  · have hv : i < vs.length := by rw [len]; exact hlt
    refine .inr ⟨go i _ vs[i] thD (by simp [hv]), fun H' => i + 1 ≤ ps.length ∧ ∃ G acc ys rest, H' = upd G D (.lst acc) ∧ G D = none ∧ Grow H1 G ∧ there G ∧ Reps K mg G acc ys ∧ compF t mt me (wipeE env vs') (ps.drop (i + 1)) = some rest ∧ zs = ys ++ rest,
      fun H' ⟨a, b⟩ => ⟨ps.length - (i + 1), by omega, rfl, a, b⟩, fun x H' y => ?_⟩
    obtain ⟨rfl, hx⟩ := yld i _ x H' hv thD y
    have hd : ps.drop i = ps[i] :: ps.drop (i + 1) := List.drop_eq_getElem_cons hlt
    rw [hd, compF, Option.bind_eq_some_iff] at ecr
    obtain ⟨e2, es2, ecr⟩ := ecr
    rw [Option.bind_eq_some_iff] at ecr
    obtain ⟨b, eb, ecr⟩ := ecr
    obtain ⟨v, ev, rx⟩ := rv.get (i := i) (p := ps[i]) (by simp [hlt])
    rw [hx] at ev; cases ev
    have g2 : Grow H1 (upd G D (.lst acc)) := gg.trans gD
    have sw := wipe_sees (s1.grow g2) vs'
    refine ⟨_, _, _, e2, .refl _, sw, rx.grow g2, es2, fun σ2 s2 l2 k2 => ⟨?_, e2, s2, noX_wp eb fun H3 g3 => ?_⟩⟩
    · refine (wipe_eq (σ := wipe σ vs') l2 fun j hj => k2 j fun z => hj ?_).trans ?_
      · have := List.all_eq_true.mp hl j z
        simpa using this
      · refine List.ext_getElem? fun j => ?_
        rw [wipe_get, wipe_get, wipe_length]
        by_cases h : j ∈ vs'
        · simp [h]
        · simp [h]
    · have eD : H3 D = some (.lst acc) := g3 _ _ upd_same
      -- the heap without the new list
      let G3 : Hp := fun b => if b = D then none else H3 b
      have g3D : G3 D = none := if_pos rfl
      have gG : Grow G G3 := fun c o e => by
        have ne : c ≠ D := fun z => by rw [z, hG] at e; cases e
        show (if c = D then none else H3 c) = some o
        rw [if_neg ne]; exact g3 c o (by rw [upd_ne ne]; exact e)
      cases b with
      | false =>
        refine ⟨hlt, G3, acc, ys, rest, ?_, g3D, gg.trans gG, t1 _ _ th gG, ra.grow gG, by simpa using ecr, ez⟩
        funext c
        by_cases hc : c = D
        · subst hc; rw [upd_same]; exact eD
        · rw [upd_ne hc]; exact (if_neg hc).symm
      | true =>
        rw [if_pos rfl, Option.bind_eq_some_iff] at ecr
        obtain ⟨y, ey, ecr⟩ := ecr
        split at ecr
        case isFalse => cases ecr
        rename_i hy
        rw [Option.map_eq_some_iff] at ecr
        obtain ⟨rest', ecr, rfl⟩ := ecr
        refine ⟨e2, s2.grow g3, noX_wp ey fun H4 g4 v rv => ?_⟩
        have eD4 : H4 D = some (.lst acc) := g4 _ _ eD
        let G4 : Hp := fun b => if b = D then none else H4 b
        have g4D : G4 D = none := if_pos rfl
        have gG4 : Grow G G4 := fun c o e => by
          have ne : c ≠ D := fun z => by rw [z, hG] at e; cases e
          show (if c = D then none else H4 c) = some o
          rw [if_neg ne]; exact g4 c o (g3 c o (by rw [upd_ne ne]; exact e))
        have la := ra.length
        have hz' := of_decide_eq_true hz
        refine ⟨acc, eD4, ?_, hlt, G4, acc ++ [v], ys ++ [y], rest', ?_, g4D, gg.trans gG4, t1 _ _ th gG4, (ra.grow gG4).append (.cons ?_ .nil), ecr, by rw [ez, List.append_assoc]; rfl⟩
        · rw [la, sizeLine_eq]
          rw [ez, List.length_append, List.length_cons] at hz'
          omega
        · funext c
          by_cases hc : c = D
          · subst hc; rw [upd_same, upd_same]
          · rw [upd_ne hc, upd_ne hc]; exact (if_neg hc).symm
        · refine Rep.still (fun c us h => ?_) rv hy
          have ne : c ≠ D := fun z => by rw [z, eD4] at h; cases h
          exact (if_neg ne).trans h
  · have e : i = ps.length := by omega
    subst e
    rw [List.drop_length, compF] at ecr
    cases ecr
    rw [List.append_nil] at ez
    subst ez
    exact .inl ⟨stop _ _ thD (by rw [len]; exact Nat.le_refl _), q G gg acc D ra hG⟩⟩
/-- [e for t in it if c] -/
theorem sp_lc {scope : Scope} {own : List (Str × Nat)} (hc : X.calm = true) (hN : X.N.Nodup) (hi : SI X W tg a mi) (ok : BlkOk X.N X.env.scope scope own) (hl : (tgN t).all (fun j => (own.map (·.2)).contains j) = true)
    (hg : ∀ (s : Shared) (H : Hp) (C : Addr) (cl : List (Str × Addr)) (fp : List Addr), PGm (X.blk s H scope (compEnvC scope cl C X.env) fp) tg t) (ht : ∀ (s : Shared) (H : Hp) (C : Addr) (cl : List (Str × Addr)) (fp : List Addr), SPTs (X.blk s H scope (compEnvC scope cl C X.env) fp) W0 es mt)
    (he : ∀ (s : Shared) (H : Hp) (C : Addr) (cl : List (Str × Addr)) (fp : List Addr), SP (X.blk s H scope (compEnvC scope cl C X.env) fp) W0 e me) (hs : ∀ x, foldedSetIterable a X.env x = pure x := by intro _; rfl) :
    SPF X W (.ListComp e [⟨tg, a, es, 0⟩] scope pos) (mComp (own.map (·.2)) t mi mt me) :=
  PE.weak (pe_lc (g := tPG X.K X.mg t) (tt := tSPT X.K X.mg W0 mt) (te := tSP X.K X.mg W0 me) hc hN hi ok hg ht he hs) fun σ H Q => lc_read hl
end
end M

set_option Elab.async false
set_option linter.all false
set_option maxRecDepth 100000
set_option maxHeartbeats 4000000
/-! an own exception whose maker says super().__init__(text) and then lays its fields -/
namespace PySem
namespace MX
open PySem.W PySem.Calls PyProof.Rows PySem.HandSPX

/-- what a field is given: a written text, the i-th argument -/
inductive FV where
  | c (x : Str) | a (i : Nat)
/-- the statements self.f = .. -/
inductive Sets (ps : List Str) : List Stmt → List (Str × FV) → Prop
  | nil : Sets ps [] []
  | c {f x : Str} {j : Nat} {q1 q2 q3 q4 : Pos} {r : List Stmt} {l : List (Str × FV)} : Sets ps r l → Sets ps (.Assign [.Attribute (.Name "self" q1) f q2] (.Constant (.str x) j q3) q4 :: r) ((f, .c x) :: l)
  | a {f y : Str} {i : Nat} {q1 q2 q3 q4 : Pos} {r : List Stmt} {l : List (Str × FV)} : ps[i]? = some y → Sets ps r l → Sets ps (.Assign [.Attribute (.Name "self" q1) f q2] (.Name y q3) q4 :: r) ((f, .a i) :: l)
def FVal (us : List Value) : FV → Value → Prop
  | .c x, v => ∃ t, v = .str x t
  | .a i, v => us[i]? = some v
/-- what the text says to super().__init__ -/
inductive Said (ps : List Str) : Expr → Prop
  | c {x : Str} {j : Nat} {p : Pos} : Said ps (.Constant (.str x) j p)
  | a {y : Str} {i : Nat} {p : Pos} : ps[i]? = some y → Said ps (.Name y p)
/-- how super().__init__(e) is evaluated -/
def SupEq (qual : Str) (scope : Scope) (fI cda cc : Addr) (p0 p1 p2 p3 : Pos) (e : Expr) : Prop := ∃ pl : Sem Bool, ∀ L, eval (.Call (.Attribute (.Call (.Name "super" p0) [] [] p1) "__init__" p2) [e] [] p3) (ksEnv qual scope L fI (.ref cda) cc) = (do
  let ov ← attributeBase (.Call (.Name "super" p0) [] [] p1) "__init__" (ksEnv qual scope L fI (.ref cda) cc) (eval (.Call (.Name "super" p0) [] [] p1) (ksEnv qual scope L fI (.ref cda) cc))
  standAt p2.atName
  let (f, first) ← holding [ov] (getMethod ov "__init__" pl)
  callWith p3 f first (backTo p3 (starEach [e] (ksEnv qual scope L fI (.ref cda) cc))) [])
/-- what the written part says of the class at C, of its maker at fI, with these parameters and fields -/
structure ExcT (prog : Program) (K : Frag) (mg : Str → Option Value) (nm : Str) (C fI : Addr) (ps : List Str) (fs : List (Str × FV)) : Prop where
  gC : mg nm = some (.ref C)
  cls : ∃ nm q N bs bm sn sub ab col dd k0 k1 k2 k3 k5, K.lookup C = some (excClassObj nm q C N bs bm true sn sub ab col dd k0 k1 k2 k3 k5 "ValueError.__new__") ∧ refsVE bm = true
  sa : findIn K (.ref C) "__setattr__" = some (some (.builtin "object.__setattr__"))
  ga : findIn K (.ref C) "__getattribute__" = some (some (.builtin "BaseException.__getattribute__"))
  gg : findIn K (.ref C) "__getattr__" = some none
  noN : ∀ p ∈ fs, findIn K (.ref C) p.1 = some none
  iC : findIn K (.ref C) "__init__" = some (some (.ref fI))
  tC : typeIn K (.ref fI) = some (.type "function")
  kC : keepIn K (.ref C) = true
  exC : subIn K (.ref C) (.type "BaseException") = some true
  veC : subIn K (.ref C) (.type "ValueError") = some true
  suC : ks_superIn K C C "__init__" = some (some (.builtin "ValueError.__init__"))
  tp : nsIn K cStatics "thirdparty.any" = some none
  tyC : typeIn K (.ref C) = some (.type "type")
  hdC : hasDictIn K C = true
  sup : nsIn K mainGlobals "super" = some none
  top : (prog.main.scope.names.lookup ("super" : Str)).isSome = false
  few : fs.length ≤ 100
  fn : ∃ (oc doc pm ct : Value) (od an : Option Addr) (osl : Array (Option Value)) (qual : Str) (params : Arguments) (scope : Scope) (cc cda : Addr) (e : Expr) (r : List Stmt) (p0 p1 p2 p3 p4 : Pos) (a0 : Arg) (cl ccl : Value) (cld cdd : Option Addr) (csl ccs : Array (Option Value)) (vs : Array Value) (file : Str) (tf : Tok),
    K.lookup fI = some ⟨oc, od, .func (ksFn "__init__" qual params (.Expr (.Call (.Attribute (.Call (.Name "super" p0) [] [] p1) "__init__" p2) [e] [] p3) p4 :: r) scope .none .none doc pm an (.ref cda) ct cc), osl⟩ ∧
    codeIn K (.ref cda) qual = true ∧ Said ps e ∧ Sets ps r fs ∧ (params.posonlyargs ++ params.args).head? = some a0 ∧ a0.arg = "self" ∧
    K.lookup cc = some ⟨cl, cld, .cell (some (.ref C)), csl⟩ ∧ K.lookup cda = some ⟨ccl, cdd, .fields vs, ccs⟩ ∧ vs[2]? = some (.str file tf) ∧ ((prog.main.file : Str) == file) = true ∧
    (∀ s us, us.length = ps.length + 1 → BindsTo s (ksFn "__init__" qual params (.Expr (.Call (.Attribute (.Call (.Name "super" p0) [] [] p1) "__init__" p2) [e] [] p3) p4 :: r) scope .none .none doc pm an (.ref cda) ct cc) ⟨us, []⟩ ((("self" : Str) :: ps).zip us)) ∧
    scope.kind = .function ∧ scope.isCoroutine = false ∧ scope.isGenerator = false ∧ (∀ x ∈ scope.names, x.2 ≠ .cell) ∧ scope.names.lookup ("super" : Str) = some .globalImplicit ∧ scope.names.lookup ("__class__" : Str) = some .free ∧
    (∀ y ∈ (("self" : Str) :: ps), scope.names.lookup y = some .local ∧ (y == ("__debug__" : Str)) = false) ∧ (("self" : Str) :: ps).Nodup ∧ SupEq qual scope fI cda cc p0 p1 p2 p3 e

section
variable {prog : Program} {w : World} {A : Around} {E : Value → Shared → Prop} {h : Heap} {g : Array GenState} {d : Drawn} {t : Nat} {os : OsState} {K : Frag} {C x dx L : Addr} {env : Env} {m : Str → Option Value} {ps : List Str} {us : List Value}
/-- one value -/
theorem ev_val {M : Model} {Q : Value → Shared → Prop} {f : FV} {e : Expr} (hk : env.scope.kind = .function) (hL : env.locals = L) (hn : h.Ns L m) (hm : ∀ (i : Nat) y, ps[i]? = some y → ∃ v, us[i]? = some v ∧ m y = some v) (hl : ∀ y ∈ ps, env.kindOf y = some .local ∧ (y == ("__debug__" : Str)) = false)
    (he : (∃ x j q, f = .c x ∧ e = .Constant (.str x) j q) ∨ (∃ i y q, f = .a i ∧ ps[i]? = some y ∧ e = .Name y q)) (hq : ∀ v t', FVal us f v → Q v ⟨h, g, d, t', os⟩) : wpAny M A (eval e env) Q E ⟨h, g, d, t, os⟩ := by
  rcases he with ⟨x, j, q, rfl, rfl⟩ | ⟨i, y, q, rfl, hy, rfl⟩
  · exact Calls.Constant_str (hq _ _ ⟨_, rfl⟩)
  · obtain ⟨v, hv, mv⟩ := hm i y hy
    obtain ⟨h1, h2⟩ := hl y (List.mem_of_getElem? hy)
    exact wpAny_Name (wpAny_loadName_local hk h1 (by rw [hL]; exact hn) mv (hq v t hv)) h2
/-- the further fields -/
theorem sets_old {cd : ClassData} (hk : env.scope.kind = .function) (hL : env.locals = L) (hm : ∀ (i : Nat) y, ps[i]? = some y → ∃ v, us[i]? = some v ∧ m y = some v) (hl : ∀ y ∈ ps, env.kindOf y = some .local ∧ (y == ("__debug__" : Str)) = false) (hself : m "self" = some (.ref x)) (hls : env.kindOf "self" = some .local) {fv : Array Value}
    (hcd : clsIn K C = some cd) (hmr : refsVE cd.mro = true) (hh : cd.hasDict = true) (hsa : findIn K (.ref C) "__setattr__" = some (some (.builtin "object.__setattr__"))) (hKd : K.lookup dx = none) (hLd : L ≠ dx) (hxd : x ≠ dx) {Q : Flow → Shared → Prop} :
    ∀ {r : List Stmt} {fs : List (Str × FV)} {h : Heap} {t : Nat} {vals : List (Str × Value)}, Sets ps r fs → K.In h → h.Ns L m → (∀ p ∈ fs, findIn K (.ref C) p.1 = some none) → h.get? x = some { cls := .ref C, dict := some dx, data := .fields fv } → h.Ns1 dx (fun y => vals.lookup y) → vals.length + fs.length ≤ 1000 →
      (∀ h' t' vals', (∀ b o, b ≠ dx → h.get? b = some o → h'.get? b = some o) → (∃ new, vals' = new ++ vals ∧ Paired (fun (p : Str × FV) (q : Str × Value) => p.1 = q.1 ∧ FVal us p.2 q.2) fs.reverse new) → h'.Ns1 dx (fun y => vals'.lookup y) → Q .next ⟨h', g, d, t', os⟩) →
      wpAny (model prog w) A (execs r env) Q E ⟨h, g, d, t, os⟩ := by
  intro r
  induction r with
  | nil =>
    intro fs h t vals hs X hn ha hx hns hz hq
    cases hs
    exact wpAny_execs_nil (hq h t vals (fun _ _ _ e => e) ⟨[], rfl, .nil⟩ hns)
  | cons st r ih =>
    intro fs h t vals hs X hn ha hx hns hz hq
    have go : ∀ {f : Str} {fvv : FV} {l : List (Str × FV)} {q1 q2 q4 : Pos} {e : Expr}, fs = (f, fvv) :: l → st = .Assign [.Attribute (.Name "self" q1) f q2] e q4 → Sets ps r l → ((∃ x j q, fvv = .c x ∧ e = .Constant (.str x) j q) ∨ (∃ i y q, fvv = .a i ∧ ps[i]? = some y ∧ e = .Name y q)) →
        swapsWith e (some (.Attribute (.Name "self" q1) f q2)) q4.line env = pure false → wpAny (model prog w) A (execs (st :: r) env) Q E ⟨h, g, d, t, os⟩ := by
      intro f fvv l q1 q2 q4 e efs est hs2 he hsw
      subst efs; subst est
      refine wpAny_execs_cons (plainObj_wpAny_Assign_Attribute (ev_val hk hL hn hm hl he fun v t' hv => ?_) hsw)
      refine wpAny_Name (wpAny_loadName_local hk hls (by rw [hL]; exact hn) hself ?_) (by decide)
      have hw : Within (fun y => vals.lookup y) (vals.map (·.1)) := fun y hy => by
        have z : ∀ {l : List (Str × Value)}, l.lookup y ≠ none → y ∈ l.map (·.1) := by
          intro l
          induction l with
          | nil => intro h; simp at h
          | cons p l ih =>
            intro h
            by_cases e : y = p.1
            · exact e ▸ List.mem_cons_self
            · have e' : (y == p.1) = false := by simpa using e
              rw [List.lookup_cons, e'] at h
              exact List.mem_cons_of_mem _ (ih h)
        exact z hy
      obtain ⟨oD, _, _, hoD, _⟩ := hns.count hw
      refine set_plain X (ox := { cls := .ref C, dict := some dx, data := .fields fv }) (od := some oD) ⟨hx, rfl, rfl, hoD⟩ hsa ?_
      refine OEX.osa_old X hx hns hw (by rw [List.length_map]; omega) hcd hmr hh (ha (f, fvv) List.mem_cons_self) fun h' tk' kp hn' => ?_
      refine ih (vals := (f, v) :: vals) hs2 (fun a o ea => kp a o (fun z => by rw [z, hKd] at ea; cases ea) (X a o ea)) ?_ (fun p hp => ha p (List.mem_cons_of_mem _ hp)) (kp _ _ hxd hx) ?_ (by simp only [List.length_cons] at hz ⊢; omega) fun h2 t2 vals' k2 hv2 hn2 => ?_
      · obtain ⟨oL, es, ep, e1, e2⟩ := hn
        exact ⟨oL, es, ep, kp _ _ hLd e1, e2⟩
      · have ee : (fun y => if y = f then some v else vals.lookup y) = fun y => ((f, v) :: vals).lookup y := funext fun y => by
          by_cases ey : y = f
          · subst ey; simp
          · have ey' : (y == f) = false := by simpa using ey
            simp [List.lookup_cons, ey, ey']
        rw [← ee]; exact hn'
      · obtain ⟨new, rfl, pn⟩ := hv2
        refine hq h2 t2 _ (fun b o hb e => k2 b o hb (kp b o hb e)) ⟨new ++ [(f, v)], by simp, ?_⟩ hn2
        rw [List.reverse_cons]
        have ap : ∀ {a b : List (Str × FV)} {c e : List (Str × Value)} {R : Str × FV → Str × Value → Prop}, Paired R a c → Paired R b e → Paired R (a ++ b) (c ++ e) := by
          intro a b c e R p q
          induction p with
          | nil => exact q
          | cons h _ ih => exact .cons h ih
        exact ap pn (.cons ⟨rfl, hv⟩ .nil)
    cases hs with
    | c hs => exact go rfl rfl hs (.inl ⟨_, _, _, rfl, rfl⟩) rfl
    | a hy hs => exact go rfl rfl hs (.inr ⟨_, _, _, rfl, hy, rfl⟩) rfl
/-- what __init__ leaves of a fresh exception at x -/
structure Left (h h' : Heap) (x C dx t1 : Addr) (us : List Value) (fs : List (Str × FV)) : Prop where
  keep : ∀ b o, b ≠ x → h.get? b = some o → h'.get? b = some o
  obj : h'.get? x = some { cls := .ref C, dict := some dx, data := .fields #[.ref t1, .none, .none, .none, .bool false, .none] }
  dbig : h.objs.size ≤ dx
  dne : dx ≠ x
  ns : ∃ vals, h'.Ns1 dx (fun y => vals.lookup y) ∧ Paired (fun (p : Str × FV) (q : Str × Value) => p.1 = q.1 ∧ FVal us p.2 q.2) fs.reverse vals
theorem lk_mem {y : Str} {v : Value} : ∀ {l : List (Str × Value)}, (l.map (·.1)).Nodup → (y, v) ∈ l → l.lookup y = some v
  | [], _, h => by cases h
  | (k, u) :: l, hn, h => by
    rw [List.map_cons, List.nodup_cons] at hn
    rcases List.mem_cons.mp h with e | h
    · cases e; simp
    · have ne : y ≠ k := fun z => hn.1 (by rw [← z]; exact List.mem_map_of_mem (f := (·.1)) h)
      have ne' : (y == k) = false := by simpa using ne
      rw [List.lookup_cons, ne']
      exact lk_mem hn.2 h
theorem lk_zip {ks : List Str} {vs : List Value} (hn : ks.Nodup) (hl : ks.length = vs.length) {i : Nat} {y : Str} {v : Value} (h1 : ks[i]? = some y) (h2 : vs[i]? = some v) : (ks.zip vs).reverse.lookup y = some v := by
  refine lk_mem ?_ (List.mem_reverse.mpr ?_)
  · rw [List.map_reverse, List.map_fst_zip (by omega)]
    exact List.pairwise_reverse.mpr (hn.imp fun h => Ne.symm h)
  · have : (ks.zip vs)[i]? = some (y, v) := by rw [List.getElem?_zip_eq_some]; exact ⟨h1, h2⟩
    exact List.mem_of_getElem? this
theorem ne_nil_of {α : Type} {l : List α} (h : l ≠ []) : ∃ a r, l = a :: r := by
  cases l with
  | nil => exact absurd rfl h
  | cons a r => exact ⟨a, r, rfl⟩
theorem init_ok {s : Shared} {mg : Str → Option Value} {nm : Str} {fI t0 : Addr} {fs : List (Str × FV)} {R : Result → Shared → Prop} {mgG mb : Str → Option Value} (T : ExcT prog K mg nm C fI ps fs) (hne : fs ≠ []) (X : K.In s.heap) (hlim : s.heap.NoLimit) (hgl : s.heap.Ns mainGlobals mgG) (hblt : s.heap.Ns builtinsNs mb) (hbs : mb "super" = some (.type "super"))
    (hx : s.heap.get? x = some (excO C t0)) (hnx : K.lookup x = none) (hroom : A.depth < recursionLimit) (hus : us.length = ps.length)
    (hq : ∀ h' tk dx t1, Left s.heap h' x C dx t1 us fs → R (.ok (.ret .none)) { s with heap := h', toks := tk }) : codeAny (model prog w) A (.call (.ref fI) ⟨.ref x :: us, []⟩) R s := by
  obtain ⟨oc, doc, pm, ct, od, an, osl, qual, params, scope, cc, cda, e, r, p0, p1, p2, p3, p4, a0, cl, ccl, cld, cdd, csl, ccs, vs, file, tf, lk, hcd, said, sets, hp0, ha0, hcc, hco, hvs, hfile, hbind, k1, k2, k3, k4, k5, k6, k7, k8, k9⟩ := T.fn
  obtain ⟨nm', q, N, bs, bm, sn, sub, ab, col, dd, m0, m1, m2, m3, m5, hC, hbm⟩ := T.cls
  have hcl : clsIn K C = some { name := nm', bases := bs, mro := .ref C :: bm, ns := N, qualname := q, hasDict := true, slotNames := sn, subclasses := sub, abstract := ab, collection := col, hasDel := false } := by unfold clsIn; rw [hC] <;> rfl
  have hmr : refsVE (.ref C :: bm) = true := hbm
  obtain ⟨⟨f0, v0⟩, fr, rfl⟩ := ne_nil_of hne
  refine ks_codeAny_call_defAt (fd := ksFn "__init__" qual params _ scope .none .none doc pm an (.ref cda) ct cc) hroom (X _ _ lk) rfl hlim (codeRec_of X hcd) rfl (hbind s (.ref x :: us) (by simp [hus])) k4 (fun y hy => ?_) (fun h₀ hns kp => ?_) k2 k3 k1
  · exact (k7 y.1 (List.of_mem_zip hy).1).1
  have hL : (callEnv (ksFn "__init__" qual params (.Expr (.Call (.Attribute (.Call (.Name "super" p0) [] [] p1) "__init__" p2) [e] [] p3) p4 :: r) scope .none .none doc pm an (.ref cda) ct cc) s.heap.objs.size fI) = ksEnv qual scope s.heap.objs.size fI (.ref cda) cc := rfl
  rw [hL]
  have X0 : K.In h₀ := fun a o ea => kp a o (X a o ea)
  have x0 := kp _ _ hx
  have kind : ∀ y k, scope.names.lookup y = some k → (ksEnv qual scope s.heap.objs.size fI (.ref cda) cc).kindOf y = some k := fun y k hy => hy
  have bl : ∀ (i : Nat) (y : Str), ps[i]? = some y → ∃ v, us[i]? = some v ∧ ((("self" : Str) :: ps).zip (.ref x :: us)).reverse.lookup y = some v := fun i y hy => by
    have hlt := (List.getElem?_eq_some_iff.mp hy).1
    have hlu : i < us.length := by omega
    refine ⟨us[i], by simp [hlu], lk_zip k8 (by simp [hus]) (i := i + 1) (by simpa using hy) (by simp [hlu])⟩
  have bs' : ((("self" : Str) :: ps).zip (.ref x :: us)).reverse.lookup ("self" : Str) = some (.ref x) := lk_zip k8 (by simp [hus]) (i := 0) rfl rfl
  have lps : ∀ y ∈ ps, (ksEnv qual scope s.heap.objs.size fI (.ref cda) cc).kindOf y = some .local ∧ (y == ("__debug__" : Str)) = false := fun y hy => ⟨kind y _ (k7 y (List.mem_cons_of_mem _ hy)).1, (k7 y (List.mem_cons_of_mem _ hy)).2⟩
  have lself : (ksEnv qual scope s.heap.objs.size fI (.ref cda) cc).kindOf "self" = some .local := kind _ _ (k7 _ List.mem_cons_self).1
  have hCh : h₀.get? C = some (excClassObj nm' q C N bs bm true sn sub ab col dd m0 m1 m2 m3 m5 "ValueError.__new__") := X0 _ _ hC
  have xC : x ≠ C := fun z => by rw [z, hC] at hnx; cases hnx
  have G0 : h₀.Ns mainGlobals mgG := hgl.keeps kp
  have B0 : h₀.Ns builtinsNs mb := hblt.keeps kp
  have xL : x ≠ s.heap.objs.size := Nat.ne_of_lt (Heap.lt_size hx)
  obtain ⟨s0, g, d, tk, os⟩ := s
  obtain ⟨pl, hpl⟩ := k9
  -- super()
  refine ks_wpAt_execs_cons (ks_wpAt_Expr_any (ks_wpAt_MethodCall (pl := pl) (ks_wpAt_super_base (kind _ _ k5) (kind _ _ k6) (by decide) rfl (X0 _ _ lk) rfl hp0 rfl (X0 _ _ hco) rfl hvs hfile T.top ?_) ?_) ?_ ?_)
  · refine ks_loadName_global k1 (kind _ _ k5) (Calls.loadGlobal_builtin G0 (mg_none_of X0 G0 T.sup) B0 hbs ⟨rfl, ?_⟩)
    refine wpAny_loadName_free k1 (kind _ _ k6) rfl ⟨_, X0 _ _ hcc, rfl⟩ ?_
    rw [ha0]
    refine wpAny_loadName_local k1 lself hns bs' ?_
    refine ks_wpAny_isType_cls hCh rfl ⟨rfl, ?_⟩
    have hI0 : InstAt h₀ x (excO C t0) C none := ⟨x0, rfl, rfl, trivial⟩
    refine ks_wpAny_call_super hCh rfl x0 rfl (fun c z => by cases z) (looks_mroIn X0 (by unfold mroIn; rw [hcl, Option.bind_some, if_neg (by simp)]; simp)) fun h1 e1 kp1 => ?_
    -- .__init__
    have X1 : K.In h1 := fun a o ea => kp1 a o (X0 a o ea)
    have x1 := kp1 _ _ x0
    have hI1 : InstAt h1 x (excO C t0) C none := ⟨x1, rfl, rfl, trivial⟩
    have hI : Looks (model prog w) h1 (isInstance (.ref x) (.type "ValueError")) true := hI1.type.andThen (looks_subIn X1 T.veC)
    refine kxs_getMethod (i := "ValueError.__init__") kxs_ValueError e1 (looks_opaque X1 T.tp) (l₀ := .ref C :: bm) (fun A Q E s k q => wpAny_bind ((looks_clsIn X1 hcl) A _ E s k (wpAny_pure q))) rfl X1 ?_ hI xC (by decide) ?_
    · have := T.suC
      unfold ks_superIn at this
      rw [hcl] at this
      exact this
    · have hst : starEach [e] (ksEnv qual scope s0.objs.size fI (.ref cda) cc) = (false, eval e (ksEnv qual scope s0.objs.size fI (.ref cda) cc)) :: starEach [] (ksEnv qual scope s0.objs.size fI (.ref cda) cc) := by cases said <;> rfl
      have hns1 : (h1.push (kxs_mw "ValueError.__init__" x)).Ns s0.objs.size (fun y => ((("self" : Str) :: ps).zip (.ref x :: us)).reverse.lookup y) := by
        obtain ⟨oL, es, ep, q1, q2⟩ := hns
        exact ⟨oL, es, ep, Heap.get?_push_of_some _ (kp1 _ _ q1), q2⟩
      have kp2 : ∀ b o, s0.get? b = some o → (h1.push (kxs_mw "ValueError.__init__" x)).get? b = some o := fun b o z => Heap.get?_push_of_some _ (kp1 _ _ (kp _ _ z))
      have x2 : (h1.push (kxs_mw "ValueError.__init__" x)).get? x = some (excO C t0) := Heap.get?_push_of_some _ x1
      have X2 : K.In (h1.push (kxs_mw "ValueError.__init__" x)) := fun a o ea => kp2 a o (X a o ea)
      have u2 : (h1.push (kxs_mw "ValueError.__init__" x)).get? h1.objs.size = some (kxs_mw "ValueError.__init__" x) := Heap.get?_push_at rfl rfl
      generalize hh2 : h1.push (kxs_mw "ValueError.__init__" x) = h2 at hns1 kp2 x2 X2 u2 ⊢
      generalize hu : h1.objs.size = u at u2 ⊢
      show wpAny _ _ (callWith p3 (.ref u) [] (backTo p3 (starEach [e] _)) []) _ _ _
      have ev : ∀ {Q : Value → Shared → Prop} {E : Value → Shared → Prop} {t : Nat}, (∀ v t', Q v ⟨h2, g, d, t', os⟩) → wpAny (model prog w) (A.deeper (ksEnv qual scope s0.objs.size fI (.ref cda) cc)) (eval e (ksEnv qual scope s0.objs.size fI (.ref cda) cc)) Q E ⟨h2, g, d, t, os⟩ := by
        intro Q E t hq
        cases said with
        | c => exact ev_val (f := .c _) (ps := ps) (us := us) k1 rfl hns1 bl lps (.inl ⟨_, _, _, rfl, rfl⟩) fun v t' _ => hq v t'
        | a hy => exact ev_val (f := .a _) (ps := ps) (us := us) k1 rfl hns1 bl lps (.inr ⟨_, _, _, rfl, hy, rfl⟩) fun v t' _ => hq v t'
      rw [hst]
      refine kxs_callWith (i := "ValueError.__init__") (x := x) rfl (Calls.evalArgs_plain (Calls.spliced_cons (ev fun v t' => Calls.spliced_nil ⟨u2, ?_⟩)))
      -- the call of the bound built-in
      have FB := PySem.F.excBase_ValueError
      have hC2 : h2.get? C = some (excClassObj nm' q C N bs bm true sn sub ab col dd m0 m1 m2 m3 m5 "ValueError.__new__") := X2 _ _ hC
      refine wpAny_call (codeAny_of_tree ?_)
      show wpAny _ _ (callAny (.ref u) ⟨[v], []⟩) _ _ _
      unfold callAny
      refine wpAny_bind (wpAny_load u2 (KFB.if_so (by first | rfl | decide) ?_))
      refine wpAny_bind (check_bound_init FB.toExcCallFacts hC2 x2 rfl (wpAny_bind (wpAny_pure (wpAny_pure ⟨plainId_quiet FB.init.plain _, codeAny_builtin FB.initEntry ?_⟩))))
      refine exc_init_tree (cls := .ref C) (t0 := t0) (dv := none) (c2 := .none) (c3 := .none) (b4 := .bool false) x2 (by show 1 ≤ sizeLine; rw [sizeLine_eq]; omega) fun h3 kp3 x3 _ => ?_
      -- the fields
      refine wpAt_of_wpAny ?_
      have kp4 : ∀ b o, b ≠ x → s0.get? b = some o → h3.get? b = some o := fun b o hb z => kp3 b o hb (kp2 b o z)
      have X3 : K.In h3 := fun a o ea => kp4 a o (fun z => by rw [z, hnx] at ea; cases ea) (X a o ea)
      have hns3 : h3.Ns s0.objs.size (fun y => ((("self" : Str) :: ps).zip (.ref x :: us)).reverse.lookup y) := by
        obtain ⟨oL, es, ep, q1, q2⟩ := hns1
        exact ⟨oL, es, ep, kp3 _ _ (Ne.symm xL) q1, q2⟩
      have hset : wpAny (model prog w) (A.deeper (ksEnv qual scope s0.objs.size fI (.ref cda) cc)) (execs r (ksEnv qual scope s0.objs.size fI (.ref cda) cc)) (fun f s' => R (.ok (.ret (match f with | .ret v => v | _ => .none))) s')
          (fun e s' => wpAny (model prog w) (A.deeper (ksEnv qual scope s0.objs.size fI (.ref cda) cc)) (leaving (ksEnv qual scope s0.objs.size fI (.ref cda) cc) e) (fun _ s'' => R (.error e) s'') (fun e' s'' => R (.error e') s'') s') ⟨h3, g, d, t', os⟩ := by
        have first : ∀ {f : Str} {fvv : FV} {l : List (Str × FV)} {q1 q2 q4 : Pos} {e : Expr} {r' : List Stmt}, (f0, v0) :: fr = (f, fvv) :: l → r = .Assign [.Attribute (.Name "self" q1) f q2] e q4 :: r' → Sets ps r' l → ((∃ x j q, fvv = .c x ∧ e = .Constant (.str x) j q) ∨ (∃ i y q, fvv = .a i ∧ ps[i]? = some y ∧ e = .Name y q)) →
            swapsWith e (some (.Attribute (.Name "self" q1) f q2)) q4.line (ksEnv qual scope s0.objs.size fI (.ref cda) cc) = pure false → wpAny (model prog w) (A.deeper (ksEnv qual scope s0.objs.size fI (.ref cda) cc)) (execs r (ksEnv qual scope s0.objs.size fI (.ref cda) cc)) (fun f s' => R (.ok (.ret (match f with | .ret v => v | _ => .none))) s')
              (fun e s' => wpAny (model prog w) (A.deeper (ksEnv qual scope s0.objs.size fI (.ref cda) cc)) (leaving (ksEnv qual scope s0.objs.size fI (.ref cda) cc) e) (fun _ s'' => R (.error e) s'') (fun e' s'' => R (.error e') s'') s') ⟨h3, g, d, t', os⟩ := by
          intro f fvv l q1 q2 q4 e r' ef er hs he hsw
          cases ef
          subst er
          refine wpAny_execs_cons (plainObj_wpAny_Assign_Attribute (ev_val (ps := ps) (us := us) k1 rfl hns3 bl lps he fun v t4 hv => ?_) hsw)
          refine wpAny_Name (wpAny_loadName_local k1 lself hns3 bs' ?_) (by decide)
          refine set_plain X3 (ox := { cls := .ref C, data := .fields #[.ref h2.objs.size, .none, .none, .none, .bool false, .none] }) (od := none) ⟨x3, rfl, rfl, trivial⟩ T.sa ?_
          refine exc_osa X3 x3 hcl hmr rfl (T.noN (f0, v0) List.mem_cons_self) fun h5 t5 dx kp5 dbig dne x5 hn5 => ?_
          have d0 : s0.objs.size < dx := Nat.lt_of_lt_of_le hns3.lt dbig
          have dK : K.lookup dx = none := by
            cases e : K.lookup dx with
            | none => rfl
            | some o => exact absurd (Heap.lt_size (X3 _ _ e)) (Nat.not_lt.mpr dbig)
          have X5 : K.In h5 := fun a o ea => kp5 a o (fun z => by rw [z, hnx] at ea; cases ea) (X3 a o ea)
          have hns5 : h5.Ns s0.objs.size (fun y => ((("self" : Str) :: ps).zip (.ref x :: us)).reverse.lookup y) := by
            obtain ⟨oL, es, ep, q1, q2⟩ := hns3
            exact ⟨oL, es, ep, kp5 _ _ (Ne.symm xL) q1, q2⟩
          have hn5' : h5.Ns1 dx (fun y => [(f0, v)].lookup y) := by
            have ee : (fun y => if y = f0 then some v else none) = fun y => [(f0, v)].lookup y := funext fun y => by
              by_cases ey : y = f0
              · subst ey; simp
              · have ey' : (y == f0) = false := by simpa using ey
                simp [List.lookup_cons, ey, ey']
            rw [← ee]; exact hn5
          refine sets_old (ps := ps) (us := us) k1 rfl bl lps bs' lself hcl hmr rfl T.sa dK (Nat.ne_of_lt d0) (Ne.symm dne) hs X5 hns5 (fun p hp => T.noN p (List.mem_cons_of_mem _ hp)) x5 hn5' (by have := T.few; simp only [List.length_cons, List.length_nil] at this ⊢; omega) fun h6 t6 vals kp6 hv6 hn6 => ?_
          obtain ⟨new, rfl, pn⟩ := hv6
          have ap : ∀ {a b : List (Str × FV)} {c e : List (Str × Value)} {R : Str × FV → Str × Value → Prop}, Paired R a c → Paired R b e → Paired R (a ++ b) (c ++ e) := by
            intro a b c e R p q
            induction p with
            | nil => exact q
            | cons h _ ih => exact .cons h ih
          have old : ∀ b o, s0.get? b = some o → b ≠ dx := fun b o e => Nat.ne_of_lt (Nat.lt_trans (Heap.lt_size e) d0)
          exact hq h6 t6 dx h2.objs.size ⟨fun b o hb e => kp6 b o (old b o e) (kp5 b o hb (kp4 b o hb e)), kp6 _ _ (Ne.symm dne) x5, Nat.le_of_lt d0, dne, _, hn6, by rw [List.reverse_cons]; exact ap pn (.cons ⟨rfl, hv⟩ .nil)⟩
        cases sets with
        | c hs => exact first rfl rfl hs (.inl ⟨_, _, _, rfl, rfl⟩) rfl
        | a hy hs => exact first rfl rfl hs (.inr ⟨_, _, _, rfl, hy, rfl⟩) rfl
      exact hset
  · exact hpl _
  · show interactive _ = false
    simp [interactive, k1]
  · rfl
/-- such an exception made -/
structure MadeX (h h' : Heap) (e C d : Addr) (us : List Value) (fs : List (Str × FV)) : Prop where
  keep : ∀ b o, h.get? b = some o → h'.get? b = some o
  enew : h.objs.size ≤ e
  obj : ∃ oe vs, h'.get? e = some oe ∧ oe.cls = .ref C ∧ oe.dict = some d ∧ oe.data = .fields vs ∧ vs[1]? = some .none
  dbig : h.objs.size ≤ d
  dne : d ≠ e
  ns : ∃ vals, h'.Ns1 d (fun y => vals.lookup y) ∧ Paired (fun (p : Str × FV) (q : Str × Value) => p.1 = q.1 ∧ FVal us p.2 q.2) fs.reverse vals
theorem made_ok {s : Shared} {mg : Str → Option Value} {nm : Str} {fI : Addr} {fs : List (Str × FV)} {R : Result → Shared → Prop} {mgG mb : Str → Option Value} (T : ExcT prog K mg nm C fI ps fs) (hne : fs ≠ []) (X : K.In s.heap) (hlim : s.heap.NoLimit) (hgl : s.heap.Ns mainGlobals mgG) (hblt : s.heap.Ns builtinsNs mb) (hbs : mb "super" = some (.type "super"))
    (hroom : A.depth + 1 < recursionLimit) (hus : us.length = ps.length) (hz : us.length ≤ 1000) (hq : ∀ h' tk e d, MadeX s.heap h' e C d us fs → R (.ok (.ret (.ref e))) { s with heap := h', toks := tk }) : codeAny (model prog w) A (.call (.ref C) ⟨us, []⟩) R s := by
  obtain ⟨nm', q, N, bs, bm, sn, sub, ab, col, dd, m0, m1, m2, m3, m5, hC, hbm⟩ := T.cls
  obtain ⟨hp, g, dr, tk, os⟩ := s
  let h2 : Heap := (hp.push (kdv_tup us)).push (excO C hp.objs.size)
  have kp : ∀ b o, hp.get? b = some o → h2.get? b = some o := fun b o z => Heap.get?_push_of_some _ (Heap.get?_push_of_some _ z)
  have ge : h2.get? (hp.objs.size + 1) = some (excO C hp.objs.size) := by
    have := Heap.get?_push_size (h := hp.push (kdv_tup us)) (o := excO C hp.objs.size) rfl
    rw [Heap.size_push] at this
    exact this
  have nK : K.lookup (hp.objs.size + 1) = none := by
    cases z : K.lookup (hp.objs.size + 1) with
    | none => rfl
    | some o => exact absurd (Heap.lt_size (X _ _ z)) (Nat.not_lt.mpr (Nat.le_succ _))
  have line : us.length ≤ sizeLine := by rw [sizeLine_eq]; omega
  refine call_own PySem.F.excBase_ValueError (fun y => refsVE_contains y bm hbm) (X _ _ hC) (looks_findIn X T.iC) (fun self => bind_fn X self T.tC) line ?_
  refine init_ok (s := ⟨h2, g, dr, tk, os⟩) T hne (X.keeps kp) (hlim.keeps kp) (hgl.keeps kp) (hblt.keeps kp) hbs ge nK (show A.depth + 1 < recursionLimit from hroom) hus fun h' tk' dx t1 M => ?_
  have sz : h2.objs.size = hp.objs.size + 1 + 1 := by
    show ((hp.push (kdv_tup us)).push (excO C hp.objs.size)).objs.size = _
    rw [Heap.size_push, Heap.size_push]
  have big := M.dbig
  exact ⟨rfl, hq h' tk' (hp.objs.size + 1) dx ⟨fun b o z => M.keep b o (Nat.ne_of_lt (Nat.lt_succ_of_lt (Heap.lt_size z))) (kp b o z), Nat.le_succ _, ⟨_, _, M.obj, rfl, rfl, rfl, rfl⟩, by
    have b2 : h2.objs.size ≤ dx := big
    rw [sz] at b2; exact Nat.le_trans (Nat.le_trans (Nat.le_succ _) (Nat.le_succ _)) b2, M.dne, M.ns⟩⟩
end
end MX
end PySem

namespace M
open PySem PySem.Spec PyProof.Rows L2
/-! ### raise -/
def fvV (vs : List V) : PySem.MX.FV → V
  | .c x => .str x
  | .a i => vs.getD i .non
def fvs (vs : List V) (fs : List (Str × PySem.MX.FV)) : List (Str × V) := fs.reverse.map fun p => (p.1, fvV vs p.2)
def fvP (ps : List PV) : PySem.MX.FV → PV
  | .c x => .str x
  | .a i => ps.getD i .non
def fps (ps : List PV) (fs : List (Str × PySem.MX.FV)) : List (Str × PV) := fs.reverse.map fun p => (p.1, fvP ps p.2)
theorem fvs_rel {vs : List V} {us : List Value} (r : Vals vs us) : ∀ {l : List (Str × PySem.MX.FV)} {vals : List (Str × Value)}, Paired (fun (p : Str × PySem.MX.FV) (q : Str × Value) => p.1 = q.1 ∧ PySem.MX.FVal us p.2 q.2) l vals → ∀ f, RelO ((l.map fun p => (p.1, fvV vs p.2)).lookup f) (vals.lookup f)
  | _, _, .nil, f => trivial
  | (k, fv) :: l, (k', v) :: vals, .cons ⟨e, h⟩ t, f => by
    obtain rfl : k = k' := e
    rw [List.map_cons, List.lookup_cons, List.lookup_cons]
    cases hb : f == k with
    | true =>
      show RelV (fvV vs fv) v
      cases fv with
      | c x => exact h
      | a i =>
        have h' : us[i]? = some v := h
        cases e : vs[i]? with
        | none => rw [r.none_of e] at h'; cases h'
        | some z =>
          obtain ⟨u, hu, ru⟩ := r.get e
          rw [h'] at hu; cases hu
          show RelV (vs.getD i .non) v
          rw [List.getD_eq_getElem?_getD, e]
          exact ru
    | false => exact fvs_rel r t f
def tMkX (C : Addr) (n : Nat) (fs : List (Str × PySem.MX.FV)) (ta : TA) : L2.St → Hp → XK → Prop := fun σ H Q => ta σ H fun vs H1 => vs.length = n ∧ n ≤ 1000 ∧ ∀ d, H1 d = none → Q (.ref C) (some d) (upd H1 d (.xd (fvs vs fs)))
section
variable {X : Cx} {W : WX} {C fI : Addr} {nm x : Str} {ps : List Str} {fs : List (Str × PySem.MX.FV)} {es : List Expr} {e : Expr} {p pos p2 : Pos} {k : Nat}
/-- behind the arguments -/
theorem mk_x {pins : List (Addr × Obj)} {σ : L2.St} {H1 : Hp} {s1 : Shared} {Q : XK} {vs : List V} {us : List Value} (T : PySem.MX.ExcT X.prog X.K X.mg nm C fI ps fs) (hne : fs ≠ []) (hr : Room k X.A) (I1 : L2.Inv X pins σ H1 s1) (r1 : Vals vs us) (hn : vs.length = ps.length) (hz : ps.length ≤ 1000)
    (q : ∀ d, H1 d = none → Q (.ref C) (some d) (upd H1 d (.xd (fvs vs fs)))) : wpAny (model X.prog X.w) X.A (call (.ref C) us) (MkP X pins σ Q) X.xe s1 := by
  have hu : us.length = ps.length := by rw [← r1.length]; exact hn
  obtain ⟨mb, hb1, hb2⟩ := I1.mod.blt
  have room := hr.dp
  refine wpAny_call (PySem.MX.made_ok T hne I1.kIn I1.nolimit (I1.mod.glob.keeps I1.bk) (hb1.keeps I1.bk) ((hb2 _ (by decide)).trans rfl) (by omega) hu (by omega) fun h' tk' a d M => ?_)
  obtain ⟨oe, fv, hoe, hc, hd, hdat, h1⟩ := M.obj
  obtain ⟨vals, hns, pv⟩ := M.ns
  have sz := M.enew
  obtain ⟨hp, g, dr, tk, os⟩ := s1
  -- the heap without the exception
  obtain ⟨G, g1, g2⟩ := restrict h' fun b => decide (b ≠ a)
  have off : ∀ b, b ≠ a → G.get? b = h'.get? b := fun b hb => g1 b (decide_eq_true hb)
  have gone : G.get? a = none := g2 a (by simp)
  have keep : ∀ b o, hp.get? b = some o → G.get? b = some o := fun b o z => (off b (fun w => absurd (Heap.lt_size z) (Nat.not_lt.mpr (by rw [w]; exact sz)))).trans (M.keep b o z)
  have od : ObjOk X.prog X.w (upd H1 d (.xd (fvs vs fs))) G d (.xd (fvs vs fs)) := ⟨_, hns.at fun o z => (off d M.dne).trans z, fvs_rel r1 pv⟩
  have J : L2.Inv X pins σ (upd H1 d (.xd (fvs vs fs))) ⟨G, g, dr, tk', os⟩ := I1.laid (t' := tk') keep M.dbig od
  have fr : H1 d = none := I1.hok.fresh M.dbig
  refine ⟨a, oe, fv, ⟨G, g, dr, tk', os⟩, _, .ref C, some d, rfl, J, fun b o z => ?_, gone, hoe, ⟨hc, hd⟩, hdat, h1, ?_, rfl, I1.bare, raises_own T.exC T.tyC, q d fr⟩
  · have ne : b ≠ a := fun w => by
      have z' : G.get? b = some o := z
      rw [w, gone] at z'; cases z'
    exact (off b ne).symm.trans z
  · rw [upd_ne (Ne.symm M.dne)]
    exact I1.hok.fresh sz
theorem pmk_x {t : TA} (T : PySem.MX.ExcT X.prog X.K X.mg nm C fI ps fs) (hne : fs ≠ []) (hr : Room k X.A) (ha : PA X (e :: es) t) (hg : Gl X nm) (hdb : (nm == ("__debug__" : Str)) = false := by decide)
    (he : starEach (e :: es) X.env = (false, eval e X.env) :: starEach es X.env := by rfl) (hpl : (backTo pos (starEach es X.env)).any (·.1) = false := by rfl) : PMk X (.Call (.Name nm p) (e :: es) [] pos) (tMkX C ps.length fs t) := fun pins s σ H Q I h => by
  refine wpAny_Call_Name_kw (ld_glob I hg T.gC ?_ hdb)
  refine PySem.W.callWith_K (h₀ := X.base) I.ok.mod.kin T.kC (thn (ha.run pos pins s σ H _ I h) fun us s1 ⟨vs, H1, I1, r1, hn, hz, q⟩ => ⟨I1.kIn, mk_x T hne hr I1 r1 hn hz q⟩) he hpl
theorem pmk_x0 (T : PySem.MX.ExcT X.prog X.K X.mg nm C fI [] fs) (hne : fs ≠ []) (hr : Room k X.A) (hg : Gl X nm) (hdb : (nm == ("__debug__" : Str)) = false := by decide) : PMk X (.Call (.Name nm p) [] [] pos) (tMkX C 0 fs tNil) := fun pins s σ H Q I h => by
  obtain ⟨hn, hz, q⟩ := h
  refine wpAny_Call_Name_kw (ld_glob I hg T.gC ?_ hdb)
  exact PySem.W.callWith_K0 I.kIn T.kC (mk_x (us := []) T hne hr I .nil rfl (by decide) q)
def mRaise (nm : Str) (n : Nat) (fs : List (Str × PySem.MX.FV)) (m : MP (List PV)) : MS := fun env => match m env with
  | .stuck => .stuck
  | .exc x => .exc (x, env)
  | .ok ps => if ps.length = n ∧ n ≤ 1000 then .exc (⟨nm, fps ps fs⟩, env) else .stuck
theorem fvP_rep {K : PySem.W.Frag} {mg : Str → Option Value} {H : Hp} {vs : List V} {ps : List PV} (r : Reps K mg H vs ps) (c : PySem.MX.FV) : Rep K mg H (fvV vs c) (fvP ps c) := by
  cases c with
  | c x => exact .str x
  | a i =>
    show Rep K mg H (vs.getD i .non) (ps.getD i .non)
    rw [List.getD_eq_getElem?_getD, List.getD_eq_getElem?_getD]
    cases e : ps[i]? with
    | none =>
      have l : ps.length ≤ i := List.getElem?_eq_none_iff.mp e
      rw [List.getElem?_eq_none (by rw [r.length]; exact l)]
      exact .non
    | some q => obtain ⟨v, ev, rv⟩ := r.get e; rw [ev]; exact rv
theorem fps_rep {K : PySem.W.Frag} {mg : Str → Option Value} {H : Hp} {vs : List V} {ps : List PV} (r : Reps K mg H vs ps) (fs : List (Str × PySem.MX.FV)) : (fvs vs fs).map (·.1) = (fps ps fs).map (·.1) ∧ Reps K mg H ((fvs vs fs).map (·.2)) ((fps ps fs).map (·.2)) := by
  unfold fvs fps
  generalize fs.reverse = l
  rw [List.map_map, List.map_map, List.map_map, List.map_map]
  refine ⟨rfl, ?_⟩
  induction l with
  | nil => exact .nil
  | cons c l ih => exact .cons (fvP_rep r c.2) ih
theorem raise_wp {K : PySem.W.Frag} {mg : Str → Option Value} {σ σ0 : L2.St} {τ T F : Cnt} {H H1 : Hp} {env : LEnv} {ps : List PV} {vs : List V} (n : Now K mg H env σ σ0 τ T F) (g : Grow H H1) (r : Reps K mg H1 vs ps) (hC : mg nm = some (.ref C)) (w : ∀ σ', wpX W K mg σ' σ0 τ H F ⟨nm, fps ps fs⟩ env) (d : Addr) (hd : H1 d = none) : W (.ref C) (some d) σ (upd H1 d (.xd (fvs vs fs))) := by
  have g1 := Grow.upd (o := .xd (fvs vs fs)) hd
  obtain ⟨e1, e2⟩ := fps_rep (r.grow g1) fs
  exact w σ C d _ T F (n.grow (g.trans g1)) (.grow (g.trans g1) fun _ _ _ => Nat.le_refl _) ⟨hC, _, _, upd_same, e1, rfl, e2⟩
theorem ss_raise {m : MP (List PV)} (hc : X.calm = true) (tk : Takes X W) (T : PySem.MX.ExcT X.prog X.K X.mg nm C fI ps fs) (hne : fs ≠ []) (hr : Room k X.A) (ha : SPs X W (e :: es) m) (hg : Gl X nm := by rfl) (hdb : (nm == ("__debug__" : Str)) = false := by decide)
    (he : starEach (e :: es) X.env = (false, eval e X.env) :: starEach es X.env := by rfl) (hpl : (backTo pos (starEach es X.env)).any (·.1) = false := by rfl) : SS X W (.Raise (some (.Call (.Name nm p) (e :: es) [] pos)) none p2) (mRaise nm ps.length fs m) :=
  (ps_raise hc tk (pmk_x T hne hr ha hg hdb he hpl)).weak fun D σ H ⟨env, σ0, τ, T', F, n, w⟩ => ⟨env, n.sees, by
    unfold mRaise at w
    cases hm : m env with
    | stuck => rw [hm] at w; exact w
    | exc x => rw [hm] at w; exact fun C dd H' g c => w σ C dd H' T' F (n.grow g) (.grow g fun _ _ _ => Nat.le_refl _) c
    | ok qs =>
      rw [hm] at w
      dsimp only at w
      split at w
      · rename_i hl
        exact fun H1 g vs r => ⟨by rw [r.length]; exact hl.1, hl.2, raise_wp n g r T.gC w⟩
      · exact w.elim⟩
theorem ss_raise0 (hc : X.calm = true) (tk : Takes X W) (T : PySem.MX.ExcT X.prog X.K X.mg nm C fI [] fs) (hne : fs ≠ []) (hr : Room k X.A) (hg : Gl X nm := by rfl) (hdb : (nm == ("__debug__" : Str)) = false := by decide) : SS X W (.Raise (some (.Call (.Name nm p) [] [] pos)) none p2) (mRaise nm 0 fs mNil) :=
  (ps_raise hc tk (pmk_x0 T hne hr hg hdb)).weak fun D σ H ⟨env, σ0, τ, T', F, n, w⟩ => ⟨rfl, by omega, raise_wp n (.refl H) .nil T.gC (by
    unfold mRaise mNil at w
    dsimp only at w
    rw [if_pos (by decide)] at w
    exact w)⟩
end
end M

set_option Elab.async false
set_option linter.all false
set_option maxRecDepth 100000
set_option maxHeartbeats 4000000
namespace M
open PySem PySem.Spec PyProof.Rows L2

/-! ### try: body, clauses with and without a name -/
abbrev Su := Addr → Value → Option Addr → TS
/-- behind a named clause its slot is empty -/
def offN (i : Nat) (D : Ends) : Ends := { nx := fun σ H => D.nx (σ.set i none) H, rt := D.rt, bk := fun σ H => D.bk (σ.set i none) H, ct := fun σ H => D.ct (σ.set i none) H }
/-- one clause: the class that it names, what its suite does -/
inductive Clause (X : Cx) : ExceptHandler → Value → Su → Prop
  | bare {x : Str} {c : Value} {t : Su} {b₀ : Stmt} {su : List Stmt} {p q : Pos} : Names X x c → (∀ (a : Addr) (oe : Obj) (cls : Value) (d : Option Addr) (pn : List (Addr × Obj)), Zc cls d oe → (∃ v, oe.data = .fields v) → PSs (X.suite a ((a, oe) :: pn)) (b₀ :: su) (t a cls d)) →
      Clause X (.ExceptHandler (some (.Name x p)) none (b₀ :: su) q) c t
  | named {x n : Str} {i : Nat} {c : Value} {t : Su} {b₀ : Stmt} {su : List Stmt} {p q : Pos} : Names X x c → X.N.Nodup → X.N[i]? = some n → X.env.kindOf n = some .local → (∀ (a : Addr) (oe : Obj) (cls : Value) (d : Option Addr) (pn : List (Addr × Obj)), Zc cls d oe → (∃ v, oe.data = .fields v) → PSs (X.suite a ((a, oe) :: pn)) (b₀ :: su) (t a cls d)) →
      Clause X (.ExceptHandler (some (.Name x p)) (some n) (b₀ :: su) q) c (fun a cls d D σ H => t a cls d (offN i D) (σ.set i (some (.ref a))) H)
inductive Clauses (X : Cx) : List ExceptHandler → List (Value × Su) → Prop
  | nil : Clauses X [] []
  | cons {hd : ExceptHandler} {c : Value} {t : Su} {hds : List ExceptHandler} {l : List (Value × Su)} : Clause X hd c t → Clauses X hds l → Clauses X (hd :: hds) ((c, t) :: l)
/-- what they wish of an exception of the body -/
def wCl (K : PySem.W.Frag) (Wout : WX) (D : Ends) : List (Value × Su) → WX
  | [] => Wout
  | (c, t) :: r => fun cls d σ H => ∃ b, PySem.W.exmOne K cls c = some b ∧ (b = true → ∀ a, H a = none → t a cls d D σ H) ∧ (b = false → wCl K Wout D r cls d σ H)

section
variable {X : Cx} {Wout : WX}
/-- the exception has come to the clauses -/
structure Caught (X : Cx) (pins : List (Addr × Obj)) (σ : L2.St) (H : Hp) (cls : Value) (d : Option Addr) (a : Addr) (B : Heap) (sI s : Shared) : Prop where
  inv : L2.Inv X pins σ H sI
  nb : ∀ b o, sI.heap.get? b = some o → b ∉ frs X.stack → B.get? b = some o
  up : sI.heap.UpToSlots s.heap
  fl : HandSPX.FlyingZ B (X.env :: X.outer) a (Zc cls d) s.heap
  na : H a = none
  os : s.os = sI.os
  ag : AllBare s.gens
theorem frames_off {B h : Heap} {l : List PySem.Env} {a : Addr} {o : Obj} {v : Array Value} (ff : h.FunFrames B l) (e : h.get? a = some o) (hd : o.data = .fields v) : a ∉ frs l := fun hm => by
  obtain ⟨_, o2, e2, q⟩ := ff.mem hm
  rw [e] at e2
  cases e2
  exact q _ hd
theorem clauses_run (hs : X.stack = X.env :: X.outer) (hf : X.env.frame = some X.env.locals) (tk : Takes X Wout) (ok : X.Ok) {D : Ends} {pins : List (Addr × Obj)} {σ : L2.St} {H : Hp} {cls : Value} {d : Option Addr} {a : Addr} {B : Heap} {sI s : Shared}
    : ∀ {hds : List ExceptHandler} {l : List (Value × Su)}, Clauses X hds l → Caught X pins σ H cls d a B sI s → wCl X.K Wout D l cls d σ H →
    wpAny (model X.prog X.w) X.A (handleBy (.ref a) X.env hds) (L2.SP X pins D) X.xe s := by
  intro hds l hk
  induction hk with
  | nil =>
    intro C w
    refine wpAny_handleBy_nil ?_
    obtain ⟨_, _, _, oe, vs, T, oT, _, he, _, hd, h1, _⟩ := id C.fl
    unfold PySem.passOn
    refine wpAny_bind (wpAny_field he hd h1 ?_)
    have nn : ¬ ((Value.ref T == Value.none) = true) := by simp
    rw [if_neg nn]
    have out : wpAny (model X.prog X.w) X.A (setFlight (.ref a) X.env.frame) (fun _ s' => wpAny (model X.prog X.w) X.A (throw (.ref a) : Sem Flow) (L2.SP X pins D) X.xe s') X.xe s := by
      rw [hf]
      refine HandSPX.setFlight_upZ C.fl fun h' hh up => wpAny_throw (tk _ _ ⟨a, B, sI, pins, σ, H, cls, d, rfl, C.inv, C.nb, C.up.trans up, ?_, C.na, C.os, C.ag, w⟩)
      rw [hs]
      exact .inr (.inr hh)
    first
      | exact wpAny_bind (wpAny_pure (wpAny_bind out))
      | exact wpAny_bind out
  | @cons hd c t hds l hc _ ih =>
    intro C w
    obtain ⟨b, hb, yes, no⟩ := w
    have J : L2.Inv X pins σ H s := C.inv.landed C.nb C.fl.1 C.up C.os C.ag
    obtain ⟨oe, vs, he, hz, hdat⟩ := C.fl.there
    have off := frames_off C.fl.2.2.1 he hdat
    have nL : a ≠ X.env.locals := fun z => off (List.mem_filterMap.mpr ⟨X.env, List.mem_cons_self, by rw [hf, z]⟩)
    have nF : a ∉ X.fs := fun hm => by
      obtain ⟨e, q1, q2⟩ := List.mem_filterMap.mp hm
      exact off (List.mem_filterMap.mpr ⟨e, List.mem_cons_of_mem _ q1, q2⟩)
    have S := J.suite he hdat C.na nL nF
    have LT : PySem.W.Looks (model X.prog X.w) s.heap (typeOf (.ref a)) cls := fun A Q E s' k q => wpAny_typeOf_ref (k _ _ he) (by rw [hz.1]; exact q)
    have LM := PySem.W.exm_one (M := model X.prog X.w) J.kIn LT hb
    have test : ∀ {x : Str} {np : Pos} {Q E : Value → Shared → Prop}, Names X x c → Q c s → wpAny (model X.prog X.w) (X.A.mark (some (.ref a))) (eval (.Name x np) X.env) Q E s := fun {x np Q E} hn q => by
      obtain ⟨hg, hdb, hm | ⟨hm, hv, hnn⟩⟩ := hn
      · exact ld_glob (X := X.suite a ((a, oe) :: (X.pn ++ pins))) S hg hm q hdb
      · exact ld_blt (X := X.suite a ((a, oe) :: (X.pn ++ pins))) S hg hm hv q hnn hdb
    -- the suite's context, once it is entered
    have enter : ∀ {h4 : Heap}, HandSPX.FlyingZ B (X.env :: X.outer) a (Zc cls d) h4 → s.heap.UpToSlots h4 → ∃ oe4, Zc cls d oe4 ∧ (∃ v, oe4.data = .fields v) ∧ L2.Inv (X.suite a ((a, oe4) :: (X.pn ++ pins))) [] σ H { s with heap := h4 } := fun {h4} fl4 up4 => by
      obtain ⟨oe4, vs4, he4, hz4, hd4⟩ := fl4.there
      have J4 : L2.Inv X pins σ H { s with heap := h4 } := C.inv.landed C.nb fl4.1 (C.up.trans up4) C.os C.ag
      exact ⟨oe4, hz4, ⟨_, hd4⟩, J4.suite he4 hd4 C.na nL nF⟩
    cases hc with
    | bare hn hsu =>
      refine wpAny_handleBy_cons (codeAny_handlers_test ?_) (by intro q; cases q)
      refine test hn (LM.here ?_)
      cases b with
      | false => exact ih C (no rfl)
      | true =>
        refine codeAny_handlers_suite (HandSPX.lands_againZ C.fl fun h4 fl4 up4 => ?_)
        obtain ⟨oe4, hz4, hd4, S4⟩ := enter fl4 up4
        refine wpAny_mono ((hsu a oe4 cls d (X.pn ++ pins) hz4 hd4).run [] _ _ H _ S4 (yes rfl a C.na)) (fun f s6 q => ?_) (fun _ _ z => z.elim)
        cases f with
        | next => obtain ⟨_, _, S6, q6⟩ := q; exact ⟨_, _, S6.unsuite ok, q6⟩
        | brk => obtain ⟨_, _, S6, q6⟩ := q; exact ⟨_, _, S6.unsuite ok, q6⟩
        | cont => obtain ⟨_, _, S6, q6⟩ := q; exact ⟨_, _, S6.unsuite ok, q6⟩
        | ret u => obtain ⟨_, _, _, S6, r6, q6⟩ := q; exact ⟨_, _, _, S6.unsuite ok, r6, q6⟩
    | @named x n i _ t b₀ su np qp hn hN hi hln hsu =>
      refine wpAny_handleBy_cons (codeAny_handlers_test ?_) (by intro q; cases q)
      refine test hn (LM.here ?_)
      cases b with
      | false => exact ih C (no rfl)
      | true =>
        refine codeAny_handlers_suite_as (HandSPX.lands_againZ C.fl fun h4 fl4 up4 => ?_)
        obtain ⟨oe4, hz4, hd4, S4⟩ := enter fl4 up4
        refine store_ok (X := X.suite a ((a, oe4) :: (X.pn ++ pins))) (v := .ref a) S4 hN hi (.inl hln) rfl (fun s5 S5 => ?_) (.inr hln)
        refine wpAny_mono ((hsu a oe4 cls d (X.pn ++ pins) hz4 hd4).run [] s5 _ H _ S5 (yes rfl a C.na)) (fun f s6 q => ?_) (fun _ _ z => z.elim)
        have clear : ∀ {σ6 : L2.St} {H6 : Hp} {Q : Shared → Prop}, L2.Inv (X.suite a ((a, oe4) :: (X.pn ++ pins))) [] σ6 H6 s6 → (∀ s7, L2.Inv X pins (σ6.set i none) H6 s7 → Q s7) →
            wpAny (model X.prog X.w) X.A (do bindName X.env n .none; unbindBehindTheSuite X.env n qp) (fun _ s7 => Q s7) X.xe s6 := fun {_ _ _} S6 k => gone_ok (S6.unsuite ok) hN hi hln k
        cases f with
        | next => obtain ⟨_, _, S6, q6⟩ := q; exact clear S6 fun s7 J7 => ⟨_, _, J7, q6⟩
        | brk => obtain ⟨_, _, S6, q6⟩ := q; exact clear S6 fun s7 J7 => ⟨_, _, J7, q6⟩
        | cont => obtain ⟨_, _, S6, q6⟩ := q; exact clear S6 fun s7 J7 => ⟨_, _, J7, q6⟩
        | ret u => obtain ⟨_, _, _, S6, r6, q6⟩ := q; exact clear S6 fun s7 J7 => ⟨_, _, _, J7, r6, q6⟩
theorem ps_try_cl {body : List Stmt} {h₀ : ExceptHandler} {hds : List ExceptHandler} {l : List (Value × Su)} {pos : Pos} {tb : WX → TS} (hs : X.stack = X.env :: X.outer) (hf : X.env.frame = some X.env.locals) (tk : Takes X Wout)
    (hb : ∀ (W : WX) (pn : List (Addr × Obj)) (xe : Value → Shared → Prop), Takes (X.tr pn xe) W → PassesOwn (model X.prog X.w) X.A X.env xe → PSs (X.tr pn xe) body (tb W)) (hh : Clauses X (h₀ :: hds) l) :
    PS X (.Try body (h₀ :: hds) [] [] pos) (fun D σ H => tb (wCl X.K Wout D l) D σ H) := ⟨fun pins s σ H D I h => by
  have ok := I.ok
  have hfr : X.A.frames = some (X.env :: X.outer) := by rw [ok.frames, hs]
  refine wpAny_Try_except (wpAny_mono ((hb (wCl X.K Wout D l) (X.pn ++ pins) _ (fun u s' xx => ?_) PassesOwn.looking).run [] s σ H D (I.toTry _) h) (fun f s1 q => ?_) fun e s1 z => z)
  · obtain ⟨a, B, sI, pins', σ', H', cls, d, rfl, J, nb, up, sky, na, os, ag, w⟩ := xx
    have sky' : Sky B (X.env :: X.outer) a (Zc cls d) X.env.locals s'.heap := by rw [← hs]; exact sky
    refine Sky.land Zc.steady hfr hf sky' fun h3 fl3 up3 => ?_
    exact clauses_run (s := { s' with heap := h3 }) hs hf tk ok hh ⟨J.ofTry ok, nb, up.trans up3, fl3, na, os, ag⟩ w
  · cases f with
    | next => obtain ⟨_, _, J, q⟩ := q; exact wpAny_execs_nil ⟨_, _, J.ofTry ok, q⟩
    | brk => obtain ⟨_, _, J, q⟩ := q; exact ⟨_, _, J.ofTry ok, q⟩
    | cont => obtain ⟨_, _, J, q⟩ := q; exact ⟨_, _, J.ofTry ok, q⟩
    | ret u => obtain ⟨_, _, _, J, r, q⟩ := q; exact ⟨_, _, _, J.ofTry ok, r, q⟩⟩

/-! ### the clauses as plain functions -/
/-- what is known of a class, so that a field of its exceptions can be read -/
structure FldOk (K : PySem.W.Frag) (C : Addr) (f : Str) : Prop where
  ga : PySem.W.findIn K (.ref C) "__getattribute__" = some (some (.builtin "BaseException.__getattribute__"))
  gg : PySem.W.findIn K (.ref C) "__getattr__" = some none
  noN : PySem.W.findIn K (.ref C) f = some none
  exC : PySem.W.subIn K (.ref C) (.type "BaseException") = some true
  hdC : PySem.W.hasDictIn K C = true
/-- the exception's field -/
def tExf (K : PySem.W.Frag) (i : Nat) (a : Addr) (cls : Value) (d : Option Addr) (f : Str) : TE := fun σ H Q => σ[i]? = some (some (.ref a)) ∧ ∃ (C dd : Addr) (fv : List (Str × V)) (v : V), cls = .ref C ∧ d = some dd ∧ H dd = some (.xd fv) ∧ fv.lookup f = some v ∧ FldOk K C f ∧ Q v H
theorem pe_exf {i : Nat} {a : Addr} {oe : Obj} {cls : Value} {d : Option Addr} {pn : List (Addr × Obj)} {n f : Str} {p pos : Pos} (hz : Zc cls d oe) (hdat : ∃ v, oe.data = .fields v) (hv : PE (X.suite a ((a, oe) :: pn)) (.Name n p) (tVar i))
    (hb : attributeBase (.Name n p) f X.env (eval (.Name n p) X.env) = eval (.Name n p) X.env := by rfl) : PE (X.suite a ((a, oe) :: pn)) (.Attribute (.Name n p) f pos) (tExf X.K i a cls d f) := ⟨fun pins s σ H Q I h => by
  obtain ⟨hi, C, dd, fv, v, rfl, rfl, hd, hl, T, q⟩ := h
  refine attr_of hb (thn (hv.run pins s σ H (fun x H1 => x = .ref a ∧ H1 = H) I ⟨_, hi, rfl, rfl⟩) fun u s1 hh => ?_)
  obtain ⟨x, H1, I1, rx, rfl, rfl⟩ := hh
  obtain rfl : u = Value.ref a := rx
  obtain ⟨ha, _⟩ := I1.pin (a, oe) (List.mem_append_left _ List.mem_cons_self)
  obtain ⟨vs, hdt⟩ := hdat
  obtain ⟨mA, hns, hr⟩ : ObjOk X.prog X.w H1 s1.heap dd (.xd fv) := I1.hok dd _ hd
  obtain ⟨od, ho, hlk⟩ := lookIn_ns hns
  obtain ⟨u, hu, ru⟩ := RelO.some_of (v := v) (o := mA f) (by rw [← hl]; exact hr f)
  have J : PySem.W.InstAt s1.heap a oe C (some od) := ⟨ha, hz.1, by unfold PySem.W.notCls; rw [hdt] <;> rfl, by rw [hz.2]; exact ho⟩
  exact HandSPX.exc_get I1.kIn J T.ga T.gg T.exC (PySem.W.findObj_own T.hdC T.noN rfl (by rw [hlk, hu])) (handed_of ru) ⟨v, H1, I1.tok _, ru, q⟩⟩

def tXE (K : PySem.W.Frag) (mg : Str → Option Value) (i : Nat) (a : Addr) (cls : Value) (d : Option Addr) (m : Xn → MP PV) : TE := fun σ H Q => ∃ env xn C dd, Sees K mg H env σ ∧ σ[i]? = some (some (.ref a)) ∧ cls = .ref C ∧ d = some dd ∧ XcAt K mg H xn C dd ∧
  wpP W0 K mg σ H (m xn env) fun p H' => ∀ x, Rep K mg H' x p → Q x H'
def tXEs (K : PySem.W.Frag) (mg : Str → Option Value) (i : Nat) (a : Addr) (cls : Value) (d : Option Addr) (m : Xn → MP (List PV)) : TA := fun σ H Q => ∃ env xn C dd, Sees K mg H env σ ∧ σ[i]? = some (some (.ref a)) ∧ cls = .ref C ∧ d = some dd ∧ XcAt K mg H xn C dd ∧
  wpP W0 K mg σ H (m xn env) fun p H' => ∀ x, Reps K mg H' x p → Q x H'
/-- an expression of a named clause's suite -/
def SX (X : Cx) (i : Nat) (e : Expr) (m : Xn → MP PV) : Prop := ∀ (a : Addr) (oe : Obj) (cls : Value) (d : Option Addr) (pn : List (Addr × Obj)), Zc cls d oe → (∃ v, oe.data = .fields v) → PE (X.suite a ((a, oe) :: pn)) e (tXE X.K X.mg i a cls d m)
def SXs (X : Cx) (i : Nat) (e : List Expr) (m : Xn → MP (List PV)) : Prop := ∀ (a : Addr) (oe : Obj) (cls : Value) (d : Option Addr) (pn : List (Addr × Obj)), Zc cls d oe → (∃ v, oe.data = .fields v) → PA (X.suite a ((a, oe) :: pn)) e (tXEs X.K X.mg i a cls d m)
def mExf (nms : List Str) (f : Str) : Xn → MP PV := fun x _ => if x.nm ∈ nms then ofO (x.fl.lookup f) else .stuck
def FldAll (K : PySem.W.Frag) (mg : Str → Option Value) (nms : List Str) (f : Str) : Prop := ∀ nm ∈ nms, ∀ C, mg nm = some (.ref C) → FldOk K C f
section
variable {e : Expr} {es : List Expr} {i : Nat} {m : MP PV} {mx : Xn → MP PV} {ms : Xn → MP (List PV)} {pos : Pos}
theorem sx_of (h : ∀ (a : Addr) (oe : Obj) (pn : List (Addr × Obj)), SP (X.suite a ((a, oe) :: pn)) W0 e m) : SX X i e (fun _ => m) := fun a oe cls d pn hz hd => (h a oe pn).weak fun σ H Q ⟨env, xn, C, dd, s, _, _, _, _, w⟩ => ⟨env, s, w⟩
theorem lookup_reps {K : PySem.W.Frag} {mg : Str → Option Value} {H : Hp} {f : Str} {p : PV} : ∀ {fv : List (Str × V)} {fl : List (Str × PV)}, fv.map (·.1) = fl.map (·.1) → Reps K mg H (fv.map (·.2)) (fl.map (·.2)) → fl.lookup f = some p → ∃ v, fv.lookup f = some v ∧ Rep K mg H v p
  | [], [], _, _, e => by simp at e
  | (k, v) :: fv, (k', q) :: fl, e1, r, e => by
    rw [List.map_cons, List.map_cons] at e1
    obtain ⟨ek, e2⟩ := List.cons.inj e1
    obtain rfl : k = k' := ek
    rw [List.map_cons, List.map_cons] at r
    cases r with
    | cons r1 r2 =>
      rw [List.lookup_cons] at e ⊢
      cases hb : f == k with
      | true => rw [hb] at e; cases e; exact ⟨v, rfl, r1⟩
      | false => rw [hb] at e; exact lookup_reps e2 r2 e
  | [], _ :: _, e1, _, _ => by simp at e1
  | _ :: _, [], e1, _, _ => by simp at e1
theorem sx_fld {n f : Str} {p : Pos} (hv : ∀ (a : Addr) (oe : Obj) (pn : List (Addr × Obj)), PE (X.suite a ((a, oe) :: pn)) (.Name n p) (tVar i)) {nms : List Str} (hT : FldAll X.K X.mg nms f)
    (hb : attributeBase (.Name n p) f X.env (eval (.Name n p) X.env) = eval (.Name n p) X.env := by rfl) : SX X i (.Attribute (.Name n p) f pos) (mExf nms f) := fun a oe cls d pn hz hd => (pe_exf hz hd (hv a oe pn) hb).weak fun σ H Q ⟨env, xn, C, dd, s, hi, ec, ed, hx, w⟩ => by
  unfold mExf at w
  split at w
  case isFalse => exact w.elim
  rename_i hin
  obtain ⟨p, ep, q⟩ := wpP_ofO w
  obtain ⟨hC, fv, vs, h1, h2, h3, h4⟩ := hx
  subst h3
  obtain ⟨v, ev, rv⟩ := lookup_reps h2 h4 ep
  exact ⟨hi, C, dd, fv, v, ec, ed, h1, ev, hT _ hin C hC, q H (.refl H) v rv⟩
theorem sxs_nil : SXs X i [] (fun _ => mNil) := fun a oe cls d pn hz hd => pa_nil.weak fun σ H Q ⟨env, xn, C, dd, s, hi, ec, ed, hx, w⟩ => w H (.refl H) [] .nil
theorem sxs_cons (ha : SX X i e mx) (hr : SXs X i es ms) (hs : starEach (e :: es) X.env = (false, eval e X.env) :: starEach es X.env := by rfl) : SXs X i (e :: es) (fun x => mCons (mx x) (ms x)) := fun a oe cls d pn hz hd =>
  (pa_cons (ha a oe cls d pn hz hd) (hr a oe cls d pn hz hd) hs).weak fun σ H Q ⟨env, xn, C, dd, s, hi, ec, ed, hx, w⟩ => ⟨env, xn, C, dd, s, hi, ec, ed, hx, wpP_mono (wpP_bind w) fun p H1 g w1 v rv =>
    ⟨env, xn, C, dd, s.grow g, hi, ec, ed, hx.grow g, wpP_mono (wpP_bind w1) fun ps H2 g2 w2 vs rvs => w2 H2 (.refl _) (v :: vs) (.cons (rv.grow g2) rvs)⟩⟩
theorem sx_tup {x1} (h : SXs X i es ms) : SX X i (.Tuple es x1 pos) (fun x => mTup (ms x)) := fun a oe cls d pn hz hd => (pe_tup (h a oe cls d pn hz hd)).weak fun σ H Q ⟨env, xn, C, dd, s, hi, ec, ed, hx, w⟩ =>
  ⟨env, xn, C, dd, s, hi, ec, ed, hx, wpP_mono (wpP_bind w) fun ps H1 g w1 vs rv => by
    split at w1
    · rename_i hz
      exact ⟨by rw [rv.length]; exact sizeOk_le hz, fun q hq => w1 _ (Grow.upd hq) _ (.tup upd_same (rv.grow (Grow.upd hq)))⟩
    · exact w1.elim⟩
end

abbrev Cl := (Str → Option Bool) × (Xn → MS)
def noXS (r : RF) : RF := match r with
  | .exc _ => .stuck
  | z => z
def handle : List Cl → Xn → MS
  | [], x => fun env => .exc (x, env)
  | (m, su) :: r, x => fun env => match m x.nm with
    | none => .stuck
    | some true => noXS (su x env)
    | some false => handle r x env
def tryR (r : RF) (cl : List Cl) : RF := match r with
  | .exc (x, e) => handle cl x e
  | z => z
def mTry (b : MS) (cl : List Cl) : MS := fun env => tryR (b env) cl
def mRetX (i : Nat) (m : Xn → MP PV) : Xn → MS := fun x env => match m x env with
  | .ok p => if hgt p = 0 then .ok (.rt 8 p env) else .stuck
  | _ => .stuck
/-- one clause: the class's value; which raised classes it names; its suite -/
structure SCl (X : Cx) (hd : ExceptHandler) (c : Value) (cl : Cl) (t : Su) : Prop where
  cls : Clause X hd c t
  mt : ∀ (nm : Str) (C : Addr) (b : Bool), X.mg nm = some (.ref C) → cl.1 nm = some b → PySem.W.exmOne X.K (.ref C) c = some b
  su : ∀ D σ H a xn C dd env σ0 τ T F, XcAt X.K X.mg H xn C dd → Now X.K X.mg H env σ σ0 τ T F → H a = none → wpS W0 X.K X.mg σ0 τ H F (noXS (cl.2 xn env)) D → t a (.ref C) (some dd) D σ H
inductive SCls (X : Cx) : List ExceptHandler → List Cl → List (Value × Su) → Prop
  | nil : SCls X [] [] []
  | cons {hd : ExceptHandler} {c : Value} {t : Su} {cl : Cl} {hds : List ExceptHandler} {cls : List Cl} {l : List (Value × Su)} : SCl X hd c cl t → SCls X hds cls l → SCls X (hd :: hds) (cl :: cls) ((c, t) :: l)
theorem SCls.clauses {hds : List ExceptHandler} {cls : List Cl} {l : List (Value × Su)} (h : SCls X hds cls l) : Clauses X hds l := by
  induction h with
  | nil => exact .nil
  | cons a _ ih => exact .cons a.cls ih
theorem noXS_wp {K : PySem.W.Frag} {mg : Str → Option Value} {W : WX} {σ0 : L2.St} {τ F : Cnt} {H : Hp} {r : RF} {D : Ends} (h : wpS W K mg σ0 τ H F (noXS r) D) : wpS W0 K mg σ0 τ H F (noXS r) D := by
  cases r with
  | stuck => exact h
  | exc x => exact h
  | ok a => cases a <;> exact h
theorem handle_wp {σ0 : L2.St} {τ F : Cnt} {H : Hp} {D : Ends} {xn : Xn} {env : LEnv} {hds : List ExceptHandler} {cls : List Cl} {l : List (Value × Su)} (h : SCls X hds cls l) : (∀ σ', wpS Wout X.K X.mg σ0 τ H F (handle cls xn env) D → wpX (wCl X.K Wout D l) X.K X.mg σ' σ0 τ H F xn env) := by
  induction h with
  | nil => exact fun σ' w => w σ'
  | @cons hd c t cl hds cls l a _ ih =>
    intro σ' w C dd H' T' F' n fr hx
    obtain ⟨m, su⟩ := cl
    simp only [handle] at w
    cases hm : m xn.nm with
    | none => rw [hm] at w; exact w.elim
    | some b =>
      rw [hm] at w
      refine ⟨b, a.mt xn.nm C b hx.1 hm, fun e a' na => ?_, fun e => ?_⟩
      · subst e
        exact a.su D σ' H' a' xn C dd env σ0 τ T' F' hx n na (noXS_wp (wpS_frm w fr))
      · subst e
        exact ih σ' w C dd H' T' F' n fr hx
theorem ss_try {body : List Stmt} {h₀ : ExceptHandler} {hds : List ExceptHandler} {cls : List Cl} {l : List (Value × Su)} {pos : Pos} {b : MS} (hs : X.stack = X.env :: X.outer) (hf : X.env.frame = some X.env.locals) (tk : Takes X Wout)
    (hb : ∀ (W : WX) (pn : List (Addr × Obj)) (xe : Value → Shared → Prop), Takes (X.tr pn xe) W → PassesOwn (model X.prog X.w) X.A X.env xe → SSs (X.tr pn xe) W body b) (hh : SCls X (h₀ :: hds) cls l) : SS X Wout (.Try body (h₀ :: hds) [] [] pos) (mTry b cls) :=
  (ps_try_cl (tb := fun W => tSS X.K X.mg W b) hs hf tk hb hh.clauses).weak fun D σ H ⟨env, σ0, τ, T, F, n, w⟩ => ⟨env, σ0, τ, T, F, n, by
    unfold mTry at w
    generalize b env = r at w ⊢
    cases r with
    | stuck => exact w
    | ok a => cases a <;> exact w
    | exc x =>
      obtain ⟨x, e⟩ := x
      exact fun σ' => handle_wp hh σ' w⟩
/-- a clause without a name -/
theorem scl_bare {x : Str} {c : Value} {b₀ : Stmt} {su : List Stmt} {p q : Pos} {m : Str → Option Bool} {ms : MS} (hn : Names X x c) (hm : ∀ (nm : Str) (C : Addr) (b : Bool), X.mg nm = some (.ref C) → m nm = some b → PySem.W.exmOne X.K (.ref C) c = some b)
    (hs : ∀ (a : Addr) (oe : Obj) (pn : List (Addr × Obj)), SSs (X.suite a ((a, oe) :: pn)) W0 (b₀ :: su) ms) : SCl X (.ExceptHandler (some (.Name x p)) none (b₀ :: su) q) c (m, fun _ => ms) (fun _ _ _ => tSS X.K X.mg W0 ms) :=
  ⟨.bare hn fun a oe cls d pn _ _ => hs a oe pn, hm, fun D σ H a xn C dd env σ0 τ T F _ n _ w => ⟨env, σ0, τ, T, F, n, by
    have w' : wpS W0 X.K X.mg σ0 τ H F (noXS (ms env)) D := w
    generalize ms env = r at w' ⊢
    cases r with
    | stuck => exact w'
    | ok a => exact w'
    | exc x => exact w'.elim⟩⟩
/-- a named clause: return e -/
theorem scl_ret {x n : Str} {i : Nat} {c : Value} {e : Expr} {p q p2 : Pos} {m : Str → Option Bool} {mx : Xn → MP PV} (hn : Names X x c) (hN : X.N.Nodup) (hi : X.N[i]? = some n) (hln : X.env.kindOf n = some .local) (hm : ∀ (nm : Str) (C : Addr) (b : Bool), X.mg nm = some (.ref C) → m nm = some b → PySem.W.exmOne X.K (.ref C) c = some b)
    (hs : SX X i e mx) : SCl X (.ExceptHandler (some (.Name x p)) (some n) [.Return (some e) p2] q) c (m, fun z env => if i < env.length then mRetX i mx z (env.set i none) else .stuck) (fun a cls d D σ H => tRet (tXE X.K X.mg i a cls d mx) (offN i D) (σ.set i (some (.ref a))) H) :=
  ⟨.named (t := fun a cls d => tRet (tXE X.K X.mg i a cls d mx)) hn hN hi hln fun a oe cls d pn hz hd => pss_one (ps_ret (hs a oe cls d pn hz hd)), hm, fun D σ H a xn C dd env σ0 τ T F hx n _ w => by
    obtain ⟨g, lg, sl⟩ := n.sl.clear i
    by_cases hl : i < env.length
    case neg =>
      have w' : wpS W0 X.K X.mg σ0 τ H F (noXS (if i < env.length then mRetX i mx xn (env.set i none) else .stuck)) D := w
      rw [if_neg hl] at w'
      exact w'.elim
    have w : wpS W0 X.K X.mg σ0 τ H F (noXS (mRetX i mx xn (env.set i none))) D := by
      have w' : wpS W0 X.K X.mg σ0 τ H F (noXS (if i < env.length then mRetX i mx xn (env.set i none) else .stuck)) D := w
      rw [if_pos hl] at w'
      exact w'
    have sl2 : Slots X.K X.mg H T (env.set i none) (σ.set i (some (.ref a))) σ0 g := sl.any (by simp [hl])
    have sees := sl2.sees
    have w' : wpS W0 X.K X.mg σ0 τ H F (noXS (mRetX i mx xn (env.set i none))) D := w
    unfold mRetX at w'
    cases hmx : mx xn (env.set i none) with
    | stuck => rw [hmx] at w'; exact w'.elim
    | exc z => rw [hmx] at w'; exact w'.elim
    | ok z =>
      rw [hmx] at w'
      dsimp only at w'
      split at w'
      · rename_i hz
        refine ⟨env.set i none, xn, C, dd, sees, ?_, rfl, rfl, hx, ?_⟩
        · rw [List.getElem?_set_self (by rw [← n.sl.len]; exact hl)]
        · rw [hmx]
          intro H' g' v rv
          have w2 : wpS W0 X.K X.mg σ0 τ H F (.ok (.rt 8 z (env.set i none))) D := w'
          exact w2 v _ H' (fun b => g b + τ b) g (fun _ => 0) ((sl2.keep (T' := fun b => g b + τ b) (fun a o e t => by have := lg a; have := n.sum a; show g a + τ a = 0; omega) fun a o e _ => e).grow g') (fun b => by show g b + τ b = g b + 0 + τ b; omega) (fun b => by have := lg b; have := n.sum b; have := n.one b; show g b + τ b ≤ 1; omega) (rv.own hz 8)
            (.grow g' fun b _ _ => by have := lg b; show g b + 0 ≤ F b; omega)
      · exact w'.elim⟩
end
end M

set_option Elab.async false
set_option linter.all false
set_option maxRecDepth 100000
set_option maxHeartbeats 4000000
namespace M
open PySem PySem.Spec PyProof.Rows L2

/-! ### == of whole numbers, of texts -/
def gEqI := gI cT fun i j => .bl (decide (i = j))
def gNeI := gI cT fun i j => .bl (!decide (i = j))
def gEqT : PV → PV → Option PV
  | .str x, .str y => some (.bl (decide (x = y)))
  | _, _ => none
def gNeT : PV → PV → Option PV
  | .str x, .str y => some (.bl (!decide (x = y)))
  | _, _ => none
def gNotV : PV → Option PV
  | .bl b => some (.bl (!b))
  | _ => none
def mAndV (ma mb : MP PV) : MP PV := fun env => (ma env).bind fun p => match p with
  | .bl b => if b = true then mb env else .ok (.bl false)
  | _ => .stuck
def mOrV (ma mb : MP PV) : MP PV := fun env => (ma env).bind fun p => match p with
  | .bl b => if b = true then .ok (.bl true) else mb env
  | _ => .stuck
section
variable {K : PySem.W.Frag} {mg : Str → Option Value}
theorem dec_vi (i j : Int) : decide (V.int i = V.int j) = decide (i = j) := decide_eq_decide.mpr ⟨V.int.inj, fun h => by rw [h]⟩
theorem dec_vs (i j : Str) : decide (V.str i = V.str j) = decide (i = j) := decide_eq_decide.mpr ⟨V.str.inj, fun h => by rw [h]⟩
theorem v_eqI : VOp K mg rEq gEqI := fun H x y p q z Q r1 r2 e h => by
  obtain ⟨i, j, rfl, rfl, _, rfl⟩ := gI_some e
  cases r1; cases r2
  exact ⟨rfl, by rw [dec_vi]; exact h _ H (.refl H) (.bl _)⟩
theorem v_neI : VOp K mg rNe gNeI := fun H x y p q z Q r1 r2 e h => by
  obtain ⟨i, j, rfl, rfl, _, rfl⟩ := gI_some e
  cases r1; cases r2
  exact ⟨rfl, by rw [dec_vi]; exact h _ H (.refl H) (.bl _)⟩
theorem v_eqT : VOp K mg rEq gEqT := fun H x y p q z Q r1 r2 e h => by
  unfold gEqT at e
  split at e
  · cases e; cases r1; cases r2
    exact ⟨rfl, by rw [dec_vs]; exact h _ H (.refl H) (.bl _)⟩
  · cases e
theorem v_neT : VOp K mg rNe gNeT := fun H x y p q z Q r1 r2 e h => by
  unfold gNeT at e
  split at e
  · cases e; cases r1; cases r2
    exact ⟨rfl, by rw [dec_vs]; exact h _ H (.refl H) (.bl _)⟩
  · cases e
end
section
variable {X : Cx} {W : WX} {a b c e tg : Expr} {es tgs rest : List Expr} {pos p p2 : Pos} {m mb : MP PV} {ms mi : MP (List PV)} {me : ME (Nat × PV)} {t : Tg} {mt : MP Bool}
theorem sp_one {op : BoolOp} (h : SP X W a m) : SP X W (.BoolOp op [a] pos) m := pe_one h
theorem sp_and (ha : SP X W a m) (hb : SP X W (.BoolOp .And (b :: rest) pos) mb) : SP X W (.BoolOp .And (a :: b :: rest) pos) (mAndV m mb) := (pe_and ha hb).weak fun σ H Q ⟨env, s, w⟩ =>
  tsp_bind (k := fun env p => match p with | .bl b => if b = true then mb env else .ok (.bl false) | _ => .stuck) s w fun p x H1 g r s1 w1 => by
    cases r with
    | bl k =>
      refine ⟨k, rfl, ?_⟩
      cases k with
      | true => exact ⟨env, s1, w1⟩
      | false => exact w1 H1 (.refl _) _ (.bl _)
    | _ => exact w1.elim
theorem sp_or (ha : SP X W a m) (hb : SP X W (.BoolOp .Or (b :: rest) pos) mb) : SP X W (.BoolOp .Or (a :: b :: rest) pos) (mOrV m mb) := (pe_or ha hb).weak fun σ H Q ⟨env, s, w⟩ =>
  tsp_bind (k := fun env p => match p with | .bl b => if b = true then .ok (.bl true) else mb env | _ => .stuck) s w fun p x H1 g r s1 w1 => by
    cases r with
    | bl k =>
      refine ⟨k, rfl, ?_⟩
      cases k with
      | true => exact w1 H1 (.refl _) _ (.bl _)
      | false => exact ⟨env, s1, w1⟩
    | _ => exact w1.elim
theorem sp_not (ha : SP X W a m) : SP X W (.UnaryOp .Not a pos) (mUn gNotV m) := (pe_not ha).weak fun σ H Q ⟨env, s, w⟩ =>
  tsp_bind (k := fun env p => ofO (gNotV p)) s w fun p x H1 g r s1 w1 => by
    obtain ⟨z, ez, q⟩ := wpP_ofO w1
    cases r with
    | bl k => cases ez; exact ⟨k, rfl, q H1 (.refl _) _ (.bl _)⟩
    | _ => cases ez
/-- y = [e for t in it if c], on one line -/
theorem ss_setLc {i : Nat} {y : Str} {py spos : Pos} {scope : Scope} {own : List (Str × Nat)} {me : MP PV} (hc : X.calm = true) (hN : X.N.Nodup) (hy : X.N[i]? = some y) (hyl : X.env.scope.names.lookup y = some .local)
    (hsw : swapsWith (.ListComp e [⟨tg, a, es, 0⟩] scope pos) (some (.Name y py)) spos.line X.env = pure true) (hi : SI X W tg a mi) (ok : BlkOk X.N X.env.scope scope own) (hl : (tgN t).all (fun j => (own.map (·.2)).contains j) = true)
    (hg : ∀ (s : Shared) (H : Hp) (C : Addr) (cl : List (Str × Addr)) (fp : List Addr), PGm (X.blk s H scope (compEnvC scope cl C X.env) fp) tg t) (ht : ∀ (s : Shared) (H : Hp) (C : Addr) (cl : List (Str × Addr)) (fp : List Addr), SPTs (X.blk s H scope (compEnvC scope cl C X.env) fp) W0 es mt)
    (he : ∀ (s : Shared) (H : Hp) (C : Addr) (cl : List (Str × Addr)) (fp : List Addr), SP (X.blk s H scope (compEnvC scope cl C X.env) fp) W0 e me) (hs : ∀ x, foldedSetIterable a X.env x = pure x := by intro _; rfl) :
    SS X W (.Assign [.Name y py] (.ListComp e [⟨tg, a, es, 0⟩] scope pos) spos) (mAsg (.nm i) (mNew (mComp (own.map (·.2)) t mi mt me))) :=
  (ps_setLc (g := tPG X.K X.mg t) (tt := tSPT X.K X.mg W0 mt) (te := tSP X.K X.mg W0 me) hc hN hy hyl hsw hi ok hg ht he hs).weak fun D σ H ⟨env, σ0, τ, T, F, n, w⟩ =>
    lc_read hl ⟨env, n.sees, wpP_mono (wpE_lift n (wpE_mono (wpE_S w) fun r e H' T' F' f sl su on fr w' => (fun x o => tg_name (asg_wp (t := .nm i) n sl su on fr o w') : ∀ x, Own X.K X.mg H' T' r.1 x r.2 f → gName i x σ H' D.nx))) fun ps H' g ⟨q, e, k⟩ xs l r na => by
      split at e
      · rename_i hz
        cases e
        refine k (upd H' l (.lst xs)) (fun b => if b = l then 1 else 0) (g.trans (Grow.upd na)) (fun a o e => if_neg ?_) (fun b => ?_) (.ref l) (.lst1 upd_same ((r.grow (Grow.upd na)).own hz 8) fun b => (Nat.zero_add _).symm)
        · rintro rfl
          rw [g _ _ e] at na; cases na
        · show (if b = l then 1 else 0) ≤ 1
          split <;> omega
      · cases e⟩
end

/-! ### what the text has written, in bundles -/
structure CalM (P : Program) (w : World) (K : PySem.W.Frag) (mg : Str → Option Value) (base : Heap) (k : Nat) (x : Str) (ps : List Str) (n : Nat) (G : Fn) : Prop where
  ex : ∃ (f : Addr) (fd : FuncData), FnOk P w K mg base (L2.CX P w) k f fd ps (spM K mg n G) ∧ mg x = some (.ref f) ∧ PySem.W.keepIn K (.ref f) = true ∧ Binds K fd ps [] ∧ ∃ o : Obj, K.lookup f = some o ∧ o.data = .func fd
structure DefM (K : PySem.W.Frag) (mg : Str → Option Value) (x : Str) (st : Stmt) (ps : List Str) : Prop where
  ex : ∃ (f : Addr) (fd : FuncData), Fun K x x st f fd ∧ mg x = some (.ref f) ∧ Binds K fd ps []
structure GlM (K : PySem.W.Frag) (mg : Str → Option Value) (x : Str) (p : PV) : Prop where
  ex : ∃ (v : V) (u : Value), mg x = some u ∧ RelV v u ∧ ∀ H, Rep K mg H v p
structure ExM (P : Program) (K : PySem.W.Frag) (mg : Str → Option Value) (nm : Str) (ps : List Str) (fs : List (Str × PySem.MX.FV)) : Prop where
  ex : ∃ C fI, PySem.MX.ExcT P K mg nm C fI ps fs
section
variable {X : Cx} {W : WX} {a b c e tg : Expr} {es tgs : List Expr} {pos p p2 : Pos} {ms : MP (List PV)}
theorem sp_cal {x : Str} {ps : List Str} {j k n : Nat} {G : Fn} (c : CalM X.prog X.w X.K X.mg X.base k x ps n G) (tk : Takes X W) (hr : Room j X.A) (hk : k ≤ j) (ha : SPs X W (e :: es) ms) (hg : Gl X x := by rfl) (hdb : (x == ("__debug__" : Str)) = false := by decide)
    (he : starEach (e :: es) X.env = (false, eval e X.env) :: starEach es X.env := by rfl) (hpl : (backTo pos (starEach es X.env)).any (·.1) = false := by rfl) : SP X W (.Call (.Name x p) (e :: es) [] pos) (mCall n G ms) := by
  obtain ⟨f, fd, F, hm, kp, hb, _⟩ := c.ex
  exact sp_call F tk (hr.mono hk) hm kp hb ha hg hdb he hpl
theorem se_cal {x : Str} {ps : List Str} {j k n : Nat} {G : Fn} (c : CalM X.prog X.w X.K X.mg X.base k x ps n G) (tk : Takes X W) (hr : Room j X.A) (hk : k ≤ j) (ha : SPs X W (e :: es) ms) (hg : Gl X x := by rfl) (hdb : (x == ("__debug__" : Str)) = false := by decide)
    (he : starEach (e :: es) X.env = (false, eval e X.env) :: starEach es X.env := by rfl) (hpl : (backTo pos (starEach es X.env)).any (·.1) = false := by rfl) : SE X W (.Call (.Name x p) (e :: es) [] pos) (mCallE n G ms) := by
  obtain ⟨f, fd, F, hm, kp, hb, _⟩ := c.ex
  exact se_call F tk (hr.mono hk) hm kp hb ha hg hdb he hpl
theorem sp_gl {x : Str} {z : PV} (h : GlM X.K X.mg x z) (hg : Gl X x := by rfl) (hd : (x == ("__debug__" : Str)) = false := by decide) : SP X W (.Name x pos) (mC z) := by
  obtain ⟨v, u, hm, r, k⟩ := h.ex
  exact sp_c (pe_glob hg hm r hd) k
theorem ss_raiseM {nm : Str} {ps : List Str} {fs : List (Str × PySem.MX.FV)} {j : Nat} {m : MP (List PV)} (h : ExM X.prog X.K X.mg nm ps fs) (hne : fs ≠ []) (hc : X.calm = true) (tk : Takes X W) (hr : Room j X.A) (ha : SPs X W (e :: es) m) (hg : Gl X nm := by rfl) (hdb : (nm == ("__debug__" : Str)) = false := by decide)
    (he : starEach (e :: es) X.env = (false, eval e X.env) :: starEach es X.env := by rfl) (hpl : (backTo pos (starEach es X.env)).any (·.1) = false := by rfl) : SS X W (.Raise (some (.Call (.Name nm p) (e :: es) [] pos)) none p2) (mRaise nm ps.length fs m) := by
  obtain ⟨C, fI, T⟩ := h.ex
  exact ss_raise hc tk T hne hr ha hg hdb he hpl
theorem ss_raiseM0 {nm : Str} {fs : List (Str × PySem.MX.FV)} {j : Nat} (h : ExM X.prog X.K X.mg nm [] fs) (hne : fs ≠ []) (hc : X.calm = true) (tk : Takes X W) (hr : Room j X.A) (hg : Gl X nm := by rfl) (hdb : (nm == ("__debug__" : Str)) = false := by decide) :
    SS X W (.Raise (some (.Call (.Name nm p) [] [] pos)) none p2) (mRaise nm 0 fs mNil) := by
  obtain ⟨C, fI, T⟩ := h.ex
  exact ss_raise0 hc tk T hne hr hg hdb
end
section
variable {P : Program} {w : World} {K : PySem.W.Frag} {mg : Str → Option Value} {base : Heap}
theorem cal_ok {x : Str} {st : Stmt} {N ps : List Str} {k : Nat} {b : MS} (D : DefM K mg x st ps) (S : FnScope N ps (defScope st)) (n : Nat) (hn : n = ps.length)
    (hb : ∀ (f : Addr) (cdv : Value) (A : Around) (outer : List PySem.Env) (s : Shared) (H : Hp) (E : XK), Room k (A.deeper (envOfC x (defScope st) s.heap.objs.size f cdv)) →
      SSs (cxOf (L2.CX P w) P w K mg base N x (defScope st) f cdv A outer s H E) (fun cls d _ H' => E cls d H') (defBody st) b) : CalM P w K mg base (k + 1) x ps n (runM N.length b) := by
  obtain ⟨f, fd, F, hm, hbd⟩ := D.ex
  refine ⟨f, fd, fn_ok F S n hn fun cdv A outer s H E hr => hb f cdv A outer s H E hr, hm, F.kp, hbd, ?_⟩
  obtain ⟨oc, od, kV, doc, pm, an, cdv, ct, osl, e, lk, _⟩ := F.ex
  exact ⟨_, lk, rfl⟩
/-- a law's own promise -/
def spLaw (K : PySem.W.Frag) (n : Nat) : Sp := fun vs H Q _ => ∃ (a : Addr) (ns : List Int), vs = [.ref a] ∧ SqL K H a (ns.map V.int) ∧ ns.length ≤ n ∧ ∀ H', Q (.bl true) H'
theorem ints_rep {H : Hp} : ∀ ns : List Int, Reps K mg H (ns.map V.int) (ns.map PV.int)
  | [] => .nil
  | n :: ns => .cons (.int n) (ints_rep ns)
theorem law_ok {f : Addr} {fd : FuncData} {ps : List Str} {k n : Nat} {G : Fn} (F : FnOk P w K mg base (L2.CX P w) k f fd ps (spM K mg 1 G)) (h : ∀ ns : List Int, ns.length ≤ n → ∃ d, G [.scr (ns.map .int)] = .ok (d, .bl true)) : FnOk P w K mg base (L2.CX P w) k f fd ps (spLaw K n) :=
  F.imp fun vs H Q E ⟨a, ns, ev, hs, hl, q⟩ => by
    subst ev
    obtain ⟨d, e⟩ := h ns hl
    have r : Rep K mg H (.ref a) (.scr (ns.map PV.int)) := .scr hs (ints_rep ns)
    refine ⟨_, fun _ => 0, rfl, Reps.own0 (.cons r .nil), fun _ => Nat.zero_le _, fun b z => absurd rfl z, ?_⟩
    rw [e]
    intro x H' T' f _ o _ _ _
    cases o
    exact q H'
theorem no_cx {outer : List PySem.Env} {H : Hp} {s : Shared} {e : Value} {s' : Shared} (h : L2.CX P w outer H s (fun _ _ _ => False) e s') : False := by
  obtain ⟨_, _, _, _, _, _, _, _, _, _, _, _, z⟩ := h
  exact z
/-- which exceptions a clause names -/
theorem exm_of {A B : Addr} {b : Bool} (h1 : PySem.W.subIn K (.ref B) (.type "BaseException") = some true) (h2 : PySem.W.isClsIn K B = true) (h3 : PySem.W.typeIn K (.ref B) = some (.type "type")) (h4 : PySem.W.subIn K (.ref A) (.ref B) = some b) : PySem.W.exmOne K (.ref A) (.ref B) = some b := by
  have e1 : (PySem.W.subIn K (.ref B) (.type "BaseException") == some true) = true := by rw [h1]; rfl
  have e2 : ((PySem.W.clsIn K B).isSome && PySem.W.typeIn K (.ref B) == some (.type "type")) = true := by
    rw [show (PySem.W.clsIn K B).isSome = true from h2, h3]; rfl
  show (if (PySem.W.subIn K (.ref B) (.type "BaseException") == some true) = true then (if ((PySem.W.clsIn K B).isSome && PySem.W.typeIn K (.ref B) == some (.type "type")) = true then PySem.W.subIn K (.ref A) (.ref B) else none) else none) = some b
  rw [if_pos e1, if_pos e2]
  exact h4
end
end M

set_option Elab.async false
set_option linter.all false
set_option maxRecDepth 100000
set_option maxHeartbeats 4000000
namespace M
open PySem PySem.Spec PyProof.Rows L2

/-! ### what a value of the written part stands for -/
def rdAll (f : Value → Option PV) : List Value → Option (List PV)
  | [] => some []
  | v :: r => match f v with
    | none => none
    | some p => match rdAll f r with
      | none => none
      | some ps => some (p :: ps)
def rdO (f : Value → Option PV) : Obj → Option PV
  | ⟨c, d, .seq its _, sl⟩ => if its.size ≤ 100000 then (if c = .type "tuple" then (match rdAll f its.toList with
      | none => none
      | some ps => some (.ktp ps)) else if c = .type "list" then (match d with
        | none => if sl.size = 0 then (match rdAll f its.toList with
          | none => none
          | some ps => some (.lst ps)) else none
        | some _ => none) else none) else none
  | _ => none
def readK (K : PySem.W.Frag) : Nat → Value → Option PV
  | 0, _ => none
  | n + 1, v => match v with
    | .none => some .non
    | .bool b => some (.bl b)
    | .int i _ => some (.int i)
    | .str x _ => some (.str x)
    | .ref a => match K.lookup a with
      | none => none
      | some o => rdO (readK K n) o
    | _ => none
section
variable {K : PySem.W.Frag} {mg : Str → Option Value}
theorem rdAll_ok {f : Value → Option PV} (hf : ∀ v p, f v = some p → ∃ x, RelV x v ∧ ∀ H, Rep K mg H x p) : ∀ {vs : List Value} {ps : List PV}, rdAll f vs = some ps → ∃ xs, Vals xs vs ∧ ∀ H, Reps K mg H xs ps
  | [], _, e => by cases e; exact ⟨[], .nil, fun _ => .nil⟩
  | v :: r, ps, e => by
    rw [rdAll] at e
    split at e
    · cases e
    · rename_i p hp
      split at e
      · cases e
      · rename_i ps' hps
        cases e
        obtain ⟨x, r1, q1⟩ := hf v p hp
        obtain ⟨xs, r2, q2⟩ := rdAll_ok hf hps
        exact ⟨x :: xs, .cons r1 r2, fun H => .cons (q1 H) (q2 H)⟩
theorem readK_ok : ∀ {n : Nat} {v : Value} {p : PV}, readK K n v = some p → ∃ x, RelV x v ∧ ∀ H, Rep K mg H x p
  | 0, _, _, e => by cases e
  | n + 1, v, p, e => by
    cases v
    case none => cases e; exact ⟨.non, rfl, fun _ => .non⟩
    case bool b => cases e; exact ⟨.bl _, rfl, fun _ => .bl _⟩
    case int i _ => cases e; exact ⟨.int _, ⟨_, rfl⟩, fun _ => .int _⟩
    case str x _ => cases e; exact ⟨.str _, ⟨_, rfl⟩, fun _ => .str _⟩
    case ref a =>
      rw [readK] at e
      split at e
      · cases e
      · rename_i o ho
        unfold rdO at e
        split at e
        · rename_i c d its k sl
          split at e
          · rename_i hz
            have hz' : its.size ≤ sizeLine := Nat.le_trans hz (by decide)
            split at e
            · rename_i hc
              split at e
              · cases e
              · rename_i ps hps
                cases e
                obtain ⟨xs, r, q⟩ := rdAll_ok (fun v p h => readK_ok (n := n) h) hps
                exact ⟨.ref a, rfl, fun H => .ktp ⟨_, its, k, ho, hc, rfl, hz', r⟩ (q H)⟩
            · split at e
              · rename_i hc
                split at e
                · split at e
                  · rename_i hs
                    split at e
                    · cases e
                    · rename_i ps hps
                      cases e
                      obtain ⟨xs, r, q⟩ := rdAll_ok (fun v p h => readK_ok (n := n) h) hps
                      obtain rfl : sl = #[] := Array.eq_empty_of_size_eq_zero hs
                      subst hc
                      exact ⟨.ref a, rfl, fun H => .lst (.inr ⟨its, k, ho, hz', r⟩) (q H)⟩
                  · cases e
                · cases e
              · cases e
          · cases e
        · cases e
    all_goals cases e
theorem glM_mk {h : Heap} {x : Str} {v : Value} {p : PV} (X : K.In h) (G : h.Ns mainGlobals mg) (a : PySem.W.nsIn K mainGlobals x = some (some v)) (r : readK K 9 v = some p) : GlM K mg x p :=
  ⟨(readK_ok r).elim fun y hy => ⟨y, v, PySem.W.mg_of X G a, hy.1, hy.2⟩⟩
theorem defM_mk {h : Heap} {x : Str} {st : Stmt} {ps : List Str} {f : Addr} {oc : Value} {od an : Option Addr} {sl : Array (Option Value)} {kV doc pm cd ct : Value} (X : K.In h) (G : h.Ns mainGlobals mg)
    (b : ∀ (kV doc pm : Value) (an : Option Addr) (cdv ct : Value) (us : List Value), us.length = ps.length → bindArgs (PySem.W.fnOf x x (defArgs st) (defBody st) (defScope st) .none kV doc pm an cdv ct) ⟨us, []⟩ = pure (ps.zip us))
    (a : PySem.W.nsIn K mainGlobals x = some (some (.ref f))) (l : K.lookup f = some ⟨oc, od, .func (PySem.W.fnOf x x (defArgs st) (defBody st) (defScope st) .none kV doc pm an cd ct), sl⟩)
    (c : PySem.W.codeIn K cd x = true) (k : PySem.W.keepIn K (.ref f) = true) : DefM K mg x st ps :=
  ⟨f, _, fun_mk l c k, PySem.W.mg_of X G a, (fun_mk l c k).binds b⟩
theorem mkExm {C D : Addr} {b : Bool} (h1 : PySem.W.subIn K (.ref D) (.type "BaseException") = some true) (h2 : PySem.W.isClsIn K D = true) (h3 : PySem.W.typeIn K (.ref D) = some (.type "type")) (h4 : PySem.W.subIn K (.ref C) (.ref D) = some b) : PySem.W.exmOne K (.ref C) (.ref D) = some b := exm_of h1 h2 h3 h4
theorem exM_mk {P : Program} {h : Heap} {nm nm' q : Str} {C fI N cc cda : Addr} {ps : List Str} {fs : List (Str × PySem.MX.FV)} {bs bm : List Value} {sn : List Str} {sub : List Value} {ab : Bool} {col : Option Bool} {dd : Option Addr} {k0 k1 k2 k3 k5 : Option Value}
    {oc doc pm ct : Value} {od an : Option Addr} {osl : Array (Option Value)} {qual : Str} {params : Arguments} {scope : Scope} {e : Expr} {r : List Stmt} {p0 p1 p2 p3 p4 : Pos} {a0 : Arg} {cl ccl : Value} {cld cdd : Option Addr} {csl ccs : Array (Option Value)} {vs : Array Value} {file : Str} {tf : Tok}
    (X : K.In h) (G : h.Ns mainGlobals mg) (aC : PySem.W.nsIn K mainGlobals nm = some (some (.ref C)))
    (xL : K.lookup C = some (excClassObj nm' q C N bs bm true sn sub ab col dd k0 k1 k2 k3 k5 "ValueError.__new__")) (hbm : PySem.HandSPX.refsVE bm = true)
    (sa : PySem.W.findIn K (.ref C) "__setattr__" = some (some (.builtin "object.__setattr__"))) (ga : PySem.W.findIn K (.ref C) "__getattribute__" = some (some (.builtin "BaseException.__getattribute__"))) (gg : PySem.W.findIn K (.ref C) "__getattr__" = some none)
    (noN : ∀ p ∈ fs, PySem.W.findIn K (.ref C) p.1 = some none) (iC : PySem.W.findIn K (.ref C) "__init__" = some (some (.ref fI))) (tC : PySem.W.typeIn K (.ref fI) = some (.type "function")) (kC : PySem.W.keepIn K (.ref C) = true)
    (exC : PySem.W.subIn K (.ref C) (.type "BaseException") = some true) (veC : PySem.W.subIn K (.ref C) (.type "ValueError") = some true) (suC : PySem.W.ks_superIn K C C "__init__" = some (some (.builtin "ValueError.__init__")))
    (tp : PySem.W.nsIn K cStatics "thirdparty.any" = some none) (tyC : PySem.W.typeIn K (.ref C) = some (.type "type")) (hdC : PySem.W.hasDictIn K C = true) (sup : PySem.W.nsIn K mainGlobals "super" = some none)
    (top : (P.main.scope.names.lookup ("super" : Str)).isSome = false) (few : fs.length ≤ 100)
    (l : K.lookup fI = some ⟨oc, od, .func (PySem.W.ksFn "__init__" qual params (.Expr (.Call (.Attribute (.Call (.Name "super" p0) [] [] p1) "__init__" p2) [e] [] p3) p4 :: r) scope .none .none doc pm an (.ref cda) ct cc), osl⟩)
    (cd : PySem.W.codeIn K (.ref cda) qual = true) (lc : K.lookup cc = some ⟨cl, cld, .cell (some (.ref C)), csl⟩) (ld : K.lookup cda = some ⟨ccl, cdd, .fields vs, ccs⟩)
    (sd : PySem.MX.Said ps e) (st : PySem.MX.Sets ps r fs) (ha : (params.posonlyargs ++ params.args).head? = some a0) (ha0 : a0.arg = "self") (hv : vs[2]? = some (.str file tf)) (hf : ((P.main.file : Str) == file) = true)
    (hb : ∀ s us, us.length = ps.length + 1 → BindsTo s (PySem.W.ksFn "__init__" qual params (.Expr (.Call (.Attribute (.Call (.Name "super" p0) [] [] p1) "__init__" p2) [e] [] p3) p4 :: r) scope .none .none doc pm an (.ref cda) ct cc) ⟨us, []⟩ ((("self" : Str) :: ps).zip us))
    (s1 : scope.kind = .function) (s2 : scope.isCoroutine = false) (s3 : scope.isGenerator = false) (s4 : ∀ x ∈ scope.names, x.2 ≠ .cell) (s5 : scope.names.lookup ("super" : Str) = some .globalImplicit) (s6 : scope.names.lookup ("__class__" : Str) = some .free)
    (s7 : ∀ y ∈ (("self" : Str) :: ps), scope.names.lookup y = some .local ∧ (y == ("__debug__" : Str)) = false) (s8 : (("self" : Str) :: ps).Nodup) (s9 : PySem.MX.SupEq qual scope fI cda cc p0 p1 p2 p3 e) : ExM P K mg nm ps fs :=
  ⟨C, fI, ⟨PySem.W.mg_of X G aC, ⟨nm', q, N, bs, bm, sn, sub, ab, col, dd, k0, k1, k2, k3, k5, xL, hbm⟩, sa, ga, gg, noN, iC, tC, kC, exC, veC, suC, tp, tyC, hdC, sup, top, few,
    ⟨oc, doc, pm, ct, od, an, osl, qual, params, scope, cc, cda, e, r, p0, p1, p2, p3, p4, a0, cl, ccl, cld, cdd, csl, ccs, vs, file, tf, l, cd, sd, st, ha, ha0, lc, ld, hv, hf, hb, s1, s2, s3, s4, s5, s6, s7, s8, s9⟩⟩⟩
theorem fldOk_mk {C : Addr} {f : Str} (ga : PySem.W.findIn K (.ref C) "__getattribute__" = some (some (.builtin "BaseException.__getattribute__"))) (gg : PySem.W.findIn K (.ref C) "__getattr__" = some none) (noN : PySem.W.findIn K (.ref C) f = some none)
    (exC : PySem.W.subIn K (.ref C) (.type "BaseException") = some true) (hdC : PySem.W.hasDictIn K C = true) : FldOk K C f := ⟨ga, gg, noN, exC, hdC⟩
theorem mgC_mk {h : Heap} {nm : Str} {C : Addr} (X : K.In h) (G : h.Ns mainGlobals mg) (aC : PySem.W.nsIn K mainGlobals nm = some (some (.ref C))) : mg nm = some (.ref C) := PySem.W.mg_of X G aC
theorem vC_mk {h : Heap} {nm : Str} {C : Addr} (X : K.In h) (G : h.Ns mainGlobals mg) (aC : PySem.W.nsIn K mainGlobals nm = some (some (.ref C))) : ∃ C, mg nm = some (.ref C) := ⟨C, PySem.W.mg_of X G aC⟩
theorem ref_eq {o : Option Value} {A B : Addr} (h1 : o = some (.ref A)) (h2 : o = some (.ref B)) : A = B := by
  rw [h1] at h2
  cases h2
  rfl
/-- the law's def, for the end -/
theorem law_end {P : Program} {w : World} {x : Str} {st : Stmt} {ps : List Str} {k n : Nat} {G : Fn} {fa : Addr} {y : Str} (hb : ∀ (kV doc pm : Value) (an : Option Addr) (cdv ct : Value) (us : List Value), us.length = ps.length → bindArgs (PySem.W.fnOf x x (defArgs st) (defBody st) (defScope st) .none kV doc pm an cdv ct) ⟨us, []⟩ = pure (ps.zip us)) (hy : ps = [y]) (hmg : mg x = some (.ref fa)) (d : DefM K mg x st ps) (c : ∀ base : Heap, CalM P w K mg base k x ps 1 G)
    (h : ∀ ns : List Int, ns.length ≤ n → ∃ d, G [.scr (ns.map .int)] = .ok (d, .bl true)) :
    ∃ fd : FuncData, (∀ (s : Shared) (u : Value), BindsTo s fd ⟨[u], []⟩ [(y, u)]) ∧ ∀ base : Heap, K.In base → base.Ns mainGlobals mg → FnOk P w K mg base (L2.CX P w) k fa fd [y] (spLaw K n) := by
  subst hy
  obtain ⟨f, fd, F, hm, _⟩ := d.ex
  obtain rfl := ref_eq hm hmg
  obtain ⟨oc, od, kV, doc, pm, an, cdv, ct, osl, e, lk, _⟩ := F.ex
  refine ⟨fd, fun s u => .of_eq (by rw [e]; exact hb kV doc pm an cdv ct [u] rfl), fun base _ _ => ?_⟩
  obtain ⟨f2, fd2, F2, hm2, _, _, o, lo, ho⟩ := (c base).ex
  obtain rfl := ref_eq hm hm2
  rw [lk] at lo
  cases lo
  cases ho
  exact law_ok F2 h
end
end M

set_option Elab.async false
set_option linter.all false
set_option maxRecDepth 100000
set_option maxHeartbeats 4000000
/-! the mirror, worked out: plain lemmas -/
namespace M
open PySem PySem.Spec PyProof.Rows L2

section
variable {a b : MS} {env e : LEnv}
theorem seq_nx (h : a env = .ok (.nx e)) : mSeq a b env = b e := by unfold mSeq; rw [h]; rfl
theorem seq_rt {d : Nat} {p : PV} (h : a env = .ok (.rt d p e)) : mSeq a b env = .ok (.rt d p e) := by unfold mSeq; rw [h]; rfl
theorem seq_ex {x : Xn × LEnv} (h : a env = .exc x) : mSeq a b env = .exc x := by unfold mSeq; rw [h]; rfl
end
@[simp] theorem ev_seq (a b : MS) (env : LEnv) : mSeq a b env = seqR (a env) b := rfl
@[simp] theorem ev_seqR (e : LEnv) (b : MS) : seqR (.ok (.nx e)) b = b e := rfl
@[simp] theorem ev_seqRr (d : Nat) (p : PV) (e : LEnv) (b : MS) : seqR (.ok (.rt d p e)) b = .ok (.rt d p e) := rfl
@[simp] theorem ev_seqRb (e : LEnv) (b : MS) : seqR (.ok (.bk e)) b = .ok (.bk e) := rfl
@[simp] theorem ev_seqRc (e : LEnv) (b : MS) : seqR (.ok (.ct e)) b = .ok (.ct e) := rfl
@[simp] theorem ev_seqRx (x : Xn × LEnv) (b : MS) : seqR (.exc x) b = .exc x := rfl
@[simp] theorem ev_bind {ε α β : Type} (a : α) (k : α → Rs ε β) : Rs.bind (.ok a) k = k a := rfl
@[simp] theorem ev_bindx {ε α β : Type} (x : ε) (k : α → Rs ε β) : Rs.bind (.exc x) k = .exc x := rfl
@[simp] theorem ev_ofO {ε α : Type} (a : α) : ofO (ε := ε) (some a) = .ok a := rfl
@[simp] theorem ev_lift {α β : Type} (env : LEnv) (a : α) (k : α → Option β) : liftP env (.ok a) k = (match k a with | none => .stuck | some b => .ok (b, env)) := rfl
@[simp] theorem ev_liftx {α β : Type} (env : LEnv) (x : Xn) (k : α → Option β) : liftP env (.exc x) k = .exc (x, env) := rfl
@[simp] theorem ev_liftT (env : LEnv) (t : Bool) (k : Bool → RF) : liftT env (.ok t) k = k t := rfl
@[simp] theorem ev_liftTx (env : LEnv) (x : Xn) (k : Bool → RF) : liftT env (.exc x) k = .exc (x, env) := rfl
@[simp] theorem ev_ofNx (e : LEnv) : ofNx (some e) = .ok (.nx e) := rfl
@[simp] theorem ev_contN (e : LEnv) (k : MS) : contR (.ok (.nx e)) k = k e := rfl
@[simp] theorem ev_contC (e : LEnv) (k : MS) : contR (.ok (.ct e)) k = k e := rfl
@[simp] theorem ev_contB (e : LEnv) (k : MS) : contR (.ok (.bk e)) k = .ok (.nx e) := rfl
@[simp] theorem ev_contR (d : Nat) (p : PV) (e : LEnv) (k : MS) : contR (.ok (.rt d p e)) k = .ok (.rt d p e) := rfl
@[simp] theorem ev_contX (x : Xn × LEnv) (k : MS) : contR (.exc x) k = .exc x := rfl
/-- a place that may be filled -/
def frB : Option Slot → Bool
  | none => true
  | some s => !s.pin
abbrev sl (d : Nat) (p : PV) : Option Slot := some ⟨d, false, p⟩
@[simp] theorem frB_none : frB none = true := rfl
@[simp] theorem frB_some (d : Nat) (b : Bool) (p : PV) : frB (some ⟨d, b, p⟩) = !b := rfl
theorem fr_sl {d : Nat} {p : PV} : frB (sl d p) = true := rfl
section
variable (ma mb : MP PV) (mt mu : MP Bool) (ms : MP (List PV)) (me : ME (Nat × PV)) (mes : ME (Nat × List PV)) (sa sb : MS) (env : LEnv) (i j n : Nat) (G : Fn) (t : Tg)
@[simp] theorem ev_mSkip : mSkip env = .ok (.nx env) := rfl
@[simp] theorem ev_mBrk : mBrk env = .ok (.bk env) := rfl
@[simp] theorem ev_mCnt : mCnt env = .ok (.ct env) := rfl
@[simp] theorem ev_mRet : mRet me env = (me env).bind fun z => .ok (.rt z.1.1 z.1.2 z.2) := rfl
@[simp] theorem ev_mRetN : mRetN env = .ok (.rt 8 .non env) := rfl
@[simp] theorem ev_mIfS : mIfS mt sa sb env = liftT env (mt env) fun t => if t = true then sa env else sb env := rfl
@[simp] theorem ev_mAsg : mAsg t me env = (me env).bind fun z => ofNx (setT t z.1.1 z.1.2 z.2) := rfl
@[simp] theorem ev_mPar : mPar i j mes env = (mes env).bind fun z => ofNx (setTs [.nm i, .nm j] z.1.1 z.1.2 z.2) := rfl
@[simp] theorem ev_mBin (g : PV → PV → Option PV) : mBin g ma mb env = (ma env).bind fun p => (mb env).bind fun q => ofO (g p q) := rfl
@[simp] theorem ev_mBinF (g : PV → PV → Option (List PV)) : mBinF g ma mb env = (ma env).bind fun p => (mb env).bind fun q => ofO (g p q) := rfl
@[simp] theorem ev_mUn (g : PV → Option PV) : mUn g ma env = (ma env).bind fun p => ofO (g p) := rfl
@[simp] theorem ev_mFn (g : List PV → Option PV) : mFn g ms env = (ms env).bind fun p => ofO (g p) := rfl
@[simp] theorem ev_mFnF (g : List PV → Option (List PV)) : mFnF g ms env = (ms env).bind fun p => ofO (g p) := rfl
@[simp] theorem ev_mNil : mNil env = .ok [] := rfl
@[simp] theorem ev_mCons : mCons ma ms env = (ma env).bind fun p => (ms env).bind fun ps => .ok (p :: ps) := rfl
@[simp] theorem ev_mC (p : PV) : mC p env = .ok p := rfl
@[simp] theorem ev_mV : mV i env = (match env[i]? with | some (some s) => .ok s.v | _ => .stuck) := rfl
@[simp] theorem ev_mTup : mTup ms env = (ms env).bind fun ps => if sizeOk ps.length then .ok (.tup ps) else .stuck := rfl
@[simp] theorem ev_mLst : mLst ms env = (ms env).bind fun ps => if sizeOk ps.length then .ok ps else .stuck := rfl
@[simp] theorem ev_mOfF : mOfF ms env = (ms env).bind fun ps => .ok (.lst ps) := rfl
@[simp] theorem ev_mIf : mIf mt ma mb env = (mt env).bind fun b => if b = true then ma env else mb env := rfl
@[simp] theorem ev_mTst : mTst ma env = (ma env).bind fun p => (match p with | .bl b => .ok b | _ => .stuck) := rfl
@[simp] theorem ev_mNot : mNot mt env = (mt env).bind fun b => .ok (!b) := rfl
@[simp] theorem ev_mAnd : mAnd mt mu env = (mt env).bind fun b => if b = true then mu env else .ok false := rfl
@[simp] theorem ev_mOr : mOr mt mu env = (mt env).bind fun b => if b = true then .ok true else mu env := rfl
@[simp] theorem ev_mBl : mBl mt env = (mt env).bind fun b => .ok (.bl b) := rfl
@[simp] theorem ev_mAndV : mAndV ma mb env = (ma env).bind fun p => (match p with | .bl b => if b = true then mb env else .ok (.bl false) | _ => .stuck) := rfl
@[simp] theorem ev_mOrV : mOrV ma mb env = (ma env).bind fun p => (match p with | .bl b => if b = true then .ok (.bl true) else mb env | _ => .stuck) := rfl
@[simp] theorem ev_mFlat : mFlat ma env = liftP env (ma env) fun p => if hgt p = 0 then some (8, p) else none := rfl
@[simp] theorem ev_mNew : mNew ms env = liftP env (ms env) fun ps => if hgts ps = 0 then some (9, .lst ps) else none := rfl
@[simp] theorem ev_mENil : mENil env = .ok ((8, []), env) := rfl
@[simp] theorem ev_eMap {α β : Type} (g : α → Option β) (m : ME α) : eMap g m env = (m env).bind fun z => (match g z.1 with | none => .stuck | some b => .ok (b, z.2)) := rfl
@[simp] theorem ev_mECons : mECons me mes env = (me env).bind fun z => eMap (fun r => some (min z.1.1 r.1, z.1.2 :: r.2)) mes z.2 := rfl
@[simp] theorem ev_mETup : mETup mes env = eMap gTupE mes env := rfl
@[simp] theorem ev_mELst : mELst mes env = eMap gLstE mes env := rfl
@[simp] theorem ev_gTupE (r : Nat × List PV) : gTupE r = if sizeOk r.2.length then some (r.1, .tup r.2) else none := rfl
@[simp] theorem ev_gLstE (r : Nat × List PV) : gLstE r = if sizeOk r.2.length then some (r.1 + 1, .lst r.2) else none := rfl
@[simp] theorem ev_mMove : mMove i env = (match env[i]? with | some (some s) => if hgt s.v = 0 then .ok ((8, s.v), env) else if s.pin then .stuck else .ok ((s.d, s.v), env.set i none) | _ => .stuck) := rfl
@[simp] theorem ev_mCall : mCall n G ms env = (ms env).bind fun ps => callR n G ps fun r => some r.2 := rfl
@[simp] theorem ev_mCallE : mCallE n G ms env = liftP env ((ms env).bind fun ps => callR n G ps okTall) some := rfl
@[simp] theorem ev_callR {α : Type} (ps : List PV) (k : Nat × PV → Option α) : callR n G ps k = if ps.length = n then (match G ps with | .stuck => .stuck | .ok r => ofO (k r) | .exc x => .exc x) else .stuck := rfl
@[simp] theorem ev_okTall (r : Nat × PV) : okTall r = if hgt r.2 ≤ r.1 then some r else none := rfl
@[simp] theorem ev_mRep : mRep ms mb env = (ms env).bind fun ps => (mb env).bind fun q => ofO (gRepK ps q) := rfl
@[simp] theorem ev_mRevL : mRevL ma env = (ma env).bind fun p => ofO ((lstOf p).map List.reverse) := rfl
@[simp] theorem ev_mIt (g : PV → Option (List PV)) : mIt g ma env = (ma env).bind fun p => ofO (g p) := rfl
@[simp] theorem ev_mYes : mYes env = .ok true := rfl
@[simp] theorem ev_itL (l : List PV) : itL (.lst l) = some l := rfl
@[simp] theorem ev_itT (l : List PV) : itT (.tup l) = some l := rfl
@[simp] theorem ev_lstOf (l : List PV) : lstOf (.lst l) = some l := rfl
@[simp] theorem ev_tupOf (l : List PV) : tupOf (.tup l) = some l := rfl
@[simp] theorem ev_tupOfK (l : List PV) : tupOf (.ktp l) = some l := rfl
@[simp] theorem ev_mForL : mForL t me sb env = (me env).bind fun z => (match lstOf z.1.2 with | none => .stuck | some ps => loopF t sb ps z.2) := rfl
@[simp] theorem ev_mForT : mForT t me sb env = (me env).bind fun z => (match tupOf z.1.2 with | none => .stuck | some ps => loopF t sb ps z.2) := rfl
@[simp] theorem ev_mForR1 : mForR1 t ms sb env = (match ms env with | .stuck => .stuck | .exc x => .exc (x, env) | .ok [.int j] => if rngOk j then loopF t sb (rngs 0 j.toNat) env else .stuck | .ok _ => .stuck) := rfl
@[simp] theorem ev_mForR2 : mForR2 t ms sb env = (match ms env with | .stuck => .stuck | .exc x => .exc (x, env) | .ok [.int i, .int j] => if rngOk i && rngOk j then loopF t sb (rngs i (j - i).toNat) env else .stuck | .ok _ => .stuck) := rfl
@[simp] theorem ev_mRng1 : mRng1 ms env = (ms env).bind fun ps => (match ps with | [.int j] => if rngOk j then .ok (rngs 0 j.toNat) else .stuck | _ => .stuck) := rfl
@[simp] theorem ev_mRng2 : mRng2 ms env = (ms env).bind fun ps => (match ps with | [.int i, .int j] => if rngOk i && rngOk j then .ok (rngs i (j - i).toNat) else .stuck | _ => .stuck) := rfl
@[simp] theorem ev_mDrop : mDrop ma env = (match ma env with | .stuck => .stuck | .ok _ => .ok (.nx env) | .exc x => .exc (x, env)) := rfl
@[simp] theorem ev_mApp : mApp i me env = if isLst env i then (me env).bind fun z => ofNx (appS z.2 i z.1.1 z.1.2) else .stuck := rfl
@[simp] theorem ev_setTnm (d : Nat) (p : PV) : setT (.nm i) d p env = setS env i d p := by rw [setT]
@[simp] theorem ev_setTtup (ts : List Tg) (d : Nat) (ps : List PV) : setT (.tup ts) d (.tup ps) env = setTs ts d ps env := by rw [setT]
@[simp] theorem ev_setTktp (ts : List Tg) (d : Nat) (ps : List PV) : setT (.tup ts) d (.ktp ps) env = setTs ts d ps env := by rw [setT]
@[simp] theorem ev_setTsN (d : Nat) : setTs [] d [] env = some env := by rw [setTs]
@[simp] theorem ev_setTsC (ts : List Tg) (d : Nat) (p : PV) (ps : List PV) : setTs (t :: ts) d (p :: ps) env = (setT t d p env).bind fun e => setTs ts d ps e := by rw [setTs]
@[simp] theorem ev_setS (d : Nat) (p : PV) : setS env i d p = (match env[i]? with | some o => if frB o = true then some (env.set i (some ⟨d, false, p⟩)) else none | none => none) := by
  unfold setS
  cases env[i]? with
  | none => rfl
  | some o => cases o with
    | none => rfl
    | some s => cases h : s.pin <;> simp [frB, h]
@[simp] theorem ev_appS (dv : Nat) (p : PV) : appS env i dv p = (match env[i]? with | some (some s) => (match s.d, s.v with | d + 1, .lst ps => if decide (ps.length < 16777216) then some (env.set i (some ⟨min d dv + 1, s.pin, .lst (ps ++ [p])⟩)) else none | _, _ => none) | _ => none) := rfl
@[simp] theorem ev_isLst : isLst env i = (match env[i]? with | some (some s) => (lstOf s.v).isSome | _ => false) := rfl
@[simp] theorem ev_mTry (cl : List Cl) : mTry sb cl env = tryR (sb env) cl := rfl
@[simp] theorem ev_tryO (cl : List Cl) (f : Fl) : tryR (.ok f) cl = .ok f := rfl
@[simp] theorem ev_tryX (cl : List Cl) (x : Xn) (e : LEnv) : tryR (.exc (x, e)) cl = handle cl x e := rfl
end
@[simp] theorem ev_gAdd (i j : Int) : gAdd (.int i) (.int j) = some (.int (i + j)) := rfl
@[simp] theorem ev_gSub (i j : Int) : gSub (.int i) (.int j) = some (.int (i - j)) := rfl
@[simp] theorem ev_gMul (i j : Int) : gMul (.int i) (.int j) = if cMul i j then some (.int (i * j)) else none := rfl
@[simp] theorem ev_gDiv (i j : Int) : gDiv (.int i) (.int j) = if cDiv i j then some (.int (i.fdiv j)) else none := rfl
@[simp] theorem ev_gMod (i j : Int) : gMod (.int i) (.int j) = if cMod i j then some (.int (i.fmod j)) else none := rfl
@[simp] theorem ev_gLt (i j : Int) : gLt (.int i) (.int j) = some (.bl (decide (i < j))) := by unfold gLt; unfold gI; simp [ltZ_eq]
@[simp] theorem ev_gLe (i j : Int) : gLe (.int i) (.int j) = some (.bl (decide (i ≤ j))) := by unfold gLe; unfold gI; simp [leZ_eq]
@[simp] theorem ev_gGt (i j : Int) : gGt (.int i) (.int j) = some (.bl (decide (j < i))) := by unfold gGt; unfold gI; simp [ltZ_eq]
@[simp] theorem ev_gGe (i j : Int) : gGe (.int i) (.int j) = some (.bl (decide (j ≤ i))) := by unfold gGe; unfold gI; simp [leZ_eq]
@[simp] theorem ev_gEqI (i j : Int) : gEqI (.int i) (.int j) = some (.bl (decide (i = j))) := rfl
@[simp] theorem ev_gNeI (i j : Int) : gNeI (.int i) (.int j) = some (.bl (!decide (i = j))) := rfl
@[simp] theorem ev_gNeg (i : Int) : gNeg (.int i) = some (.int (-i)) := rfl
@[simp] theorem ev_gAbs (i : Int) : gAbs [.int i] = some (.int (i.natAbs : Int)) := rfl
@[simp] theorem ev_gInt (i : Int) : gInt [.int i] = some (.int i) := rfl
@[simp] theorem ev_gLenL (l : List PV) : gLen [.lst l] = some (.int (l.length : Int)) := rfl
@[simp] theorem ev_gLenT (l : List PV) : gLen [.tup l] = some (.int (l.length : Int)) := rfl
@[simp] theorem ev_gLenK (l : List PV) : gLen [.ktp l] = some (.int (l.length : Int)) := rfl
@[simp] theorem ev_gLenS (l : List PV) : gLen [.scr l] = some (.int (l.length : Int)) := rfl
@[simp] theorem ev_gIxL (l : List PV) (i : Int) : gIxL (.lst l) (.int i) = atI l i := rfl
@[simp] theorem ev_gIxS (l : List PV) (i : Int) : gIxL (.scr l) (.int i) = atI l i := rfl
@[simp] theorem ev_gIxT (l : List PV) (i : Int) : gIxT (.tup l) (.int i) = atI l i := rfl
@[simp] theorem ev_gIxK (l : List PV) (i : Int) : gIxT (.ktp l) (.int i) = atI l i := rfl
@[simp] theorem ev_gList (l : List PV) : gList [.lst l] = some l := rfl
@[simp] theorem ev_gNotV (b : Bool) : gNotV (.bl b) = some (.bl (!b)) := rfl
@[simp] theorem ev_hInt (i : Int) : hgt (.int i) = 0 := by rw [hgt]; all_goals simp
@[simp] theorem ev_hBl (b : Bool) : hgt (.bl b) = 0 := by rw [hgt]; all_goals simp
@[simp] theorem ev_hStr (x : Str) : hgt (.str x) = 0 := by rw [hgt]; all_goals simp
@[simp] theorem ev_hNon : hgt .non = 0 := by rw [hgt]; all_goals simp
@[simp] theorem ev_hTup (l : List PV) : hgt (.tup l) = hgts l := by rw [hgt]
@[simp] theorem ev_hKtp (l : List PV) : hgt (.ktp l) = hgts l := by rw [hgt]
@[simp] theorem ev_hLst (l : List PV) : hgt (.lst l) = hgts l + 1 := by rw [hgt]
@[simp] theorem ev_hScr (l : List PV) : hgt (.scr l) = hgts l + 1 := by rw [hgt]
@[simp] theorem ev_hNil : hgts [] = 0 := by rw [hgts]
@[simp] theorem ev_hCons (p : PV) (l : List PV) : hgts (p :: l) = max (hgt p) (hgts l) := by rw [hgts]
@[simp] theorem hgts_ints : ∀ l : List Int, hgts (l.map .int) = 0
  | [] => by simp
  | i :: l => by simp [hgts_ints l]
theorem hgts_app : ∀ l m : List PV, hgts (l ++ m) = max (hgts l) (hgts m)
  | [], m => by simp
  | p :: l, m => by simp [hgts_app l m]
@[simp] theorem mul_ok {i j : Int} (h : i.natAbs < 18446744073709551616 ∨ j.natAbs < 18446744073709551616) : cMul i j = true := by
  unfold cMul; rcases h with h | h <;> simp [h]
theorem div_ok {i j : Int} (h : j ≠ 0) (h2 : j.natAbs < 1073741824) : cDiv i j = true := by unfold cDiv; simp [h, h2]
theorem mod_ok {i j : Int} (h : j ≠ 0) : cMod i j = true := by unfold cMod; simp [h]
theorem rng_ok {j : Int} (h : 0 ≤ j) (h2 : j < 4611686018427387904) : rngOk j = true := decide_eq_true (by omega)
theorem run_rt {n d : Nat} {b : MS} {ps : List PV} {p : PV} {e : LEnv} (h : b (slotsOf n ps) = .ok (.rt d p e)) : runM n b ps = .ok (d, p) := by unfold runM; rw [h]
theorem atI_of {α : Type} {xs : List α} {i : Int} {j : Nat} {x : α} (hi : i = (j : Int)) (h : xs[j]? = some x) : atI xs i = some x := by
  subst hi
  have hl : j < xs.length := (List.getElem?_eq_some_iff.1 h).1
  unfold atI ixN
  rw [if_pos (by omega), if_pos (by omega)]
  simpa using h
theorem rngs_succ (lo : Int) (n : Nat) : rngs lo (n + 1) = .int lo :: rngs (lo + 1) n := by
  unfold rngs
  rw [List.range_succ_eq_map, List.map_cons, List.map_map]
  congr 1
  · simp
  · apply List.map_congr_left
    intro i _
    simp [Function.comp]; omega
@[simp] theorem rngs_zero (lo : Int) : rngs lo 0 = [] := rfl

/-! ### equality -/
mutual
theorem eqv_refl : ∀ d : PyData, d.canLay0 = true → PyData.eqv d d = true
  | .none, _ => by rw [PyData.eqv]
  | .bool b, _ => by rw [PyData.eqv]; simp
  | .int i, _ => by rw [PyData.eqv]; simp
  | .str x, _ => by rw [PyData.eqv]; simp
  | .list xs, h => by rw [PyData.eqv]; rw [PyData.canLay0] at h; exact eqvAll_refl xs h
  | .tuple xs, h => by rw [PyData.eqv]; rw [PyData.canLay0] at h; exact eqvAll_refl xs h
  | .dict _, h => by rw [PyData.canLay0] at h; cases h
theorem eqvAll_refl : ∀ d : List PyData, PyData.canLayAll0 d = true → PyData.eqvAll d d = true
  | [], _ => by rw [PyData.eqvAll]
  | x :: xs, h => by
    rw [PyData.canLayAll0, Bool.and_eq_true] at h
    rw [PyData.eqvAll, eqv_refl x h.1, eqvAll_refl xs h.2]; rfl
end
/-- a plain value that == can be asked of -/
def pyOk (p : PV) : Prop := ∃ d, py p = some d ∧ SeqAt.shaped d = true
theorem gEq_same {p : PV} (h : pyOk p) : gEq p p = some (.bl true) := by
  obtain ⟨d, e, s⟩ := h
  unfold gEq gPy
  rw [e]
  simp only [s, Bool.and_self, if_true, eqv_refl d (SeqAt.canLay_of_shaped s)]
theorem gNe_same {p : PV} (h : pyOk p) : gNe p p = some (.bl false) := by
  obtain ⟨d, e, s⟩ := h
  unfold gNe gPy
  rw [e]
  simp only [s, Bool.and_self, if_true, eqv_refl d (SeqAt.canLay_of_shaped s), Bool.not_true]
theorem pys_ints : ∀ l : List Int, pys (l.map .int) = some (l.map .int)
  | [] => by rw [List.map_nil, pys]; rfl
  | i :: l => by rw [List.map_cons, pys, py, pys_ints l]; rfl
theorem lay_ints : ∀ l : List Int, PyData.canLayAll0 (l.map .int) = true
  | [] => rfl
  | i :: l => by rw [List.map_cons, PyData.canLayAll0, lay_ints l]; rfl
theorem dep_ints : ∀ l : List Int, PyData.depthAll (l.map .int) = 0
  | [] => rfl
  | i :: l => by rw [List.map_cons, PyData.depthAll, dep_ints l]; rfl
@[simp] theorem ev_size (n : Nat) : M.sizeOk n = decide (n ≤ 16777216) := rfl
@[simp] theorem ev_gI (C : Int → Int → Bool) (f : Int → Int → PV) (i j : Int) : gI C f (.int i) (.int j) = if C i j then some (f i j) else none := rfl
end M

set_option Elab.async false
set_option linter.all false
set_option maxRecDepth 100000
set_option maxHeartbeats 4000000
/-! slices, in, chains, is, tuple(..) -/
namespace M
open PySem PySem.Spec PyProof.Rows L2

/-! ### xs[lo:hi] -/
def cutN (n d : Nat) : Option Int → Nat
  | none => d
  | some v => if v < 0 then (v + (n : Int)).toNat else min v.toNat n
theorem cutN_eq (n d : Nat) (o : Option Int) : cutN n d o = HT.sIx n d o := by cases o <;> rfl
def cutP (xs : List PV) (lo hi : Option Int) : List PV := (xs.drop (cutN xs.length 0 lo)).take (cutN xs.length xs.length hi - cutN xs.length 0 lo)
def tSPO (K : PySem.W.Frag) (mg : Str → Option Value) (W : WX) (m : MP (Option Int)) : TO := fun σ H Q => ∃ env, Sees K mg H env σ ∧ wpP W K mg σ H (m env) fun o H' => Q o H'
def SPO (X : Cx) (W : WX) (e : Option Expr) (m : MP (Option Int)) : Prop := PO X e (tSPO X.K X.mg W m)
def mON : MP (Option Int) := fun _ => .ok none
def mOS (m : MP PV) : MP (Option Int) := fun env => (m env).bind fun p => match p with
  | .int i => .ok (some i)
  | _ => .stuck
theorem _root_.L2.PO.weak {X : Cx} {e : Option Expr} {t t' : TO} (h : PO X e t) (w : ∀ σ H Q, t' σ H Q → t σ H Q) : PO X e t' := ⟨fun pins s σ H Q I q => h.run pins s σ H Q I (w σ H Q q)⟩
section
variable {X : Cx} {W : WX} {a b c e : Expr} {lo hi : Option Expr} {pos p p2 : Pos} {m ma mb mc : MP PV} {ml mh : MP (Option Int)}
theorem spo_none : SPO X W none mON := po_none.weak fun σ H Q ⟨env, s, w⟩ => w H (.refl H)
theorem spo_some (h : SP X W e m) : SPO X W (some e) (mOS m) := (po_some h).weak fun σ H Q ⟨env, s, w⟩ =>
  tsp_bind (k := fun env p => match p with | .int i => .ok (some i) | _ => .stuck) s w fun p x H1 g r s1 w1 => by
    cases r with
    | int i => exact ⟨i, rfl, w1 H1 (.refl _)⟩
    | _ => exact w1.elim
def mSlc (m : MP PV) (ml mh : MP (Option Int)) : MP (List PV) := fun env => (m env).bind fun p => (ml env).bind fun l => (mh env).bind fun h => ofO ((lstOf p).map fun ps => cutP ps l h)
theorem Reps.cut {K : PySem.W.Frag} {mg : Str → Option Value} {H : Hp} : ∀ {vs : List V} {ps : List PV}, Reps K mg H vs ps → ∀ i k, Reps K mg H ((vs.drop i).take k) ((ps.drop i).take k)
  | _, _, .nil, i, k => by simp; exact .nil
  | _, _, .cons r1 r2, 0, 0 => by simp; exact .nil
  | _, _, .cons r1 r2, 0, k + 1 => by
    simp only [List.drop_zero, List.take_succ_cons]
    have := Reps.cut r2 0 k
    simp only [List.drop_zero] at this
    exact .cons r1 this
  | _, _, .cons r1 r2, i + 1, k => by simp only [List.drop_succ_cons]; exact Reps.cut r2 i k
theorem sp_slc (ha : SP X W e m) (hl : SPO X W lo ml) (hh : SPO X W hi mh) : SPF X W (.Subscript e (.Slice lo hi none p2) pos) (mSlc m ml mh) := (pe_slice sl_list ha hl hh).weak fun σ H Q ⟨env, s, w⟩ =>
  tsp_bind (k := fun env p => (ml env).bind fun l => (mh env).bind fun h => ofO ((lstOf p).map fun ps => cutP ps l h)) s w fun p x H1 g r s1 w1 =>
    ⟨env, s1, wpP_mono (wpP_bind w1) fun l H2 g2 w2 => ⟨env, s1.grow g2, wpP_mono (wpP_bind w2) fun h H3 g3 w3 => by
      obtain ⟨z, ez, q⟩ := wpP_ofO w3
      have r3 := r.grow (g2.trans g3)
      cases r3 with
      | lst hs hr =>
        cases ez
        refine ⟨_, _, rfl, hs.sq, fun p hp => q H3 (.refl _) _ p ?_ hp⟩
        show Reps X.K X.mg H3 (cutV _ l h) (cutP _ l h)
        unfold cutP cutV
        rw [cutN_eq, cutN_eq, ← hr.length]
        exact hr.cut _ _
      | _ => cases ez⟩⟩

/-! ### in a list or tuple of plain things -/
def scV : PV → Option V
  | .non => some .non
  | .bl b => some (.bl b)
  | .int i => some (.int i)
  | .str x => some (.str x)
  | _ => none
def scVs : List PV → Option (List V)
  | [] => some []
  | p :: ps => match scV p with
    | none => none
    | some v => match scVs ps with
      | none => none
      | some vs => some (v :: vs)
def seqOf : PV → Option (List PV)
  | .lst ps => some ps
  | .tup ps => some ps
  | .ktp ps => some ps
  | .scr ps => some ps
  | _ => none
def gInS (neg : Bool) (p q : PV) : Option PV := match scV p with
  | none => none
  | some x => match seqOf q with
    | none => none
    | some ps => match scVs ps with
      | none => none
      | some xs => some (.bl (if neg then !inV x xs else inV x xs))
end
section
variable {K : PySem.W.Frag} {mg : Str → Option Value}
theorem scV_rep {H : Hp} {v x : V} {p : PV} (r : Rep K mg H v p) (e : scV p = some x) : v = x ∧ flatV x = true := by
  cases r <;> cases e <;> exact ⟨rfl, rfl⟩
theorem scVs_rep {H : Hp} : ∀ {vs xs : List V} {ps : List PV}, Reps K mg H vs ps → scVs ps = some xs → vs = xs ∧ xs.all flatV = true
  | _, _, _, .nil, e => by cases e; exact ⟨rfl, rfl⟩
  | _, _, _, .cons r1 r2, e => by
    rw [scVs] at e
    split at e
    · cases e
    · rename_i h1
      split at e
      · cases e
      · rename_i h2
        cases e
        obtain ⟨rfl, f1⟩ := scV_rep r1 h1
        obtain ⟨rfl, f2⟩ := scVs_rep r2 h2
        exact ⟨rfl, by rw [List.all_cons, f1, f2]; rfl⟩
theorem v_inS (neg : Bool) : VOp K mg (rIn K neg) (gInS neg) := fun H x y p q z Q r1 r2 e h => by
  unfold gInS at e
  split at e
  · cases e
  · rename_i v hv
    split at e
    · cases e
    · rename_i ps hq
      split at e
      · cases e
      · rename_i xs hx
        cases e
        obtain ⟨rfl, f1⟩ := scV_rep r1 hv
        cases r2 with
        | lst hs hr =>
          cases hq
          obtain ⟨rfl, f2⟩ := scVs_rep hr hx
          exact ⟨_, _, rfl, .inl hs.sq, f1, f2, h _ H (.refl H) (.bl _)⟩
        | tup hs hr =>
          cases hq
          obtain ⟨rfl, f2⟩ := scVs_rep hr hx
          exact ⟨_, _, rfl, .inr (SqT.of hs), f1, f2, h _ H (.refl H) (.bl _)⟩
        | ktp hs hr =>
          cases hq
          obtain ⟨rfl, f2⟩ := scVs_rep hr hx
          exact ⟨_, _, rfl, .inr (.inr hs), f1, f2, h _ H (.refl H) (.bl _)⟩
        | scr hs hr =>
          cases hq
          obtain ⟨rfl, f2⟩ := scVs_rep hr hx
          exact ⟨_, _, rfl, .inl hs, f1, f2, h _ H (.refl H) (.bl _)⟩
        | _ => cases hq
/-! ### is None -/
def isNon : PV → Bool
  | .non => true
  | _ => false
def gIsN : PV → PV → Option PV
  | p, .non => some (.bl (isNon p))
  | _, _ => none
def gNotN : PV → PV → Option PV
  | p, .non => some (.bl (!isNon p))
  | _, _ => none
theorem isNon_rep {H : Hp} {v : V} {p : PV} (r : Rep K mg H v p) : isNon p = decide (v = .non) := by
  cases r <;> simp [isNon]
theorem v_isN : VOp K mg (fun x y H Q => y = .non ∧ Q (.bl (decide (x = .non))) H) gIsN := fun H x y p q z Q r1 r2 e h => by
  cases r2 <;> cases e
  exact ⟨rfl, by rw [← isNon_rep r1]; exact h _ H (.refl H) (.bl _)⟩
theorem v_notN : VOp K mg (fun x y H Q => y = .non ∧ Q (.bl (!decide (x = .non))) H) gNotN := fun H x y p q z Q r1 r2 e h => by
  cases r2 <;> cases e
  exact ⟨rfl, by rw [← isNon_rep r1]; exact h _ H (.refl H) (.bl _)⟩
/-! ### tuple(x), min, max -/
def gTupOf : List PV → Option PV
  | [.lst ps] => some (.tup ps)
  | [.tup ps] => some (.tup ps)
  | [.ktp ps] => some (.ktp ps)
  | _ => none
theorem v_tupOf : COp K mg (fun xs H Q => ∃ p ys, xs = [V.ref p] ∧ ((SqL K H p ys ∧ ∀ l, H l = none → Q (.ref l) (upd H l (.tup ys))) ∨ (SqT K H p ys ∧ Q (.ref p) H))) gTupOf := fun H xs ps z Q r e h => by
  unfold gTupOf at e
  split at e
  · cases e
    cases r with
    | cons r1 r2 => cases r1; cases r2; rename_i hs hr; exact ⟨_, _, rfl, .inl ⟨hs.sq, fun l hl => h _ _ (Grow.upd hl) (.tup upd_same (hr.grow (Grow.upd hl)))⟩⟩
  · cases e
    cases r with
    | cons r1 r2 => cases r1; cases r2; rename_i hs hr; exact ⟨_, _, rfl, .inr ⟨SqT.of hs, h _ H (.refl H) (.tup hs hr)⟩⟩
  · cases e
    cases r with
    | cons r1 r2 => cases r1; cases r2; rename_i hs hr; exact ⟨_, _, rfl, .inr ⟨.inr hs, h _ H (.refl H) (.ktp hs hr)⟩⟩
  · cases e
def gMin : List PV → Option PV
  | [.int i, .int j] => some (.int (if ltZ j i then j else i))
  | _ => none
def gMax : List PV → Option PV
  | [.int i, .int j] => some (.int (if ltZ i j then j else i))
  | _ => none
theorem v_min : COp K mg (fun xs H Q => ∃ i j, xs = [V.int i, V.int j] ∧ Q (.int (if j < i then j else i)) H) gMin := fun H xs ps z Q r e h => by
  unfold gMin at e
  split at e
  · rename_i i j
    cases e
    cases r with
    | cons r1 r2 => cases r1; cases r2 with
      | cons r3 r4 => cases r3; cases r4; refine ⟨i, j, rfl, ?_⟩; have q := h _ H (.refl H) (.int _); simp only [ltZ_eq, decide_eq_true_eq] at q; exact q
  · cases e
theorem v_max : COp K mg (fun xs H Q => ∃ i j, xs = [V.int i, V.int j] ∧ Q (.int (if j > i then j else i)) H) gMax := fun H xs ps z Q r e h => by
  unfold gMax at e
  split at e
  · rename_i i j
    cases e
    cases r with
    | cons r1 r2 => cases r1; cases r2 with
      | cons r3 r4 => cases r3; cases r4; refine ⟨i, j, rfl, ?_⟩; have q := h _ H (.refl H) (.int _); simp only [ltZ_eq, decide_eq_true_eq] at q; exact q
  · cases e
end
section
variable {X : Cx} {W : WX} {a b c e : Expr} {pos p p2 : Pos} {m ma mb mc : MP PV}
/-! ### a < b < c -/
def mChain (g g' : PV → PV → Option PV) (ma mb mc : MP PV) : MP PV := fun env => (ma env).bind fun p => (mb env).bind fun q => (ofO (g p q)).bind fun z => match z with
  | .bl k => if k = true then (mc env).bind fun r => ofO (g' q r) else .ok (.bl false)
  | _ => .stuck
theorem sp_chain {op op' : CmpOp} {r r' : R2} {g g' : PV → PV → Option PV} (ho : OpR X (compareOp op) r) (hg : VOp X.K X.mg r g) (ho' : OpR X (compareOp op') r') (hg' : VOp X.K X.mg r' g') (ha : SP X W a ma) (hb : SP X W b mb) (hc : SP X W c mc)
    (hm : lastMarks [op, op'] [b, c] = false := by with_unfolding_all rfl) : SP X W (.Compare a [op, op'] [b, c] pos) (mChain g g' ma mb mc) := by
  refine (pe_chain ho ho' ha hb hc hm).weak fun σ H Q ⟨env, s, w⟩ => ?_
  refine tsp_bind (k := fun env p => (mb env).bind fun q => (ofO (g p q)).bind fun z => match z with | .bl k => if k = true then (mc env).bind fun r => ofO (g' q r) else .ok (.bl false) | _ => .stuck) s w fun p x H1 g1 r1 s1 w1 => ?_
  refine tsp_bind (k := fun env q => (ofO (g p q)).bind fun z => match z with | .bl k => if k = true then (mc env).bind fun r => ofO (g' q r) else .ok (.bl false) | _ => .stuck) s1 w1 fun q y H2 g2 r2 s2 w2 => ?_
  obtain ⟨z, ez, q2⟩ := wpP_ofO (wpP_bind w2)
  refine hg H2 x y p q z _ (r1.grow g2) r2 ez fun v H3 g3 rv => ?_
  have w3 := q2 H3 g3
  cases rv with
  | bl k =>
    refine ⟨k, rfl, ?_⟩
    cases k with
    | false => exact w3 H3 (.refl _) _ (.bl _)
    | true =>
      refine tsp_bind (k := fun env r => ofO (g' q r)) (s2.grow g3) w3 fun r' y' H4 g4 r4 s4 w4 => ?_
      obtain ⟨z', ez', q4⟩ := wpP_ofO w4
      exact hg' H4 y y' q r' z' Q (r2.grow (g3.trans g4)) r4 ez' fun v H5 g5 rv => q4 H5 g5 v rv
  | _ => exact w3.elim
theorem spt_of {e : Expr} (h : PT X e (tTest (tSP X.K X.mg W m))) : SPT X W e (mTst m) := h.weak fun σ H Q ⟨env, s, w⟩ => tsp_bind (k := fun env p => match p with | .bl b => .ok b | _ => .stuck) s w fun p x H1 g r s1 w1 => by
  cases r with
  | bl k => exact ⟨k, rfl, w1 H1 (Grow.refl _)⟩
  | _ => exact w1.elim
end
end M

set_option Elab.async false
set_option linter.all false
set_option maxRecDepth 100000
set_option maxHeartbeats 4000000
/-! dicts, read -/
namespace M
open PySem PySem.Spec PyProof.Rows L2

/-! ### keys -/
def keyK : PV → Option Key
  | .int i => some (.inl i)
  | .str x => some (.inr x)
  | _ => none
def keysK : List PV → Option (List Key)
  | [] => some []
  | p :: r => match keyK p with
    | none => none
    | some k => match keysK r with
      | none => none
      | some ks => some (k :: ks)
/-- a key for a dict of this kind -/
def isKey : Bool → PV → Bool
  | false, p => (keyK p).isSome
  | true, .tup ps => (keysK ps).isSome
  | true, _ => false
def keq1 : PV → PV → Bool
  | .int i, .int j => decide (i = j)
  | .str x, .str y => decide (x = y)
  | _, _ => false
def keqs : List PV → List PV → Bool
  | [], [] => true
  | p :: ps, q :: qs => keq1 p q && keqs ps qs
  | _, _ => false
def keq : PV → PV → Bool
  | .tup xs, .tup ys => keqs xs ys
  | p, q => keq1 p q
def look (kvs : List (PV × PV)) (k : PV) : Option PV := (kvs.find? fun kv => keq kv.1 k).map (·.2)
def dput (kvs : List (PV × PV)) (k v : PV) : List (PV × PV) :=
  if (kvs.any fun kv => keq kv.1 k) = true then kvs.map (fun kv => if keq kv.1 k = true then (kv.1, v) else kv) else kvs ++ [(k, v)]
theorem keyK_some {p : PV} {k : Key} (e : keyK p = some k) : p = kP k := by
  unfold keyK at e
  split at e <;> cases e <;> rfl
theorem keysK_some : ∀ {ps : List PV} {ks : List Key}, keysK ps = some ks → ps = ks.map kP
  | [], _, e => by cases e; rfl
  | p :: r, ks, e => by
    rw [keysK] at e
    split at e
    · cases e
    · rename_i k h1
      split at e
      · cases e
      · rename_i ks' h2
        cases e
        rw [keyK_some h1, keysK_some h2]; rfl
theorem keq_k (a b : Key) : keq (kP a) (kP b) = decide (a = b) := by
  cases a <;> cases b <;> simp [kP, keq, keq1]
theorem keqs_k : ∀ a b : List Key, keqs (a.map kP) (b.map kP) = decide (a = b)
  | [], [] => by simp [keqs]
  | [], _ :: _ => by simp [keqs]
  | _ :: _, [] => by simp [keqs]
  | x :: a, y :: b => by
    have h : keq1 (kP x) (kP y) = decide (x = y) := by cases x <;> cases y <;> simp [kP, keq1]
    rw [List.map_cons, List.map_cons, keqs, h, keqs_k a b]
    by_cases e : x = y <;> simp [e]
theorem keq_t (a b : List Key) : keq (kPs a) (kPs b) = decide (a = b) := keqs_k a b
section
variable {K : PySem.W.Frag} {mg : Str → Option Value} {H : Hp}
theorem look_rel {κ : Type} [DecidableEq κ] {f : κ → PV} (hf : ∀ a b, keq (f a) (f b) = decide (a = b)) (k : κ) : ∀ {es : List (κ × V)} {kvs : List (PV × PV)}, es.map (fun e => f e.1) = kvs.map (·.1) → Reps K mg H (es.map (·.2)) (kvs.map (·.2)) →
    (look kvs (f k) = none ∧ valV es k = none) ∨ ∃ p v, look kvs (f k) = some p ∧ valV es k = some v ∧ Rep K mg H v p
  | [], [], _, _ => .inl ⟨rfl, rfl⟩
  | [], _ :: _, e, _ => by simp at e
  | _ :: _, [], e, _ => by simp at e
  | (a, v) :: es, (b, p) :: kvs, e, r => by
    rw [List.map_cons, List.map_cons] at e r
    obtain ⟨e1, e2⟩ := List.cons.inj e
    cases r with
    | cons r1 r2 =>
      have e1' : f a = b := e1
      subst e1'
      by_cases h : a = k
      · subst h
        refine .inr ⟨p, v, ?_, valV_pos rfl, r1⟩
        unfold look
        rw [List.find?_cons, hf, decide_eq_true rfl]; rfl
      · rcases look_rel hf k e2 r2 with ⟨h1, h2⟩ | ⟨p', v', h1, h2, h3⟩
        · refine .inl ⟨?_, (valV_neg h).trans h2⟩
          unfold look at h1 ⊢
          rw [List.find?_cons, hf, decide_eq_false h]; exact h1
        · refine .inr ⟨p', v', ?_, (valV_neg h).trans h2, h3⟩
          unfold look at h1 ⊢
          rw [List.find?_cons, hf, decide_eq_false h]; exact h1
/-- what a dict holds at a key -/
theorem dget_rel {x y : V} {t : Bool} {kvs : List (PV × PV)} {k : PV} (r : Rep K mg H x (.dct t kvs)) (rk : Rep K mg H y k) (hk : isKey t k = true) :
    ∃ a o, x = .ref a ∧ DGet H a y o ∧ ((look kvs k = none ∧ o = none) ∨ ∃ p v, look kvs k = some p ∧ o = some v ∧ Rep K mg H v p) := by
  cases r with
  | dK h e1 e2 r =>
    subst e2
    obtain ⟨key, hkey⟩ := Option.isSome_iff_exists.1 hk
    have ek := keyK_some hkey
    subst ek
    have ey : y = kV key := by cases key <;> (cases rk; rfl)
    subst ey
    rcases look_rel (f := kP) keq_k key e1 r with ⟨h1, h2⟩ | ⟨p, v, h1, h2, h3⟩
    · exact ⟨_, none, rfl, by rw [← h2]; exact .k h, .inl ⟨h1, rfl⟩⟩
    · exact ⟨_, some v, rfl, by rw [← h2]; exact .k h, .inr ⟨p, v, h1, rfl, h3⟩⟩
  | dT h e1 e2 r =>
    subst e2
    unfold isKey at hk
    split at hk
    · rename_i ht; cases ht
    · rename_i ps
      obtain ⟨keys, hkey⟩ := Option.isSome_iff_exists.1 hk
      have ek := keysK_some hkey
      subst ek
      cases rk with
      | tup hb rb =>
        have ev : ∀ {vs : List V} {ks : List Key}, Reps K mg H vs (ks.map kP) → vs = ks.map kV := by
          intro vs ks
          induction ks generalizing vs with
          | nil => intro r; cases r; rfl
          | cons k ks ih =>
            intro r
            rw [List.map_cons] at r
            cases r with
            | cons r1 r2 =>
              rw [ih r2]
              cases k <;> (cases r1; rfl)
        have e := ev rb
        subst e
        rcases look_rel (f := kPs) keq_t keys e1 r with ⟨h1, h2⟩ | ⟨p, v, h1, h2, h3⟩
        · exact ⟨_, none, rfl, by rw [← h2]; exact .t h hb, .inl ⟨h1, rfl⟩⟩
        · exact ⟨_, some v, rfl, by rw [← h2]; exact .t h hb, .inr ⟨p, v, h1, rfl, h3⟩⟩
    · cases hk
theorem isD_rep {x : V} {t : Bool} {kvs : List (PV × PV)} (r : Rep K mg H x (.dct t kvs)) : ∃ a, x = .ref a ∧ IsD H a := by
  cases r with
  | dK h _ _ _ => exact ⟨_, rfl, .inl ⟨_, .inl h⟩⟩
  | dT h _ _ _ => exact ⟨_, rfl, .inr ⟨_, .inl h⟩⟩
end

/-- d[k] -/
def gDGet : PV → PV → Option PV
  | .dct t kvs, k => if isKey t k = true then look kvs k else none
  | _, _ => none
/-- k in d -/
def gDIn (neg : Bool) (k d : PV) : Option PV := match d with
  | .dct t kvs => if isKey t k = true then some (.bl (if neg then !(look kvs k).isSome else (look kvs k).isSome)) else none
  | _ => none
/-- d.get(k, x) -/
def gDGetD : PV → PV → PV → Option PV
  | .dct t kvs, k, x => if isKey t k = true then some ((look kvs k).getD x) else none
  | _, _, _ => none
section
variable {X : Cx} {W : WX} {o e f : Expr} {apos cpos pos p2 : Pos} {m ma mb mc : PV → PV} {md mk mx : MP PV}
theorem sp_dget (hu : X.A.units + 1 < cLine) (ho : SP X W o md) (hi : SP X W e mk) (hs : NoSl e := by exact fun _ _ => rfl) : SP X W (.Subscript o e pos) (mBin gDGet md mk) := by
  refine (pe_dget hu ho hi hs).weak fun σ H Q ⟨env, s, w⟩ => ?_
  refine tsp_bind (k := fun env p => (mk env).bind fun q => ofO (gDGet p q)) s w fun p x H1 g1 r1 s1 w1 => ?_
  refine tsp_bind (k := fun env q => ofO (gDGet p q)) s1 w1 fun q y H2 g2 r2 s2 w2 => ?_
  obtain ⟨z, ez, q2⟩ := wpP_ofO w2
  have r1' := r1.grow g2
  unfold gDGet at ez
  split at ez
  · split at ez
    · rename_i hk
      obtain ⟨a, ov, ex, dg, h⟩ := dget_rel r1' r2 hk
      rcases h with ⟨h1, _⟩ | ⟨p', v, h1, eo, rv⟩
      · rw [h1] at ez; cases ez
      · rw [h1] at ez
        cases ez
        subst eo
        exact ⟨a, v, ex, dg, q2 H2 (.refl _) v rv⟩
    · cases ez
  · cases ez
theorem din_te {neg : Bool} {σ : L2.St} {H : Hp} {Q : VK} (h : tSP X.K X.mg W (mBin (gDIn neg) mk md) σ H Q) : tSP X.K X.mg W mk σ H fun y H1 => tSP X.K X.mg W md σ H1 fun x H2 => ∃ a o, x = .ref a ∧ DGet H2 a y o ∧ Q (.bl (if neg then !o.isSome else o.isSome)) H2 := by
  obtain ⟨env, s, w⟩ := h
  refine tsp_bind (k := fun env p => (md env).bind fun q => ofO (gDIn neg p q)) s w fun p x H1 g1 r1 s1 w1 => ?_
  refine tsp_bind (k := fun env q => ofO (gDIn neg p q)) s1 w1 fun q y H2 g2 r2 s2 w2 => ?_
  obtain ⟨z, ez, q2⟩ := wpP_ofO w2
  unfold gDIn at ez
  split at ez
  · rename_i t kvs
    split at ez
    · rename_i hk
      cases ez
      obtain ⟨a, ov, ex, dg, h⟩ := dget_rel r2 (r1.grow g2) hk
      refine ⟨a, ov, ex, dg, ?_⟩
      have e : (look kvs p).isSome = ov.isSome := by
        rcases h with ⟨h1, e⟩ | ⟨p', v, h1, e, _⟩ <;> rw [h1, e] <;> rfl
      rw [← e]
      exact q2 H2 (.refl _) _ (.bl _)
    · cases ez
  · cases ez
theorem spc_din (hu : X.A.units + 1 < cLine) (hi : SP X W e mk) (ho : SP X W o md) (h1 : behindInMarks .In o = false := by rfl) : SP X W (.Compare e [.In] [o] pos) (mBin (gDIn false) mk md) := (pe_cmp (pc_din hu hi ho) h1).weak fun σ H Q h => din_te h
theorem spc_dnotin (hu : X.A.units + 1 < cLine) (hi : SP X W e mk) (ho : SP X W o md) (h1 : behindInMarks .NotIn o = false := by rfl) : SP X W (.Compare e [.NotIn] [o] pos) (mBin (gDIn true) mk md) := (pe_cmp (pc_dnotin hu hi ho) h1).weak fun σ H Q h => din_te h
theorem tst_te {m : MP PV} {σ : L2.St} {H : Hp} {Q : Bool → Hp → Prop} (h : tSPT X.K X.mg W (mTst m) σ H Q) : tSP X.K X.mg W m σ H fun x H' => ∃ k, x = .bl k ∧ Q k H' := by
  obtain ⟨env, s, w⟩ := h
  refine tsp_bind (k := fun env p => match p with | .bl b => .ok b | _ => .stuck) s w fun p x H1 g r s1 w1 => ?_
  cases r with
  | bl k => exact ⟨k, rfl, w1 H1 (Grow.refl _)⟩
  | _ => exact w1.elim
theorem spt_din (hu : X.A.units + 1 < cLine) (hi : SP X W e mk) (ho : SP X W o md) (h1 : behindInMarks .In o = false := by rfl) : SPT X W (.Compare e [.In] [o] pos) (mTst (mBin (gDIn false) mk md)) := (pt_cmp (pc_din hu hi ho) h1).weak fun σ H Q h => din_te (neg := false) (tst_te h)
theorem spt_dnotin (hu : X.A.units + 1 < cLine) (hi : SP X W e mk) (ho : SP X W o md) (h1 : behindInMarks .NotIn o = false := by rfl) : SPT X W (.Compare e [.NotIn] [o] pos) (mTst (mBin (gDIn true) mk md)) := (pt_cmp (pc_dnotin hu hi ho) h1).weak fun σ H Q h => din_te (neg := true) (tst_te h)
def isDct : PV → Bool
  | .dct _ _ => true
  | _ => false
theorem isDct_rep {K : PySem.W.Frag} {mg : Str → Option Value} {H : Hp} {x : V} {p : PV} (r : Rep K mg H x p) (h : isDct p = true) : ∃ a, x = .ref a ∧ IsD H a := by
  unfold isDct at h
  split at h
  · exact isD_rep r
  · cases h
theorem isD_grow {H H' : Hp} {a : Addr} (h : IsD H a) (g : Grow H H') : IsD H' a := by
  rcases h with ⟨kvs, h⟩ | ⟨kvs, h⟩
  · exact .inl ⟨kvs, Rd.grow h g⟩
  · exact .inr ⟨kvs, Rd.grow h g⟩
/-- d.get(k) -/
def mDGet1 (md mk : MP PV) : MP PV := fun env => (md env).bind fun p => if isDct p = true then (mk env).bind fun q => ofO (gDGetD p q .non) else .stuck
/-- d.get(k, x) -/
def mDGet2 (md mk mx : MP PV) : MP PV := fun env => (md env).bind fun p => if isDct p = true then (mk env).bind fun q => (mx env).bind fun z => ofO (gDGetD p q z) else .stuck
theorem sp_dget1 (hu : X.A.units + 1 < cLine) (ho : SP X W o md) (he : SP X W e mk) (m : M1 X o "get" apos e cpos) : SP X W (.Call (.Attribute o "get" apos) [e] [] cpos) (mDGet1 md mk) := by
  refine (pe_dget1 hu ho he m).weak fun σ H Q ⟨env, s, w⟩ => ?_
  refine tsp_bind (k := fun env p => if isDct p = true then (mk env).bind fun q => ofO (gDGetD p q .non) else .stuck) s w fun p x H1 g1 r1 s1 w1 => ?_
  split at w1
  case isFalse => exact w1.elim
  rename_i hd
  obtain ⟨a, ex, di⟩ := isDct_rep r1 hd
  subst ex
  refine ⟨a, rfl, di, ?_⟩
  refine tsp_bind (k := fun env q => ofO (gDGetD p q .non)) s1 w1 fun q y H2 g2 r2 s2 w2 => ?_
  obtain ⟨z, ez, q2⟩ := wpP_ofO w2
  unfold gDGetD at ez
  split at ez
  · rename_i t kvs
    split at ez
    · rename_i hk
      cases ez
      obtain ⟨a', ov, ex, dg, h⟩ := dget_rel (r1.grow g2) r2 hk
      cases ex
      refine ⟨ov, dg, ?_⟩
      rcases h with ⟨h1, e⟩ | ⟨p', v, h1, e, rv⟩
      · rw [h1] at q2; subst e
        exact q2 H2 (.refl _) _ .non
      · rw [h1] at q2; subst e
        exact q2 H2 (.refl _) _ rv
    · cases ez
  · cases ez
theorem sp_dget2 (hu : X.A.units + 1 < cLine) (ho : SP X W o md) (he : SP X W e mk) (hf : SP X W f mx) (m : M2 X o "get" apos e f cpos) : SP X W (.Call (.Attribute o "get" apos) [e, f] [] cpos) (mDGet2 md mk mx) := by
  refine (pe_dget2 hu ho he hf m).weak fun σ H Q ⟨env, s, w⟩ => ?_
  refine tsp_bind (k := fun env p => if isDct p = true then (mk env).bind fun q => (mx env).bind fun z => ofO (gDGetD p q z) else .stuck) s w fun p x H1 g1 r1 s1 w1 => ?_
  split at w1
  case isFalse => exact w1.elim
  rename_i hd
  obtain ⟨a, ex, di⟩ := isDct_rep r1 hd
  subst ex
  refine ⟨a, rfl, di, ?_⟩
  refine tsp_bind (k := fun env q => (mx env).bind fun z => ofO (gDGetD p q z)) s1 w1 fun q y H2 g2 r2 s2 w2 => ?_
  refine tsp_bind (k := fun env z => ofO (gDGetD p q z)) s2 w2 fun z y' H3 g3 r3 s3 w3 => ?_
  obtain ⟨z', ez, q2⟩ := wpP_ofO w3
  unfold gDGetD at ez
  split at ez
  · rename_i t kvs
    split at ez
    · rename_i hk
      cases ez
      obtain ⟨a', ov, ex, dg, h⟩ := dget_rel (r1.grow (g2.trans g3)) (r2.grow g3) hk
      cases ex
      refine ⟨ov, dg, ?_⟩
      rcases h with ⟨h1, e⟩ | ⟨p', v, h1, e, rv⟩
      · rw [h1] at q2; subst e
        exact q2 H3 (.refl _) _ r3
      · rw [h1] at q2; subst e
        exact q2 H3 (.refl _) _ rv
    · cases ez
  · cases ez
end
end M

set_option Elab.async false
set_option linter.all false
set_option maxRecDepth 100000
set_option maxHeartbeats 4000000
/-! a write to an object that a slot owns -/
namespace M
open PySem PySem.Spec PyProof.Rows L2

section
variable {K : PySem.W.Frag} {mg : Str → Option Value} {D : Ends} {env e : LEnv} {σ σ0 : L2.St} {τ T F T' F' f g gc : Cnt} {H H' : Hp} {i l d d0 d1 : Nat} {pin : Bool} {pv pv' q : PV} {x : V} {ho ho' : HO} {vs : List V} {ps : List PV} {W : WX}
/-- e: the slots now; slot i owns the object at l (its children: vs, ps, to depth d); x, q, to depth d1: what comes to it; ho', pv': what is written -/
theorem slot_wr (n : Now K mg H env σ σ0 τ T F) (sl : Slots K mg H' T' e σ σ0 F') (su : ∀ b, T' b = F' b + f b + τ b) (on : ∀ b, T' b ≤ 1) (fr : Frm H F H' fun b => F' b + f b)
    (es : e[i]? = some (some ⟨d0, pin, pv⟩)) (e1 : σ[i]? = some (some (.ref l))) (o : Own K mg H' T' d1 x q f)
    (hinv : ∀ g, Own K mg H' T' d0 (.ref l) pv g → ∃ vs gc, H' l = some ho ∧ Owns K mg H' T' d vs ps gc ∧ (∀ b, g b = gc b + if b = l then 1 else 0) ∧
      ∀ gc' f' : Cnt, ∀ H2 T2, Owns K mg H2 T2 (min d d1) vs ps gc' → Own K mg H2 T2 (min d d1) x q f' → H2 l = some ho' → ∃ c : Cnt, (∀ b, c b ≤ gc' b + f' b) ∧ Own K mg H2 T2 (min d d1 + 1) (.ref l) pv' (fun b => c b + if b = l then 1 else 0))
    (nst0 : ¬ Still ho) (w2 : wpS W K mg σ0 τ H F (.ok (.nx (e.set i (some ⟨min d d1 + 1, pin, pv'⟩)))) D) : D.nx σ (upd H' l ho') := by
  obtain ⟨v, g, G, ev, og, slG, hG, hp⟩ := sl.get es
  rw [e1] at ev; cases ev
  obtain ⟨vs, gc, hH, oc, hg, mk⟩ := hinv g og
  have ga : g l = gc l + 1 := by rw [hg, if_pos rfl]
  have t1 := on l
  have t2 := su l
  have t3 := hG l
  have nst : ∀ y, H' l = some y → ¬ Still y := fun y ey => by rw [hH] at ey; cases ey; exact nst0
  have u2 : ∀ b, G b + g b + f b + τ b ≤ 1 := fun b => by have := su b; have := on b; have := hG b; omega
  obtain ⟨gc', l1, k1⟩ := oc.low (fun b => by have := u2 b; have := hg b; omega) (Nat.min_le_left d d1)
  obtain ⟨f', l2, k2⟩ := o.low (fun b => by have := u2 b; omega) (Nat.min_le_right d d1)
  obtain ⟨c, hc⟩ : ∃ c : Cnt, ∀ b, c b = gc' b + f' b := ⟨fun b => gc' b + f' b, fun _ => rfl⟩
  -- the new counts
  have cz : ∀ b, gc b ≤ g b := fun b => by rw [hg]; omega
  let T2 : Cnt := fun b => G b + (c b + if b = l then 1 else 0) + τ b
  have tl : ∀ b, T2 b ≤ T' b := fun b => by
    show G b + (c b + if b = l then 1 else 0) + τ b ≤ T' b
    have := su b; have := hG b; have := hg b; have := l1 b; have := l2 b; have := hc b; omega
  have o1 : Owns K mg H' T2 (min d d1) vs ps gc' := k1 T2 tl fun b z z' => by
    show G b + (c b + if b = l then 1 else 0) + τ b = 0
    have := u2 b; have := hg b; have := l2 b; have := hc b
    by_cases hb : b = l
    · subst hb; rw [if_pos rfl] at this; omega
    · rw [if_neg hb]; rw [if_neg hb] at *; omega
  have o2 : Own K mg H' T2 (min d d1) x q f' := k2 T2 tl fun b z z' => by
    show G b + (c b + if b = l then 1 else 0) + τ b = 0
    have := u2 b; have := hg b; have := l1 b; have := hc b
    by_cases hb : b = l
    · subst hb; rw [if_pos rfl] at *; omega
    · rw [if_neg hb]; rw [if_neg hb] at *; omega
  have t2l : T2 l ≠ 0 := by show G l + (c l + if l = l then 1 else 0) + τ l ≠ 0; rw [if_pos rfl]; omega
  have slG' : Slots K mg H' T2 (e.set i none) σ σ0 G := slG.keep (fun a o e t => by have := tl a; omega) fun a o e _ => e
  have s1 := slG'.wr (o' := ho') t2l (by omega) nst
  have s2 := o1.wr (o' := ho') t2l (by have := l1 l; omega) nst
  have s2' := o2.wr (o' := ho') t2l (by have := l2 l; have := u2 l; omega) nst
  obtain ⟨c3, hc3, s3⟩ := mk gc' f' (upd H' l ho') T2 s2 s2' upd_same
  let T3 : Cnt := fun b => G b + (c3 b + if b = l then 1 else 0) + τ b
  have tl3 : ∀ b, T3 b ≤ T2 b := fun b => by
    show G b + (c3 b + if b = l then 1 else 0) + τ b ≤ G b + (c b + if b = l then 1 else 0) + τ b
    have := hc b; have := hc3 b; omega
  have s3 := s3.keep (T' := T3) (fun a o e t => by have := tl3 a; omega) fun a o e _ => e
  have s1 := s1.keep (T' := T3) (fun a o e t => by have := tl3 a; omega) fun a o e _ => e
  have s4 := s1.put (s := ⟨min d d1 + 1, pin, pv'⟩) (get_set_none es) s3 hp
  rw [set_set_none, set_self e1] at s4
  refine w2 σ _ T3 _ ⟨s4, fun b => rfl, fun b => Nat.le_trans (tl3 b) (Nat.le_trans (tl b) (on b)), fun b z => ?_⟩ ⟨fun b y ey z => ?_, fun b y ey => ?_⟩
  · obtain ⟨y, ey⟩ := n.ex b z
    obtain ⟨⟨y', ey'⟩, _⟩ := fr.own b y ey
    by_cases hb : b = l
    · subst hb; exact ⟨_, upd_same⟩
    · exact ⟨y', by rw [upd_ne hb]; exact ey'⟩
  · have k := fr.keep b y ey z
    have ne : b ≠ l := fun q => by
      subst q
      rcases z with z | z
      · have h : F' b + f b ≤ F b := (fr.own b y ey).2; have := hG b; omega
      · exact nst y k z
    rw [upd_ne ne]; exact k
  · obtain ⟨⟨y', ey'⟩, lb⟩ := fr.own b y ey
    refine ⟨?_, ?_⟩
    · by_cases hb : b = l
      · subst hb; exact ⟨_, upd_same⟩
      · exact ⟨y', by rw [upd_ne hb]; exact ey'⟩
    · have lb' : F' b + f b ≤ F b := lb
      show G b + (c3 b + if b = l then 1 else 0) ≤ F b
      have := hG b; have := hg b; have := l1 b; have := l2 b; have := hc3 b; omega
end
/-! ### d[k] = v -/
section
variable {K : PySem.W.Frag} {mg : Str → Option Value} {H : Hp} {T : Cnt} {d : Nat} {κ : Type} [DecidableEq κ] {f : κ → PV} {x : V} {q : PV} {fx : Cnt}
def repK (es : List (κ × V)) (k : κ) (v : V) : List (κ × V) := es.map (fun kv => if kv.1 = k then (kv.1, v) else kv)
def repP (kvs : List (PV × PV)) (k v : PV) : List (PV × PV) := kvs.map (fun kv => if keq kv.1 k = true then (kv.1, v) else kv)
/-- put in their places, a flat value -/
theorem rep_flat (hf : ∀ a b, keq (f a) (f b) = decide (a = b)) (k : κ) (hx : Own K mg H T d x q fun _ => 0) : ∀ {es : List (κ × V)} {kvs : List (PV × PV)} {gc : Cnt}, es.map (fun e => f e.1) = kvs.map (·.1) → Owns K mg H T d (es.map (·.2)) (kvs.map (·.2)) gc →
    ∃ c : Cnt, (∀ b, c b ≤ gc b) ∧ (repK es k x).map (fun e => f e.1) = (repP kvs (f k) q).map (·.1) ∧ Owns K mg H T d ((repK es k x).map (·.2)) ((repP kvs (f k) q).map (·.2)) c
  | [], [], gc, _, o => ⟨gc, fun _ => Nat.le_refl _, rfl, o⟩
  | [], _ :: _, _, e, _ => by simp at e
  | _ :: _, [], _, e, _ => by simp at e
  | (a, v) :: es, (b, p) :: kvs, gc, e, o => by
    rw [List.map_cons, List.map_cons] at e o
    obtain ⟨e1, e2⟩ := List.cons.inj e
    have e1' : f a = b := e1
    subst e1'
    cases o with
    | @cons _ _ _ _ _ f1 g1 _ o1 o2 hk =>
      obtain ⟨c, hc, ec, oc⟩ := rep_flat hf k hx e2 o2
      by_cases h : a = k
      · refine ⟨c, fun b => by have := hc b; have := hk b; omega, ?_, ?_⟩
        · show f (if a = k then (a, x) else (a, v)).1 :: _ = (if keq (f a) (f k) = true then (f a, q) else (f a, p)).1 :: _
          rw [hf, if_pos h, if_pos (by simpa using h)]
          exact congrArg _ ec
        · show Owns K mg H T d ((if a = k then (a, x) else (a, v)).2 :: _) ((if keq (f a) (f k) = true then (f a, q) else (f a, p)).2 :: _) c
          rw [hf, if_pos h, if_pos (by simpa using h)]
          exact .cons hx oc fun b => by omega
      · refine ⟨fun b => f1 b + c b, fun b => by have := hc b; have := hk b; show f1 b + c b ≤ gc b; omega, ?_, ?_⟩
        · show f (if a = k then (a, x) else (a, v)).1 :: _ = (if keq (f a) (f k) = true then (f a, q) else (f a, p)).1 :: _
          rw [hf, if_neg h, if_neg (by simpa using h)]
          exact congrArg _ ec
        · show Owns K mg H T d ((if a = k then (a, x) else (a, v)).2 :: _) ((if keq (f a) (f k) = true then (f a, q) else (f a, p)).2 :: _) _
          rw [hf, if_neg h, if_neg (by simpa using h)]
          exact .cons o1 oc fun _ => rfl
theorem any_rel (hf : ∀ a b, keq (f a) (f b) = decide (a = b)) (k : κ) : ∀ {es : List (κ × V)} {kvs : List (PV × PV)}, es.map (fun e => f e.1) = kvs.map (·.1) → (kvs.any fun kv => keq kv.1 (f k)) = es.any fun kv => decide (kv.1 = k)
  | [], [], _ => rfl
  | [], _ :: _, e => by simp at e
  | _ :: _, [], e => by simp at e
  | (a, v) :: es, (b, p) :: kvs, e => by
    rw [List.map_cons, List.map_cons] at e
    obtain ⟨e1, e2⟩ := List.cons.inj e
    have e1' : f a = b := e1
    subst e1'
    rw [List.any_cons, List.any_cons, hf, any_rel hf k e2]
theorem put_flat (hf : ∀ a b, keq (f a) (f b) = decide (a = b)) (k : κ) (hx : Own K mg H T d x q fun _ => 0) {es : List (κ × V)} {kvs : List (PV × PV)} {gc : Cnt} (e : es.map (fun e => f e.1) = kvs.map (·.1)) (o : Owns K mg H T d (es.map (·.2)) (kvs.map (·.2)) gc) :
    ∃ c : Cnt, (∀ b, c b ≤ gc b) ∧ (putK es k x).map (fun e => f e.1) = (dput kvs (f k) q).map (·.1) ∧ Owns K mg H T d ((putK es k x).map (·.2)) ((dput kvs (f k) q).map (·.2)) c := by
  unfold putK dput
  rw [any_rel hf k e]
  split
  · exact rep_flat hf k hx e o
  · refine ⟨gc, fun _ => Nat.le_refl _, by simp [e], ?_⟩
    rw [List.map_append, List.map_append]
    exact (o.append (.cons hx (.nil (f := fun _ => 0) fun _ => rfl) fun b => rfl)).cnt fun b => rfl
/-- a new key, any value -/
theorem put_new (hf : ∀ a b, keq (f a) (f b) = decide (a = b)) (k : κ) {q : PV} (hx : Own K mg H T d x q fx) {es : List (κ × V)} {kvs : List (PV × PV)} {gc : Cnt} (e : es.map (fun e => f e.1) = kvs.map (·.1)) (o : Owns K mg H T d (es.map (·.2)) (kvs.map (·.2)) gc) (hn : (kvs.any fun kv => keq kv.1 (f k)) = false) :
    (putK es k x).map (fun e => f e.1) = (dput kvs (f k) q).map (·.1) ∧ Owns K mg H T d ((putK es k x).map (·.2)) ((dput kvs (f k) q).map (·.2)) (fun b => gc b + fx b) := by
  have h2 := hn
  rw [any_rel hf k e] at h2
  unfold putK dput
  rw [hn, h2]
  simp only [Bool.false_eq_true, if_false]
  refine ⟨by simp [e], ?_⟩
  rw [List.map_append, List.map_append]
  exact o.append (.cons hx (.nil (f := fun _ => 0) fun _ => rfl) fun b => rfl)
end
end M

set_option Elab.async false
set_option linter.all false
set_option maxRecDepth 100000
set_option maxHeartbeats 4000000
/-! d[k] = v -/
namespace M
open PySem PySem.Spec PyProof.Rows L2
def dputS (env : LEnv) (i dv : Nat) (k v : PV) : Option LEnv := match env[i]? with
  | some (some s) => (match s.d, s.v with
    | d + 1, .dct t kvs => if isKey t k = true ∧ kvs.length < 16777216 ∧ (hgt v = 0 ∨ (kvs.any fun kv => keq kv.1 k) = false) then some (env.set i (some ⟨min d dv + 1, s.pin, .dct t (dput kvs k v)⟩)) else none
    | _, _ => none)
  | _ => none
def mDPut (i : Nat) (mk : MP PV) (me : ME (Nat × PV)) : MS := fun env => (me env).bind fun z => match mk z.2 with
  | .ok k => ofNx (dputS z.2 i z.1.1 k z.1.2)
  | _ => .stuck
section
variable {X : Cx} {W : WX} {a e value : Expr} {pos pos' p p2 : Pos} {mk : MP PV} {me : ME (Nat × PV)}
theorem dput_mk {K : PySem.W.Frag} {mg : Str → Option Value} {κ : Type} [DecidableEq κ] {f : κ → PV} (hf : ∀ a b, keq (f a) (f b) = decide (a = b)) {d d1 : Nat} {es : List (κ × V)} {kvs : List (PV × PV)} {key : κ} {x : V} {q : PV} (e1 : es.map (fun e => f e.1) = kvs.map (·.1))
    (hz : hgt q = 0 ∨ (kvs.any fun kv => keq kv.1 (f key)) = false) (gc' f' : Cnt) (H2 : Hp) (T2 : Cnt) (oc : Owns K mg H2 T2 (min d d1) (es.map (·.2)) (kvs.map (·.2)) gc') (o : Own K mg H2 T2 (min d d1) x q f') :
    ∃ c : Cnt, (∀ b, c b ≤ gc' b + f' b) ∧ (putK es key x).map (fun e => f e.1) = (dput kvs (f key) q).map (·.1) ∧ Owns K mg H2 T2 (min d d1) ((putK es key x).map (·.2)) ((dput kvs (f key) q).map (·.2)) c := by
  rcases hz with hz | hz
  · obtain ⟨c, hc, ec, o'⟩ := put_flat hf key (o.rep.own hz (min d d1) : Own K mg H2 _ _ x q fun _ => 0) e1 oc
    exact ⟨c, fun b => by have := hc b; omega, ec, o'⟩
  · obtain ⟨ec, o'⟩ := put_new hf key o e1 oc hz
    exact ⟨_, fun b => Nat.le_refl _, ec, o'⟩
theorem ss_dput {i : Nat} {x : Str} {px : Pos} (hu : X.A.units + 1 < cLine) (hv : PE X (.Name x px) (tVar i)) (hi : SP X W0 e mk) (he : SE X W value me) (hs : swapsWith value (some (.Subscript (.Name x px) e pos')) pos.line X.env = pure false := by rfl) :
    SS X W (.Assign [.Subscript (.Name x px) e pos'] value pos) (mDPut i mk me) := by
  refine (ps_dput hu hv hi he hs).weak fun D σ H ⟨env, σ0, τ, T, F, n, w⟩ => ?_
  refine ⟨env, σ0, τ, T, F, n, wpE_mono (wpE_S w) fun r e H' T' F' f sl su on fr w' x o => ?_⟩
  dsimp only at w'
  cases hk : mk e with
  | stuck => rw [hk] at w'; exact w'.elim
  | exc z => rw [hk] at w'; exact w'.elim
  | ok k =>
    rw [hk] at w'
    dsimp only at w'
    cases q : dputS e i r.1 k r.2 with
    | none => rw [q] at w'; exact w'.elim
    | some e2 =>
      rw [q] at w'
      have w2 : wpS W X.K X.mg σ0 τ H F (.ok (.nx e2)) D := w'
      unfold dputS at q
      split at q
      · rename_i s es
        obtain ⟨d0, pin, pv⟩ := s
        dsimp only at q
        split at q
        · rename_i d t kvs
          split at q
          · rename_i hz
            cases q
            obtain ⟨v, g, G, ev, og, slG, hG, hp⟩ := sl.get es
            refine ⟨v, ev, e, sl.sees, ?_⟩
            rw [hk]
            intro H3 g3 y ry
            cases og with
            | @dK1 _ fc _ l es' vs _ hH ek evs oc hg =>
              subst evs
              obtain ⟨key, hkey⟩ := Option.isSome_iff_exists.1 hz.1
              have ek' := keyK_some hkey
              subst ek'
              have ey : y = kV key := by cases key <;> (cases ry; rfl)
              subst ey
              have hl : es'.length < sizeLine := by
                have := congrArg List.length ek
                rw [List.length_map, List.length_map] at this
                rw [this, sizeLine_eq]; exact hz.2.1
              refine ⟨l, _, rfl, .k (g3 _ _ hH) hl, ?_⟩
              refine slot_wr (ps := kvs.map (·.2)) (d := d) (d1 := r.1) (ho := .dK es') (ho' := .dK (putK es' key x)) n (sl.grow g3) su on (fr.then_grow g3) es ev (o.grow g3) (fun g og => ?_) (fun z => z) w2
              cases og with
              | @dK1 _ fc2 _ _ es2 vs2 _ hH2 ek2 evs2 oc2 hg2 =>
                have : es2 = es' := by have h3 := g3 _ _ hH; rw [hH2] at h3; cases h3; rfl
                subst this
                subst evs2
                refine ⟨_, fc2, hH2, oc2, hg2, fun gc' f' H2 T2 oc' o' hl' => ?_⟩
                obtain ⟨c, hc, e3, o3⟩ := dput_mk keq_k ek2 hz.2.2 gc' f' H2 T2 oc' o'
                exact ⟨c, hc, .dK1 hl' e3 rfl o3 fun _ => rfl⟩
            | @dT1 _ fc _ l es' vs _ hH ek evs oc hg =>
              subst evs
              have hkk := hz.1
              unfold isKey at hkk
              split at hkk
              · rename_i ht; cases ht
              · rename_i ps
                obtain ⟨keys, hkey⟩ := Option.isSome_iff_exists.1 hkk
                have ek' := keysK_some hkey
                subst ek'
                cases ry with
                | @tup b vb _ hb rb =>
                  have evk : ∀ {vs : List V} {ks : List Key}, Reps X.K X.mg H3 vs (ks.map kP) → vs = ks.map kV := by
                    intro vs ks
                    induction ks generalizing vs with
                    | nil => intro r; cases r; rfl
                    | cons k ks ih =>
                      intro r
                      rw [List.map_cons] at r
                      cases r with
                      | cons r1 r2 =>
                        rw [ih r2]
                        cases k <;> (cases r1; rfl)
                  have e := evk rb
                  subst e
                  have hl : es'.length < sizeLine := by
                    have := congrArg List.length ek
                    rw [List.length_map, List.length_map] at this
                    rw [this, sizeLine_eq]; exact hz.2.1
                  refine ⟨l, _, rfl, .t (g3 _ _ hH) hb hl, ?_⟩
                  refine slot_wr (ps := kvs.map (·.2)) (d := d) (d1 := r.1) (ho := .dT es') (ho' := .dT (putK es' keys x)) n (sl.grow g3) su on (fr.then_grow g3) es ev (o.grow g3) (fun g og => ?_) (fun z => z) w2
                  cases og with
                  | @dT1 _ fc2 _ _ es2 vs2 _ hH2 ek2 evs2 oc2 hg2 =>
                    have : es2 = es' := by have h3 := g3 _ _ hH; rw [hH2] at h3; cases h3; rfl
                    subst this
                    subst evs2
                    refine ⟨_, fc2, hH2, oc2, hg2, fun gc' f' H2 T2 oc' o' hl' => ?_⟩
                    obtain ⟨c, hc, e3, o3⟩ := dput_mk (f := kPs) keq_t ek2 hz.2.2 gc' f' H2 T2 oc' o'
                    exact ⟨c, hc, .dT1 hl' e3 rfl o3 fun _ => rfl⟩
              · cases hkk
          · cases q
        · cases q
      · cases q
/-- {}, for keys of this kind -/
def mDNew (t : Bool) : ME (Nat × PV) := fun env => liftP env (Rs.ok (ε := Xn) ()) fun _ => some (9, PV.dct t [])
theorem se_dnewK : SE X W (.Dict [] [] pos) (mDNew false) := pe_dnewK.weak fun σ H Q ⟨env, σ0, τ, T, F, n, w⟩ => fun l na => by
  obtain ⟨q, e, k⟩ := wpE_lift n w H (.refl H)
  cases e
  refine k (upd H l (.dK [])) (fun b => if b = l then 1 else 0) (Grow.upd na) (fun a o e => if_neg ?_) (fun b => ?_) (.ref l) (.dK1 (es := []) (vs := []) upd_same rfl rfl (.nil (f := fun _ => 0) fun _ => rfl) fun b => (Nat.zero_add _).symm)
  · rintro rfl
    rw [e] at na; cases na
  · show (if b = l then 1 else 0) ≤ 1
    split <;> omega
theorem se_dnewT : SE X W (.Dict [] [] pos) (mDNew true) := pe_dnewT.weak fun σ H Q ⟨env, σ0, τ, T, F, n, w⟩ => fun l na => by
  obtain ⟨q, e, k⟩ := wpE_lift n w H (.refl H)
  cases e
  refine k (upd H l (.dT [])) (fun b => if b = l then 1 else 0) (Grow.upd na) (fun a o e => if_neg ?_) (fun b => ?_) (.ref l) (.dT1 (es := []) (vs := []) upd_same rfl rfl (.nil (f := fun _ => 0) fun _ => rfl) fun b => (Nat.zero_add _).symm)
  · rintro rfl
    rw [e] at na; cases na
  · show (if b = l then 1 else 0) ≤ 1
    split <;> omega
end
end M

set_option Elab.async false
set_option linter.all false
set_option maxRecDepth 100000
set_option maxHeartbeats 4000000
/-! xs[i] = v -/
namespace M
open PySem PySem.Spec PyProof.Rows L2
theorem Owns.setAt {K : PySem.W.Frag} {mg : Str → Option Value} {H : Hp} {T : Cnt} {d : Nat} {x : V} {q : PV} {fx : Cnt} (hx : Own K mg H T d x q fx) : ∀ {vs : List V} {ps : List PV} {gc : Cnt} (j : Nat), Owns K mg H T d vs ps gc →
    ∃ c : Cnt, (∀ b, c b ≤ gc b + fx b) ∧ Owns K mg H T d (vs.set j x) (ps.set j q) c
  | _, _, gc, j, .nil z => ⟨gc, fun b => Nat.le_add_right _ _, by simpa using Owns.nil z⟩
  | _, _, gc, 0, .cons (f := f) (g := g) o1 o2 hk => ⟨fun b => fx b + g b, fun b => by have := hk b; show fx b + g b ≤ _; omega, .cons hx o2 fun _ => rfl⟩
  | _, _, gc, j + 1, .cons (f := f) (g := g) o1 o2 hk => by
    obtain ⟨c, hc, o⟩ := Owns.setAt hx j o2
    exact ⟨fun b => f b + c b, fun b => by have := hk b; have := hc b; show f b + c b ≤ _; omega, .cons o1 o fun _ => rfl⟩
def lsetS (env : LEnv) (i dv : Nat) (k v : PV) : Option LEnv := match env[i]? with
  | some (some s) => (match s.d, s.v, k with
    | d + 1, .lst ps, .int z => (match ixN ps.length z with
      | some j => some (env.set i (some ⟨min d dv + 1, s.pin, .lst (ps.set j v)⟩))
      | none => none)
    | _, _, _ => none)
  | _ => none
def mLSet (i : Nat) (mk : MP PV) (me : ME (Nat × PV)) : MS := fun env => (me env).bind fun z => match mk z.2 with
  | .ok k => ofNx (lsetS z.2 i z.1.1 k z.1.2)
  | _ => .stuck
section
variable {X : Cx} {W : WX} {a e value : Expr} {pos pos' p p2 : Pos} {mk : MP PV} {me : ME (Nat × PV)}
theorem ss_lset {i : Nat} {x : Str} {px : Pos} (hv : PE X (.Name x px) (tVar i)) (hi : SP X W0 e mk) (he : SE X W value me) (hs : swapsWithSole [.Subscript (.Name x px) e pos'] value pos.line X.env = pure false := by rfl) (hw : swappedStores [.Subscript (.Name x px) e pos'] value X.env = pure none := by rfl)
    (h1 : (assignEach [.Subscript (.Name x px) e pos'] X.env).map (·.2) = [assign (.Subscript (.Name x px) e pos') X.env] := by rfl)
    (ha : ∀ v, assign (.Subscript (.Name x px) e pos') X.env v = (do
      let ov ← holding [v] (eval (.Name x px) X.env)
      let iv ← holding [v, ov] (eval e X.env)
      standAt pos'
      holding [v, ov, iv] (setItem ov iv v)
      release [v, ov, iv] []) := by intro _; rfl) : SS X W (.Assign [.Subscript (.Name x px) e pos'] value pos) (mLSet i mk me) := by
  refine (ps_asg he (pg_sub hv hi set_list ha) hs hw h1).weak fun D σ H ⟨env, σ0, τ, T, F, n, w⟩ => ?_
  refine ⟨env, σ0, τ, T, F, n, wpE_mono (wpE_S w) fun r e H' T' F' f sl su on fr w' x o => ?_⟩
  dsimp only at w'
  cases hk : mk e with
  | stuck => rw [hk] at w'; exact w'.elim
  | exc z => rw [hk] at w'; exact w'.elim
  | ok k =>
    rw [hk] at w'
    dsimp only at w'
    cases q : lsetS e i r.1 k r.2 with
    | none => rw [q] at w'; exact w'.elim
    | some e2 =>
      rw [q] at w'
      have w2 : wpS W X.K X.mg σ0 τ H F (.ok (.nx e2)) D := w'
      unfold lsetS at q
      split at q
      · rename_i s es
        obtain ⟨d0, pin, pv⟩ := s
        dsimp only at q
        split at q
        · rename_i d ps z
          split at q
          · rename_i j hj
            cases q
            obtain ⟨v, g, G, ev, og, slG, hG, hp⟩ := sl.get es
            refine ⟨v, ev, e, sl.sees, ?_⟩
            rw [hk]
            intro H3 g3 y ry
            obtain ⟨l, vs, fc, evl, hH, oc, hg⟩ := og.lstInv
            subst evl
            cases ry
            have hl : vs.length = ps.length := oc.rep.length
            refine ⟨l, vs, z, j, rfl, rfl, g3 _ _ hH, by rw [hl]; exact hj, ?_⟩
            refine slot_wr (ps := ps) (d := d) (d1 := r.1) (ho := .lst vs) (ho' := .lst (vs.set j x)) n (sl.grow g3) su on (fr.then_grow g3) es ev (o.grow g3) (fun g og => ?_) (fun z => z) w2
            obtain ⟨l2, vs2, fc2, evl2, hH2, oc2, hg2⟩ := og.lstInv
            cases evl2
            have : vs2 = vs := by have h3 := g3 _ _ hH; rw [hH2] at h3; cases h3; rfl
            subst this
            refine ⟨_, fc2, hH2, oc2, hg2, fun gc' f' H2 T2 oc' o' hl' => ?_⟩
            obtain ⟨c, hc, o3⟩ := Owns.setAt o' j oc'
            exact ⟨c, hc, .lst1 hl' o3 fun _ => rfl⟩
          · cases q
        · cases q
      · cases q
end
end M

set_option Elab.async false
set_option linter.all false
set_option maxRecDepth 100000
set_option maxHeartbeats 4000000
/-! xs.pop() -/
namespace M
open PySem PySem.Spec PyProof.Rows L2
theorem Owns.drop1 {K : PySem.W.Frag} {mg : Str → Option Value} {H : Hp} {T : Cnt} {d : Nat} : ∀ {vs : List V} {ps : List PV} {gc : Cnt}, Owns K mg H T d vs ps gc → ∃ c : Cnt, (∀ b, c b ≤ gc b) ∧ Owns K mg H T d vs.dropLast ps.dropLast c
  | _, _, gc, .nil z => ⟨gc, fun b => Nat.le_refl _, .nil z⟩
  | _, _, gc, .cons (f := f) (g := g) o1 (.nil z) hk => ⟨fun _ => 0, fun b => Nat.zero_le _, .nil fun _ => rfl⟩
  | _, _, gc, .cons (f := f) (g := g) o1 (.cons o2 o3 hk2) hk => by
    obtain ⟨c, hc, o⟩ := Owns.drop1 (Owns.cons o2 o3 hk2)
    exact ⟨fun b => f b + c b, fun b => by have := hk b; have := hc b; show f b + c b ≤ _; omega, .cons o1 o fun _ => rfl⟩
def mPop (i : Nat) : ME (Nat × PV) := fun env => match env[i]? with
  | some (some s) => (match s.d, s.v with
    | d + 1, .lst ps => (match ps[ps.length - 1]? with
      | some q => if hgt q = 0 then .ok ((8, q), env.set i (some ⟨min d 8 + 1, s.pin, .lst ps.dropLast⟩)) else .stuck
      | none => .stuck)
    | _, _ => .stuck)
  | _ => .stuck
section
variable {X : Cx} {W : WX} {pos p pa pc : Pos}
theorem se_pop {i : Nat} {x : Str} {px : Pos} (hv : PE X (.Name x px) (tVar i)) (hbase : attributeBase (.Name x px) "pop" X.env (eval (.Name x px) X.env) = eval (.Name x px) X.env := by rfl) (hline : (pa.endLine == pc.line) = true := by rfl) :
    SE X W (.Call (.Attribute (.Name x px) "pop" pa) [] [] pc) (mPop i) := by
  refine (pe_bm0 PySem.F.plainAttrs_list PySem.F.slot_list_pop PySem.F.type_list_pop mt_pop hv hbase hline).weak fun σ H Q ⟨env, σ0, τ, T, F, n, w⟩ => ?_
  unfold mPop at w
  split at w
  · rename_i s es
    obtain ⟨d0, pin, pv⟩ := s
    dsimp only at w
    split at w
    · rename_i d ps
      split at w
      · rename_i q hq
        split at w
        · rename_i hz
          obtain ⟨v, g, G, ev, og, slG, hG, hp⟩ := n.sl.get es
          obtain ⟨l, vs, fc, evl, hH, oc, hg⟩ := og.lstInv
          subst evl
          have hl : vs.length = ps.length := oc.rep.length
          obtain ⟨y, hy, ry⟩ : ∃ y, vs[vs.length - 1]? = some y ∧ Rep X.K X.mg H y q := by
            rw [hl]; exact oc.rep.get hq
          refine ⟨.ref l, ev, .inl ⟨rfl, _, SqL.of hH⟩, l, vs, y, rfl, rfl, hH, hy, ?_⟩
          have gg : σ = σ → Q y (upd H l (.lst vs.dropLast)) := by
            refine slot_wr (D := { nx := fun σ' H' => σ' = σ → Q y H', rt := fun _ _ => True, bk := fun _ _ => True, ct := fun _ _ => True }) (W := W) (ps := ps) (d := d) (d1 := 8) (x := .non) (q := .non) (f := fun _ => 0) (ho := .lst vs) (ho' := .lst vs.dropLast) (pv' := .lst ps.dropLast) n n.sl (fun b => by have := n.sum b; omega) n.one .refl es ev (.non fun _ => rfl) (fun g og => ?_) (fun z => z) (fun σ' H' T' F' n' fr' eσ => ?_)
            · obtain ⟨l2, vs2, fc2, evl2, hH2, oc2, hg2⟩ := og.lstInv
              cases evl2
              have : vs2 = vs := by rw [hH2] at hH; cases hH; rfl
              subst this
              refine ⟨_, fc2, hH2, oc2, hg2, fun gc' f' H2 T2 oc' o' hl' => ?_⟩
              obtain ⟨c, hc, o3⟩ := Owns.drop1 oc'
              exact ⟨c, fun b => Nat.le_trans (hc b) (Nat.le_add_right _ _), .lst1 hl' o3 fun _ => rfl⟩
            · subst eσ
              exact w H' T' F' (fun _ => 0) n'.sl (fun b => by have := n'.sum b; omega) n'.one fr' y ((Rep.still (fun a us h => fr'.keep a _ h (.inr trivial)) ry hz).own hz 8)
          exact gg rfl
        · exact w.elim
      · exact w.elim
    · exact w.elim
  · exact w.elim
end
end M

set_option Elab.async false
set_option linter.all false
set_option maxRecDepth 100000
set_option maxHeartbeats 4000000
/-! chains as tests; in over data of any depth -/
namespace M
open PySem PySem.Spec PyProof.Rows L2
section
variable {X : Cx} {W : WX} {a b c e : Expr} {pos p p2 : Pos} {m ma mb mc : MP PV}
theorem chain_te {r r' : R2} {g g' : PV → PV → Option PV} (hg : VOp X.K X.mg r g) (hg' : VOp X.K X.mg r' g') {σ : L2.St} {H : Hp} {Q : VK} (h : tSP X.K X.mg W (mChain g g' ma mb mc) σ H Q) : tChain r r' (tSP X.K X.mg W ma) (tSP X.K X.mg W mb) (tSP X.K X.mg W mc) σ H Q := by
  obtain ⟨env, s, w⟩ := h
  refine tsp_bind (k := fun env p => (mb env).bind fun q => (ofO (g p q)).bind fun z => match z with | .bl k => if k = true then (mc env).bind fun r => ofO (g' q r) else .ok (.bl false) | _ => .stuck) s w fun p x H1 g1 r1 s1 w1 => ?_
  refine tsp_bind (k := fun env q => (ofO (g p q)).bind fun z => match z with | .bl k => if k = true then (mc env).bind fun r => ofO (g' q r) else .ok (.bl false) | _ => .stuck) s1 w1 fun q y H2 g2 r2 s2 w2 => ?_
  obtain ⟨z, ez, q2⟩ := wpP_ofO (wpP_bind w2)
  refine hg H2 x y p q z _ (r1.grow g2) r2 ez fun v H3 g3 rv => ?_
  have w3 := q2 H3 g3
  cases rv with
  | bl k =>
    refine ⟨k, rfl, ?_⟩
    cases k with
    | false => exact w3 H3 (.refl _) _ (.bl _)
    | true =>
      refine tsp_bind (k := fun env r => ofO (g' q r)) (s2.grow g3) w3 fun r' y' H4 g4 r4 s4 w4 => ?_
      obtain ⟨z', ez', q4⟩ := wpP_ofO w4
      exact hg' H4 y y' q r' z' Q (r2.grow (g3.trans g4)) r4 ez' fun v H5 g5 rv => q4 H5 g5 v rv
  | _ => exact w3.elim
theorem spt_chain {op op' : CmpOp} {r r' : R2} {g g' : PV → PV → Option PV} (ho : OpR X (compareOp op) r) (hg : VOp X.K X.mg r g) (ho' : OpR X (compareOp op') r') (hg' : VOp X.K X.mg r' g') (ha : SP X W a ma) (hb : SP X W b mb) (hc : SP X W c mc)
    (hm : lastMarks [op, op'] [b, c] = false := by with_unfolding_all rfl) : SPT X W (.Compare a [op, op'] [b, c] pos) (mTst (mChain g g' ma mb mc)) := (pt_chain ho ho' ha hb hc hm).weak fun σ H Q h => chain_te hg hg' (tst_te h)
def anyEqv (d : PyData) : List PyData → Bool
  | [] => false
  | z :: r => PyData.eqv z d || anyEqv d r
theorem anyEqv_eq (d : PyData) : ∀ ds : List PyData, anyEqv d ds = ds.any fun z => PyData.eqv z d
  | [] => rfl
  | z :: r => by rw [anyEqv, List.any_cons, anyEqv_eq d r]
/-- x in a list, whatever data -/
def gInD (neg : Bool) (p q : PV) : Option PV := match py p, py q with
  | some d, some (.list ds) => if SeqAt.shaped d && SeqAt.shaped (.list ds) then some (.bl (if neg then !anyEqv d ds else anyEqv d ds)) else none
  | _, _ => none
theorem v_inD {K : PySem.W.Frag} {mg : Str → Option Value} : VOp K mg (rInD K) (gInD false) := fun H x y p q z Q r1 r2 e h => by
  unfold gInD at e
  split at e
  · rename_i d ds hd he
    split at e
    · rename_i hz
      rw [Bool.and_eq_true] at hz
      cases e
      exact ⟨d, ds, r1.dp hd, r2.dp he, hz.1, hz.2, by rw [← anyEqv_eq]; exact h _ H (.refl H) (.bl _)⟩
    · cases e
  · cases e
theorem v_notInD {K : PySem.W.Frag} {mg : Str → Option Value} : VOp K mg (rNotInD K) (gInD true) := fun H x y p q z Q r1 r2 e h => by
  unfold gInD at e
  split at e
  · rename_i d ds hd he
    split at e
    · rename_i hz
      rw [Bool.and_eq_true] at hz
      cases e
      exact ⟨d, ds, r1.dp hd, r2.dp he, hz.1, hz.2, by rw [← anyEqv_eq]; exact h _ H (.refl H) (.bl _)⟩
    · cases e
  · cases e
end
end M

set_option Elab.async false
set_option linter.all false
set_option maxRecDepth 100000
set_option maxHeartbeats 4000000
/-! sum, isinstance(x, bool), written dicts, d.update(d2), dict comprehensions -/
namespace M
open PySem PySem.Spec PyProof.Rows L2

theorem hu1 {n c : Nat} (h : n + 64 < c) : n + 1 < c := by omega
def intsO : List PV → Option (List Int)
  | [] => some []
  | .int i :: r => (intsO r).map (i :: ·)
  | _ => none
def gSum : List PV → Option PV
  | [.lst ps] => (intsO ps).map fun ns => .int ns.sum
  | _ => none
section
variable {K : PySem.W.Frag} {mg : Str → Option Value}
theorem intsO_rep {H : Hp} : ∀ {vs : List V} {ps : List PV} {ns : List Int}, Reps K mg H vs ps → intsO ps = some ns → vs = ns.map V.int
  | _, _, _, .nil, e => by cases e; rfl
  | _, _, _, @Reps.cons _ _ _ v vs p ps r1 r2, e => by
    cases p with
    | int i =>
      rw [intsO, Option.map_eq_some_iff] at e
      obtain ⟨ns', e, rfl⟩ := e
      cases r1
      rw [intsO_rep r2 e]; rfl
    | _ => cases e
theorem v_sum : COp K mg (rSum K) gSum := fun H xs ps z Q r e h => by
  unfold gSum at e
  split at e
  · rw [Option.map_eq_some_iff] at e
    obtain ⟨ns, e, rfl⟩ := e
    cases r with
    | cons r1 r2 =>
      cases r1; cases r2
      rename_i hs hr
      have := intsO_rep hr e
      subst this
      exact ⟨_, ns, rfl, hs.sq, h _ H (.refl H) (.int _)⟩
  · cases e
end

/-! ### isinstance(x, bool), true -/
def kIsBl : PV → Rs Xn PV
  | .bl _ => .ok (.bl true)
  | _ => .stuck
def mIsBl (m : MP PV) : MP PV := fun env => (m env).bind kIsBl
section
variable {X : Cx} {W : WX} {a b c e tg : Expr} {es : List Expr} {pos p p2 : Pos} {m : MP PV}
theorem sp_isBl (hm : X.mg "isinstance" = none) (hmb : X.mg "bool" = none) (h : SP X W a m) (hg : Gl X "isinstance" := by rfl) (hgb : Gl X "bool" := by rfl)
    (h1 : starEach [a, .Name "bool" p2] X.env = (false, eval a X.env) :: starEach [.Name "bool" p2] X.env := by rfl) (h2 : (backTo pos (starEach [.Name "bool" p2] X.env)).any (·.1) = false := by rfl) :
    SP X W (.Call (.Name "isinstance" p) [a, .Name "bool" p2] [] pos) (mIsBl m) :=
  (pe_callB call_isi (by first | assumption | rfl) hm (by first | rfl | decide +kernel) (pa_cons h (pa_cons (pe_bltn (v := .ty "bool") (u := .type "bool") hgb hmb (by first | rfl | decide +kernel) rfl) pa_nil) h1) (by decide) (by decide) h1 h2).weak fun σ H Q ⟨env, s, w⟩ =>
    tsp_bind (k := fun env p => kIsBl p) s w fun p x H1 g r s1 w1 => by
      cases r with
      | bl k => exact ⟨.bl k, .ty "bool", .type "bool", .type "bool", true, rfl, .ty _, .base (.bl k), kit_ty (by decide +kernel), w1 H1 (.refl _) _ (.bl true)⟩
      | _ => exact w1.elim
end

/-! ### plain values of the layer's values -/
def vP : V → PV
  | .bl b => .bl b
  | .int i => .int i
  | .str x => .str x
  | _ => .non
def scB : V → Bool
  | .non => true
  | .bl _ => true
  | .int _ => true
  | .str _ => true
  | _ => false
def dP (l : List (Key × V)) : List (PV × PV) := l.map fun kv => (kP kv.1, vP kv.2)
theorem scV_vP {p : PV} {v : V} (e : scV p = some v) : vP v = p ∧ scB v = true := by
  unfold scV at e
  split at e <;> cases e <;> exact ⟨rfl, rfl⟩
section
variable {K : PySem.W.Frag} {mg : Str → Option Value} {H : Hp} {T : Cnt}
theorem sc_own {v : V} (h : scB v = true) (d : Nat) : Own K mg H T d v (vP v) fun _ => 0 := by
  cases v with
  | non => exact .non fun _ => rfl
  | bl b => exact .bl b fun _ => rfl
  | int i => exact .int i fun _ => rfl
  | str x => exact .str x fun _ => rfl
  | _ => cases h
theorem sc_owns (d : Nat) : ∀ {l : List (Key × V)}, l.all (fun kv => scB kv.2) = true → Owns K mg H T d (l.map (·.2)) ((dP l).map (·.2)) fun _ => 0
  | [], _ => .nil fun _ => rfl
  | kv :: l, h => by
    rw [List.all_cons, Bool.and_eq_true] at h
    exact .cons (sc_own h.1 d) (sc_owns d h.2) fun _ => rfl
theorem dP_keys (l : List (Key × V)) : l.map (fun e => kP e.1) = (dP l).map (·.1) := by
  induction l with
  | nil => rfl
  | cons a l ih => show _ :: _ = _ :: _; rw [ih]; rfl
theorem sc_rep {l : List (Key × V)} {a : Addr} (e : H a = some (.dK l)) (h : l.all (fun kv => scB kv.2) = true) : Rep K mg H (.ref a) (.dct false (dP l)) := .dK e (dP_keys l) rfl (sc_owns (T := fun _ => 0) 0 h).rep
end
theorem put_sc {l : List (Key × V)} {k : Key} {v : V} (h : l.all (fun kv => scB kv.2) = true) (hv : scB v = true) : (putK l k v).all (fun kv => scB kv.2) = true := by
  unfold putK
  split
  · rw [List.all_map]
    refine List.all_eq_true.mpr fun kv hk => ?_
    have := List.all_eq_true.mp h kv hk
    show scB (if kv.1 = k then (kv.1, v) else kv).2 = true
    split
    · exact hv
    · exact this
  · rw [List.all_append, h]; simp [hv]
theorem merge_sc : ∀ {more l : List (Key × V)}, l.all (fun kv => scB kv.2) = true → more.all (fun kv => scB kv.2) = true → (mergeK l more).all (fun kv => scB kv.2) = true
  | [], _, h, _ => h
  | p :: r, l, h, h2 => by
    rw [List.all_cons, Bool.and_eq_true] at h2
    exact merge_sc (l := putK l p.1 p.2) (put_sc h h2.1) h2.2

/-! ### {k: v, ..}, of constants -/
def dispT (kvs : List (Key × V)) : List (TE × TE) := kvs.map fun kv => (tC (kV kv.1), tC kv.2)
def dispP (kvs : List (Key × V)) : PV := .dct false (dP (mergeK [] kvs))
theorem disp_pairs {σ : L2.St} {H : Hp} : ∀ {kvs : List (Key × V)} {Q : List (V × V) → Hp → Prop}, Q (kvs.map fun kv => (kV kv.1, kv.2)) H → tPairs (dispT kvs) σ H Q
  | [], _, h => h
  | kv :: r, Q, h => by
    show tPairs (dispT r) σ H fun ps H3 => Q ((kV kv.1, kv.2) :: ps) H3
    exact disp_pairs (Q := fun ps H3 => Q ((kV kv.1, kv.2) :: ps) H3) h
theorem sp_dispC {X : Cx} {W : WX} {pos : Pos} {keys : List (Option Expr)} {values : List Expr} {kvs : List (Key × V)} (h : PPs X pos keys values (dispT kvs)) (hall : keys.all (·.isSome) = true) (hl : keys.length = values.length) (h0 : keys ≠ [])
    (h15 : keys.length ≤ 15) (hk : kvs.length ≤ 15) (hs : kvs.all (fun kv => scB kv.2) = true) : SP X W (.Dict keys values pos) (mC (dispP kvs)) := PE.weak (pe_disp h hall hl h0 h15) fun σ H Q ⟨env, s, w⟩ => fun p hp =>
  disp_pairs ⟨upd_same, kvs, rfl, hk, w _ (by
    intro b x e
    have ne : b ≠ p := fun z => by rw [z, hp] at e; cases e
    rw [upd_ne ne, upd_ne ne]; exact e) _ (sc_rep upd_same (merge_sc rfl hs))⟩

/-! ### d.update(d2) -/
def rUpdate : V → List V → Hp → VK → Prop := fun x vs H Q => ∃ (l b : Addr) (es fs : List (Key × V)), x = .ref l ∧ vs = [.ref b] ∧ l ≠ b ∧ H l = some (.dK es) ∧ H b = some (.dK fs) ∧ es.length + fs.length ≤ sizeLine ∧ Q .non (upd H l (.dK (mergeK es fs)))
theorem mt_update {X : Cx} : MtR X "dict.update" rUpdate := by
  intro pins s σ H x vs v us Q I rx rv h
  obtain ⟨l, b, es, fs, ex, ev, ne, hH, hB, hz, q⟩ := h
  subst ex
  subst ev
  obtain rfl : v = Value.ref l := rx
  obtain ⟨u, eu, ru⟩ := rv.one
  subst eu
  obtain rfl : u = Value.ref b := ru
  obtain ⟨z1, hd1, vs1, rel1, dd1⟩ := dk_of I.hok hH
  obtain ⟨z2, hd2, vs2, rel2, dd2⟩ := dk_of I.hok hB
  have hl1 := rel1.length
  have hl2 := rel2.length
  refine call_meetsIn PySem.F.slot_dict_update dd1.typeIs PySem.F.entry_dict_update (PySem.F.args_dict_update_2 _ _) (PySem.meets_dict_update (mixKind X.prog X.w) l b ne hd2) ⟨vs1, vs2, dd1, dd2, by omega, fun h' dd' _ hs => ?_⟩
  have he : ∃ q, h'.get? l = some q := let ⟨q, _, _, hq, _⟩ := dd'; ⟨q, hq⟩
  have hz' : (mergeK es fs).length ≤ sizeLine := by have := length_mergeK fs es; omega
  exact ⟨.non, _, d_write I (by rw [hH]; exact True.intro) hs he (dk_new hz' hd1 (rel2.merge rel1) dd'), rfl, q⟩
def scPairs : List (PV × PV) → Bool
  | [] => true
  | kv :: r => (scV kv.2).isSome && scPairs r
def dmerge (kvs more : List (PV × PV)) : List (PV × PV) := more.foldl (fun a kv => dput a kv.1 kv.2) kvs
def dupdS (env : LEnv) (i dv : Nat) (v : PV) : Option LEnv := match env[i]? with
  | some (some s) => (match s.d, s.v, dv, v with
    | d + 1, .dct false kvs, dw + 1, .dct false more => if scPairs more = true ∧ kvs.length + more.length ≤ 16777216 then some (env.set i (some ⟨min d (dw + 1) + 1, s.pin, .dct false (dmerge kvs more)⟩)) else none
    | _, _, _, _ => none)
  | _ => none
def isDctS (env : LEnv) (i : Nat) : Bool := match env[i]? with
  | some (some s) => isDct s.v
  | _ => false
def mDUpd (i : Nat) (me : ME (Nat × PV)) : MS := fun env => if isDctS env i = true then (me env).bind fun z => ofNx (dupdS z.2 i z.1.1 z.1.2) else .stuck
theorem isDctS_at {K : PySem.W.Frag} {mg : Str → Option Value} {H : Hp} {env : LEnv} {σ : L2.St} {i : Nat} (h : isDctS env i = true) (s : Sees K mg H env σ) : ∃ a, σ[i]? = some (some (.ref a)) ∧ tyV K "dict" (.ref a) H := by
  unfold isDctS at h
  split at h
  · rename_i sl e
    obtain ⟨v, e1, r⟩ := s.1 i sl e
    obtain ⟨d, pn, pv⟩ := sl
    cases pv with
    | dct t kvs =>
      cases r with
      | dK hs _ _ _ => exact ⟨_, e1, .inr (.inr (.inl ⟨rfl, .inl ⟨_, hs⟩⟩))⟩
      | dT hs _ _ _ => exact ⟨_, e1, .inr (.inr (.inl ⟨rfl, .inr ⟨_, hs⟩⟩))⟩
    | _ => cases h
  · cases h
/-- scalars are themselves at any heap -/
theorem sc_of {K : PySem.W.Frag} {mg : Str → Option Value} {H : Hp} : ∀ {fs : List (Key × V)} {more : List (PV × PV)}, fs.map (fun e => kP e.1) = more.map (·.1) → Reps K mg H (fs.map (·.2)) (more.map (·.2)) → scPairs more = true → more = dP fs ∧ fs.all (fun kv => scB kv.2) = true
  | [], [], _, _, _ => ⟨rfl, rfl⟩
  | [], _ :: _, e, _, _ => by simp at e
  | _ :: _, [], e, _, _ => by simp at e
  | (k, v) :: fs, (k2, p) :: more, e, r, h => by
    rw [List.map_cons, List.map_cons] at e r
    obtain ⟨e1, e2⟩ := List.cons.inj e
    rw [scPairs, Bool.and_eq_true] at h
    cases r with
    | cons r1 r2 =>
      obtain ⟨h3, h4⟩ := sc_of e2 r2 h.2
      obtain ⟨v', hv⟩ := Option.isSome_iff_exists.1 h.1
      have hv' : scV p = some v' := hv
      obtain ⟨e3, _⟩ := scV_rep r1 hv'
      obtain ⟨e4, e5⟩ := scV_vP hv'
      have e3' : v = v' := e3
      subst e3'
      refine ⟨?_, ?_⟩
      · show (k2, p) :: more = (kP k, vP v) :: dP fs
        rw [e4, ← h3]
        exact congrArg (fun z => (z, p) :: more) e1.symm
      · rw [List.all_cons, h4, e5]; rfl
theorem merge_own {K : PySem.W.Frag} {mg : Str → Option Value} {H : Hp} {T : Cnt} {d : Nat} : ∀ {fs es : List (Key × V)} {kvs : List (PV × PV)} {gc : Cnt}, fs.all (fun kv => scB kv.2) = true → es.map (fun e => kP e.1) = kvs.map (·.1) → Owns K mg H T d (es.map (·.2)) (kvs.map (·.2)) gc →
    ∃ c : Cnt, (∀ b, c b ≤ gc b) ∧ (mergeK es fs).map (fun e => kP e.1) = (dmerge kvs (dP fs)).map (·.1) ∧ Owns K mg H T d ((mergeK es fs).map (·.2)) ((dmerge kvs (dP fs)).map (·.2)) c
  | [], es, kvs, gc, _, e, o => ⟨gc, fun _ => Nat.le_refl _, e, o⟩
  | (k, v) :: fs, es, kvs, gc, h, e, o => by
    rw [List.all_cons, Bool.and_eq_true] at h
    obtain ⟨c1, hc1, e1, o1⟩ := put_flat (f := kP) keq_k k (sc_own h.1 d) e o
    obtain ⟨c2, hc2, e2, o2⟩ := merge_own h.2 e1 o1
    exact ⟨c2, fun b => Nat.le_trans (hc2 b) (hc1 b), e2, o2⟩
section
variable {X : Cx} {W : WX} {a b c e tg iter : Expr} {es : List Expr} {pos p p2 : Pos} {m : MP PV} {me : ME (Nat × PV)}
theorem ss_dupd {i : Nat} {x : Str} {px pa pc : Pos} (hv : PE X (.Name x px) (tVar i)) (he : SE X W a me) (hst : starEach [a] X.env = (false, eval a X.env) :: starEach [] X.env := by rfl)
    (hbase : attributeBase (.Name x px) "update" X.env (eval (.Name x px) X.env) = eval (.Name x px) X.env := by rfl)
    (hfew : ((backTo pc (starEach [a] X.env)).all (fun x => !x.1) && (backToKw pc (keywordEach [] X.env)).all (fun x => x.1.isSome)
      && decide ([a].length + ([] : List Keyword).length + (if ([] : List Keyword).isEmpty then 0 else 1) < 30)) = true := by rfl)
    (hline : (pa.endLine == pc.line) = true := by rfl) (hplain : (backTo pc (starEach [] X.env)).any (·.1) = false := by rfl)
    (hs : swapsWith (.Call (.Attribute (.Name x px) "update" pa) [a] [] pc) none pos.line X.env = pure false := by rfl) : SS X W (.Expr (.Call (.Attribute (.Name x px) "update" pa) [a] [] pc) pos) (mDUpd i me) :=
  (ps_expr (pe_bm PySem.F.plainAttrs_dict PySem.F.slot_dict_update PySem.F.type_dict_update mt_update hv (pa_cons he pa_nil hst) hbase hfew hline hst hplain) hs).weak fun D σ H ⟨env, σ0, τ, T, F, n, w⟩ => by
    unfold mDUpd at w
    split at w
    case isFalse => exact w.elim
    rename_i hi
    obtain ⟨l, e1, ty⟩ := isDctS_at hi n.sees
    refine ⟨.ref l, e1, ty, env, σ0, τ, T, F, n, wpE_mono (wpE_S w) fun r e H' T' F' f sl su on fr w' x o => ?_⟩
    dsimp only at w'
    cases q : dupdS e i r.1 r.2 with
    | none => rw [q] at w'; exact w'.elim
    | some e2 =>
      rw [q] at w'
      have w2 : wpS W X.K X.mg σ0 τ H F (.ok (.nx e2)) D := w'
      unfold dupdS at q
      split at q
      case h_2 => cases q
      rename_i s es
      obtain ⟨d0, pin, pv⟩ := s
      dsimp only at q
      split at q
      case h_2 => cases q
      rename_i d kvs dw more hdw hmore
      rw [hdw, hmore] at o
      split at q
      case isFalse => cases q
      rename_i hz
      cases q
      obtain ⟨v, g, G, ev, og, slG, hG, hp⟩ := sl.get es
      rw [e1] at ev; cases ev
      cases og with
      | @dK1 _ fc _ _ es' vs _ hH ek evs oc hg =>
        subst evs
        cases o with
        | @dK1 _ gc2 _ b fs vs2 _ hB ek2 evs2 oc2 hg2 =>
          subst evs2
          have ne : l ≠ b := by
            rintro rfl
            have h1 := hg l; have h2 := hg2 l; have h3 := on l; have h4 := su l; have h5 := hG l
            rw [if_pos rfl] at h1 h2
            omega
          obtain ⟨em, hsc⟩ := sc_of ek2 oc2.rep hz.1
          have lk := congrArg List.length ek
          have lk2 := congrArg List.length ek2
          simp only [List.length_map] at lk lk2
          refine ⟨l, b, es', fs, rfl, rfl, ne, hH, hB, by rw [sizeLine_eq, lk, lk2]; exact hz.2, ?_⟩
          refine slot_wr (ps := kvs.map (·.2)) (d := d) (d1 := dw + 1) (ho := .dK es') (ho' := .dK (mergeK es' fs)) n sl su on fr es e1 (.dK1 hB ek2 rfl oc2 hg2) (fun g og => ?_) (fun z => z) w2
          cases og with
          | @dK1 _ fc3 _ _ es3 vs3 _ hH3 ek3 evs3 oc3 hg3 =>
            have : es3 = es' := by rw [hH] at hH3; cases hH3; rfl
            subst this
            subst evs3
            refine ⟨_, fc3, hH3, oc3, hg3, fun gc' f' H2 T2 oc' o' hl' => ?_⟩
            obtain ⟨c, hc, e3, o3⟩ := merge_own hsc ek3 oc'
            rw [em]
            exact ⟨c, fun b => Nat.le_trans (hc b) (Nat.le_add_right _ _), .dK1 hl' e3 rfl o3 fun _ => rfl⟩
end
end M

set_option Elab.async false
set_option linter.all false
set_option maxRecDepth 100000
set_option maxHeartbeats 4000000
/-! {k: v for t in it if c}, scalars -/
namespace M
open PySem PySem.Spec PyProof.Rows L2
def tSPD (K : PySem.W.Frag) (mg : Str → Option Value) (W : WX) (m : MP (List (Key × V))) : TE := fun σ H Q => ∃ env, Sees K mg H env σ ∧ wpP W K mg σ H (m env) fun es H' => ∀ l, H' l = none → Q (.ref l) (upd H' l (.dK es))
def SPD (X : Cx) (W : WX) (e : Expr) (m : MP (List (Key × V))) : Prop := PE X e (tSPD X.K X.mg W m)
def compD (t : Tg) (mt : MP Bool) (mk mv : MP PV) (env : LEnv) : List PV → Option (List (Key × V))
  | [] => some []
  | p :: r => (setT t 0 p env).bind fun e => (noX (mt e)).bind fun b => if b = true then (noX (mk e)).bind fun y => (keyK y).bind fun k => (noX (mv e)).bind fun z => (scV z).bind fun v => (compD t mt mk mv env r).map ((k, v) :: ·) else compD t mt mk mv env r
def mDComp (vs : List Nat) (t : Tg) (mi : MP (List PV)) (mt : MP Bool) (mk mv : MP PV) : MP (List (Key × V)) := fun env => (mi env).bind fun ps => ofO (if sizeOk ps.length = true then (compD t mt mk mv (wipeE env vs) ps).map (mergeK []) else none)
def mNewD (m : MP (List (Key × V))) : ME (Nat × PV) := fun env => liftP env (m env) fun es => if es.all (fun kv => scB kv.2) = true then some (9, .dct false (dP es)) else none
section
variable {K : PySem.W.Frag} {mg : Str → Option Value} {W : WX} {t : Tg} {mi : MP (List PV)} {mt : MP Bool} {mk mv : MP PV}
theorem merge_snoc (l more : List (Key × V)) (k : Key) (v : V) : mergeK l (more ++ [(k, v)]) = putK (mergeK l more) k v := by
  unfold mergeK
  rw [List.foldl_append]; rfl
theorem key_rep {H : Hp} {x : V} {p : PV} {k : Key} (r : Rep K mg H x p) (e : keyK p = some k) : x = kV k := by
  have := keyK_some e
  subst this
  cases k <;> (cases r; rfl)
theorem dc_read {vs' : List Nat} {σ : L2.St} {H : Hp} {Q : VK} (hl : (tgN t).all (fun j => vs'.contains j) = true) : tSPD K mg W (mDComp vs' t mi mt mk mv) σ H Q → tDc (tSI K mg W mi) (tPG K mg t) (tSPT K mg W0 mt) (tSP K mg W0 mk) (tSP K mg W0 mv) vs' σ H Q := fun ⟨env, s, w⟩ => ⟨env, s, by
  refine wpP_mono (wpP_bind w) fun ps H1 g w1 J hJ D hD => ?_
  obtain ⟨zs, ez, q⟩ := wpP_ofO w1
  obtain ⟨vs, rv, there, th, t1, t2, go, stop, yld⟩ := hJ
  split at ez
  case isFalse => cases ez
  rename_i hz
  rw [Option.map_eq_some_iff] at ez
  obtain ⟨prs, ec, ez⟩ := ez
  have len := rv.length
  have s1 := s.grow g
  have hz' := sizeOk_le hz
  refine ⟨fun i n H => n = ps.length - i ∧ i ≤ ps.length ∧ ∃ G acc rest, H = upd G D (.dK (mergeK [] acc)) ∧ G D = none ∧ Grow H1 G ∧ there G ∧ acc.length ≤ i ∧ compD t mt mk mv (wipeE env vs') (ps.drop i) = some rest ∧ prs = acc ++ rest,
    ⟨ps.length, rfl, Nat.zero_le _, H1, [], prs, rfl, hD, .refl _, th, Nat.zero_le _, ec, rfl⟩, ?_⟩
  rintro i n H ⟨rfl, hi, G, acc, rest, rfl, hG, gg, th, la, ecr, ep⟩
  have gD : Grow G (upd G D (.dK (mergeK [] acc))) := Grow.upd hG
  have thD := t1 _ _ th gD
  by_cases hlt : i < ps.length
  · have hv : i < vs.length := by rw [len]; exact hlt
    refine .inr ⟨go i _ vs[i] thD (by simp [hv]), fun H' => i + 1 ≤ ps.length ∧ ∃ G acc rest, H' = upd G D (.dK (mergeK [] acc)) ∧ G D = none ∧ Grow H1 G ∧ there G ∧ acc.length ≤ i + 1 ∧ compD t mt mk mv (wipeE env vs') (ps.drop (i + 1)) = some rest ∧ prs = acc ++ rest,
      fun H' ⟨a, b⟩ => ⟨ps.length - (i + 1), by omega, rfl, a, b⟩, fun x H' y => ?_⟩
    obtain ⟨rfl, hx⟩ := yld i _ x H' hv thD y
    have hd : ps.drop i = ps[i] :: ps.drop (i + 1) := List.drop_eq_getElem_cons hlt
    rw [hd, compD, Option.bind_eq_some_iff] at ecr
    obtain ⟨e2, es2, ecr⟩ := ecr
    rw [Option.bind_eq_some_iff] at ecr
    obtain ⟨b, eb, ecr⟩ := ecr
    obtain ⟨v, ev, rx⟩ := rv.get (i := i) (p := ps[i]) (by simp [hlt])
    rw [hx] at ev; cases ev
    have g2 : Grow H1 (upd G D (.dK (mergeK [] acc))) := gg.trans gD
    have sw := wipe_sees (s1.grow g2) vs'
    refine ⟨_, _, _, e2, .refl _, sw, rx.grow g2, es2, fun σ2 s2 l2 k2 => ⟨?_, e2, s2, noX_wp eb fun H3 g3 => ?_⟩⟩
    · refine (wipe_eq (σ := wipe σ vs') l2 fun j hj => k2 j fun z => hj ?_).trans ?_
      · have := List.all_eq_true.mp hl j z
        simpa using this
      · refine List.ext_getElem? fun j => ?_
        rw [wipe_get, wipe_get, wipe_length]
        by_cases h : j ∈ vs'
        · simp [h]
        · simp [h]
    · have eD : H3 D = some (.dK (mergeK [] acc)) := g3 _ _ upd_same
      let G3 : Hp := fun b => if b = D then none else H3 b
      have g3D : G3 D = none := if_pos rfl
      have gG : Grow G G3 := fun c o e => by
        have ne : c ≠ D := fun z => by rw [z, hG] at e; cases e
        show (if c = D then none else H3 c) = some o
        rw [if_neg ne]; exact g3 c o (by rw [upd_ne ne]; exact e)
      cases b with
      | false =>
        refine ⟨hlt, G3, acc, rest, ?_, g3D, gg.trans gG, t1 _ _ th gG, by omega, by simpa using ecr, ep⟩
        funext c
        by_cases hc : c = D
        · subst hc; rw [upd_same]; exact eD
        · rw [upd_ne hc]; exact (if_neg hc).symm
      | true =>
        rw [if_pos rfl, Option.bind_eq_some_iff] at ecr
        obtain ⟨y, ey, ecr⟩ := ecr
        rw [Option.bind_eq_some_iff] at ecr
        obtain ⟨k, ek, ecr⟩ := ecr
        rw [Option.bind_eq_some_iff] at ecr
        obtain ⟨z, ezz, ecr⟩ := ecr
        rw [Option.bind_eq_some_iff] at ecr
        obtain ⟨v, evv, ecr⟩ := ecr
        rw [Option.map_eq_some_iff] at ecr
        obtain ⟨rest', ecr, rfl⟩ := ecr
        refine ⟨e2, s2.grow g3, noX_wp ey fun H4 g4 ky rk => ⟨e2, (s2.grow g3).grow g4, noX_wp ezz fun H5 g5 vv rvv => ?_⟩⟩
        have eky := key_rep rk ek
        obtain ⟨evv2, _⟩ := scV_rep rvv evv
        subst evv2
        have g35 := g3.trans (g4.trans g5)
        have eD5 : H5 D = some (.dK (mergeK [] acc)) := g35 _ _ upd_same
        let G5 : Hp := fun b => if b = D then none else H5 b
        have g5D : G5 D = none := if_pos rfl
        have gG5 : Grow G G5 := fun c o e => by
          have ne : c ≠ D := fun z => by rw [z, hG] at e; cases e
          show (if c = D then none else H5 c) = some o
          rw [if_neg ne]; exact g35 c o (by rw [upd_ne ne]; exact e)
        refine ⟨mergeK [] acc, k, eky, eD5, ?_, hlt, G5, acc ++ [(k, vv)], rest', ?_, g5D, gg.trans gG5, t1 _ _ th gG5, by simp; omega, ecr, by rw [ep, List.append_assoc]; rfl⟩
        · have := length_mergeK acc []
          simp at this
          omega
        · rw [merge_snoc]
          funext c
          by_cases hc : c = D
          · subst hc; rw [upd_same, upd_same]
          · rw [upd_ne hc, upd_ne hc]; exact (if_neg hc).symm
  · have e : i = ps.length := by omega
    subst e
    rw [List.drop_length, compD] at ecr
    cases ecr
    rw [List.append_nil] at ep
    subst ep
    refine .inl ⟨stop _ _ thD (by rw [len]; exact Nat.le_refl _), ?_⟩
    subst ez
    exact q G gg D hG⟩
end
section
variable {X : Cx} {W : WX} {a k v tg : Expr} {es : List Expr} {pos : Pos} {t : Tg} {mi : MP (List PV)} {mt : MP Bool} {mk mv : MP PV} {e : Expr} {m : MP (List (Key × V))}
theorem sd_dc {scope : Scope} {own : List (Str × Nat)} (hc : X.calm = true) (hN : X.N.Nodup) (hi : SI X W tg a mi) (ok : BlkOk X.N X.env.scope scope own) (hl : (tgN t).all (fun j => (own.map (·.2)).contains j) = true)
    (hg : ∀ (s : Shared) (H : Hp) (C : Addr) (cl : List (Str × Addr)) (fp : List Addr), PGm (X.blk s H scope (compEnvC scope cl C X.env) fp) tg t) (ht : ∀ (s : Shared) (H : Hp) (C : Addr) (cl : List (Str × Addr)) (fp : List Addr), SPTs (X.blk s H scope (compEnvC scope cl C X.env) fp) W0 es mt)
    (hk : ∀ (s : Shared) (H : Hp) (C : Addr) (cl : List (Str × Addr)) (fp : List Addr), SP (X.blk s H scope (compEnvC scope cl C X.env) fp) W0 k mk)
    (hv : ∀ (s : Shared) (H : Hp) (C : Addr) (cl : List (Str × Addr)) (fp : List Addr), SP (X.blk s H scope (compEnvC scope cl C X.env) fp) W0 v mv) (hs : ∀ x, foldedSetIterable a X.env x = pure x := by intro _; rfl) :
    SPD X W (.DictComp k v [⟨tg, a, es, 0⟩] scope pos) (mDComp (own.map (·.2)) t mi mt mk mv) :=
  PE.weak (pe_dc (g := tPG X.K X.mg t) (tt := tSPT X.K X.mg W0 mt) (tk := tSP X.K X.mg W0 mk) (tv := tSP X.K X.mg W0 mv) hc hN hi ok hg ht hk hv hs) fun σ H Q => dc_read hl
theorem se_newD (h : SPD X W e m) : SE X W e (mNewD m) := h.weak fun σ H Q ⟨env, σ0, τ, T, F, n, w⟩ => ⟨env, n.sees, wpP_mono (wpE_lift n w) fun es H1 g ⟨b, eb, k⟩ l na => by
  split at eb
  case isFalse => cases eb
  rename_i hsc
  cases eb
  refine k (upd H1 l (.dK es)) (fun b => if b = l then 1 else 0) (g.trans (Grow.upd na)) (fun a o e => if_neg ?_) (fun b => ?_) (.ref l) ?_
  · rintro rfl
    have := g _ _ e
    rw [na] at this; cases this
  · show (if b = l then 1 else 0) ≤ 1
    split <;> omega
  · exact .dK1 upd_same (dP_keys es) rfl (sc_owns 8 hsc) fun b => (Nat.zero_add _).symm⟩
end
end M

set_option Elab.async false
set_option linter.all false
set_option maxRecDepth 100000
set_option maxHeartbeats 4000000
/-! the newer pieces, worked out -/
namespace M
open PySem PySem.Spec PyProof.Rows L2
section
variable (ma mb md mk mx mv : MP PV) (mt mu : MP Bool) (ms mi : MP (List PV)) (me : ME (Nat × PV)) (env : LEnv) (i j n : Nat) (t : Tg) (m : MP (List (Key × V)))
@[simp] theorem ev_mIsBl : mIsBl ma env = (ma env).bind kIsBl := rfl
@[simp] theorem ev_kIsBl (b : Bool) : kIsBl (.bl b) = .ok (.bl true) := rfl
@[simp] theorem ev_mDNew (t : Bool) : mDNew t env = .ok ((9, .dct t []), env) := rfl
@[simp] theorem ev_mNewD : mNewD m env = liftP env (m env) fun es => if es.all (fun kv => scB kv.2) = true then some (9, .dct false (dP es)) else none := rfl
@[simp] theorem ev_mDUpd : mDUpd i me env = if isDctS env i = true then (me env).bind fun z => ofNx (dupdS z.2 i z.1.1 z.1.2) else .stuck := rfl
@[simp] theorem ev_isDctS : isDctS env i = (match env[i]? with | some (some s) => isDct s.v | _ => false) := rfl
@[simp] theorem ev_isDct (t : Bool) (kvs : List (PV × PV)) : isDct (.dct t kvs) = true := rfl
@[simp] theorem ev_mDComp (vs : List Nat) : mDComp vs t mi mt mk mv env = (mi env).bind fun ps => ofO (if sizeOk ps.length = true then (compD t mt mk mv (wipeE env vs) ps).map (mergeK []) else none) := rfl
@[simp] theorem ev_gDIn (neg t : Bool) (k : PV) (kvs : List (PV × PV)) : gDIn neg k (.dct t kvs) = if isKey t k = true then some (.bl (if neg then !(look kvs k).isSome else (look kvs k).isSome)) else none := rfl
@[simp] theorem ev_gDGet (t : Bool) (k : PV) (kvs : List (PV × PV)) : gDGet (.dct t kvs) k = if isKey t k = true then look kvs k else none := rfl
@[simp] theorem ev_isKeyI (i : Int) : isKey false (.int i) = true := rfl
@[simp] theorem ev_isKeyS (x : Str) : isKey false (.str x) = true := rfl
@[simp] theorem ev_gMin (i j : Int) : gMin [.int i, .int j] = some (.int (if j < i then j else i)) := by unfold gMin; simp [ltZ_eq]
@[simp] theorem ev_gMax (i j : Int) : gMax [.int i, .int j] = some (.int (if i < j then j else i)) := by unfold gMax; simp [ltZ_eq]
@[simp] theorem ints_O : ∀ l : List Int, intsO (l.map .int) = some l
  | [] => rfl
  | i :: l => by rw [List.map_cons, intsO, ints_O l]; rfl
@[simp] theorem ev_gSum (l : List Int) : gSum [.lst (l.map .int)] = some (.int l.sum) := by
  show (intsO (l.map .int)).map (fun ns => PV.int ns.sum) = _
  rw [ints_O]; rfl
end
/-- a comprehension over numbers that sorts out -/
theorem compF_filter {t : Tg} {mt : MP Bool} {me : MP PV} {env : LEnv} {p : Int → Bool} : ∀ {l : List Int}, (∀ i ∈ l, ∃ e, setT t 0 (.int i) env = some e ∧ mt e = .ok (p i) ∧ (p i = true → me e = .ok (.int i))) → compF t mt me env (l.map .int) = some ((l.filter p).map .int)
  | [], _ => by rw [List.map_nil, compF]; rfl
  | i :: l, h => by
    obtain ⟨e, h1, h2, h3⟩ := h i List.mem_cons_self
    have ih := compF_filter (l := l) (fun j hj => h j (List.mem_cons_of_mem _ hj))
    rw [List.map_cons, compF, h1]
    simp only [Option.bind_some, h2, noX]
    cases hp : p i with
    | true =>
      simp only [if_true, h3 hp, noX, Option.bind_some, ev_hInt, ih, Option.map_some]
      rw [List.filter_cons, hp]; rfl
    | false =>
      rw [List.filter_cons, hp]
      simp only [Bool.false_eq_true, if_false]
      exact ih
theorem comp_filter {vs : List Nat} {t : Tg} {mi : MP (List PV)} {mt : MP Bool} {me : MP PV} {env : LEnv} {p : Int → Bool} {l : List Int} (hi : mi env = .ok (l.map .int)) (hz : l.length ≤ 16777216) (h : ∀ i ∈ l, ∃ e, setT t 0 (.int i) (wipeE env vs) = some e ∧ mt e = .ok (p i) ∧ (p i = true → me e = .ok (.int i))) :
    mComp vs t mi mt me env = .ok ((l.filter p).map .int) := by
  unfold mComp
  rw [hi]
  show ofO ((compF t mt me (wipeE env vs) (l.map .int)).bind szL) = _
  rw [compF_filter h]
  show ofO (szL ((l.filter p).map .int)) = _
  unfold szL
  rw [if_pos (show sizeOk ((l.filter p).map PV.int).length = true from decide_eq_true (by rw [List.length_map]; exact Nat.le_trans (List.length_filter_le _ _) hz))]
  rfl
/-- numbers from 1 on -/
def nums (n : Nat) : List Int := (List.range n).map fun (i : Nat) => 1 + (i : Int)
theorem rngs_nums (n : Nat) : rngs 1 n = (nums n).map .int := by
  unfold rngs nums
  rw [List.map_map]; rfl
theorem mem_nums {n : Nat} {x : Int} : x ∈ nums n ↔ 0 < x ∧ x ≤ n := by
  unfold nums
  rw [List.mem_map]
  constructor
  · rintro ⟨i, hi, rfl⟩
    rw [List.mem_range] at hi
    omega
  · rintro ⟨h1, h2⟩
    exact ⟨(x - 1).toNat, by rw [List.mem_range]; omega, by omega⟩
theorem sorted_nums (n : Nat) : (nums n).Pairwise (· < ·) := by
  unfold nums
  rw [List.pairwise_map]
  exact (List.pairwise_lt_range (n := n)).imp fun h => by omega
theorem len_nums (n : Nat) : (nums n).length = n := by unfold nums; simp
/-! keys of a dict of numbers -/
def hasI (kvs : List (PV × PV)) (x : Int) : Bool := kvs.any fun kv => keq kv.1 (.int x)
theorem look_has (kvs : List (PV × PV)) (x : Int) : (look kvs (.int x)).isSome = hasI kvs x := by
  unfold look hasI
  induction kvs with
  | nil => rfl
  | cons a l ih =>
    rw [List.find?_cons, List.any_cons]
    cases h : keq a.1 (.int x) with
    | true => rfl
    | false => simpa using ih
theorem keq_int {p : PV} {i : Int} (h : keq p (.int i) = true) : p = .int i := by
  cases p <;> simp [keq, keq1] at h
  rw [h]
theorem has_dput (kvs : List (PV × PV)) (i x : Int) (v : PV) : hasI (dput kvs (.int i) v) x = (hasI kvs x || decide (i = x)) := by
  unfold dput
  split
  · rename_i h
    have e : hasI (kvs.map fun kv => if keq kv.1 (.int i) = true then (kv.1, v) else kv) x = hasI kvs x := by
      unfold hasI
      rw [List.any_map]
      congr 1
      funext kv
      show keq (if keq kv.1 (.int i) = true then (kv.1, v) else kv).1 (.int x) = _
      split <;> rfl
    rw [e]
    by_cases hx : i = x
    · subst hx
      have : hasI kvs i = true := h
      rw [this]; rfl
    · simp [hx]
  · unfold hasI
    rw [List.any_append]
    simp [keq, keq1]
theorem len_dput (kvs : List (PV × PV)) (k v : PV) : (dput kvs k v).length ≤ kvs.length + 1 := by
  unfold dput
  split <;> simp
end M

set_option Elab.async false
set_option linter.all false
set_option maxRecDepth 100000
set_option maxHeartbeats 4000000
/-! values that are new through and through; comprehensions of these; list + list of what is owned; a if c else b -/
namespace M
open PySem PySem.Spec PyProof.Rows L2
section
variable {K : PySem.W.Frag} {mg : Str → Option Value} {H : Hp} {T T' : Cnt}
mutual
theorem Own.re : ∀ {d e : Nat} {v : V} {p : PV} {f : Cnt}, Own K mg H T d v p f → hgt p ≤ d → hgt p ≤ e → Own K mg H T' e v p f
  | _, _, _, _, _, .non z, _, _ => .non z
  | _, _, _, _, _, .bl k z, _, _ => .bl k z
  | _, _, _, _, _, .int i z, _, _ => .int i z
  | _, _, _, _, _, .str x z, _, _ => .str x z
  | _, _, _, _, _, .tup h r, l, l2 => .tup h (Owns.re r (by rw [hgt] at l; exact l) (by rw [hgt] at l2; exact l2))
  | _, _, _, _, _, .ktp h r, l, l2 => .ktp h (Owns.re r (by rw [hgt] at l; exact l) (by rw [hgt] at l2; exact l2))
  | _, _, _, _, _, .rng h z, _, _ => .rng h z
  | _, _, _, _, _, .lst0 h r, l, _ => by rw [hgt] at l; omega
  | _, _, _, _, _, .scr0 h r, l, _ => by rw [hgt] at l; omega
  | _, 0, _, _, _, .lst1 h r hg, l, l2 => by rw [hgt] at l2; omega
  | _, e + 1, _, _, _, .lst1 h r hg, l, l2 => .lst1 h (Owns.re r (by rw [hgt] at l; omega) (by rw [hgt] at l2; omega)) hg
  | _, _, _, _, _, .dK0 h t e1 e2 r, l, _ => by rw [hgt] at l; omega
  | _, 0, _, _, _, .dK1 h e1 e2 r hg, l, l2 => by rw [hgt] at l2; omega
  | _, e + 1, _, _, _, .dK1 h e1 e2 r hg, l, l2 => .dK1 h e1 e2 (Owns.re r (by rw [hgt, hgtK_map] at l; omega) (by rw [hgt, hgtK_map] at l2; omega)) hg
  | _, _, _, _, _, .dT0 h t e1 e2 r, l, _ => by rw [hgt] at l; omega
  | _, 0, _, _, _, .dT1 h e1 e2 r hg, l, l2 => by rw [hgt] at l2; omega
  | _, e + 1, _, _, _, .dT1 h e1 e2 r hg, l, l2 => .dT1 h e1 e2 (Owns.re r (by rw [hgt, hgtK_map] at l; omega) (by rw [hgt, hgtK_map] at l2; omega)) hg
  | _, _, _, _, _, .ins0 h t m e1 e2 r, l, _ => by rw [hgt] at l; omega
  | _, 0, _, _, _, .ins1 h m e1 e2 r hg, l, l2 => by rw [hgt] at l2; omega
  | _, e + 1, _, _, _, .ins1 h m e1 e2 r hg, l, l2 => .ins1 h m e1 e2 (Owns.re r (by rw [hgt, hgtF_map] at l; omega) (by rw [hgt, hgtF_map] at l2; omega)) hg
theorem Owns.re : ∀ {d e : Nat} {vs : List V} {ps : List PV} {f : Cnt}, Owns K mg H T d vs ps f → hgts ps ≤ d → hgts ps ≤ e → Owns K mg H T' e vs ps f
  | _, _, _, _, _, .nil z, _, _ => .nil z
  | _, _, _, _, _, .cons h r hk, l, l2 => .cons (Own.re h (by rw [hgts] at l; omega) (by rw [hgts] at l2; omega)) (Owns.re r (by rw [hgts] at l; omega) (by rw [hgts] at l2; omega)) hk
end
end
/-- its value is new through and through: nothing of it stood at the start, nothing of it is shared -/
def tSN (K : PySem.W.Frag) (mg : Str → Option Value) (W : WX) (m : MP PV) : TE := fun σ H Q => ∃ env, Sees K mg H env σ ∧ wpP W K mg σ H (m env) fun p H' => ∀ x H2 f, Grow H' H2 → (∀ b, f b ≤ 1) → (∀ b o, H b = some o → f b = 0) → (∀ T d, hgt p ≤ d → Own K mg H2 T d x p f) → Q x H2
def tSNs (K : PySem.W.Frag) (mg : Str → Option Value) (W : WX) (m : MP (List PV)) : TA := fun σ H Q => ∃ env, Sees K mg H env σ ∧ wpP W K mg σ H (m env) fun p H' => ∀ x H2 f, Grow H' H2 → (∀ b, f b ≤ 1) → (∀ b o, H b = some o → f b = 0) → (∀ T d, hgts p ≤ d → Owns K mg H2 T d x p f) → Q x H2
def SN (X : Cx) (W : WX) (e : Expr) (m : MP PV) : Prop := PE X e (tSN X.K X.mg W m)
def SNs (X : Cx) (W : WX) (e : List Expr) (m : MP (List PV)) : Prop := PA X e (tSNs X.K X.mg W m)
def pFlat (m : MP PV) : MP PV := fun env => (m env).bind fun p => if hgt p = 0 then .ok p else .stuck
def pNew (m : MP (List PV)) : MP PV := fun env => (m env).bind fun ps => if hgts ps = 0 then .ok (.lst ps) else .stuck
def tallP (r : Nat × PV) : Option PV := if hgt r.2 ≤ r.1 then some r.2 else none
def pCall (n : Nat) (G : Fn) (ms : MP (List PV)) : MP PV := fun env => (ms env).bind fun ps => callR n G ps tallP
def mN (m : MP PV) : ME (Nat × PV) := fun env => liftP env (m env) fun p => if hgt p ≤ 9 then some (9, p) else none
section
variable {X : Cx} {W : WX} {a b c e tg : Expr} {es : List Expr} {pos p p2 : Pos} {m ma mb : MP PV} {ms : MP (List PV)} {mt : MP Bool} {me mf : ME (Nat × PV)} {t : Tg} {mi : MP (List PV)}
theorem sn_flat (h : SP X W a m) : SN X W a (pFlat m) := h.weak fun σ H Q ⟨env, s, w⟩ => tsp_bind (k := fun env p => if hgt p = 0 then .ok p else .stuck) s w fun p x H1 g r s1 w1 => by
  split at w1
  · rename_i hz
    exact w1 H1 (.refl _) x H1 (fun _ => 0) (.refl _) (fun _ => Nat.zero_le _) (fun _ _ _ => rfl) fun T d _ => r.own hz d
  · exact w1.elim
theorem sn_new (h : SPF X W a ms) : SN X W a (pNew ms) := h.weak fun σ H Q ⟨env, s, w⟩ => ⟨env, s, wpP_mono (wpP_bind w) fun ps H' g w1 xs l r na => by
  split at w1
  · rename_i hz
    refine w1 H' (.refl _) (.ref l) (upd H' l (.lst xs)) (fun b => if b = l then 1 else 0) (Grow.upd na) (fun b => ?_) (fun b o e => if_neg ?_) fun T d hd => ?_
    · show (if b = l then 1 else 0) ≤ 1
      split <;> omega
    · rintro rfl
      rw [g _ _ e] at na; cases na
    · rw [hgt] at hd
      obtain ⟨d, rfl⟩ : ∃ k, d = k + 1 := ⟨d - 1, by omega⟩
      exact .lst1 upd_same ((r.grow (Grow.upd na)).own hz d) fun b => (Nat.zero_add _).symm
  · exact w1.elim⟩
theorem sn_cal {x : Str} {ps : List Str} {j k n : Nat} {G : Fn} (c : CalM X.prog X.w X.K X.mg X.base k x ps n G) (tk : Takes X W) (hr : Room j X.A) (hk : k ≤ j) (ha : SPs X W (e :: es) ms) (hg : Gl X x := by rfl) (hdb : (x == ("__debug__" : Str)) = false := by decide) (he : starEach (e :: es) X.env = (false, eval e X.env) :: starEach es X.env := by rfl) (hpl : (backTo pos (starEach es X.env)).any (·.1) = false := by rfl) :
    SN X W (.Call (.Name x p) (e :: es) [] pos) (pCall n G ms) := by
  obtain ⟨f, fd, F, hm, hkp, hb, _⟩ := c.ex
  exact (pe_callS F (hr.mono hk) hg hm hkp hb (fun σ => passAt tk σ) ha hdb he hpl).weak fun σ H Q ⟨env, s, w⟩ =>
    tsps_bind (k := fun env ps => callR n G ps tallP) s w fun ps xs H1 g0 r s1 w1 => call_wp r w1 fun z c x H' f e g o on fz q => by
      unfold tallP at e
      split at e
      · rename_i hz
        cases e
        exact q H' g x H' f (.refl _) on (fun b o hb => fz b o (g0 b o hb)) fun T d hd => o.re hz hd
      · cases e
theorem sns_nil : SNs X W [] mNil := pa_nil.weak fun σ H Q ⟨env, s, w⟩ => w H (.refl _) [] H (fun _ => 0) (.refl _) (fun _ => Nat.zero_le _) (fun _ _ _ => rfl) fun T d _ => .nil fun _ => rfl
theorem sns_cons (ha : SN X W a ma) (hr : SNs X W es ms) (hs : starEach (a :: es) X.env = (false, eval a X.env) :: starEach es X.env := by rfl) : SNs X W (a :: es) (mCons ma ms) :=
  (pa_cons ha hr hs).weak fun σ H Q ⟨env, s, w⟩ => ⟨env, s, wpP_mono (wpP_bind w) fun p H1 g w1 x H2 f g2 f1 fz own =>
    ⟨env, s.grow (g.trans g2), wpP_mono (wpP_bind (wpP_mono' w1 g2)) fun ps H3 g3 w3 xs H4 f' g4 f1' fz' owns => by
      have fx : ∀ b, f b ≠ 0 → ∃ o, H2 b = some o := (own (fun _ => 0) (hgt p) (Nat.le_refl _)).there'
      refine w3 H3 (.refl _) (x :: xs) H4 (fun b => f b + f' b) g4 (fun b => ?_) (fun b o e => ?_) fun T d hd => .cons ((own T d (by rw [hgts] at hd; omega)).grow (g3.trans g4)) (owns T d (by rw [hgts] at hd; omega)) fun _ => rfl
      · by_cases h : f b = 0
        · have := f1' b; show f b + f' b ≤ 1; omega
        · obtain ⟨o, e⟩ := fx b h
          have := fz' b o e
          have := f1 b
          show f b + f' b ≤ 1; omega
      · have h1 := fz b o e
        have h2 := fz' b o (g2 _ _ (g _ _ e))
        show f b + f' b = 0; omega⟩⟩
def pTup (ms : MP (List PV)) : MP PV := fun env => (ms env).bind fun ps => if sizeOk ps.length then .ok (.tup ps) else .stuck
def pLst (ms : MP (List PV)) : MP PV := fun env => (ms env).bind fun ps => if sizeOk ps.length then .ok (.lst ps) else .stuck
theorem sn_tup {x1} (h : SNs X W es ms) : SN X W (.Tuple es x1 pos) (pTup ms) := (pe_tup h).weak fun σ H Q ⟨env, s, w⟩ => ⟨env, s, wpP_mono (wpP_bind w) fun ps H1 g w1 xs H2 f g2 f1 fz own => by
  split at w1
  · rename_i hz
    refine ⟨by rw [(own (fun _ => 0) _ (Nat.le_refl _)).rep.length]; exact sizeOk_le hz, fun q hq => w1 H2 g2 (.ref q) (upd H2 q (.tup xs)) f (Grow.upd hq) f1 fz fun T d hd => .tup upd_same ((own T d (by rw [hgt] at hd; exact hd)).grow (Grow.upd hq))⟩
  · exact w1.elim⟩
theorem sn_lst (h : SNs X W es ms) : SN X W (.List es pos) (pLst ms) := (pe_lst h).weak fun σ H Q ⟨env, s, w⟩ => ⟨env, s, wpP_mono (wpP_bind w) fun ps H1 g w1 xs H2 f g2 f1 fz own => by
  split at w1
  · rename_i hz
    refine ⟨by rw [(own (fun _ => 0) _ (Nat.le_refl _)).rep.length]; exact sizeOk_le hz, fun q hq => ?_⟩
    have fq : f q = 0 := Classical.byContradiction fun z => by obtain ⟨o, e⟩ := (own (fun _ => 0) (hgts ps) (Nat.le_refl _)).there' q z; rw [hq] at e; cases e
    refine w1 H2 g2 (.ref q) (upd H2 q (.lst xs)) (fun b => f b + if b = q then 1 else 0) (Grow.upd hq) (fun b => ?_) (fun b o e => ?_) fun T d hd => ?_
    · by_cases hb : b = q
      · subst hb; show f b + _ ≤ 1; rw [if_pos rfl]; omega
      · show f b + _ ≤ 1; rw [if_neg hb]; have := f1 b; omega
    · have ne : b ≠ q := by rintro rfl; rw [g2 _ _ (g _ _ e)] at hq; cases hq
      have := fz b o e
      show f b + _ = 0; rw [if_neg ne]; omega
    · rw [hgt] at hd
      obtain ⟨d, rfl⟩ : ∃ k, d = k + 1 := ⟨d - 1, by omega⟩
      exact .lst1 upd_same ((own T d (by omega)).grow (Grow.upd hq)) fun b => rfl
  · exact w1.elim⟩
/-- settled -/
theorem se_n (h : SN X W a m) : SE X W a (mN m) := h.weak fun σ H Q ⟨env, σ0, τ, T, F, n, w⟩ => ⟨env, n.sees, wpP_mono (wpE_lift n w) fun p H' g ⟨q, e, k⟩ x H2 f g2 f1 fz own => by
  split at e
  · rename_i hz
    cases e
    exact k H2 f (g.trans g2) fz f1 x (own _ 9 hz)
  · cases e⟩
/-- read -/
theorem wpP_up {K : PySem.W.Frag} {mg : Str → Option Value} {σ : L2.St} {H : Hp} {α : Type} {r : Rs Xn α} {Q : α → Hp → Prop} (h : wpP W K mg σ H r Q) : wpP W K mg σ H r fun a H' => ∀ H2, Grow H' H2 → Q a H2 := by
  cases r with
  | stuck => exact h
  | ok a => exact fun H' g H2 g2 => h H2 (g.trans g2)
  | exc x => exact h
theorem wpE_frm {K : PySem.W.Frag} {mg : Str → Option Value} {σ σ0 : L2.St} {τ F F1 : Cnt} {H H1 : Hp} {α : Type} {r : Rs (Xn × LEnv) (α × LEnv)} {Q : α → LEnv → Hp → Cnt → Cnt → Cnt → Prop} (h : wpE W K mg σ σ0 τ H F r Q) (fr : Frm H F H1 F1) : wpE W K mg σ σ0 τ H1 F1 r Q := by
  cases r with
  | stuck => exact h
  | ok a => exact fun H' T' F' f sl su on fr' => h H' T' F' f sl su on (fr.trans fr')
  | exc x => exact wpX_frm h fr
theorem sp_n (h : SN X W a m) : SP X W a m := h.weak fun σ H Q ⟨env, s, w⟩ => ⟨env, s, wpP_mono (wpP_up w) fun p H' g q x H2 f g2 f1 fz own => q H2 g2 x (own (fun _ => 0) _ (Nat.le_refl _)).rep⟩

/-! ### comprehensions of new things -/
def compN (t : Tg) (mt : MP Bool) (me : MP PV) (env : LEnv) : List PV → Option (List PV)
  | [] => some []
  | p :: r => (setT t 0 p env).bind fun e => (noX (mt e)).bind fun b => if b = true then (noX (me e)).bind fun y => (compN t mt me env r).map (y :: ·) else compN t mt me env r
def pComp (vs : List Nat) (t : Tg) (mi : MP (List PV)) (mt : MP Bool) (me : MP PV) : MP PV := fun env => (mi env).bind fun ps => ofO ((compN t mt me (wipeE env vs) ps).bind fun ys => if sizeOk ys.length then some (.lst ys) else none)
theorem lcn_read {K : PySem.W.Frag} {mg : Str → Option Value} {vs' : List Nat} {σ : L2.St} {H : Hp} {Q : VK} (hl : (tgN t).all (fun j => vs'.contains j) = true) : tSN K mg W (pComp vs' t mi mt ma) σ H Q → tLc (tSI K mg W mi) (tPG K mg t) (tSPT K mg W0 mt) (tSN K mg W0 ma) vs' σ H Q := fun ⟨env, s, w⟩ => ⟨env, s, by
  refine wpP_mono (wpP_bind w) fun ps H1 g w1 J hJ D hD => ?_
  obtain ⟨zp, ez, q⟩ := wpP_ofO w1
  obtain ⟨vs, rv, there, th, t1, t2, go, stop, yld⟩ := hJ
  rw [Option.bind_eq_some_iff] at ez
  obtain ⟨zs, ec, ez⟩ := ez
  split at ez
  case isFalse => cases ez
  rename_i hz
  cases ez
  have len := rv.length
  have s1 := s.grow g
  refine ⟨fun i n H => n = ps.length - i ∧ i ≤ ps.length ∧ ∃ G acc ys rest fc, H = upd G D (.lst acc) ∧ G D = none ∧ Grow H1 G ∧ there G ∧ (∀ b, fc b ≤ 1) ∧ (∀ b o, H1 b = some o → fc b = 0) ∧ (∀ T d, hgts ys ≤ d → Owns K mg G T d acc ys fc) ∧ compN t mt ma (wipeE env vs') (ps.drop i) = some rest ∧ zs = ys ++ rest,
    ⟨ps.length, rfl, Nat.zero_le _, H1, [], [], zs, fun _ => 0, rfl, hD, .refl _, th, fun _ => Nat.zero_le _, fun _ _ _ => rfl, fun _ _ _ => .nil fun _ => rfl, ec, rfl⟩, ?_⟩
  rintro i n H ⟨rfl, hi, G, acc, ys, rest, fc, rfl, hG, gg, th, fc1, fcz, oa, ecr, ez⟩
  have gD : Grow G (upd G D (.lst acc)) := Grow.upd hG
  have thD := t1 _ _ th gD
  by_cases hlt : i < ps.length
  · have hv : i < vs.length := by rw [len]; exact hlt
    refine .inr ⟨go i _ vs[i] thD (by simp [hv]), fun H' => i + 1 ≤ ps.length ∧ ∃ G acc ys rest fc, H' = upd G D (.lst acc) ∧ G D = none ∧ Grow H1 G ∧ there G ∧ (∀ b, fc b ≤ 1) ∧ (∀ b o, H1 b = some o → fc b = 0) ∧ (∀ T d, hgts ys ≤ d → Owns K mg G T d acc ys fc) ∧ compN t mt ma (wipeE env vs') (ps.drop (i + 1)) = some rest ∧ zs = ys ++ rest,
      fun H' ⟨a, b⟩ => ⟨ps.length - (i + 1), by omega, rfl, a, b⟩, fun x H' y => ?_⟩
    obtain ⟨rfl, hx⟩ := yld i _ x H' hv thD y
    have hd : ps.drop i = ps[i] :: ps.drop (i + 1) := List.drop_eq_getElem_cons hlt
    rw [hd, compN, Option.bind_eq_some_iff] at ecr
    obtain ⟨e2, es2, ecr⟩ := ecr
    rw [Option.bind_eq_some_iff] at ecr
    obtain ⟨b, eb, ecr⟩ := ecr
    obtain ⟨v, ev, rx⟩ := rv.get (i := i) (p := ps[i]) (by simp [hlt])
    rw [hx] at ev; cases ev
    have g2 : Grow H1 (upd G D (.lst acc)) := gg.trans gD
    have sw := wipe_sees (s1.grow g2) vs'
    refine ⟨_, _, _, e2, .refl _, sw, rx.grow g2, es2, fun σ2 s2 l2 k2 => ⟨?_, e2, s2, noX_wp eb fun H3 g3 => ?_⟩⟩
    · refine (wipe_eq (σ := wipe σ vs') l2 fun j hj => k2 j fun z => hj ?_).trans ?_
      · have := List.all_eq_true.mp hl j z
        simpa using this
      · refine List.ext_getElem? fun j => ?_
        rw [wipe_get, wipe_get, wipe_length]
        by_cases h : j ∈ vs'
        · simp [h]
        · simp [h]
    · have eD : H3 D = some (.lst acc) := g3 _ _ upd_same
      let G3 : Hp := fun b => if b = D then none else H3 b
      have g3D : G3 D = none := if_pos rfl
      have gG : Grow G G3 := fun c o e => by
        have ne : c ≠ D := fun z => by rw [z, hG] at e; cases e
        show (if c = D then none else H3 c) = some o
        rw [if_neg ne]; exact g3 c o (by rw [upd_ne ne]; exact e)
      cases b with
      | false =>
        refine ⟨hlt, G3, acc, ys, rest, fc, ?_, g3D, gg.trans gG, t1 _ _ th gG, fc1, fcz, fun T d hd => (oa T d hd).grow gG, by simpa using ecr, ez⟩
        funext c
        by_cases hc : c = D
        · subst hc; rw [upd_same]; exact eD
        · rw [upd_ne hc]; exact (if_neg hc).symm
      | true =>
        rw [if_pos rfl, Option.bind_eq_some_iff] at ecr
        obtain ⟨y, ey, ecr⟩ := ecr
        rw [Option.map_eq_some_iff] at ecr
        obtain ⟨rest', ecr, rfl⟩ := ecr
        refine ⟨e2, s2.grow g3, noX_wp ey fun H4 g4 v H5 f g5 f1 fz own => ?_⟩
        have g35 := g4.trans g5
        have eD5 : H5 D = some (.lst acc) := g35 _ _ eD
        let G5 : Hp := fun b => if b = D then none else H5 b
        have g5D : G5 D = none := if_pos rfl
        have gG5 : Grow G G5 := fun c o e => by
          have ne : c ≠ D := fun z => by rw [z, hG] at e; cases e
          show (if c = D then none else H5 c) = some o
          rw [if_neg ne]; exact g35 c o (g3 c o (by rw [upd_ne ne]; exact e))
        have la := (oa (fun _ => 0) _ (Nat.le_refl _)).rep.length
        have hz' := of_decide_eq_true hz
        have fcx : ∀ b, fc b ≠ 0 → ∃ o, G b = some o := (oa (fun _ => 0) (hgts ys) (Nat.le_refl _)).there'
        have fD : f D = 0 := fz D _ eD
        have ff : ∀ b, fc b ≠ 0 → f b = 0 := fun b h => by
          obtain ⟨o, e⟩ := fcx b h
          have ne : b ≠ D := fun z => by rw [z, hG] at e; cases e
          exact fz b o (g3 _ _ (by rw [upd_ne ne]; exact e))
        have own5 : ∀ T d, hgt y ≤ d → Own K mg G5 T d v y f := fun T d hd => by
          refine ((own (fun b => if b = D then 1 else 0) d hd).keep (T' := fun b => if b = D then 1 else 0) (fun _ _ _ z => z) fun c o e z => ?_).re hd hd
          have ne : c ≠ D := by
            rintro rfl
            rcases z with z | z | z
            · exact z fD
            · simp at z
            · rw [eD5] at e; cases e; exact z
          exact (if_neg ne).trans e
        refine ⟨acc, eD5, ?_, hlt, G5, acc ++ [v], ys ++ [y], rest', (fun b => fc b + f b), ?_, g5D, gg.trans gG5, t1 _ _ th gG5, fun b => ?_, fun b o e => ?_, fun T d hd => ?_, ecr, by rw [ez, List.append_assoc]; rfl⟩
        · rw [la, sizeLine_eq]
          rw [ez, List.length_append, List.length_cons] at hz'
          omega
        · funext c
          by_cases hc : c = D
          · subst hc; rw [upd_same, upd_same]
          · rw [upd_ne hc, upd_ne hc]; exact (if_neg hc).symm
        · by_cases h : fc b = 0
          · have := f1 b; show fc b + f b ≤ 1; omega
          · have := ff b h; have := fc1 b; show fc b + f b ≤ 1; omega
        · have h1 := fcz b o e
          have h2 := fz b o (g3 _ _ (g2 _ _ e))
          show fc b + f b = 0; omega
        · rw [hgts_app, hgts] at hd
          exact ((oa T d (by omega)).grow gG5).append (.cons (own5 T d (by omega)) (.nil (f := fun _ => 0) fun _ => rfl) fun _ => rfl)
  · have e : i = ps.length := by omega
    subst e
    rw [List.drop_length, compN] at ecr
    cases ecr
    rw [List.append_nil] at ez
    subst ez
    have fcx : fc D = 0 := Classical.byContradiction fun z => by obtain ⟨o, e⟩ := (oa (fun _ => 0) (hgts zs) (Nat.le_refl _)).there' D z; rw [hG] at e; cases e
    refine .inl ⟨stop _ _ thD (by rw [len]; exact Nat.le_refl _), q H1 (.refl _) (.ref D) (upd G D (.lst acc)) (fun b => fc b + if b = D then 1 else 0) (gg.trans gD) (fun b => ?_) (fun b o e => ?_) fun T d hd => ?_⟩
    · by_cases hb : b = D
      · subst hb; show fc b + _ ≤ 1; rw [if_pos rfl]; omega
      · show fc b + _ ≤ 1; rw [if_neg hb]; have := fc1 b; omega
    · have ne : b ≠ D := by rintro rfl; rw [g _ _ e] at hD; cases hD
      have := fcz b o (g _ _ e)
      show fc b + _ = 0; rw [if_neg ne]; omega
    · rw [hgt] at hd
      obtain ⟨d, rfl⟩ : ∃ k, d = k + 1 := ⟨d - 1, by omega⟩
      exact .lst1 upd_same ((oa T d (by omega)).grow gD) fun b => rfl⟩
theorem sn_lc {scope : Scope} {own : List (Str × Nat)} (hc : X.calm = true) (hN : X.N.Nodup) (hi : SI X W tg a mi) (ok : BlkOk X.N X.env.scope scope own) (hl : (tgN t).all (fun j => (own.map (·.2)).contains j) = true)
    (hg : ∀ (s : Shared) (H : Hp) (C : Addr) (cl : List (Str × Addr)) (fp : List Addr), PGm (X.blk s H scope (compEnvC scope cl C X.env) fp) tg t) (ht : ∀ (s : Shared) (H : Hp) (C : Addr) (cl : List (Str × Addr)) (fp : List Addr), SPTs (X.blk s H scope (compEnvC scope cl C X.env) fp) W0 es mt)
    (he : ∀ (s : Shared) (H : Hp) (C : Addr) (cl : List (Str × Addr)) (fp : List Addr), SN (X.blk s H scope (compEnvC scope cl C X.env) fp) W0 e ma) (hs : ∀ x, foldedSetIterable a X.env x = pure x := by intro _; rfl) :
    SN X W (.ListComp e [⟨tg, a, es, 0⟩] scope pos) (pComp (own.map (·.2)) t mi mt ma) :=
  PE.weak (pe_lc (g := tPG X.K X.mg t) (tt := tSPT X.K X.mg W0 mt) (te := tSN X.K X.mg W0 ma) hc hN hi ok hg ht he hs) fun σ H Q => lcn_read hl

/-! ### list + list, owned -/
def gCatE : Nat × List PV → Option (Nat × PV)
  | (d, [.lst ps, .lst qs]) => if sizeOk (ps.length + qs.length) then some (d - 1 + 1, .lst (ps ++ qs)) else none
  | _ => none
def mECat (ma mb : ME (Nat × PV)) : ME (Nat × PV) := eMap gCatE (mECons ma (mECons mb mENil))
theorem ses_cons_te {K : PySem.W.Frag} {mg : Str → Option Value} {ma : ME (Nat × PV)} {ms : ME (Nat × List PV)} {σ : L2.St} {H : Hp} {Q : List V → Hp → Prop} (h : tSEs K mg W (mECons ma ms) σ H Q) : tSE K mg W ma σ H fun x H1 => tSEs K mg W ms σ H1 fun xs H2 => Q (x :: xs) H2 := by
  obtain ⟨env, σ0, τ, T, F, n, w⟩ := h
  exact ⟨env, σ0, τ, T, F, n, wpE_mono (wpE_bind w) fun c env1 H1 T1 F1 f1 sl1 su1 on1 fr1 w1 x o1 =>
    ⟨env1, σ0, _, T1, F1, n.temp sl1 su1 on1 fr1 o1.there', wpE_mono (wpE_map w1) fun r env2 H2 T2 F2 f2 sl2 su2 on2 fr2 ⟨z, ez, w2⟩ xs o2 => by
      cases ez
      have o1' := o1.frm (τ := fun b => τ b + f1 b) (T' := fun b => F2 b + f2 b + (τ b + f1 b)) (F := F1) (fun b => by rw [su1 b]; show F1 b + f1 b + τ b = F1 b + (τ b + f1 b); omega) on1 (fun b => Nat.le_add_left _ _) fr2 (fun b => rfl)
      have e2 : ∀ b, T2 b = F2 b + f2 b + (τ b + f1 b) := su2
      have u2 : ∀ b, F2 b + f2 b + (τ b + f1 b) ≤ 1 := fun b => by rw [← e2 b]; exact on2 b
      obtain ⟨f1', l1, k1⟩ := o1'.low (fun b => by have := u2 b; omega) (Nat.min_le_left c.1 r.1)
      obtain ⟨f2', l2, k2⟩ := o2.low (fun b => by have := u2 b; omega) (Nat.min_le_right c.1 r.1)
      refine w2 H2 T2 F2 f2 sl2 su2 on2 fr2 H2 (fun b => F2 b + (f1' b + f2' b) + τ b) F2 (fun b => f1' b + f2' b) (sl2.keep (fun a o e t => ?_) fun a o e _ => e) (fun b => rfl) (fun b => ?_) (.grow (.refl _) fun b _ _ => ?_) (x :: xs) (.cons (k1 _ (fun b => ?_) fun b z z' => ?_) (k2 _ (fun b => ?_) fun b z z' => ?_) fun _ => rfl)
      · have := e2 a; have := l1 a; have := l2 a; show F2 a + (f1' a + f2' a) + τ a = 0; omega
      · have := u2 b; have := l1 b; have := l2 b; show F2 b + (f1' b + f2' b) + τ b ≤ 1; omega
      · have := l1 b; have := l2 b; show F2 b + (f1' b + f2' b) ≤ F2 b + f1 b + f2 b; omega
      · have := l1 b; have := l2 b; show F2 b + (f1' b + f2' b) + τ b ≤ F2 b + f2 b + (τ b + f1 b); omega
      · have := u2 b; have := l2 b; show F2 b + (f1' b + f2' b) + τ b = 0; omega
      · have := e2 b; have := l1 b; have := l2 b; show F2 b + (f1' b + f2' b) + τ b ≤ T2 b; omega
      · have := u2 b; have := l1 b; show F2 b + (f1' b + f2' b) + τ b = 0; omega⟩⟩
theorem ses_nil_te {K : PySem.W.Frag} {mg : Str → Option Value} {σ : L2.St} {H : Hp} {Q : List V → Hp → Prop} (h : tSEs K mg W mENil σ H Q) : Q [] H := by
  obtain ⟨env, σ0, τ, T, F, n, w⟩ := h
  exact w H T F (fun _ => 0) n.sl n.sum n.one .refl [] (.nil fun _ => rfl)
/-- a list's items -/
theorem Own.items {K : PySem.W.Frag} {mg : Str → Option Value} {H : Hp} {T : Cnt} : ∀ {d : Nat} {v : V} {ps : List PV} {f : Cnt}, Own K mg H T d v (.lst ps) f → ∃ a vs fc, v = .ref a ∧ LL K H a vs ∧ Owns K mg H T (d - 1) vs ps fc ∧ ∀ b, fc b ≤ f b
  | _, _, _, _, .lst0 h r => ⟨_, _, _, rfl, (by rcases h with ⟨h, _⟩ | h; exact .inl h; exact .inr h), r, fun _ => Nat.le_refl _⟩
  | _, _, _, _, .lst1 h r hg => ⟨_, _, _, rfl, LL.of h, r, fun b => by rw [hg]; omega⟩
theorem se_cat (ha : SE X W a me) (hb : SE X W b mf) : SE X W (.BinOp a .Add b pos) (mECat me mf) := (pe_op op_cat' ha hb).weak fun σ H Q ⟨env, σ0, τ, T, F, n, w⟩ => by
  have h : tSEs X.K X.mg W (mECons me (mECons mf mENil)) σ H (fun xs H2 => ∃ x y, xs = [x, y] ∧ rCat' X.K x y H2 Q) := ⟨env, σ0, τ, T, F, n, wpE_mono (wpE_map w) fun r env2 H2 T2 F2 f2 sl2 su2 on2 fr2 ⟨z, ez, w2⟩ xs o => by
    unfold gCatE at ez
    split at ez
    case h_2 => cases ez
    rename_i d ps qs er
    split at ez
    case isFalse => cases ez
    rename_i hz
    cases ez
    cases o with
    | @cons _ v vs p ps' f1 g1 _ o1 o' hk =>
      cases o' with
      | @cons _ v' vs' p' ps'' f2' g2 _ o2 o3 hk2 =>
        cases o3 with
        | nil z0 =>
          obtain ⟨a1, vs1, c1, e1, L1, i1, l1⟩ := o1.items
          obtain ⟨a2, vs2, c2, e2, L2, i2, l2⟩ := o2.items
          refine ⟨v, v', rfl, a1, a2, vs1, vs2, e1, e2, L1, L2, by rw [i1.rep.length, i2.rep.length]; exact sizeOk_le hz, fun q hq => ?_⟩
          have g := Grow.upd (o := .lst (vs1 ++ vs2)) hq
          have kk : ∀ b, c1 b + c2 b ≤ f2 b := fun b => by have := hk b; have := hk2 b; have := l1 b; have := l2 b; omega
          have t0 : T2 q = 0 := by
            have h1 : F2 q = 0 := Classical.byContradiction fun z => by obtain ⟨o, e, _⟩ := sl2.there q z; rw [hq] at e; cases e
            have h2 : f2 q = 0 := Classical.byContradiction fun z => by
              by_cases c : f1 q = 0
              · have h5 : f2' q ≠ 0 := by have := hk q; have := hk2 q; have := z0 q; omega
                obtain ⟨o, e⟩ := o2.there' q h5; rw [hq] at e; cases e
              · obtain ⟨o, e⟩ := o1.there' q c; rw [hq] at e; cases e
            have h3 : τ q = 0 := Classical.byContradiction fun z => by
              obtain ⟨o, e⟩ := n.ex q z
              obtain ⟨⟨o1, e1⟩, _⟩ := fr2.own q o e
              rw [hq] at e1; cases e1
            have := su2 q; omega
          have low : ∀ a, a ≠ q → F2 a + (c1 a + c2 a + if a = q then 1 else 0) + τ a ≤ T2 a := fun a ne => by rw [if_neg ne]; have := su2 a; have := kk a; omega
          refine w2 _ (fun b => F2 b + (c1 b + c2 b + if b = q then 1 else 0) + τ b) F2 (fun b => c1 b + c2 b + if b = q then 1 else 0) (sl2.keep (fun a o e t => ?_) fun a o e _ => g a o e) (fun b => rfl) (fun b => ?_) ⟨fun a o e z => (fr2.then_grow g).keep a o e z, fun a o e => ?_⟩ (.ref q)
            (.lst1 upd_same ((i1.keep (fun a o e t => ?_) fun a o e _ => g a o e).append (i2.keep (fun a o e t => ?_) fun a o e _ => g a o e)) fun b => rfl)
          · have ne : a ≠ q := fun z => by rw [z, hq] at e; cases e
            have := low a ne; show F2 a + (c1 a + c2 a + if a = q then 1 else 0) + τ a = 0; omega
          · show F2 b + (c1 b + c2 b + if b = q then 1 else 0) + τ b ≤ 1
            have := su2 b; have := on2 b; have := kk b
            by_cases hb : b = q
            · subst hb; rw [if_pos rfl]; omega
            · rw [if_neg hb]; omega
          · obtain ⟨z, l⟩ := (fr2.then_grow g).own a o e
            refine ⟨z, ?_⟩
            have ne : a ≠ q := fun z => by
              obtain ⟨⟨o1, e1⟩, _⟩ := fr2.own a o e
              rw [z, hq] at e1; cases e1
            have l' : F2 a + f2 a ≤ F a := l
            have := kk a
            show F2 a + (c1 a + c2 a + if a = q then 1 else 0) ≤ F a; rw [if_neg ne]; omega
          · have ne : a ≠ q := fun z => by rw [z, hq] at e; cases e
            have := low a ne; show F2 a + (c1 a + c2 a + if a = q then 1 else 0) + τ a = 0; omega
          · have ne : a ≠ q := fun z => by rw [z, hq] at e; cases e
            have := low a ne; show F2 a + (c1 a + c2 a + if a = q then 1 else 0) + τ a = 0; omega⟩
  obtain ⟨env, σ0, τ, T, F, n, w⟩ := ses_cons_te h
  refine ⟨env, σ0, τ, T, F, n, wpE_mono w fun r e H' T' F' f sl su on fr k x o => ?_⟩
  obtain ⟨env, σ0, τ, T, F, n, w⟩ := ses_cons_te (k x o)
  refine ⟨env, σ0, τ, T, F, n, wpE_mono w fun r e H' T' F' f sl su on fr k y o => ?_⟩
  obtain ⟨x', y', exy, r⟩ := ses_nil_te (k y o)
  cases exy
  exact r
/-! ### a if c else b, owned -/
def mIfE (mt : MP Bool) (ma mb : ME (Nat × PV)) : ME (Nat × PV) := fun env => match mt env with
  | .stuck => .stuck
  | .exc x => .exc (x, env)
  | .ok b => if b = true then ma env else mb env
theorem se_if (hc : SPT X W c mt) (ha : SE X W a me) (hb : SE X W b mf) : SE X W (.IfExp c a b pos) (mIfE mt me mf) := (pe_ifExp hc ha hb).weak fun σ H Q ⟨env, σ0, τ, T, F, n, w⟩ =>
  ⟨env, n.sees, by
    unfold mIfE at w
    cases h : mt env with
    | stuck => rw [h] at w; exact w
    | exc x => rw [h] at w; exact fun C dd H' g c => w C dd H' T F (n.grow g) (.grow g fun _ _ _ => Nat.le_refl _) c
    | ok b =>
      rw [h] at w
      intro H' g
      have fr : Frm H F H' F := .grow g fun _ _ _ => Nat.le_refl _
      cases b with
      | true => exact ⟨env, σ0, τ, T, F, n.grow g, wpE_frm w fr⟩
      | false => exact ⟨env, σ0, τ, T, F, n.grow g, wpE_frm w fr⟩⟩
end
end M

set_option Elab.async false
set_option linter.all false
set_option maxRecDepth 100000
set_option maxHeartbeats 4000000
/-! ranges as values, len of dicts, is True, a, b = list, extend, items of what is owned, {tuple: new} -/
namespace M
open PySem PySem.Spec PyProof.Rows L2

section
variable {K : PySem.W.Frag} {mg : Str → Option Value} {D : Ends} {env e : LEnv} {σ σ0 : L2.St} {τ T F T' F' f g gc : Cnt} {H H' : Hp} {i l d d0 d1 : Nat} {pin : Bool} {pv pv' : PV} {ho ho' : HO} {vs xs : List V} {ps qs : List PV} {W : WX}
theorem slots_wr (n : Now K mg H env σ σ0 τ T F) (sl : Slots K mg H' T' e σ σ0 F') (su : ∀ b, T' b = F' b + f b + τ b) (on : ∀ b, T' b ≤ 1) (fr : Frm H F H' fun b => F' b + f b)
    (es : e[i]? = some (some ⟨d0, pin, pv⟩)) (e1 : σ[i]? = some (some (.ref l))) (o : Owns K mg H' T' d1 xs qs f)
    (hinv : ∀ g, Own K mg H' T' d0 (.ref l) pv g → ∃ vs gc, H' l = some ho ∧ Owns K mg H' T' d vs ps gc ∧ (∀ b, g b = gc b + if b = l then 1 else 0) ∧
      ∀ gc' f' : Cnt, ∀ H2 T2, Owns K mg H2 T2 (min d d1) vs ps gc' → Owns K mg H2 T2 (min d d1) xs qs f' → H2 l = some ho' → ∃ c : Cnt, (∀ b, c b ≤ gc' b + f' b) ∧ Own K mg H2 T2 (min d d1 + 1) (.ref l) pv' (fun b => c b + if b = l then 1 else 0))
    (nst0 : ¬ Still ho) (w2 : wpS W K mg σ0 τ H F (.ok (.nx (e.set i (some ⟨min d d1 + 1, pin, pv'⟩)))) D) : D.nx σ (upd H' l ho') := by
  obtain ⟨v, g, G, ev, og, slG, hG, hp⟩ := sl.get es
  rw [e1] at ev; cases ev
  obtain ⟨vs, gc, hH, oc, hg, mk⟩ := hinv g og
  have ga : g l = gc l + 1 := by rw [hg, if_pos rfl]
  have t1 := on l
  have t2 := su l
  have t3 := hG l
  have nst : ∀ y, H' l = some y → ¬ Still y := fun y ey => by rw [hH] at ey; cases ey; exact nst0
  have u2 : ∀ b, G b + g b + f b + τ b ≤ 1 := fun b => by have := su b; have := on b; have := hG b; omega
  obtain ⟨gc', l1, k1⟩ := oc.low (fun b => by have := u2 b; have := hg b; omega) (Nat.min_le_left d d1)
  obtain ⟨f', l2, k2⟩ := o.low (fun b => by have := u2 b; omega) (Nat.min_le_right d d1)
  obtain ⟨c, hc⟩ : ∃ c : Cnt, ∀ b, c b = gc' b + f' b := ⟨fun b => gc' b + f' b, fun _ => rfl⟩
  -- the new counts
  have cz : ∀ b, gc b ≤ g b := fun b => by rw [hg]; omega
  let T2 : Cnt := fun b => G b + (c b + if b = l then 1 else 0) + τ b
  have tl : ∀ b, T2 b ≤ T' b := fun b => by
    show G b + (c b + if b = l then 1 else 0) + τ b ≤ T' b
    have := su b; have := hG b; have := hg b; have := l1 b; have := l2 b; have := hc b; omega
  have o1 : Owns K mg H' T2 (min d d1) vs ps gc' := k1 T2 tl fun b z z' => by
    show G b + (c b + if b = l then 1 else 0) + τ b = 0
    have := u2 b; have := hg b; have := l2 b; have := hc b
    by_cases hb : b = l
    · subst hb; rw [if_pos rfl] at this; omega
    · rw [if_neg hb]; rw [if_neg hb] at *; omega
  have o2 : Owns K mg H' T2 (min d d1) xs qs f' := k2 T2 tl fun b z z' => by
    show G b + (c b + if b = l then 1 else 0) + τ b = 0
    have := u2 b; have := hg b; have := l1 b; have := hc b
    by_cases hb : b = l
    · subst hb; rw [if_pos rfl] at *; omega
    · rw [if_neg hb]; rw [if_neg hb] at *; omega
  have t2l : T2 l ≠ 0 := by show G l + (c l + if l = l then 1 else 0) + τ l ≠ 0; rw [if_pos rfl]; omega
  have slG' : Slots K mg H' T2 (e.set i none) σ σ0 G := slG.keep (fun a o e t => by have := tl a; omega) fun a o e _ => e
  have s1 := slG'.wr (o' := ho') t2l (by omega) nst
  have s2 := o1.wr (o' := ho') t2l (by have := l1 l; omega) nst
  have s2' := o2.wr (o' := ho') t2l (by have := l2 l; have := u2 l; omega) nst
  obtain ⟨c3, hc3, s3⟩ := mk gc' f' (upd H' l ho') T2 s2 s2' upd_same
  let T3 : Cnt := fun b => G b + (c3 b + if b = l then 1 else 0) + τ b
  have tl3 : ∀ b, T3 b ≤ T2 b := fun b => by
    show G b + (c3 b + if b = l then 1 else 0) + τ b ≤ G b + (c b + if b = l then 1 else 0) + τ b
    have := hc b; have := hc3 b; omega
  have s3 := s3.keep (T' := T3) (fun a o e t => by have := tl3 a; omega) fun a o e _ => e
  have s1 := s1.keep (T' := T3) (fun a o e t => by have := tl3 a; omega) fun a o e _ => e
  have s4 := s1.put (s := ⟨min d d1 + 1, pin, pv'⟩) (get_set_none es) s3 hp
  rw [set_set_none, set_self e1] at s4
  refine w2 σ _ T3 _ ⟨s4, fun b => rfl, fun b => Nat.le_trans (tl3 b) (Nat.le_trans (tl b) (on b)), fun b z => ?_⟩ ⟨fun b y ey z => ?_, fun b y ey => ?_⟩
  · obtain ⟨y, ey⟩ := n.ex b z
    obtain ⟨⟨y', ey'⟩, _⟩ := fr.own b y ey
    by_cases hb : b = l
    · subst hb; exact ⟨_, upd_same⟩
    · exact ⟨y', by rw [upd_ne hb]; exact ey'⟩
  · have k := fr.keep b y ey z
    have ne : b ≠ l := fun q => by
      subst q
      rcases z with z | z
      · have h : F' b + f b ≤ F b := (fr.own b y ey).2; have := hG b; omega
      · exact nst y k z
    rw [upd_ne ne]; exact k
  · obtain ⟨⟨y', ey'⟩, lb⟩ := fr.own b y ey
    refine ⟨?_, ?_⟩
    · by_cases hb : b = l
      · subst hb; exact ⟨_, upd_same⟩
      · exact ⟨y', by rw [upd_ne hb]; exact ey'⟩
    · have lb' : F' b + f b ≤ F b := lb
      show G b + (c3 b + if b = l then 1 else 0) ≤ F b
      have := hG b; have := hg b; have := l1 b; have := l2 b; have := hc3 b; omega
end
/-! ### len(d), is True -/
def gLenDT : List PV → Option PV
  | [.dct true kvs] => some (.int (kvs.length : Int))
  | _ => none
def gLenDK : List PV → Option PV
  | [.dct false kvs] => some (.int (kvs.length : Int))
  | _ => none
def gIsB (neg : Bool) : PV → PV → Option PV
  | .bl a, .bl b => some (.bl (if neg then !decide (a = b) else decide (a = b)))
  | _, _ => none
section
variable {K : PySem.W.Frag} {mg : Str → Option Value}
theorem v_lenDT : COp K mg rLenT gLenDT := fun H xs ps z Q r e h => by
  unfold gLenDT at e
  split at e
  · cases e
    cases r with
    | cons r1 r2 =>
      cases r2
      cases r1 with
      | dT hs ek _ _ =>
        have := congrArg List.length ek
        simp only [List.length_map] at this
        exact ⟨_, _, rfl, hs, by rw [this]; exact h _ H (.refl H) (.int _)⟩
  · cases e
theorem v_lenDK : COp K mg (fun xs H Q => ∃ a kvs, xs = [V.ref a] ∧ H a = some (.dK kvs) ∧ Q (.int kvs.length) H) gLenDK := fun H xs ps z Q r e h => by
  unfold gLenDK at e
  split at e
  · cases e
    cases r with
    | cons r1 r2 =>
      cases r2
      cases r1 with
      | dK hs ek _ _ =>
        have := congrArg List.length ek
        simp only [List.length_map] at this
        exact ⟨_, _, rfl, hs, by rw [this]; exact h _ H (.refl H) (.int _)⟩
  · cases e
theorem v_isB : VOp K mg (fun x y H Q => ∃ a b, x = .bl a ∧ y = .bl b ∧ Q (.bl (decide (a = b))) H) (gIsB false) := fun H x y p q z Q r1 r2 e h => by
  unfold gIsB at e
  split at e
  · cases e; cases r1; cases r2; exact ⟨_, _, rfl, rfl, h _ H (.refl H) (.bl _)⟩
  · cases e
theorem v_notB : VOp K mg (fun x y H Q => ∃ a b, x = .bl a ∧ y = .bl b ∧ Q (.bl (!decide (a = b))) H) (gIsB true) := fun H x y p q z Q r1 r2 e h => by
  unfold gIsB at e
  split at e
  · cases e; cases r1; cases r2; exact ⟨_, _, rfl, rfl, h _ H (.refl H) (.bl _)⟩
  · cases e
end

/-! ### ranges as values -/
theorem cr_range1 {X : Cx} : CallR X (.type "range") (fun vs H Q => ∃ j, vs = [V.int j] ∧ ∀ p, H p = none → Q (.ref p) (upd H p (.rng 0 j))) := by
  intro pins s σ H vs us Q I r h
  obtain ⟨j, rfl, q⟩ := h
  obtain ⟨u1, rfl, ri⟩ := vals1 r
  obtain ⟨t, rfl⟩ := ri
  refine call_range_1 ⟨.ref s.heap.objs.size, upd H s.heap.objs.size (.rng 0 j), I.laid (t' := s.toks + 1 + 1) (fun b o e => Heap.get?_push_of_some _ e) (Nat.le_refl _) ?_, rfl, q _ (I.hok.fresh (Nat.le_refl _))⟩
  exact ⟨s.toks, t, s.toks + 1, Heap.get?_push_size _ rfl⟩
def iRngV (tl : TE) : TI := fun σ H R => tl σ H fun x H1 => ∃ a lo hi, x = .ref a ∧ H1 a = some (.rng lo hi) ∧ (-(2 ^ 62) ≤ lo ∧ lo < 2 ^ 62 ∧ -(2 ^ 62) ≤ hi ∧ hi < 2 ^ 62) ∧ R (Itr lo (hi - lo).toNat) H1
theorem pi_rv {X : Cx} {tg : Expr} {l : Expr} {tl : TE} (hl : PE X l tl) : PI X tg l (iRngV tl) := by
  refine ⟨fun pins s σ H R I h => ?_⟩
  refine thn (hl.run pins s σ H _ I h) fun v s1 ⟨x, H1, I1, r1, q1⟩ => ?_
  obtain ⟨a, lo, hi, e, ha, ⟨h1, h2, h3, h4⟩, q⟩ := q1
  subst e
  cases r1
  obtain ⟨t, u, v, ho⟩ := (show ∃ t u v, s1.heap.get? a = some { cls := .type "range", data := .fields #[.int lo t, .int hi u, .int 1 v] } from I1.hok a _ ha)
  refine wpAny_pyIter_range (t := t) (u := u) (v := v) ho (small_one h1 h2 h3 h4) ?_
  refine ⟨s1.heap.objs.size, [s1.heap.objs.size], _, _, H1, rfl, I1.kept (t' := s1.toks) fun b o e => Heap.get?_push_of_some _ e, turn_range _ lo (hi - lo).toNat, ?_, fun b hb => ?_, q⟩
  · have e1 : lo + ((0 : Nat) : Int) * 1 = lo := by simp
    have e2 : (((hi - lo).toNat : Nat) : Int) - ((0 : Nat) : Int) = Builtin.Range.rangeSize lo hi 1 := by rw [rangeSize_one]; split <;> omega
    show IsRangeIter _ _ (lo + ((0 : Nat) : Int) * 1) ((((hi - lo).toNat : Nat) : Int) - ((0 : Nat) : Int)) 1
    rw [e1, e2]
    exact Heap.get?_push_size _ rfl
  · have e : b = s1.heap.objs.size := by simpa using hb
    subst e
    exact I1.fpOk (Nat.le_refl _) (I1.hok.fresh (Nat.le_refl _))
def itR : PV → Option (List PV)
  | .rng lo hi => if rngOk lo && rngOk hi then some (rngs lo (hi - lo).toNat) else none
  | _ => none
def mRngV (ml : MP (List PV)) : ME (Nat × PV) := fun env => liftP env (ml env) fun ps => match ps with
  | [.int j] => some (9, .rng 0 j)
  | _ => none
section
variable {X : Cx} {W : WX} {a b c e tg value : Expr} {es : List Expr} {pos p p2 : Pos} {m ma mb mk mv : MP PV} {ms : MP (List PV)} {mt : MP Bool} {me mf : ME (Nat × PV)} {t : Tg} {ts : List Tg} {mi : MP (List PV)}
theorem si_rng (h : SP X W a m) : SI X W tg a (mIt itR m) := (pi_rv h).weak fun σ H R ⟨env, s, w⟩ => tsp_bind (k := fun env p => ofO (itR p)) s w fun p x H1 g r s1 w1 => by
  obtain ⟨ps, ez, q⟩ := wpP_ofO w1
  cases r with
  | @rng a lo hi hs =>
    simp only [itR] at ez
    split at ez
    · rename_i hz
      cases ez
      rw [Bool.and_eq_true] at hz
      obtain ⟨h1, h2⟩ : -4611686018427387904 ≤ lo ∧ lo < 4611686018427387904 := rngOk_lt hz.1
      obtain ⟨h3, h4⟩ : -4611686018427387904 ≤ hi ∧ hi < 4611686018427387904 := rngOk_lt hz.2
      exact ⟨a, lo, hi, rfl, hs, ⟨by omega, by omega, by omega, by omega⟩, q H1 (.refl _) _ (rng_it _ _)⟩
    · cases ez
  | _ => cases ez
theorem se_rng {pf pc : Pos} (hgl : Gl X "range") (hm : X.mg "range" = none) (ha : SPs X W [a] ms) (hst : starEach [a] X.env = (false, eval a X.env) :: starEach [] X.env := by rfl) (hpl : (backTo pc (starEach [] X.env)).any (·.1) = false := by rfl) : SE X W (.Call (.Name "range" pf) [a] [] pc) (mRngV ms) :=
  (pe_callTy cr_range1 hgl hm (by first | rfl | decide +kernel) ha (by decide) (by decide) hst hpl).weak fun σ H Q ⟨env, σ0, τ, T, F, n, w⟩ => ⟨env, n.sees, wpP_mono (wpE_lift n w) fun ps H' g ⟨q, e, k⟩ xs r => by
    cases r with
    | nil => cases e
    | cons r1 r2 =>
      cases r2 with
      | cons _ _ => cases r1 <;> cases e
      | nil =>
        cases r1 with
        | int j =>
          cases e
          exact ⟨j, rfl, fun l na => k (upd H' l (.rng 0 j)) (fun _ => 0) (g.trans (Grow.upd na)) (fun _ _ _ => rfl) (fun _ => Nat.zero_le _) (.ref l) (.rng upd_same fun _ => rfl)⟩
        | _ => cases e⟩

/-! ### a, b, .. = a list -/
def mUnl (ts : List Tg) (me : ME (Nat × PV)) : MS := fun env => (me env).bind fun z => match z.1.2 with
  | .lst ps => ofNx (setTs ts (z.1.1 - 1) ps z.2)
  | _ => .stuck
theorem ss_unl {n k : Nat} (hc : X.calm = true) (he : SE X W a me) (hg : SGs X es ts) (hl : ts.length = n) (hn : (assignEach es X.env).length = n := by rfl) (hst : (assignEach es X.env).findIdx? (·.1) = none := by rfl)
    (hs : swapsWithSole [.Tuple es k p] a pos.line X.env = pure false := by rfl) (hw : swappedStores [.Tuple es k p] a X.env = pure none := by rfl) (h1 : (assignEach [.Tuple es k p] X.env).map (·.2) = [assign (.Tuple es k p) X.env] := by rfl) : SS X W (.Assign [.Tuple es k p] a pos) (mUnl ts me) :=
  (ps_asg he (pg_lst (k := k) (n := n) hc hg hn hst) hs hw h1).weak fun D σ H ⟨env, σ0, τ, T, F, n0, w⟩ => ⟨env, σ0, τ, T, F, n0, wpE_mono (wpE_S w) fun r e H' T' F' f sl su on fr w' x o => by
    dsimp only at w'
    split at w'
    case h_2 => exact w'.elim
    rename_i ps er
    have er' : r.2 = .lst ps := er
    rw [er'] at o
    obtain ⟨a1, vs1, c1, e1, L1, i1, l1⟩ := o.items
    cases q : setTs ts (r.1 - 1) ps e with
    | none => rw [q] at w'; exact w'.elim
    | some e2 =>
      rw [q] at w'
      have w2 : wpS W X.K X.mg σ0 τ H F (.ok (.nx e2)) D := w'
      have len : ∀ (ts : List Tg) (ps : List PV) (d : Nat) (env env' : LEnv), setTs ts d ps env = some env' → ps.length = ts.length := by
        intro ts
        induction ts with
        | nil => intro ps d env env' e; cases ps with
          | nil => rfl
          | cons => rw [setTs] at e; cases e; all_goals simp
        | cons t ts ih => intro ps d env env' e; cases ps with
          | nil => rw [setTs] at e; cases e; all_goals simp
          | cons p ps =>
            rw [setTs, Option.bind_eq_some_iff] at e
            obtain ⟨e1, _, eb⟩ := e
            rw [List.length_cons, List.length_cons, ih ps d e1 env' eb]
      have tl : ∀ b, F' b + c1 b + τ b ≤ T' b := fun b => by have := su b; have := l1 b; omega
      refine ⟨a1, vs1, e1, L1.sq, by rw [i1.rep.length, len _ _ _ _ _ q, hl], e, σ0, τ, (fun b => F' b + c1 b + τ b), F', c1, r.1 - 1, ps, e2, sl.keep (fun a o e t => by have := tl a; show F' a + c1 a + τ a = 0; omega) (fun a o e _ => e), fun _ => rfl, fun b => Nat.le_trans (tl b) (on b), i1.keep (fun a o e t => by have := tl a; show F' a + c1 a + τ a = 0; omega) (fun a o e _ => e), q, fun σ2 T2 F2 s2 u2 l2 => w2 σ2 H' T2 F2 ⟨s2, u2, fun b => ?_, fun b z => ?_⟩ (fr.less fun b => ?_)⟩
      · have := u2 b; have := l2 b; have := tl b; have := on b; omega
      · obtain ⟨o, e⟩ := n0.ex b z; exact (fr.own b o e).1
      · have := l2 b; have := l1 b; show F2 b ≤ F' b + f b; omega⟩

/-! ### xs.extend(ys) -/
def extS (env : LEnv) (i dv : Nat) (v : PV) : Option LEnv := match env[i]? with
  | some (some s) => (match s.d, s.v, dv, v with
    | d + 1, .lst ps, dw + 1, .lst qs => if sizeOk (ps.length + qs.length) then some (env.set i (some ⟨min d dw + 1, s.pin, .lst (ps ++ qs)⟩)) else none
    | _, _, _, _ => none)
  | _ => none
def mExt (i : Nat) (me : ME (Nat × PV)) : MS := fun env => if isLst env i then (me env).bind fun z => ofNx (extS z.2 i z.1.1 z.1.2) else .stuck
theorem ss_ext {i : Nat} {x : Str} {px pa pc : Pos} (hv : PE X (.Name x px) (tVar i)) (he : SE X W a me) (hst : starEach [a] X.env = (false, eval a X.env) :: starEach [] X.env := by rfl)
    (hbase : attributeBase (.Name x px) "extend" X.env (eval (.Name x px) X.env) = eval (.Name x px) X.env := by rfl)
    (hfew : ((backTo pc (starEach [a] X.env)).all (fun x => !x.1) && (backToKw pc (keywordEach [] X.env)).all (fun x => x.1.isSome)
      && decide ([a].length + ([] : List Keyword).length + (if ([] : List Keyword).isEmpty then 0 else 1) < 30)) = true := by rfl)
    (hline : (pa.endLine == pc.line) = true := by rfl) (hplain : (backTo pc (starEach [] X.env)).any (·.1) = false := by rfl)
    (hs : swapsWith (.Call (.Attribute (.Name x px) "extend" pa) [a] [] pc) none pos.line X.env = pure false := by rfl) : SS X W (.Expr (.Call (.Attribute (.Name x px) "extend" pa) [a] [] pc) pos) (mExt i me) :=
  (ps_expr (pe_bm PySem.F.plainAttrs_list PySem.F.slot_list_extend PySem.F.type_list_extend mt_extend hv (pa_cons he pa_nil hst) hbase hfew hline hst hplain) hs).weak fun D σ H ⟨env, σ0, τ, T, F, n, w⟩ => by
    unfold mExt at w
    split at w
    case isFalse => exact w.elim
    rename_i hi
    obtain ⟨l, vs0, e1, hs0⟩ := isLst_at hi n.sees
    refine ⟨.ref l, e1, .inl ⟨rfl, _, hs0⟩, env, σ0, τ, T, F, n, wpE_mono (wpE_S w) fun r e H' T' F' f sl su on fr w' x o => ?_⟩
    dsimp only at w'
    cases q : extS e i r.1 r.2 with
    | none => rw [q] at w'; exact w'.elim
    | some e2 =>
      rw [q] at w'
      have w2 : wpS W X.K X.mg σ0 τ H F (.ok (.nx e2)) D := w'
      unfold extS at q
      split at q
      case h_2 => cases q
      rename_i s es
      obtain ⟨d0, pin, pv⟩ := s
      dsimp only at q
      split at q
      case h_2 => cases q
      rename_i d ps dw qs hdw hmore
      rw [hdw, hmore] at o
      split at q
      case isFalse => cases q
      rename_i hz
      cases q
      obtain ⟨v, g, G, ev, og, slG, hG, hp⟩ := sl.get es
      rw [e1] at ev; cases ev
      obtain ⟨a1, vs, gc, ea, hH, oc, hg⟩ := og.lstInv
      cases ea
      obtain ⟨b1, ws, gc2, eb, hB, oc2, hg2⟩ := o.lstInv
      subst eb
      refine ⟨l, b1, vs, ws, rfl, rfl, hH, hB, by rw [oc.rep.length, oc2.rep.length]; exact sizeOk_le hz, ?_⟩
      have o' : Own X.K X.mg H' T' (dw + 1) (.ref b1) (.lst qs) f := .lst1 hB oc2 hg2
      -- the items come as a tuple would
      have key : ∃ T3 : Cnt, (∀ b, T3 b = F' b + gc2 b + τ b) ∧ (∀ b, T3 b ≤ T' b) := ⟨fun b => F' b + gc2 b + τ b, fun _ => rfl, fun b => by show F' b + gc2 b + τ b ≤ T' b; have := su b; have := hg2 b; omega⟩
      obtain ⟨T3, hT3, lT3⟩ := key
      have sl3 : Slots X.K X.mg H' T3 e σ σ0 F' := sl.keep (fun a o e t => by have := lT3 a; omega) fun a o e _ => e
      have oc3 : Owns X.K X.mg H' T3 dw ws qs gc2 := oc2.keep (fun a o e t => by have := lT3 a; omega) fun a o e _ => e
      have fr3 : Frm H F H' fun b => F' b + gc2 b := fr.less fun b => by have := hg2 b; show F' b + gc2 b ≤ F' b + f b; omega
      exact slots_wr (ps := ps) (d := d) (d1 := dw) (ho := .lst vs) (ho' := .lst (vs ++ ws)) (xs := ws) (qs := qs) n sl3 hT3 (fun b => Nat.le_trans (lT3 b) (on b)) fr3 es e1 oc3 (fun g og => by
        obtain ⟨l2, vs2, fc2, evl2, hH2, oc2', hg2'⟩ := og.lstInv
        cases evl2
        have : vs2 = vs := by rw [hH2] at hH; cases hH; rfl
        subst this
        exact ⟨_, fc2, hH2, oc2', hg2', fun gc' f' H2 T2 oc' o' hl' => ⟨fun b => gc' b + f' b, fun b => Nat.le_refl _, .lst1 hl' (oc'.append o') fun _ => rfl⟩⟩) (fun z => z) w2
end
end M

set_option Elab.async false
set_option linter.all false
set_option maxRecDepth 100000
set_option maxHeartbeats 4000000
/-! items taken out of what a slot owns; {tuple: new} -/
namespace M
open PySem PySem.Spec PyProof.Rows L2
section
variable {K : PySem.W.Frag} {mg : Str → Option Value} {H : Hp} {T : Cnt}
theorem Owns.get {d : Nat} : ∀ {vs : List V} {ps : List PV} {f : Cnt} {j : Nat} {p : PV}, Owns K mg H T d vs ps f → ps[j]? = some p → ∃ v fv, vs[j]? = some v ∧ Own K mg H T d v p fv ∧ ∀ b, fv b ≤ f b
  | _, _, _, _, _, .nil _, e => by simp at e
  | _, _, _, 0, _, .cons o _ hk, e => by simp at e; subst e; exact ⟨_, _, rfl, o, fun b => by rw [hk]; omega⟩
  | _, _, _, j + 1, _, .cons _ r hk, e => by
    obtain ⟨v, fv, a, b, c⟩ := Owns.get r (j := j) (by simpa using e)
    exact ⟨v, fv, by simpa using a, b, fun x => by rw [hk]; have := c x; omega⟩
theorem Owns.atI {d : Nat} {vs : List V} {ps : List PV} {f : Cnt} {i : Int} {p : PV} (h : Owns K mg H T d vs ps f) (e : L2.atI ps i = some p) : ∃ v fv, L2.atI vs i = some v ∧ Own K mg H T d v p fv ∧ ∀ b, fv b ≤ f b := by
  unfold L2.atI at e ⊢
  rw [h.rep.length]
  cases q : ixN ps.length i with
  | none => rw [q] at e; cases e
  | some j =>
    rw [q] at e
    exact h.get e
/-- what a dict's owner has at a key -/
theorem look_own {d : Nat} {κ : Type} [DecidableEq κ] {f : κ → PV} (hf : ∀ a b, keq (f a) (f b) = decide (a = b)) (k : κ) : ∀ {es : List (κ × V)} {kvs : List (PV × PV)} {g : Cnt}, es.map (fun e => f e.1) = kvs.map (·.1) → Owns K mg H T d (es.map (·.2)) (kvs.map (·.2)) g →
    (look kvs (f k) = none ∧ valV es k = none) ∨ ∃ p v fv, look kvs (f k) = some p ∧ valV es k = some v ∧ Own K mg H T d v p fv ∧ ∀ b, fv b ≤ g b
  | [], [], _, _, _ => .inl ⟨rfl, rfl⟩
  | [], _ :: _, _, e, _ => by simp at e
  | _ :: _, [], _, e, _ => by simp at e
  | (a, v) :: es, (b, p) :: kvs, g, e, r => by
    rw [List.map_cons, List.map_cons] at e r
    obtain ⟨e1, e2⟩ := List.cons.inj e
    cases r with
    | @cons _ _ _ _ _ f1 g1 _ r1 r2 hk =>
      have e1' : f a = b := e1
      subst e1'
      by_cases h : a = k
      · subst h
        refine .inr ⟨p, v, f1, ?_, valV_pos rfl, r1, fun b => by rw [hk]; omega⟩
        unfold look
        rw [List.find?_cons, hf, decide_eq_true rfl]; rfl
      · rcases look_own hf k e2 r2 with ⟨h1, h2⟩ | ⟨p', v', fv, h1, h2, h3, h4⟩
        · refine .inl ⟨?_, (valV_neg h).trans h2⟩
          unfold look at h1 ⊢
          rw [List.find?_cons, hf, decide_eq_false h]; exact h1
        · refine .inr ⟨p', v', fv, ?_, (valV_neg h).trans h2, h3, fun b => by rw [hk]; have := h4 b; omega⟩
          unfold look at h1 ⊢
          rw [List.find?_cons, hf, decide_eq_false h]; exact h1
theorem key_reps {vs : List V} : ∀ {vs : List V} {ks : List Key}, Reps K mg H vs (ks.map kP) → vs = ks.map kV := by
  intro vs ks
  induction ks generalizing vs with
  | nil => intro r; cases r; rfl
  | cons k ks ih =>
    intro r
    rw [List.map_cons] at r
    cases r with
    | cons r1 r2 =>
      rw [ih r2]
      cases k <;> (cases r1; rfl)
/-- a key of the second kind, as it stands -/
theorem key_tup {y : V} {k : PV} (rk : Rep K mg H y k) (hk : isKey true k = true) : ∃ b keys, y = .ref b ∧ k = kPs keys ∧ H b = some (.tup (keys.map kV)) := by
  unfold isKey at hk
  split at hk
  · rename_i e; cases e
  · rename_i ps
    obtain ⟨keys, hkey⟩ := Option.isSome_iff_exists.1 hk
    have ek := keysK_some hkey
    subst ek
    cases rk with
    | tup hb rb =>
      have e := key_reps (vs := []) rb
      subst e
      exact ⟨_, keys, rfl, rfl, hb⟩
  · cases hk
theorem dget_own {d : Nat} {x y : V} {t : Bool} {kvs : List (PV × PV)} {k : PV} {f : Cnt} (o : Own K mg H T d x (.dct t kvs) f) (rk : Rep K mg H y k) (hk : isKey t k = true) :
    ∃ a ov, x = .ref a ∧ DGet H a y ov ∧ IsD H a ∧ ((look kvs k = none ∧ ov = none) ∨ ∃ p v fv, look kvs k = some p ∧ ov = some v ∧ Own K mg H T (d - 1) v p fv ∧ ∀ b, fv b ≤ f b) := by
  have key : ∀ {a : Addr} {es : List (Key × V)} {g : Cnt}, t = false → H a = some (.dK es) → es.map (fun e => kP e.1) = kvs.map (·.1) → Owns K mg H T (d - 1) (es.map (·.2)) (kvs.map (·.2)) g → (∀ b, g b ≤ f b) → x = .ref a →
      ∃ a ov, x = .ref a ∧ DGet H a y ov ∧ IsD H a ∧ ((look kvs k = none ∧ ov = none) ∨ ∃ p v fv, look kvs k = some p ∧ ov = some v ∧ Own K mg H T (d - 1) v p fv ∧ ∀ b, fv b ≤ f b) := by
    intro a es g ht h e1 r lg ex
    subst ht
    obtain ⟨key, hkey⟩ := Option.isSome_iff_exists.1 hk
    have ek := keyK_some hkey
    subst ek
    have ey : y = kV key := by cases key <;> (cases rk; rfl)
    subst ey
    rcases look_own (f := kP) keq_k key e1 r with ⟨h1, h2⟩ | ⟨p, v, fv, h1, h2, h3, h4⟩
    · exact ⟨a, none, ex, by rw [← h2]; exact .k h, .inl ⟨_, .inl h⟩, .inl ⟨h1, rfl⟩⟩
    · exact ⟨a, some v, ex, by rw [← h2]; exact .k h, .inl ⟨_, .inl h⟩, .inr ⟨p, v, fv, h1, rfl, h3, fun b => Nat.le_trans (h4 b) (lg b)⟩⟩
  have keyT : ∀ {a : Addr} {es : List (List Key × V)} {g : Cnt}, t = true → H a = some (.dT es) → es.map (fun e => kPs e.1) = kvs.map (·.1) → Owns K mg H T (d - 1) (es.map (·.2)) (kvs.map (·.2)) g → (∀ b, g b ≤ f b) → x = .ref a →
      ∃ a ov, x = .ref a ∧ DGet H a y ov ∧ IsD H a ∧ ((look kvs k = none ∧ ov = none) ∨ ∃ p v fv, look kvs k = some p ∧ ov = some v ∧ Own K mg H T (d - 1) v p fv ∧ ∀ b, fv b ≤ f b) := by
    intro a es g ht h e1 r lg ex
    subst ht
    obtain ⟨b, keys, ey, ek, hb⟩ := key_tup rk hk
    subst ey; subst ek
    rcases look_own (f := kPs) keq_t keys e1 r with ⟨h1, h2⟩ | ⟨p, v, fv, h1, h2, h3, h4⟩
    · exact ⟨a, none, ex, by rw [← h2]; exact .t h hb, .inr ⟨_, .inl h⟩, .inl ⟨h1, rfl⟩⟩
    · exact ⟨a, some v, ex, by rw [← h2]; exact .t h hb, .inr ⟨_, .inl h⟩, .inr ⟨p, v, fv, h1, rfl, h3, fun b => Nat.le_trans (h4 b) (lg b)⟩⟩
  cases o with
  | dK0 h t0 e1 e2 r => subst e2; exact key rfl h e1 r (fun _ => Nat.le_refl _) rfl
  | dK1 h e1 e2 r hg => subst e2; exact key rfl h e1 r (fun b => by rw [hg]; omega) rfl
  | dT0 h t0 e1 e2 r => subst e2; exact keyT rfl h e1 r (fun _ => Nat.le_refl _) rfl
  | dT1 h e1 e2 r hg => subst e2; exact keyT rfl h e1 r (fun b => by rw [hg]; omega) rfl
end

/-- x[j] of a list or tuple in a slot: the slot gives up its ownership -/
def getIx : PV → PV → Option PV
  | .lst ps, .int j => atI ps j
  | .tup ps, .int j => atI ps j
  | _, _ => none
def mFrzIx (i : Nat) (mj : MP PV) : ME (Nat × PV) := fun env => match env[i]? with
  | some (some s) => (match mj env with
    | .stuck => .stuck
    | .exc x => .exc (x, env)
    | .ok k => match getIx s.v k with
      | some q => .ok ((0, q), env.set i (some ⟨0, s.pin, s.v⟩))
      | none => .stuck)
  | _ => .stuck
/-- d[k], d.get(k), taken out of a slot's dict, of which nothing is left -/
def mDTake (i : Nat) (mk : MP PV) : ME (Nat × PV) := fun env => match env[i]? with
  | some (some s) => (match mk env with
    | .stuck => .stuck
    | .exc x => .exc (x, env)
    | .ok k => match s.v with
      | .dct t kvs => if isKey t k = true then (match look kvs k with
        | some p => .ok ((s.d - 1, p), env.set i none)
        | none => .stuck) else .stuck
      | _ => .stuck)
  | _ => .stuck
def mDTakeG (i : Nat) (mk : MP PV) : ME (Nat × PV) := fun env => match env[i]? with
  | some (some s) => if isDct s.v = true then (match mk env with
    | .stuck => .stuck
    | .exc x => .exc (x, env)
    | .ok k => match s.v with
      | .dct t kvs => if isKey t k = true then .ok ((s.d - 1, (look kvs k).getD .non), env.set i none) else .stuck
      | _ => .stuck) else .stuck
  | _ => .stuck
section
variable {X : Cx} {W : WX} {a b c e tg value : Expr} {es : List Expr} {pos p p2 apos cpos : Pos} {m ma mb mk mv mj : MP PV} {ms : MP (List PV)} {mt : MP Bool} {me mf : ME (Nat × PV)} {t : Tg} {ts : List Tg} {mi : MP (List PV)}
theorem se_ixF {i : Nat} {x : Str} {px : Pos} (hv : PE X (.Name x px) (tVar i)) (hj : SP X W e mj) (hs : PlainIx e := by exact fun _ _ => rfl) : SE X W (.Subscript (.Name x px) e pos) (mFrzIx i mj) := (pe_ix (IxR.or ix_list ix_tup) hv hj hs).weak fun σ H Q ⟨env, σ0, τ, T, F, n, w⟩ => by
  unfold mFrzIx at w
  split at w
  · rename_i s e
    obtain ⟨v, f, g, e1, o, sl, hs, hp⟩ := n.sl.get e
    refine ⟨v, e1, env, n.sees, ?_⟩
    cases hk : mj env with
    | stuck => rw [hk] at w; exact w
    | exc x => rw [hk] at w; exact fun C dd H' g c => w C dd H' T F (n.grow g) (.grow g fun _ _ _ => Nat.le_refl _) c
    | ok k =>
      rw [hk] at w
      intro H1 g1 y ry
      dsimp only at w
      split at w
      case h_2 => exact w.elim
      rename_i q hq
      obtain ⟨f', l, lo⟩ := o.low (fun b => by have := hs b; have := n.sum b; have := n.one b; omega) (Nat.zero_le _)
      have t' : ∀ b, g b + τ b ≤ T b := fun b => by have := hs b; have := n.sum b; omega
      have z : ∀ b, f b ≠ 0 → g b + τ b = 0 := fun b hb => by have := hs b; have := n.sum b; have := n.one b; omega
      have o' := lo (fun b => g b + τ b) t' fun b hb _ => z b hb
      have f0 : ∀ b, f' b = 0 := o'.zero
      have sl' := (sl.keep (T' := fun b => g b + τ b) (fun a o e t => by have := t' a; show g a + τ a = 0; omega) fun a o e _ => e).put (s := ⟨0, s.pin, s.v⟩) (get_set_none e) o' hp
      rw [set_set_none, set_self e1] at sl'
      have w1 : ∀ u, Own X.K X.mg H1 (fun b => g b + τ b) 0 u q (fun _ => 0) → Q u H1 := fun u ou => w H1 (fun b => g b + τ b) (fun b => g b + f' b) (fun _ => 0) (sl'.grow g1) (fun b => by have := f0 b; show g b + τ b = g b + f' b + 0 + τ b; omega) (fun b => Nat.le_trans (t' b) (n.one b)) (.grow g1 fun a o e => by have := f0 a; have := hs a; show g a + f' a + 0 ≤ F a; omega) u ou
      have o1 := o'.grow g1
      obtain ⟨d0, pin, pv⟩ := s
      unfold getIx at hq
      split at hq
      · rename_i ps j ep
        have ep' : pv = .lst ps := ep
        subst ep'
        cases ry
        obtain ⟨a1, vs1, c1, ea, L1, i1, l1⟩ := o1.items
        obtain ⟨u, fu, eu, ou, lu⟩ := i1.atI hq
        exact .inl ⟨a1, vs1, j, u, ea, rfl, L1.sq, eu, w1 u (ou.cnt fun b => by have := lu b; have := l1 b; have := f0 b; omega)⟩
      · rename_i ps j ep
        have ep' : pv = .tup ps := ep
        subst ep'
        cases ry
        cases o1 with
        | tup hh r =>
          obtain ⟨u, fu, eu, ou, lu⟩ := r.atI hq
          exact .inr ⟨_, _, j, u, rfl, rfl, SqT.of hh, eu, w1 u (ou.cnt fun b => by have := lu b; have := f0 b; omega)⟩
      · cases hq
  · exact w.elim
theorem se_dtake {i : Nat} {x : Str} {px : Pos} (hu : X.A.units + 1 < cLine) (hv : PE X (.Name x px) (tVar i)) (hk : SP X W e mk) (hs : NoSl e := by exact fun _ _ => rfl) : SE X W (.Subscript (.Name x px) e pos) (mDTake i mk) := (pe_dget hu hv hk hs).weak fun σ H Q ⟨env, σ0, τ, T, F, n, w⟩ => by
  unfold mDTake at w
  split at w
  · rename_i s e
    obtain ⟨v, f, g, e1, o, sl, hs, hp⟩ := n.sl.get e
    refine ⟨v, e1, env, n.sees, ?_⟩
    cases hk : mk env with
    | stuck => rw [hk] at w; exact w
    | exc x => rw [hk] at w; exact fun C dd H' g c => w C dd H' T F (n.grow g) (.grow g fun _ _ _ => Nat.le_refl _) c
    | ok k =>
      rw [hk] at w
      intro H1 g1 y ry
      obtain ⟨d0, pin, pv⟩ := s
      dsimp only at w
      split at w
      case h_2 => exact w.elim
      rename_i t kvs
      split at w
      case isFalse => exact w.elim
      rename_i hkk
      obtain ⟨a1, ov, ea, dg, di, h⟩ := dget_own (o.grow g1) ry hkk
      rcases h with ⟨h1, _⟩ | ⟨q, u, fv, h1, eo, ou, lu⟩
      · rw [h1] at w; exact w.elim
      · rw [h1] at w
        subst eo
        refine ⟨a1, u, ea, dg, ?_⟩
        have t' : ∀ b, g b + fv b + τ b ≤ T b := fun b => by have := hs b; have := n.sum b; have := lu b; omega
        exact w H1 (fun b => g b + fv b + τ b) g fv ((sl.grow g1).keep (fun a o e t => by have := t' a; show g a + fv a + τ a = 0; omega) fun a o e _ => e) (fun _ => rfl) (fun b => Nat.le_trans (t' b) (n.one b)) (.grow g1 fun a o e => by have := hs a; have := lu a; show g a + fv a ≤ F a; omega) u (ou.keep (fun a o e t => by have := t' a; show g a + fv a + τ a = 0; omega) fun a o e _ => e)
  · exact w.elim
theorem se_dtakeG {i : Nat} {x : Str} {px : Pos} (hu : X.A.units + 1 < cLine) (hv : PE X (.Name x px) (tVar i)) (hk : SP X W e mk) (m : M1 X (.Name x px) "get" apos e cpos) : SE X W (.Call (.Attribute (.Name x px) "get" apos) [e] [] cpos) (mDTakeG i mk) := (pe_dget1 hu hv hk m).weak fun σ H Q ⟨env, σ0, τ, T, F, n, w⟩ => by
  unfold mDTakeG at w
  split at w
  · rename_i s e
    obtain ⟨v, f, g, e1, o, sl, hs, hp⟩ := n.sl.get e
    split at w
    case isFalse => exact w.elim
    rename_i hd
    obtain ⟨a0, ev, di⟩ := isDct_rep o.rep hd
    refine ⟨v, e1, a0, ev, di, env, n.sees, ?_⟩
    cases hk : mk env with
    | stuck => rw [hk] at w; exact w
    | exc x => rw [hk] at w; exact fun C dd H' g c => w C dd H' T F (n.grow g) (.grow g fun _ _ _ => Nat.le_refl _) c
    | ok k =>
      rw [hk] at w
      intro H1 g1 y ry
      obtain ⟨d0, pin, pv⟩ := s
      dsimp only at w
      split at w
      case h_2 => exact w.elim
      rename_i t kvs
      split at w
      case isFalse => exact w.elim
      rename_i hkk
      obtain ⟨a1, ov, ea, dg, _, h⟩ := dget_own (o.grow g1) ry hkk
      rw [ev] at ea; cases ea
      refine ⟨ov, dg, ?_⟩
      rcases h with ⟨h1, eo⟩ | ⟨q, u, fv, h1, eo, ou, lu⟩
      · rw [h1] at w
        subst eo
        have t' : ∀ b, g b + τ b ≤ T b := fun b => by have := hs b; have := n.sum b; omega
        exact w H1 (fun b => g b + τ b) g (fun _ => 0) ((sl.grow g1).keep (fun a o e t => by have := t' a; show g a + τ a = 0; omega) fun a o e _ => e) (fun b => by show g b + τ b = g b + 0 + τ b; omega) (fun b => Nat.le_trans (t' b) (n.one b)) (.grow g1 fun a o e => by have := hs a; show g a + 0 ≤ F a; omega) _ (.non fun _ => rfl)
      · rw [h1] at w
        subst eo
        have t' : ∀ b, g b + fv b + τ b ≤ T b := fun b => by have := hs b; have := n.sum b; have := lu b; omega
        exact w H1 (fun b => g b + fv b + τ b) g fv ((sl.grow g1).keep (fun a o e t => by have := t' a; show g a + fv a + τ a = 0; omega) fun a o e _ => e) (fun _ => rfl) (fun b => Nat.le_trans (t' b) (n.one b)) (.grow g1 fun a o e => by have := hs a; have := lu a; show g a + fv a ≤ F a; omega) u (ou.keep (fun a o e t => by have := t' a; show g a + fv a + τ a = 0; omega) fun a o e _ => e)
  · exact w.elim

/-! ### {tuple: new} -/
end
def tDisp1T (tk tv : TE) : TE := fun σ H Q => ∀ p, H p = none → tk σ (upd H p (.dT [])) fun x H1 => tv σ H1 fun y H2 => H2 p = some (.dT []) ∧ ∃ b ks, x = .ref b ∧ H2 b = some (.tup (ks.map kV)) ∧ Q (.ref p) (upd H2 p (.dT [(ks, y)]))
theorem pe_disp1T {X : Cx} {pos : Pos} {k v : Expr} {tk tv : TE} (hu : X.A.units < cLine) (hk : PE X k tk) (hv : PE X v tv) : PE X (.Dict [some k] [v] pos) (tDisp1T tk tv) := by
  refine ⟨fun pins s σ H Q I q => ?_⟩
  have hn := I.hok.fresh (Nat.le_refl s.heap.objs.size)
  have I1 := I.laid (a := s.heap.objs.size) (o := .dT []) (h' := s.heap.push { cls := .type "dict", data := .dict #[] }) (t' := s.toks) (fun _ _ q => Heap.get?_push_of_some _ q) (Nat.le_refl _) (dt_empty s.heap I.big)
  rw [arm_eval_Dict, zip_pairTrees [some k] [v] X.env pos rfl rfl, dictDisplay_pairs _ (by simp [pairTrees]) (by simp [pairTrees])]
  refine wpAny_bind (wpAny_standAt (wpAny_bind (wpAny_subDictH (knd := tupleKind (mixKind X.prog X.w)) (Q := fun d s' => wpAny (model X.prog X.w) X.A (pure (Value.ref d)) (EP X pins σ Q) X.xe s') hu (by simp [pairTrees]) ?_)))
  have pp : PPs X pos [some k] [v] [(tk, tv)] := pps_cons hk hv pps_nil
  refine thn (pp.run pins _ σ _ (fun ps H2 => match ps with
    | [(x, y)] => H2 s.heap.objs.size = some (.dT []) ∧ ∃ b ks, x = .ref b ∧ H2 b = some (.tup (ks.map kV)) ∧ Q (.ref s.heap.objs.size) (upd H2 s.heap.objs.size (.dT [(ks, y)]))
    | _ => False) I1 (q _ hn)) fun ws s2 ⟨ps, H2, I2, rel, post⟩ => ?_
  split at post
  case h_2 => exact post.elim
  rename_i x y
  obtain ⟨eD, b, ks, ex, eb, q2⟩ := post
  subst ex
  cases rel with
  | @cons _ q0 _ qs r0 rr =>
    cases rr
    obtain ⟨u0, w0⟩ := q0
    obtain ⟨r1, r2⟩ := r0
    obtain rfl : u0 = Value.ref b := r1
    obtain ⟨_, hd, xs, rel, dd⟩ := dt_of I2.hok eD
    cases rel
    refine ⟨[(ks, b, w0)], ⟨rfl, rfl, key_of I2.hok eb, trivial⟩, dd, fun h' tk dd' hs => wpAny_pure ⟨.ref s.heap.objs.size, _, ?_, rfl, q2⟩⟩
    obtain ⟨q, es, ep, hq, h2, h3, h4, _, h5⟩ := dd'
    refine d_write I2 (by rw [eD]; exact True.intro) hs ⟨q, hq⟩ ⟨by rw [sizeLine_eq]; exact (by decide : (1 : Nat) ≤ 16777216), hd, [(ks, b, w0)], .cons ⟨rfl, ?_, r2⟩ .nil, q, es, ep, hq, h2, h3, h4, h5⟩
    have ne : b ≠ s.heap.objs.size := by rintro rfl; rw [eD] at eb; cases eb
    show upd H2 s.heap.objs.size _ b = _
    rw [upd_ne ne]; exact eb
/-- {k: v}, k a tuple, v new -/
def pDisp1 (mk mv : MP PV) : MP PV := fun env => (mk env).bind fun k => (mv env).bind fun v => if isKey true k = true then .ok (PV.dct true [(k, v)]) else .stuck
theorem wpP_bind0 {K : PySem.W.Frag} {mg : Str → Option Value} {W : WX} {σ : L2.St} {H : Hp} {α β : Type} {r : Rs Xn α} {f : α → Rs Xn β} {Q : β → Hp → Prop} (h : wpP W K mg σ H (r.bind f) Q) : wpP W K mg σ H r fun a _ => wpP W K mg σ H (f a) Q := by
  cases r with
  | stuck => exact h
  | ok a => exact fun _ _ => h
  | exc x => exact h
theorem sn_disp1 {X : Cx} {W : WX} {pos : Pos} {a e : Expr} {mk mv : MP PV} (hu : X.A.units < cLine) (hk : SP X W a mk) (hv : SN X W e mv) : SN X W (.Dict [some a] [e] pos) (pDisp1 mk mv) := (pe_disp1T hu hk hv).weak fun σ H Q ⟨env, s, w⟩ => fun D hD => by
  have gD : Grow H (upd H D (.dT [])) := Grow.upd hD
  refine ⟨env, s.grow gD, wpP_mono (wpP_mono' (wpP_bind0 w) gD) fun k H1 g1 w1 x rk => ?_⟩
  refine ⟨env, (s.grow gD).grow g1, wpP_mono (wpP_mono' (wpP_bind0 w1) (gD.trans g1)) fun v H2 g2 w2 y H3 f g3 f1 fz own => ?_⟩
  split at w2
  case isFalse => exact w2.elim
  rename_i hkk
  have eD1 : H1 D = some (.dT []) := g1 _ _ upd_same
  have eD3 : H3 D = some (.dT []) := g3 _ _ (g2 _ _ eD1)
  have rk3 := rk.grow (g2.trans g3)
  obtain ⟨b, keys, ex, ek, eb⟩ := key_tup rk3 hkk
  subst ek
  refine ⟨eD3, b, keys, ex, eb, ?_⟩
  have fD : f D = 0 := fz D _ eD1
  have gg : Grow H (upd H3 D (.dT [(keys, y)])) := fun c o e => by
    have ne : c ≠ D := fun z => by rw [z, hD] at e; cases e
    rw [upd_ne ne]; exact g3 _ _ (g2 _ _ (g1 _ _ (by rw [upd_ne ne]; exact e)))
  refine w2 H (.refl _) (.ref D) (upd H3 D (.dT [(keys, y)])) (fun b => f b + if b = D then 1 else 0) gg (fun c => ?_) (fun c o e => ?_) fun T d hd => ?_
  · by_cases hc : c = D
    · subst hc; show f c + _ ≤ 1; rw [if_pos rfl]; omega
    · show f c + _ ≤ 1; rw [if_neg hc]; have := f1 c; omega
  · have ne : c ≠ D := fun z => by rw [z, hD] at e; cases e
    have := fz c o (g1 _ _ (by rw [upd_ne ne]; exact e))
    show f c + _ = 0; rw [if_neg ne]; omega
  · have hg : hgt (.dct true [(kPs keys, v)]) = max (hgt v) 0 + 1 := by rw [hgt, hgtK, hgtK]
    rw [hg] at hd
    obtain ⟨d, rfl⟩ : ∃ k, d = k + 1 := ⟨d - 1, by omega⟩
    have ov : Own X.K X.mg (upd H3 D (.dT [(keys, y)])) T d y v f := by
      refine ((own (fun b => if b = D then 1 else 0) d (by omega)).keep (T' := fun b => if b = D then 1 else 0) (fun _ _ _ z => z) fun c o e z => ?_).re (by omega) (by omega)
      have ne : c ≠ D := by
        rintro rfl
        rcases z with z | z | z
        · exact z fD
        · simp at z
        · rw [eD3] at e; cases e; exact z
      rw [upd_ne ne]; exact e
    exact .dT1 (es := [(keys, y)]) upd_same rfl rfl (.cons ov (.nil (f := fun _ => 0) fun _ => rfl) fun b => (Nat.add_zero _).symm) fun b => rfl
end M

set_option Elab.async false
set_option linter.all false
set_option maxRecDepth 100000
set_option maxHeartbeats 4000000
/-! [e for t in it if c for t1 in it1 if c1], flat things -/
namespace M
open PySem PySem.Spec PyProof.Rows L2
def ItOk2 (K : PySem.W.Frag) (mg : Str → Option Value) (J : It) (H0 H : Hp) (ps : List PV) : Prop := ∃ vs, Reps K mg H vs ps ∧ hgts ps = 0 ∧ ∃ there : Hp → Prop, there H ∧
  (∀ D xs H1 H2, H0 D ≠ none → H1 D = some (.lst xs) → there H1 → (∀ a o, H1 a = some o → a ≠ D → H2 a = some o) → there H2) ∧
  (∀ i H v, there H → vs[i]? = some v → J.go i H) ∧ (∀ i H, there H → vs.length ≤ i → J.stop i H) ∧ (∀ i H x H', i < vs.length → there H → J.yld i H x H' → H' = H ∧ vs[i]? = some x)
def tSI2 (K : PySem.W.Frag) (mg : Str → Option Value) (W : WX) (m : MP (List PV)) : TI := fun σ H R => ∃ env, Sees K mg H env σ ∧ wpP W K mg σ H (m env) fun ps H' => ∀ J H2, Grow H' H2 → ItOk2 K mg J H H2 ps → R J H2
def SI2 (X : Cx) (W : WX) (tg it : Expr) (m : MP (List PV)) : Prop := PI X tg it (tSI2 X.K X.mg W m)
def flatL (ps : List PV) : Option (List PV) := if hgts ps = 0 then some ps else none
def mIt2 (g : PV → Option (List PV)) (m : MP PV) : MP (List PV) := fun env => (m env).bind fun p => ofO ((g p).bind flatL)
theorem hgts_rngs (lo : Int) : ∀ n, hgts (rngs lo n) = 0 := fun n => by
  unfold rngs
  generalize List.range n = l
  induction l with
  | nil => rw [List.map_nil, hgts]
  | cons i l ih => rw [List.map_cons, hgts, ih]; simp
theorem rng_it2 {K : PySem.W.Frag} {mg : Str → Option Value} {H0 H : Hp} (lo : Int) (k : Nat) : ItOk2 K mg (Itr lo k) H0 H (rngs lo k) := by
  obtain ⟨vs, rv, there, th, t1, t2, go, stop, yld⟩ := rng_it (K := K) (mg := mg) (H := H) lo k
  obtain ⟨vs, o, ev⟩ := rngs_own (K := K) (mg := mg) (H := H) (T := fun _ => 0) lo k
  have ln : vs.length = k := by rw [ev, List.length_map, List.length_range]
  refine ⟨vs, o.rep, hgts_rngs lo k, fun _ => True, trivial, fun _ _ _ _ _ _ _ _ => trivial, fun i H v _ e => ?_, fun i H _ l => by rw [ln] at l; exact l, fun i H x H' hl _ y => ⟨y.1, ?_⟩⟩
  · have := (List.getElem?_eq_some_iff.mp e).1
    show i < k; omega
  · rw [y.2, ev, List.getElem?_map, List.getElem?_range (by omega)]; rfl
section
variable {X : Cx} {W : WX} {a b c e tg tg1 iter1 : Expr} {es es1 : List Expr} {pos p p2 : Pos} {m ma mb : MP PV} {ms ml : MP (List PV)} {mt mt1 : MP Bool} {t t1 : Tg} {mi mi1 : MP (List PV)} {me : MP PV}
theorem si2_rng (h : SP X W a m) : SI2 X W tg a (mIt2 itR m) := (pi_rv h).weak fun σ H R ⟨env, s, w⟩ => tsp_bind (k := fun env p => ofO ((itR p).bind flatL)) s w fun p x H1 g r s1 w1 => by
  obtain ⟨ps, ez, q⟩ := wpP_ofO w1
  rw [Option.bind_eq_some_iff] at ez
  obtain ⟨ps', ez, ef⟩ := ez
  cases r with
  | @rng a lo hi hs =>
    simp only [itR] at ez
    split at ez
    · rename_i hz
      cases ez
      unfold flatL at ef
      rw [if_pos (hgts_rngs _ _)] at ef
      cases ef
      rw [Bool.and_eq_true] at hz
      obtain ⟨h1, h2⟩ : -4611686018427387904 ≤ lo ∧ lo < 4611686018427387904 := rngOk_lt hz.1
      obtain ⟨h3, h4⟩ : -4611686018427387904 ≤ hi ∧ hi < 4611686018427387904 := rngOk_lt hz.2
      exact ⟨a, lo, hi, rfl, hs, ⟨by omega, by omega, by omega, by omega⟩, q H1 (.refl _) _ H1 (.refl _) (rng_it2 _ _)⟩
    · cases ez
  | _ => cases ez
theorem si2_tup (h : SP X W a m) : SI2 X W tg a (mIt2 itT m) := (pi_tup h).weak fun σ H R ⟨env, s, w⟩ => tsp_bind (k := fun env p => ofO ((itT p).bind flatL)) s w fun p x H1 g r s1 w1 => by
  obtain ⟨ps, ez, q⟩ := wpP_ofO w1
  rw [Option.bind_eq_some_iff] at ez
  obtain ⟨ps', ez, ef⟩ := ez
  unfold flatL at ef
  split at ef
  case isFalse => cases ef
  rename_i hz
  cases ef
  have keep : ∀ (a : Addr) (vs : List V), ∀ (D : Addr) (xs : List V) (H1 H2 : Hp), H D ≠ none → H1 D = some (.lst xs) → SqT X.K H1 a vs → (∀ a o, H1 a = some o → a ≠ D → H2 a = some o) → SqT X.K H2 a vs := fun a vs D xs H1 H2 _ hD h k => by
    rcases h with (h | ⟨o, h⟩) | h
    · exact .inl (.inl (k _ _ h (by rintro rfl; rw [hD] at h; cases h)))
    · exact .inl (.inr ⟨o, k _ _ h (by rintro rfl; rw [hD] at h; cases h)⟩)
    · exact .inr h
  cases r with
  | @tup a vs _ hs hr =>
    cases ez
    exact ⟨a, rfl, ⟨vs, SqT.of hs⟩, q H1 (.refl _) _ H1 (.refl _) ⟨vs, hr, hz, fun H => SqT X.K H a vs, SqT.of hs, fun D xs H1 H2 h0 hD h k => keep a vs D xs H1 H2 h0 hD h k, fun i H v h e => ⟨vs, v, h, e⟩, fun i H h e => ⟨vs, h, e⟩, fun i H x H' _ h y => ⟨y.1, y.2 vs h⟩⟩⟩
  | @ktp a vs _ hs hr =>
    cases ez
    exact ⟨a, rfl, ⟨vs, .inr hs⟩, q H1 (.refl _) _ H1 (.refl _) ⟨vs, hr, hz, fun H => SqT X.K H a vs, .inr hs, fun D xs H1 H2 h0 hD h k => keep a vs D xs H1 H2 h0 hD h k, fun i H v h e => ⟨vs, v, h, e⟩, fun i H h e => ⟨vs, h, e⟩, fun i H x H' _ h y => ⟨y.1, y.2 vs h⟩⟩⟩
  | _ => cases ez
/-- a new list -/
theorem si2_new (h : SN X W a m) : SI2 X W tg a (mIt2 itL m) := (pi_list h).weak fun σ H R ⟨env, s, w⟩ => ⟨env, s, wpP_mono (wpP_bind w) fun p H1 g w1 x H2 f g2 f1 fz own => by
  obtain ⟨ps, ez, q⟩ := wpP_ofO w1
  rw [Option.bind_eq_some_iff] at ez
  obtain ⟨ps', ez, ef⟩ := ez
  unfold flatL at ef
  split at ef
  case isFalse => cases ef
  rename_i hz
  cases ef
  unfold itL lstOf at ez
  split at ez
  case h_2 => cases ez
  rename_i ps0
  cases ez
  have o := own (fun _ => 0) (hgts ps + 1) (by rw [hgt]; exact Nat.le_refl _)
  obtain ⟨l, vs, fc, ex, hH, oc, hg⟩ := o.lstInv
  subst ex
  have hl : H l = none := by
    cases e : H l with
    | none => rfl
    | some o => have := fz l o e; have := hg l; rw [if_pos rfl] at this; omega
  refine ⟨l, rfl, ⟨vs, SqL.of hH⟩, q H2 (g2) _ H2 (.refl _) ⟨vs, oc.rep, hz, fun H => H l = some (.lst vs), hH, fun D xs H1 H2 h0 hD h k => k _ _ h (by rintro rfl; exact h0 hl), fun i H v h e => ⟨vs, v, SqL.of h, e⟩, fun i H h e => ⟨vs, SqL.of h, e⟩, fun i H x H' _ h y => ⟨y.1, y.2 vs (SqL.of h)⟩⟩⟩⟩
def compF2 (t : Tg) (mt : MP Bool) (mi1 : MP (List PV)) (vs1 : List Nat) (t1 : Tg) (mt1 : MP Bool) (me : MP PV) (env : LEnv) : List PV → Option (List PV)
  | [] => some []
  | p :: r => (setT t 0 p env).bind fun e => (noX (mt e)).bind fun b => if b = true then (noX (mi1 e)).bind fun qs => (compF t1 mt1 me (wipeE e vs1) qs).bind fun ys => (compF2 t mt mi1 vs1 t1 mt1 me env r).map (ys ++ ·) else compF2 t mt mi1 vs1 t1 mt1 me env r
def mComp2 (vs : List Nat) (t : Tg) (mi : MP (List PV)) (mt : MP Bool) (vs1 : List Nat) (t1 : Tg) (mi1 : MP (List PV)) (mt1 : MP Bool) (me : MP PV) : MP (List PV) := fun env => (mi env).bind fun ps => ofO ((compF2 t mt mi1 vs1 t1 mt1 me (wipeE env vs) ps).bind szL)
theorem wiped {vs' : List Nat} {t : Tg} {σ σ2 : L2.St} (hl : (tgN t).all (fun j => vs'.contains j) = true) (l2 : σ2.length = (wipe σ vs').length) (k2 : ∀ j, j ∉ tgN t → σ2[j]? = (wipe σ vs')[j]?) : wipe σ2 vs' = wipe σ vs' := by
  refine (wipe_eq (σ := wipe σ vs') l2 fun j hj => k2 j fun z => hj ?_).trans ?_
  · have := List.all_eq_true.mp hl j z
    simpa using this
  · refine List.ext_getElem? fun j => ?_
    rw [wipe_get, wipe_get, wipe_length]
    by_cases h : j ∈ vs'
    · simp [h]
    · simp [h]
theorem lc2_read {K : PySem.W.Frag} {mg : Str → Option Value} {vs' vs1 : List Nat} {σ : L2.St} {H : Hp} {Q : VK} (hl : (tgN t).all (fun j => vs'.contains j) = true) (hl1 : (tgN t1).all (fun j => vs1.contains j) = true) :
    tSPF K mg W (mComp2 vs' t mi mt vs1 t1 mi1 mt1 me) σ H Q → tLc2 (tSI K mg W mi) (tPG K mg t) (tSPT K mg W0 mt) (tSI2 K mg W0 mi1) (tPG K mg t1) (tSPT K mg W0 mt1) (tSP K mg W0 me) vs' vs1 σ H Q := fun ⟨env, s, w⟩ => ⟨env, s, by
  refine wpP_mono (wpP_bind w) fun ps H1 g w1 J hJ D hD => ?_
  obtain ⟨zs, ez, q⟩ := wpP_ofO w1
  obtain ⟨vs, rv, there, th, tt1, tt2, go, stop, yld⟩ := hJ
  rw [Option.bind_eq_some_iff] at ez
  obtain ⟨zs', ec, ez⟩ := ez
  unfold szL at ez
  split at ez
  case isFalse => cases ez
  rename_i hz
  cases ez
  have len := rv.length
  have s1 := s.grow g
  have hz' := of_decide_eq_true hz
  refine ⟨fun i n H => n = ps.length - i ∧ i ≤ ps.length ∧ ∃ G acc ys rest, H = upd G D (.lst acc) ∧ G D = none ∧ Grow H1 G ∧ there G ∧ Reps K mg G acc ys ∧ compF2 t mt mi1 vs1 t1 mt1 me (wipeE env vs') (ps.drop i) = some rest ∧ zs = ys ++ rest,
    ⟨ps.length, rfl, Nat.zero_le _, H1, [], [], zs, rfl, hD, .refl _, th, .nil, ec, rfl⟩, ?_⟩
  rintro i n H ⟨rfl, hi, G, acc, ys, rest, rfl, hG, gg, th, ra, ecr, ez⟩
  have gD : Grow G (upd G D (.lst acc)) := Grow.upd hG
  have thD := tt1 _ _ th gD
  by_cases hlt : i < ps.length
  · have hv : i < vs.length := by rw [len]; exact hlt
    refine .inr ⟨go i _ vs[i] thD (by simp [hv]), fun H' => i + 1 ≤ ps.length ∧ ∃ G acc ys rest, H' = upd G D (.lst acc) ∧ G D = none ∧ Grow H1 G ∧ there G ∧ Reps K mg G acc ys ∧ compF2 t mt mi1 vs1 t1 mt1 me (wipeE env vs') (ps.drop (i + 1)) = some rest ∧ zs = ys ++ rest,
      fun H' ⟨a, b⟩ => ⟨ps.length - (i + 1), by omega, rfl, a, b⟩, fun x H' y => ?_⟩
    obtain ⟨rfl, hx⟩ := yld i _ x H' hv thD y
    have hd : ps.drop i = ps[i] :: ps.drop (i + 1) := List.drop_eq_getElem_cons hlt
    rw [hd, compF2, Option.bind_eq_some_iff] at ecr
    obtain ⟨e2, es2, ecr⟩ := ecr
    rw [Option.bind_eq_some_iff] at ecr
    obtain ⟨b, eb, ecr⟩ := ecr
    obtain ⟨v, ev, rx⟩ := rv.get (i := i) (p := ps[i]) (by simp [hlt])
    rw [hx] at ev; cases ev
    have sw := wipe_sees (s1.grow gg) vs'
    refine ⟨G, _, _, e2, gD, sw, rx.grow gg, es2, fun σ2 s2 l2 k2 => ⟨wiped hl l2 k2, e2, s2.grow gD, noX_wp eb fun H3 g3 => ?_⟩⟩
    have eD : H3 D = some (.lst acc) := g3 _ _ upd_same
    cases b with
    | false =>
      let G3 : Hp := fun b => if b = D then none else H3 b
      have g3D : G3 D = none := if_pos rfl
      have gG : Grow G G3 := fun c o e => by
        have ne : c ≠ D := fun z => by rw [z, hG] at e; cases e
        show (if c = D then none else H3 c) = some o
        rw [if_neg ne]; exact g3 c o (by rw [upd_ne ne]; exact e)
      refine ⟨hlt, G3, acc, ys, rest, ?_, g3D, gg.trans gG, tt1 _ _ th gG, ra.grow gG, by simpa using ecr, ez⟩
      funext c
      by_cases hc : c = D
      · subst hc; rw [upd_same]; exact eD
      · rw [upd_ne hc]; exact (if_neg hc).symm
    | true =>
      rw [if_pos rfl, Option.bind_eq_some_iff] at ecr
      obtain ⟨qs, eqs, ecr⟩ := ecr
      rw [Option.bind_eq_some_iff] at ecr
      obtain ⟨yt, eyt, ecr⟩ := ecr
      rw [Option.map_eq_some_iff] at ecr
      obtain ⟨rest', ecr, rfl⟩ := ecr
      refine ⟨e2, (s2.grow gD).grow g3, noX_wp eqs fun H4' g4' J1 H4 g4'' hJ1 => ?_⟩
      have g4 := g4'.trans g4''
      obtain ⟨ws, rw1, hq0, there1, th1, keep1, go1, stop1, yld1⟩ := hJ1
      have len1 := rw1.length
      have eD4 : H4 D = some (.lst acc) := g4 _ _ eD
      let G4 : Hp := fun b => if b = D then none else H4 b
      have g4D : G4 D = none := if_pos rfl
      have gG4 : Grow G G4 := fun c o e => by
        have ne : c ≠ D := fun z => by rw [z, hG] at e; cases e
        show (if c = D then none else H4 c) = some o
        rw [if_neg ne]; exact g4 c o (g3 c o (by rw [upd_ne ne]; exact e))
      have eH4 : H4 = upd G4 D (.lst acc) := by
        funext c
        by_cases hc : c = D
        · subst hc; rw [upd_same]; exact eD4
        · rw [upd_ne hc]; exact (if_neg hc).symm
      have h3D : H3 D ≠ none := by rw [eD]; simp
      have tupG : ∀ a us, H4 a = some (.tup us) → G4 a = some (.tup us) := fun a us h => by
        have ne : a ≠ D := by rintro rfl; rw [eD4] at h; cases h
        exact (if_neg ne).trans h
      refine ⟨fun j k H => k = qs.length - j ∧ j ≤ qs.length ∧ ∃ G' acc' ys' rest1, H = upd G' D (.lst acc') ∧ G' D = none ∧ Grow G4 G' ∧ there1 H ∧ Reps K mg G' acc' (ys ++ ys') ∧ compF t1 mt1 me (wipeE e2 vs1) (qs.drop j) = some rest1 ∧ yt = ys' ++ rest1,
        ⟨qs.length, rfl, Nat.zero_le _, G4, acc, [], yt, eH4, g4D, .refl _, th1, by rw [List.append_nil]; exact ra.grow gG4, eyt, rfl⟩, ?_⟩
      rintro j k H ⟨rfl, hj, G', acc', ys', rest1, rfl, hG', gg', th1', ra', ecr1, ey1⟩
      have gD' : Grow G' (upd G' D (.lst acc')) := Grow.upd hG'
      by_cases hlt1 : j < qs.length
      · have hv1 : j < ws.length := by rw [len1]; exact hlt1
        refine .inr ⟨go1 j _ ws[j] th1' (by simp [hv1]), fun H' => j + 1 ≤ qs.length ∧ ∃ G' acc' ys' rest1, H' = upd G' D (.lst acc') ∧ G' D = none ∧ Grow G4 G' ∧ there1 H' ∧ Reps K mg G' acc' (ys ++ ys') ∧ compF t1 mt1 me (wipeE e2 vs1) (qs.drop (j + 1)) = some rest1 ∧ yt = ys' ++ rest1,
          fun H' ⟨a, b⟩ => ⟨qs.length - (j + 1), by omega, rfl, a, b⟩, fun x1 H' y1 => ?_⟩
        obtain ⟨rfl, hx1⟩ := yld1 j _ x1 H' hv1 th1' y1
        have hd1 : qs.drop j = qs[j] :: qs.drop (j + 1) := List.drop_eq_getElem_cons hlt1
        rw [hd1, compF, Option.bind_eq_some_iff] at ecr1
        obtain ⟨e3, es3, ecr1⟩ := ecr1
        rw [Option.bind_eq_some_iff] at ecr1
        obtain ⟨b1, eb1, ecr1⟩ := ecr1
        obtain ⟨v1, ev1, rx1⟩ := rw1.get (i := j) (p := qs[j]) (by simp [hlt1])
        rw [hx1] at ev1; cases ev1
        have hq1 : hgt qs[j] = 0 := by
          have : ∀ (l : List PV) (j : Nat) (h : j < l.length), hgts l = 0 → hgt l[j] = 0 := by
            intro l
            induction l with
            | nil => intro j h; simp at h
            | cons p l ih =>
              intro j h hz
              rw [hgts] at hz
              cases j with
              | zero => simp; omega
              | succ j => simpa using ih j (by simpa using h) (by omega)
          exact this qs j hlt1 hq0
        have rx1' : Rep K mg G' x1 qs[j] := (rx1.still tupG hq1).grow gg'
        have s2' : Sees K mg G' e2 σ2 := s2.grow (gG4.trans gg')
        have sw1 := wipe_sees s2' vs1
        refine ⟨G', _, _, e3, gD', sw1, rx1', es3, fun σ3 s3 l3 k3 => ⟨wiped hl1 l3 k3, e3, s3.grow gD', noX_wp eb1 fun H5 g5 => ?_⟩⟩
        have eD5 : H5 D = some (.lst acc') := g5 _ _ upd_same
        have noD : ∀ H6 : Hp, Grow H5 H6 → ∃ G6 : Hp, G6 D = none ∧ Grow G' G6 ∧ H6 = upd G6 D (.lst acc') ∧ (∀ c, c ≠ D → G6 c = H6 c) := fun H6 g6 => by
          refine ⟨fun b => if b = D then none else H6 b, if_pos rfl, fun c o e => ?_, ?_, fun c hc => if_neg hc⟩
          · have ne : c ≠ D := fun z => by rw [z, hG'] at e; cases e
            show (if c = D then none else H6 c) = some o
            rw [if_neg ne]; exact g6 c o (g5 c o (by rw [upd_ne ne]; exact e))
          · funext c
            by_cases hc : c = D
            · subst hc; rw [upd_same]; exact g6 _ _ eD5
            · rw [upd_ne hc]; exact (if_neg hc).symm
        cases b1 with
        | false =>
          obtain ⟨G5, g5D, gG5, e5, _⟩ := noD H5 (.refl _)
          refine ⟨hlt1, G5, acc', ys', rest1, e5, g5D, gg'.trans gG5, keep1 D acc' _ _ h3D upd_same th1' fun a o h ne => g5 a o h, ra'.grow gG5, by simpa using ecr1, ey1⟩
        | true =>
          rw [if_pos rfl, Option.bind_eq_some_iff] at ecr1
          obtain ⟨y, ey, ecr1⟩ := ecr1
          split at ecr1
          case isFalse => cases ecr1
          rename_i hy
          rw [Option.map_eq_some_iff] at ecr1
          obtain ⟨rest1', ecr1, rfl⟩ := ecr1
          refine ⟨e3, (s3.grow gD').grow g5, noX_wp ey fun H6 g6 v rv6 => ?_⟩
          obtain ⟨G6, g6D, gG6, e6, o6⟩ := noD H6 g6
          have eD6 : H6 D = some (.lst acc') := g6 _ _ eD5
          have la := ra'.length
          refine ⟨acc', eD6, ?_, hlt1, G6, acc' ++ [v], ys' ++ [y], rest1', ?_, g6D, gg'.trans gG6, keep1 D acc' _ _ h3D upd_same th1' fun a o h ne => ?_, ?_, ecr1, by rw [ey1, List.append_assoc]; rfl⟩
          · rw [la, sizeLine_eq]
            rw [ez, ey1] at hz'
            simp only [List.length_append, List.length_cons] at hz' ⊢
            omega
          · rw [e6]
            funext c
            by_cases hc : c = D
            · subst hc; rw [upd_same, upd_same]
            · rw [upd_ne hc, upd_ne hc, upd_ne hc]
          · rw [upd_ne ne]; exact g6 a o (g5 a o h)
          · rw [← List.append_assoc]
            refine (ra'.grow gG6).append (.cons ?_ .nil)
            refine Rep.still (fun c us h => ?_) rv6 hy
            have ne : c ≠ D := fun z => by rw [z, eD6] at h; cases h
            exact (o6 c ne).trans h
      · have ej : j = qs.length := by omega
        subst ej
        rw [List.drop_length, compF] at ecr1
        cases ecr1
        rw [List.append_nil] at ey1
        subst ey1
        refine .inl ⟨stop1 _ _ th1' (by rw [len1]; exact Nat.le_refl _), hlt, G', acc', ys ++ yt, rest', rfl, hG', gg.trans (gG4.trans gg'), tt1 _ _ th (gG4.trans gg'), ra', ecr, by rw [ez, List.append_assoc]⟩
  · have e : i = ps.length := by omega
    subst e
    rw [List.drop_length, compF2] at ecr
    cases ecr
    rw [List.append_nil] at ez
    subst ez
    exact .inl ⟨stop _ _ thD (by rw [len]; exact Nat.le_refl _), q G gg acc D ra hG⟩⟩
theorem sp_lc2 {scope : Scope} {own : List (Str × Nat)} {vs1 : List Nat} (hc : X.calm = true) (hN : X.N.Nodup) (hi : SI X W tg a mi) (ok : BlkOk X.N X.env.scope scope own) (hl : (tgN t).all (fun j => (own.map (·.2)).contains j) = true) (hl1 : (tgN t1).all (fun j => vs1.contains j) = true) (hv : ∀ i ∈ vs1, i ∈ own.map (·.2))
    (hg : ∀ (s : Shared) (H : Hp) (C : Addr) (cl : List (Str × Addr)) (fp : List Addr), PGm (X.blk s H scope (compEnvC scope cl C X.env) fp) tg t) (ht : ∀ (s : Shared) (H : Hp) (C : Addr) (cl : List (Str × Addr)) (fp : List Addr), SPTs (X.blk s H scope (compEnvC scope cl C X.env) fp) W0 es mt)
    (hi1 : ∀ (s : Shared) (H : Hp) (C : Addr) (cl : List (Str × Addr)) (fp : List Addr), SI2 (X.blk s H scope (compEnvC scope cl C X.env) fp) W0 tg1 iter1 mi1)
    (hg1 : ∀ (s : Shared) (H : Hp) (C : Addr) (cl : List (Str × Addr)) (fp : List Addr), PGm (X.blk s H scope (compEnvC scope cl C X.env) fp) tg1 t1) (ht1 : ∀ (s : Shared) (H : Hp) (C : Addr) (cl : List (Str × Addr)) (fp : List Addr), SPTs (X.blk s H scope (compEnvC scope cl C X.env) fp) W0 es1 mt1)
    (he : ∀ (s : Shared) (H : Hp) (C : Addr) (cl : List (Str × Addr)) (fp : List Addr), SP (X.blk s H scope (compEnvC scope cl C X.env) fp) W0 e me) (hs : ∀ x, foldedSetIterable a X.env x = pure x := by intro _; rfl) (hs1 : ∀ env x, foldedSetIterable iter1 env x = pure x := by intro _ _; rfl) :
    SPF X W (.ListComp e [⟨tg, a, es, 0⟩, ⟨tg1, iter1, es1, 0⟩] scope pos) (mComp2 (own.map (·.2)) t mi mt vs1 t1 mi1 mt1 me) :=
  PE.weak (pe_lc2 (wi1 := tSI2 X.K X.mg W0 mi1) (g := tPG X.K X.mg t) (g1 := tPG X.K X.mg t1) (tt := tSPT X.K X.mg W0 mt) (tt1 := tSPT X.K X.mg W0 mt1) (te := tSP X.K X.mg W0 me) hc hN hi ok hv hg ht hi1 hg1 ht1 he hs hs1) fun σ H Q => lc2_read hl hl1
theorem ss_setLc2 {scope : Scope} {own : List (Str × Nat)} {vs1 : List Nat} {i : Nat} {y : Str} {py spos : Pos} (hc : X.calm = true) (hN : X.N.Nodup) (hy : X.N[i]? = some y) (hyl : X.env.scope.names.lookup y = some .local)
    (hsw : swapsWith (.ListComp e [⟨tg, a, es, 0⟩, ⟨tg1, iter1, es1, 0⟩] scope pos) (some (.Name y py)) spos.line X.env = pure true) (hi : SI X W tg a mi) (ok : BlkOk X.N X.env.scope scope own) (hl : (tgN t).all (fun j => (own.map (·.2)).contains j) = true) (hl1 : (tgN t1).all (fun j => vs1.contains j) = true) (hv : ∀ i ∈ vs1, i ∈ own.map (·.2))
    (hg : ∀ (s : Shared) (H : Hp) (C : Addr) (cl : List (Str × Addr)) (fp : List Addr), PGm (X.blk s H scope (compEnvC scope cl C X.env) fp) tg t) (ht : ∀ (s : Shared) (H : Hp) (C : Addr) (cl : List (Str × Addr)) (fp : List Addr), SPTs (X.blk s H scope (compEnvC scope cl C X.env) fp) W0 es mt)
    (hi1 : ∀ (s : Shared) (H : Hp) (C : Addr) (cl : List (Str × Addr)) (fp : List Addr), SI2 (X.blk s H scope (compEnvC scope cl C X.env) fp) W0 tg1 iter1 mi1)
    (hg1 : ∀ (s : Shared) (H : Hp) (C : Addr) (cl : List (Str × Addr)) (fp : List Addr), PGm (X.blk s H scope (compEnvC scope cl C X.env) fp) tg1 t1) (ht1 : ∀ (s : Shared) (H : Hp) (C : Addr) (cl : List (Str × Addr)) (fp : List Addr), SPTs (X.blk s H scope (compEnvC scope cl C X.env) fp) W0 es1 mt1)
    (he : ∀ (s : Shared) (H : Hp) (C : Addr) (cl : List (Str × Addr)) (fp : List Addr), SP (X.blk s H scope (compEnvC scope cl C X.env) fp) W0 e me) (hs : ∀ x, foldedSetIterable a X.env x = pure x := by intro _; rfl) (hs1 : ∀ env x, foldedSetIterable iter1 env x = pure x := by intro _ _; rfl) :
    SS X W (.Assign [.Name y py] (.ListComp e [⟨tg, a, es, 0⟩, ⟨tg1, iter1, es1, 0⟩] scope pos) spos) (mAsg (.nm i) (mNew (mComp2 (own.map (·.2)) t mi mt vs1 t1 mi1 mt1 me))) :=
  (ps_setLc2 (wi1 := tSI2 X.K X.mg W0 mi1) (g := tPG X.K X.mg t) (g1 := tPG X.K X.mg t1) (tt := tSPT X.K X.mg W0 mt) (tt1 := tSPT X.K X.mg W0 mt1) (te := tSP X.K X.mg W0 me) hc hN hy hyl hsw hi ok hv hg ht hi1 hg1 ht1 he hs hs1).weak fun D σ H ⟨env, σ0, τ, T, F, n, w⟩ =>
    lc2_read hl hl1 ⟨env, n.sees, wpP_mono (wpE_lift n (wpE_mono (wpE_S w) fun r e H' T' F' f sl su on fr w' => (fun x o => tg_name (asg_wp (t := .nm i) n sl su on fr o w') : ∀ x, Own X.K X.mg H' T' r.1 x r.2 f → gName i x σ H' D.nx))) fun ps H' g ⟨q, e, k⟩ xs l r na => by
      split at e
      · rename_i hz
        cases e
        refine k (upd H' l (.lst xs)) (fun b => if b = l then 1 else 0) (g.trans (Grow.upd na)) (fun a o e => if_neg ?_) (fun b => ?_) (.ref l) (.lst1 upd_same ((r.grow (Grow.upd na)).own hz 8) fun b => (Nat.zero_add _).symm)
        · rintro rfl
          rw [g _ _ e] at na; cases na
        · show (if b = l then 1 else 0) ≤ 1
          split <;> omega
      · cases e⟩
end
end M

set_option Elab.async false
set_option linter.all false
set_option maxRecDepth 100000
set_option maxHeartbeats 4000000
/-! small things; the newer pieces worked out -/
namespace M
open PySem PySem.Spec PyProof.Rows L2
theorem hu65 {k : Nat} {A : Around} (r : Room k A) : A.units + 65 < cLine := by have := r.un; omega
theorem hu0 {k : Nat} {A : Around} (r : Room k A) : A.units < cLine := by have := r.un; omega
section
variable (ma mb md mk mx mv mj : MP PV) (mt mu : MP Bool) (ms mi ml : MP (List PV)) (me mf : ME (Nat × PV)) (env : LEnv) (i j n : Nat) (t : Tg) (G : Fn)
@[simp] theorem ev_pFlat : pFlat ma env = (ma env).bind fun p => if hgt p = 0 then .ok p else .stuck := rfl
@[simp] theorem ev_pNew : pNew ms env = (ms env).bind fun ps => if hgts ps = 0 then .ok (.lst ps) else .stuck := rfl
@[simp] theorem ev_pCall : pCall n G ms env = (ms env).bind fun ps => callR n G ps tallP := rfl
@[simp] theorem ev_tallP (r : Nat × PV) : tallP r = if hgt r.2 ≤ r.1 then some r.2 else none := rfl
@[simp] theorem ev_pTup : pTup ms env = (ms env).bind fun ps => if sizeOk ps.length then .ok (.tup ps) else .stuck := rfl
@[simp] theorem ev_pLst : pLst ms env = (ms env).bind fun ps => if sizeOk ps.length then .ok (.lst ps) else .stuck := rfl
@[simp] theorem ev_mN : mN ma env = liftP env (ma env) fun p => if hgt p ≤ 9 then some (9, p) else none := rfl
@[simp] theorem ev_pDisp1 : pDisp1 mk mv env = (mk env).bind fun k => (mv env).bind fun v => if isKey true k = true then .ok (PV.dct true [(k, v)]) else .stuck := rfl
@[simp] theorem ev_mIfE : mIfE mt me mf env = (match mt env with | .stuck => .stuck | .exc x => .exc (x, env) | .ok b => if b = true then me env else mf env) := rfl
@[simp] theorem ev_mECat : mECat me mf env = eMap gCatE (mECons me (mECons mf mENil)) env := rfl
@[simp] theorem ev_gCatE (d : Nat) (ps qs : List PV) : gCatE (d, [.lst ps, .lst qs]) = if sizeOk (ps.length + qs.length) then some (d - 1 + 1, .lst (ps ++ qs)) else none := rfl
@[simp] theorem ev_mUnl (ts : List Tg) : mUnl ts me env = (me env).bind fun z => (match z.1.2 with | .lst ps => ofNx (setTs ts (z.1.1 - 1) ps z.2) | _ => .stuck) := rfl
@[simp] theorem ev_mExt : mExt i me env = if isLst env i then (me env).bind fun z => ofNx (extS z.2 i z.1.1 z.1.2) else .stuck := rfl
@[simp] theorem ev_mRngV : mRngV ml env = liftP env (ml env) fun ps => (match ps with | [.int j] => some (9, PV.rng 0 j) | _ => none) := rfl
@[simp] theorem ev_itR (lo hi : Int) : itR (.rng lo hi) = if rngOk lo && rngOk hi then some (rngs lo (hi - lo).toNat) else none := rfl
@[simp] theorem ev_mIt2 (g : PV → Option (List PV)) : mIt2 g ma env = (ma env).bind fun p => ofO ((g p).bind flatL) := rfl
@[simp] theorem ev_gIsB (neg a b : Bool) : gIsB neg (.bl a) (.bl b) = some (.bl (if neg then !decide (a = b) else decide (a = b))) := rfl
@[simp] theorem ev_gLenDT (kvs : List (PV × PV)) : gLenDT [.dct true kvs] = some (.int (kvs.length : Int)) := rfl
@[simp] theorem ev_gLenDK (kvs : List (PV × PV)) : gLenDK [.dct false kvs] = some (.int (kvs.length : Int)) := rfl
@[simp] theorem ev_gIsN (p : PV) : gIsN p .non = some (.bl (isNon p)) := by cases p <;> rfl
@[simp] theorem ev_gNotN (p : PV) : gNotN p .non = some (.bl (!isNon p)) := by cases p <;> rfl
@[simp] theorem ev_isNonL (l : List PV) : isNon (.lst l) = false := rfl
@[simp] theorem ev_isNonT (l : List PV) : isNon (.tup l) = false := rfl
@[simp] theorem ev_isNonN : isNon .non = true := rfl
@[simp] theorem ev_mON : mON env = .ok none := rfl
@[simp] theorem ev_mOS : mOS ma env = (ma env).bind fun p => (match p with | .int i => .ok (some i) | _ => .stuck) := rfl
@[simp] theorem ev_mSlc (l h : MP (Option Int)) : mSlc ma l h env = (ma env).bind fun p => (l env).bind fun l => (h env).bind fun h => ofO ((lstOf p).map fun ps => cutP ps l h) := rfl
@[simp] theorem ev_gTupOfL (l : List PV) : gTupOf [.lst l] = some (.tup l) := rfl
@[simp] theorem ev_gTupOfT (l : List PV) : gTupOf [.tup l] = some (.tup l) := rfl
@[simp] theorem ev_mChain (g g' : PV → PV → Option PV) : mChain g g' ma mb mx env = (ma env).bind fun p => (mb env).bind fun q => (ofO (g p q)).bind fun z => (match z with | .bl k => if k = true then (mx env).bind fun r => ofO (g' q r) else .ok (.bl false) | _ => .stuck) := rfl
@[simp] theorem ev_getIxL (l : List PV) (j : Int) : getIx (.lst l) (.int j) = atI l j := rfl
@[simp] theorem ev_getIxT (l : List PV) (j : Int) : getIx (.tup l) (.int j) = atI l j := rfl
@[simp] theorem ev_hRng (lo hi : Int) : hgt (.rng lo hi) = 1 := by rw [hgt]
@[simp] theorem ev_gCat (l m : List PV) : gCat (.lst l) (.lst m) = if sizeOk (l.length + m.length) then some (l ++ m) else none := rfl
@[simp] theorem ev_mFrz : mFrz i env = (match env[i]? with | some (some s) => if hgt s.v = 0 then .ok ((8, s.v), env) else .ok ((0, s.v), env.set i (some ⟨0, s.pin, s.v⟩)) | _ => .stuck) := rfl
end
end M

set_option Elab.async false
set_option linter.all false
set_option maxRecDepth 100000
set_option maxHeartbeats 4000000
/-! texts: items, slices, +, order, in, split, join, int, str; isinstance of any kind -/
namespace M
open PySem PySem.Spec PyProof.Rows L2

def chr1 (c : Nat) : Str := ⟨#[c]⟩
def gIxS : PV → PV → Option PV
  | .str z, .int i => if sizeOk z.length then (L2.atI z.cps.toList i).map fun c => .str (chr1 c) else none
  | _, _ => none
def kSlS (p : PV) (l h : Option Int) : Option PV := match p with
  | .str z => if sizeOk z.length then some (.str (cutS z l h)) else none
  | _ => none
def mSlcS (m : MP PV) (ml mh : MP (Option Int)) : MP PV := fun env => (m env).bind fun p => (ml env).bind fun l => (mh env).bind fun h => ofO (kSlS p l h)
def gAddS : PV → PV → Option PV
  | .str a, .str b => if sizeOk (a.length + b.length) then some (.str (a ++ b)) else none
  | _, _ => none
def gS2 (f : Str → Str → Bool) : PV → PV → Option PV
  | .str a, .str b => some (.bl (f a b))
  | _, _ => none
def ltS (a b : Str) : Bool := decide (a.cps.toList < b.cps.toList)
def gLtS := gS2 ltS
def gGtS := gS2 fun a b => ltS b a
def gLeS := gS2 fun a b => !ltS b a
def gGeS := gS2 fun a b => !ltS a b
def gInC (n : Bool) : PV → PV → Option PV
  | .str c, .str z => match c.cps.toList with
    | [x] => some (.bl (if n then !decide (x ∈ z.cps.toList) else decide (x ∈ z.cps.toList)))
    | _ => none
  | _, _ => none
def gSplit : PV → PV → Option (List PV)
  | .str a, .str b => if (b.length == 0) = false ∧ sizeOk (a.length + 2) = true then some ((Txt.split a b).map .str) else none
  | _, _ => none
def gIntT : List PV → Option PV
  | [.str a] => if Nat.ble a.length 640 then (intText? a).map .int else none
  | _ => none
def gStr : List PV → Option PV
  | [.int i] => if Nat.blt i.natAbs.log2 1920 then some (.str (Str.ofString (toString i))) else none
  | [.str a] => some (.str a)
  | _ => none
def strsO : List PV → Option (List Str)
  | [] => some []
  | .str a :: r => (strsO r).map (a :: ·)
  | _ => none
def gJoin : PV → PV → Option PV
  | .str a, .lst ps => (strsO ps).bind fun ys => if sizeOk ((ys.map fun x => x.length).sum + ys.length * a.length) then some (.str (Txt.join a ys)) else none
  | _, _ => none
/-- the class of a plain value -/
def tyN : PV → Option String
  | .non => some "NoneType"
  | .bl _ => some "bool"
  | .int _ => some "int"
  | .str _ => some "str"
  | .lst _ => some "list"
  | .tup _ => some "tuple"
  | _ => none
def gIsA (T : String) : PV → Option PV := fun p => (tyN p).bind fun t => (kitB t T).map .bl
section
variable {K : PySem.W.Frag} {mg : Str → Option Value}
theorem chr1_of {c : Str} {x : Nat} (h : c.cps.toList = [x]) : c = ⟨#[x]⟩ := by
  obtain ⟨a⟩ := c
  have : a = #[x] := Array.toList_inj.1 h
  rw [this]
theorem v_ixS : VOp K mg rIxS gIxS := fun H x y p q z Q r1 r2 e h => by
  unfold gIxS at e
  split at e
  · split at e
    · rename_i hz
      rw [Option.map_eq_some_iff] at e
      obtain ⟨c, e, rfl⟩ := e
      cases r1; cases r2
      exact ⟨_, _, c, rfl, rfl, sizeOk_le hz, e, h _ H (.refl H) (.str _)⟩
    · cases e
  · cases e
theorem v_addS : VOp K mg (fun x y H Q => ∃ i j, x = V.str i ∧ y = V.str j ∧ i.length + j.length ≤ sizeLine ∧ Q (V.str (i ++ j)) H) gAddS := fun H x y p q z Q r1 r2 e h => by
  unfold gAddS at e
  split at e
  · split at e
    · rename_i hz
      cases e; cases r1; cases r2
      exact ⟨_, _, rfl, rfl, sizeOk_le hz, h _ H (.refl H) (.str _)⟩
    · cases e
  · cases e
theorem v_s2 {f : Str → Str → Bool} : VOp K mg (fun x y H Q => ∃ i j, x = V.str i ∧ y = V.str j ∧ Q (V.bl (f i j)) H) (gS2 f) := fun H x y p q z Q r1 r2 e h => by
  unfold gS2 at e
  split at e
  · cases e; cases r1; cases r2
    exact ⟨_, _, rfl, rfl, h _ H (.refl H) (.bl _)⟩
  · cases e
theorem v_ltS : VOp K mg (fun x y H Q => ∃ i j, x = V.str i ∧ y = V.str j ∧ Q (V.bl (decide (i.cps.toList < j.cps.toList))) H) gLtS := v_s2
theorem v_gtS : VOp K mg (fun x y H Q => ∃ i j, x = V.str i ∧ y = V.str j ∧ Q (V.bl (decide (j.cps.toList < i.cps.toList))) H) gGtS := v_s2
theorem v_leS : VOp K mg (fun x y H Q => ∃ i j, x = V.str i ∧ y = V.str j ∧ Q (V.bl !decide (j.cps.toList < i.cps.toList)) H) gLeS := v_s2
theorem v_geS : VOp K mg (fun x y H Q => ∃ i j, x = V.str i ∧ y = V.str j ∧ Q (V.bl !decide (i.cps.toList < j.cps.toList)) H) gGeS := v_s2
theorem v_inC : VOp K mg (fun x y H Q => ∃ c z, x = V.str { cps := #[c] } ∧ y = V.str z ∧ Q (V.bl (decide (c ∈ z.cps.toList))) H) (gInC false) := fun H x y p q z Q r1 r2 e h => by
  unfold gInC at e
  split at e
  · split at e
    · rename_i hc
      cases e; cases r1; cases r2
      exact ⟨_, _, by rw [chr1_of hc], rfl, h _ H (.refl H) (.bl _)⟩
    · cases e
  · cases e
theorem v_notInC : VOp K mg (fun x y H Q => ∃ c z, x = V.str { cps := #[c] } ∧ y = V.str z ∧ Q (V.bl !decide (c ∈ z.cps.toList)) H) (gInC true) := fun H x y p q z Q r1 r2 e h => by
  unfold gInC at e
  split at e
  · split at e
    · rename_i hc
      cases e; cases r1; cases r2
      exact ⟨_, _, by rw [chr1_of hc], rfl, h _ H (.refl H) (.bl _)⟩
    · cases e
  · cases e
theorem v_intT : COp K mg (fun xs H Q => ∃ a n, xs = [V.str a] ∧ intText? a = some n ∧ a.length ≤ 640 ∧ Q (V.int n) H) gIntT := fun H xs ps z Q r e h => by
  unfold gIntT at e
  split at e
  · split at e
    · rename_i hz
      rw [Option.map_eq_some_iff] at e
      obtain ⟨n, e, rfl⟩ := e
      cases r with
      | cons r1 r2 => cases r1; cases r2; exact ⟨_, n, rfl, e, Nat.le_of_ble_eq_true hz, h _ H (.refl H) (.int _)⟩
    · cases e
  · cases e
def rStr : List V → Hp → VK → Prop := fun xs H Q => (∃ i, xs = [V.int i] ∧ i.natAbs.log2 < 1920 ∧ Q (V.str (Str.ofString (toString i))) H) ∨ ∃ a, xs = [V.str a] ∧ Q (V.str a) H
theorem v_str : COp K mg rStr gStr := fun H xs ps z Q r e h => by
  unfold gStr at e
  split at e
  · split at e
    · rename_i hz
      cases e
      cases r with
      | cons r1 r2 => cases r1; cases r2; exact .inl ⟨_, rfl, by rwa [Nat.blt_eq] at hz, h _ H (.refl H) (.str _)⟩
    · cases e
  · cases e
    cases r with
    | cons r1 r2 => cases r1; cases r2; exact .inr ⟨_, rfl, h _ H (.refl H) (.str _)⟩
  · cases e
theorem strsO_rep {H : Hp} : ∀ {vs : List V} {ps : List PV} {ys : List Str}, Reps K mg H vs ps → strsO ps = some ys → vs = ys.map V.str
  | _, _, _, .nil, e => by cases e; rfl
  | _, _, _, @Reps.cons _ _ _ v vs p ps r1 r2, e => by
    cases p with
    | str a =>
      rw [strsO, Option.map_eq_some_iff] at e
      obtain ⟨ys, e, rfl⟩ := e
      cases r1
      rw [strsO_rep r2 e]; rfl
    | _ => cases e
theorem strs_reps {H : Hp} : ∀ ys : List Str, Reps K mg H (ys.map V.str) (ys.map PV.str)
  | [] => .nil
  | y :: ys => .cons (.str y) (strs_reps ys)
end
section
variable {X : Cx} {W : WX} {a b c e o tg : Expr} {lo hi : Option Expr} {es : List Expr} {pos apos p p2 : Pos} {m ma mb : MP PV} {ms : MP (List PV)} {ml mh : MP (Option Int)}
theorem call_str1 : CallR X (.type "str") rStr := fun pins s σ H xs us Q I v h => by
  rcases h with h | h
  · exact call_str_int pins s σ H xs us Q I v h
  · exact SkE.call_str_str pins s σ H xs us Q I v h
theorem sp_ixS (ha : SP X W a ma) (hb : SP X W b mb) (hs : PlainIx b := by exact fun _ _ => rfl) : SP X W (.Subscript a b pos) (mBin gIxS ma mb) := op_sp v_ixS (pe_ix ix_str ha hb hs)
theorem sp_slcS (ha : SP X W e m) (hl : SPO X W lo ml) (hh : SPO X W hi mh) : SP X W (.Subscript e (.Slice lo hi none p2) pos) (mSlcS m ml mh) := (pe_slice sl_str ha hl hh).weak fun σ H Q ⟨env, s, w⟩ =>
  tsp_bind (k := fun env p => (ml env).bind fun l => (mh env).bind fun h => ofO (kSlS p l h)) s w fun p x H1 g r s1 w1 =>
    ⟨env, s1, wpP_mono (wpP_bind w1) fun l H2 g2 w2 => ⟨env, s1.grow g2, wpP_mono (wpP_bind w2) fun h H3 g3 w3 => by
      obtain ⟨z, ez, q⟩ := wpP_ofO w3
      unfold kSlS at ez
      split at ez
      · split at ez
        · rename_i hz
          cases ez; cases r
          exact ⟨_, rfl, sizeOk_le hz, q H3 (.refl _) _ (.str _)⟩
        · cases ez
      · cases ez⟩⟩
/-- o.meth(e), o a text -/
def mTm {α : Type} (g : PV → PV → Option α) (ma mb : MP PV) : MP α := fun env => (ma env).bind fun p => match p with
  | .str a => (mb env).bind fun q => ofO (g (.str a) q)
  | _ => .stuck
theorem sp_split (ha : SP X W o ma) (hb : SP X W e mb) (h1 : starEach [e] X.env = [(false, eval e X.env)] := by rfl) (h2 : attributeBase o "split" X.env (eval o X.env) = eval o X.env := by rfl) (h3 : (apos.endLine == pos.line) = true := by rfl) :
    SPF X W (.Call (.Attribute o "split" apos) [e] [] pos) (mTm gSplit ma mb) := (pe_split ha hb h1 h2 h3).weak fun σ H Q ⟨env, s, w⟩ =>
  tsp_bind (k := fun env p => match p with | .str a => (mb env).bind fun q => ofO (gSplit (.str a) q) | _ => .stuck) s w fun p x H1 g1 r1 s1 w1 => by
    cases r1 with
    | str z =>
      refine ⟨⟨_, rfl⟩, ?_⟩
      refine tsp_bind (k := fun env q => ofO (gSplit (.str z) q)) s1 w1 fun q y H2 g2 r2 s2 w2 => ?_
      obtain ⟨zz, ez, q2⟩ := wpP_ofO w2
      unfold gSplit at ez
      split at ez
      · split at ez
        · rename_i e1 hz
          cases e1; cases ez
          cases r2
          exact ⟨_, _, rfl, rfl, hz.1, sizeOk_le hz.2, fun p hp => q2 H2 (.refl _) _ p (strs_reps _) hp⟩
        · cases ez
      · cases ez
    | _ => exact w1.elim
theorem sp_join (ha : SP X W o ma) (hb : SP X W e mb) (h1 : starEach [e] X.env = [(false, eval e X.env)] := by rfl) (h2 : attributeBase o "join" X.env (eval o X.env) = eval o X.env := by rfl) (h3 : (apos.endLine == pos.line) = true := by rfl) :
    SP X W (.Call (.Attribute o "join" apos) [e] [] pos) (mTm gJoin ma mb) := (pe_join ha hb h1 h2 h3).weak fun σ H Q ⟨env, s, w⟩ =>
  tsp_bind (k := fun env p => match p with | .str a => (mb env).bind fun q => ofO (gJoin (.str a) q) | _ => .stuck) s w fun p x H1 g1 r1 s1 w1 => by
    cases r1 with
    | str z =>
      refine ⟨⟨_, rfl⟩, ?_⟩
      refine tsp_bind (k := fun env q => ofO (gJoin (.str z) q)) s1 w1 fun q y H2 g2 r2 s2 w2 => ?_
      obtain ⟨zz, ez, q2⟩ := wpP_ofO w2
      unfold gJoin at ez
      split at ez
      · rename_i e1
        cases e1
        rw [Option.bind_eq_some_iff] at ez
        obtain ⟨ys, ey, ez⟩ := ez
        split at ez
        · rename_i hz
          cases ez
          cases r2 with
          | lst hs hr =>
            have := strsO_rep hr ey
            subst this
            exact ⟨_, _, ys, rfl, rfl, .inl hs.sq, of_decide_eq_true hz, q2 H2 (.refl _) _ (.str _)⟩
        · cases ez
      · cases ez
    | _ => exact w1.elim
/-- isinstance(x, T) -/
theorem tyN_ok {K : PySem.W.Frag} {mg : Str → Option Value} {H : Hp} {x : V} {p : PV} {t : String} (r : Rep K mg H x p) (e : tyN p = some t) : TyX K H x (.type t) := by
  cases r with
  | non => cases e; exact .base .non
  | bl b => cases e; exact .base (.bl b)
  | int i => cases e; exact .base (.int i)
  | str z => cases e; exact .base (.str z)
  | tup h _ => cases e; exact .base (.tup h)
  | lst h _ =>
    cases e
    rcases h with (h | ⟨o, h⟩) | ⟨its, n, h, _, _⟩
    · exact .base (.lst h)
    · exact .base (.frz h)
    · exact .kList h rfl
  | _ => cases e
def mIsA (T : String) (m : MP PV) : MP PV := mUn (gIsA T) m
theorem sp_isA {T : String} {x : Str} (hm : X.mg "isinstance" = none) (hmb : X.mg x = none) (hx : bootBuiltins x = some (.type T)) (h : SP X W a m) (hg : Gl X "isinstance" := by rfl) (hgb : Gl X x := by rfl) (hd : (x == ("__debug__" : Str)) = false := by decide)
    (hn : x ≠ "__name__" := by decide)
    (h1 : starEach [a, .Name x p2] X.env = (false, eval a X.env) :: starEach [.Name x p2] X.env := by rfl) (h2 : (backTo pos (starEach [.Name x p2] X.env)).any (·.1) = false := by rfl) (h4 : starEach [.Name x p2] X.env = [(false, eval (.Name x p2) X.env)] := by rfl) :
    SP X W (.Call (.Name "isinstance" p) [a, .Name x p2] [] pos) (mIsA T m) :=
  (pe_callB call_isi hg hm (by first | rfl | decide +kernel) (pa_cons h (pa_cons (pe_bltn (v := .ty T) (u := .type T) hgb hmb hx rfl (hn := hn) (hd := hd)) pa_nil h4) h1) (by decide) (by decide) h1 h2).weak fun σ H Q ⟨env, s, w⟩ =>
    tsp_bind (k := fun env p => ofO (gIsA T p)) s w fun p x H1 g r s1 w1 => by
      obtain ⟨z, ez, q⟩ := wpP_ofO w1
      unfold gIsA at ez
      rw [Option.bind_eq_some_iff] at ez
      obtain ⟨t, et, ez⟩ := ez
      rw [Option.map_eq_some_iff] at ez
      obtain ⟨b, eb, rfl⟩ := ez
      exact ⟨_, .ty T, .type t, .type T, b, rfl, .ty _, tyN_ok r et, kit_ty eb, q H1 (.refl _) _ (.bl b)⟩
end
end M

set_option Elab.async false
set_option linter.all false
set_option maxRecDepth 100000
set_option maxHeartbeats 4000000
/-! defs that write to one of their parameters -/
namespace M
open PySem PySem.Spec PyProof.Rows L2

abbrev FnIO := Nat → List PV → Rs Xn ((Nat × PV) × (Nat × PV))
/-- all but the j-th are flat -/
def flatBut : Nat → List PV → Bool
  | _, [] => false
  | 0, _ :: ps => hgts ps == 0
  | j + 1, p :: ps => hgt p == 0 && flatBut j ps
def slotsJ (d : Nat) : Nat → List PV → LEnv
  | _, [] => []
  | 0, p :: ps => some ⟨d, true, p⟩ :: ps.map fun p => some ⟨0, false, p⟩
  | j + 1, p :: ps => some ⟨0, false, p⟩ :: slotsJ d j ps
def slotsIO (n j d : Nat) (ps : List PV) : LEnv := slotsJ d j ps ++ List.replicate (n - ps.length) none
def endIO (j d : Nat) (p : PV) (env : LEnv) : Rs Xn ((Nat × PV) × (Nat × PV)) := match env[j]? with
  | some (some s) => if s.pin then .ok ((d, p), (s.d, s.v)) else .stuck
  | _ => .stuck
def runIO (n j : Nat) (b : MS) : FnIO := fun d ps => match b (slotsIO n j d ps) with
  | .ok (.rt e p env) => endIO j e p env
  | .ok (.nx env) => endIO j 8 .non env
  | .exc (x, _) => .exc x
  | _ => .stuck
def spIO (K : PySem.W.Frag) (mg : Str → Option Value) (n j : Nat) (G : FnIO) : Sp := fun vs H Q E => ∃ (ps : List PV) (v : V) (p : PV) (d : Nat) (τ T f : Cnt), ps.length = n ∧ flatBut j ps = true ∧ Reps K mg H vs ps ∧ vs[j]? = some v ∧ ps[j]? = some p ∧ Own K mg H T d v p f ∧ (∀ b, T b = f b + τ b) ∧ (∀ b, T b ≤ 1) ∧ (∀ b, τ b ≠ 0 → ∃ o, H b = some o) ∧
  match G d ps with
  | .stuck => False
  | .ok r => ∀ x H' T' F' f', Own K mg H' T' r.1.1 x r.1.2 f' → Own K mg H' T' r.2.1 v r.2.2 F' → (∀ b, T' b = F' b + f' b + τ b) → (∀ b, T' b ≤ 1) → Frm H f H' (fun b => F' b + f' b) → Q x H'
  | .exc xn => ∀ C dd H', Frm H f H' (fun _ => 0) → XcAt K mg H' xn C dd → E (.ref C) (some dd) H'
section
variable {K : PySem.W.Frag} {mg : Str → Option Value} {H : Hp} {T : Cnt}
theorem hgts_zero {p : PV} {ps : List PV} (h : hgts (p :: ps) = 0) : hgt p = 0 ∧ hgts ps = 0 := by rw [hgts] at h; omega
theorem Slots.flats : ∀ {vs : List V} {ps : List PV}, Reps K mg H vs ps → hgts ps = 0 → ∀ n, Slots K mg H T (ps.map (fun p => some ⟨0, false, p⟩) ++ List.replicate n none) (vs.map some ++ List.replicate n none) (vs.map some ++ List.replicate n none) fun _ => 0
  | _, _, .nil, _, n => Slots.nones n
  | _, _, .cons h r, z, n => .on (s := ⟨0, false, _⟩) (h.own (hgts_zero z).1 0) (Slots.flats r (hgts_zero z).2 n) (fun _ => rfl) fun z => nomatch z
theorem Slots.startJ {d : Nat} {f : Cnt} : ∀ {vs : List V} {ps : List PV} {j : Nat} {v : V} {p : PV}, Reps K mg H vs ps → flatBut j ps = true → vs[j]? = some v → ps[j]? = some p → Own K mg H T d v p f → ∀ n,
    Slots K mg H T (slotsJ d j ps ++ List.replicate n none) (vs.map some ++ List.replicate n none) (vs.map some ++ List.replicate n none) f
  | _, _, _, _, _, .nil, _, e, _, _, _ => by simp at e
  | _, _, 0, _, _, .cons h r, z, e1, e2, o, n => by
    simp at e1 e2; subst e1; subst e2
    exact .on (s := ⟨d, true, _⟩) o (Slots.flats r (by simpa [flatBut] using z) n) (fun b => (Nat.add_zero _).symm) fun _ => rfl
  | _, _, j + 1, _, _, .cons h r, z, e1, e2, o, n => by
    rw [flatBut, Bool.and_eq_true] at z
    exact .on (s := ⟨0, false, _⟩) (h.own (by simpa using z.1) 0) (Slots.startJ r z.2 (by simpa using e1) (by simpa using e2) o n) (fun b => (Nat.zero_add _).symm) fun z => nomatch z
theorem slotsJ_len (d : Nat) : ∀ (j : Nat) (ps : List PV), (slotsJ d j ps).length = ps.length
  | _, [] => by simp [slotsJ]
  | 0, p :: ps => by simp [slotsJ]
  | j + 1, p :: ps => by simp [slotsJ, slotsJ_len d j ps]
/-- a pinned slot, at the end -/
theorem Slots.pinned {env : LEnv} {σ σ0 : L2.St} {F : Cnt} {j : Nat} {s : Slot} {v : V} (sl : Slots K mg H T env σ σ0 F) (e : env[j]? = some (some s)) (hp : s.pin = true) (h0 : σ0[j]? = some (some v)) : ∃ f, Own K mg H T s.d v s.v f ∧ ∀ b, f b ≤ F b := by
  obtain ⟨v', f, g, _, o, _, hs, hpin⟩ := sl.get e
  have := hpin hp
  rw [h0] at this
  cases this
  exact ⟨f, o, fun b => by rw [hs b]; omega⟩
end
section
variable {P : Program} {w : World} {K : PySem.W.Frag} {mg : Str → Option Value} {base : Heap}
theorem fn_okIO {x qual : Str} {st : Stmt} {f : Addr} {fd : FuncData} {N ps : List Str} {k j : Nat} {b : MS} (F : Fun K x qual st f fd) (S : FnScope N ps (defScope st)) (n : Nat) (hn : n = ps.length)
    (hb : ∀ (cdv : Value) (A : Around) (outer : List PySem.Env) (s : Shared) (H : Hp) (E : XK), Room k (A.deeper (envOfC qual (defScope st) s.heap.objs.size f cdv)) →
      SSs (cxOf (L2.CX P w) P w K mg base N qual (defScope st) f cdv A outer s H E) (fun cls d _ H' => E cls d H') (defBody st) b) : FnOk P w K mg base (L2.CX P w) (k + 1) f fd ps (spIO K mg n j (runIO N.length j b)) := by
  refine F.okX S (fun vs H Q E h => by obtain ⟨ps', _, _, _, _, _, _, hl, _, r, _⟩ := h; rw [r.length, hl, hn]) (fun cdv A outer s H vs Q E hr h => ⟨_, hb cdv A outer s H E hr, ?_⟩)
  obtain ⟨ps', v, p, d, τ, T, f0, hl, fb, r, ev, ep, o, su, on, ex, w⟩ := h
  have ln : vs.length = ps'.length := r.length
  have st0 : Slots K mg H T (slotsIO N.length j d ps') (L2.start N vs) (L2.start N vs) f0 := by
    unfold slotsIO L2.start
    rw [ln]
    exact Slots.startJ r fb ev ep o _
  have h0 : (L2.start N vs)[j]? = some (some v) := by
    unfold L2.start
    rw [List.getElem?_append_left (by rw [List.length_map]; exact (List.getElem?_eq_some_iff.1 ev).1), List.getElem?_map, ev]; rfl
  refine ⟨slotsIO N.length j d ps', L2.start N vs, τ, T, f0, ⟨st0, su, on, ex⟩, ?_⟩
  unfold runIO at w
  -- the end
  have fin : ∀ (e : Nat) (q : PV) (env : LEnv), (match endIO j e q env with | .stuck => False | .ok r => ∀ x H' T' F' f', Own K mg H' T' r.1.1 x r.1.2 f' → Own K mg H' T' r.2.1 v r.2.2 F' → (∀ b, T' b = F' b + f' b + τ b) → (∀ b, T' b ≤ 1) → Frm H f0 H' (fun b => F' b + f' b) → Q x H' | .exc xn => ∀ C dd H', Frm H f0 H' (fun _ => 0) → XcAt K mg H' xn C dd → E (.ref C) (some dd) H') →
      ∀ x σ' H' T' F' f', Slots K mg H' T' env σ' (L2.start N vs) F' → (∀ b, T' b = F' b + f' b + τ b) → (∀ b, T' b ≤ 1) → Own K mg H' T' e x q f' → Frm H f0 H' (fun b => F' b + f' b) → Q x H' := by
    intro e q env w x σ' H' T' F' f' sl su' on' ox fr
    unfold endIO at w
    split at w
    · exact w.elim
    · rename_i r0 er
      split at er
      · rename_i s es
        split at er
        · rename_i hp
          cases er
          obtain ⟨g, og, lg⟩ := sl.pinned es hp h0
          have lo : ∀ b, g b + f' b + τ b ≤ T' b := fun b => by have := lg b; have := su' b; omega
          exact w x H' (fun b => g b + f' b + τ b) g f' (ox.keep (fun a o e t => by have := lo a; show g a + f' a + τ a = 0; omega) fun a o e _ => e) (og.keep (fun a o e t => by have := lo a; show g a + f' a + τ a = 0; omega) fun a o e _ => e) (fun b => rfl) (fun b => Nat.le_trans (lo b) (on' b)) (fr.less fun b => by have := lg b; show g b + f' b ≤ F' b + f' b; omega)
        · cases er
      · cases er
    · rename_i xn er
      split at er
      · split at er <;> cases er
      · cases er
  cases hr : b (slotsIO N.length j d ps') with
  | stuck => rw [hr] at w; exact w.elim
  | exc z => rw [hr] at w; exact fun σ' C dd H' T' F' n fr c => w C dd H' (fr.less fun _ => Nat.zero_le _) c
  | ok a =>
    cases a with
    | nx e =>
      rw [hr] at w
      exact fun σ' H' T' F' n fr => fin 8 .non e w .non σ' H' T' F' (fun _ => 0) n.sl (fun b => by rw [n.sum b]; omega) n.one (.non fun _ => rfl) (fr.cnt fun b => rfl)
    | bk e => rw [hr] at w; exact w.elim
    | ct e => rw [hr] at w; exact w.elim
    | rt e q env =>
      rw [hr] at w
      exact fun x σ' H' T' F' f' sl su' on' o fr => fin e q env w x σ' H' T' F' f' sl su' on' o fr
end

/-! ### the call -/
def tSPJ (K : PySem.W.Frag) (mg : Str → Option Value) (W : WX) (i j : Nat) (m : MP (List PV)) : TA := fun σ H Q => ∃ env, Sees K mg H env σ ∧ wpP W K mg σ H (m env) fun ps H' => ∀ xs v s, Reps K mg H' xs ps → xs[j]? = some v → σ[i]? = some (some v) → env[i]? = some (some s) → ps[j]? = some s.v → Q xs H'
def SPJ (X : Cx) (W : WX) (i j : Nat) (es : List Expr) (m : MP (List PV)) : Prop := PA X es (tSPJ X.K X.mg W i j m)
def mCallIO (i j n : Nat) (G : FnIO) (ms : MP (List PV)) : ME (Nat × PV) := fun env => match env[i]? with
  | some (some s) => (match ms env with
    | .stuck => .stuck
    | .exc x => .exc (x, env)
    | .ok ps => if ps.length = n ∧ flatBut j ps = true then (match G s.d ps with
      | .stuck => .stuck
      | .exc x => .exc (x, env.set i none)
      | .ok r => .ok (r.1, env.set i (some ⟨r.2.1, s.pin, r.2.2⟩))) else .stuck)
  | _ => .stuck
section
variable {X : Cx} {W : WX} {a b c e tg : Expr} {es tgs : List Expr} {pos p p2 : Pos} {ms : MP (List PV)} {m : MP PV}
theorem spj_here {i : Nat} {x : Str} (h : PE X (.Name x p) (tVar i)) (hr : SPs X W es ms) (hs : starEach (.Name x p :: es) X.env = (false, eval (.Name x p) X.env) :: starEach es X.env := by rfl) : SPJ X W i 0 (.Name x p :: es) (mCons (mV i) ms) :=
  (pa_cons h hr hs).weak fun σ H Q ⟨env, s, w⟩ => by
    unfold mCons mV at w
    cases e : env[i]? with
    | none => rw [e] at w; exact w.elim
    | some o =>
      cases o with
      | none => rw [e] at w; exact w.elim
      | some sl =>
        rw [e] at w
        obtain ⟨v, e1, r⟩ := s.1 i sl e
        exact ⟨v, e1, tsps_bind (ma := ms) (k := fun env ps => .ok (sl.v :: ps)) s w fun ps xs H1 g rs s1 w1 => w1 H1 (.refl _) (v :: xs) v sl (.cons (r.grow g) rs) rfl e1 rfl rfl⟩
theorem spj_next {i j : Nat} (ha : SP X W a m) (hr : SPJ X W i j es ms) (hs : starEach (a :: es) X.env = (false, eval a X.env) :: starEach es X.env := by rfl) : SPJ X W i (j + 1) (a :: es) (mCons m ms) :=
  (pa_cons ha hr hs).weak fun σ H Q ⟨env, s, w⟩ => tsp_bind (k := fun env p => (ms env).bind fun ps => .ok (p :: ps)) s w fun p x H1 g r s1 w1 =>
    ⟨env, s1, wpP_mono (wpP_bind w1) fun ps H2 g2 w2 xs v s rs e1 e2 e3 e4 => w2 H2 (.refl _) (x :: xs) v s (.cons (r.grow g2) rs) (by simpa using e1) e2 e3 (by simpa using e4)⟩
theorem se_callIO {x : Str} {f : Addr} {fd : FuncData} {ps : List Str} {k i j n : Nat} {G : FnIO} (F : FnOk X.prog X.w X.K X.mg X.base (L2.CX X.prog X.w) k f fd ps (spIO X.K X.mg n j G)) (tk : Takes X W) (hr : Room k X.A) (hm : X.mg x = some (.ref f)) (hk : PySem.W.keepIn X.K (.ref f) = true) (hb : Binds X.K fd ps [])
    (ha : SPJ X W i j (e :: es) ms) (hg : Gl X x := by rfl) (hdb : (x == ("__debug__" : Str)) = false := by decide) (he : starEach (e :: es) X.env = (false, eval e X.env) :: starEach es X.env := by rfl) (hpl : (backTo pos (starEach es X.env)).any (·.1) = false := by rfl) :
    SE X W (.Call (.Name x p) (e :: es) [] pos) (mCallIO i j n G ms) := (pe_callS F hr hg hm hk hb (fun σ => passAt tk σ) ha hdb he hpl).weak fun σ H Q ⟨env, σ0, τ, T, F, n, w⟩ => by
  unfold mCallIO at w
  cases es : env[i]? with
  | none => rw [es] at w; exact w.elim
  | some o =>
  cases o with
  | none => rw [es] at w; exact w.elim
  | some s =>
  rw [es] at w
  dsimp only at w
  obtain ⟨v, f0, g, e1, o, sl, hs, hp⟩ := n.sl.get es
  refine ⟨env, n.sees, ?_⟩
  cases hms : ms env with
  | stuck => rw [hms] at w; exact w.elim
  | exc xn =>
    rw [hms] at w
    exact fun C dd H' gg c => w C dd H' T F (n.grow gg) (.grow gg fun _ _ _ => Nat.le_refl _) c
  | ok ps =>
    rw [hms] at w
    dsimp only at w
    intro H1 g1 xs v' s' rs ej ev es' epj
    rw [e1] at ev; cases ev
    rw [es] at es'; cases es'
    split at w
    case isFalse => exact w.elim
    rename_i hc
    obtain ⟨hl, fb⟩ := hc
    have c0 : ∀ b, T b = f0 b + (g b + τ b) := fun b => by rw [n.sum b, hs b]; omega
    have f0g : ∀ b, g b ≠ 0 → f0 b = 0 := fun b z => by have := c0 b; have := n.one b; omega
    refine ⟨ps, v, s.v, s.d, (fun b => g b + τ b), T, f0, hl, fb, rs, ej, epj, o.grow g1, c0, n.one, fun b z => ?_, ?_⟩
    · by_cases q : g b = 0
      · obtain ⟨o, e⟩ := n.ex b (by have z' : g b + τ b ≠ 0 := z; omega)
        exact ⟨o, g1 b o e⟩
      · obtain ⟨o, e, _⟩ := sl.there b q
        exact ⟨o, g1 b o e⟩
    · cases hG : G s.d ps with
      | stuck => rw [hG] at w; exact w
      | exc xn =>
        rw [hG] at w
        intro C dd H' fr c
        refine w C dd H' (fun b => g b + τ b) g ⟨sl.keep (fun a o e t => ?_) (fun a o e z => ?_), fun b => rfl, fun b => ?_, fun b z => ?_⟩ ⟨fun a o e z => ?_, fun a o e => ?_⟩ c
        · have := c0 a; show g a + τ a = 0; omega
        · exact fr.keep a o (g1 a o e) (by
            rcases z with z | z | z
            · exact .inl (f0g a z)
            · left; have := c0 a; omega
            · exact .inr z)
        · have := c0 b; have := n.one b; show g b + τ b ≤ 1; omega
        · obtain ⟨o, e⟩ := n.ex b z; exact (fr.own b o (g1 b o e)).1
        · exact fr.keep a o (g1 a o e) (z.imp (fun q => by have := hs a; omega) id)
        · exact ⟨(fr.own a o (g1 a o e)).1, by have := hs a; omega⟩
      | ok r =>
        rw [hG] at w
        dsimp only at w
        intro x H' T' F' f' ox ov su on fr
        have kp : ∀ a o, H a = some o → (g a ≠ 0 ∨ T a = 0 ∨ Still o) → H' a = some o := fun a o e z => fr.keep a o (g1 a o e) (by
            rcases z with z | z | z
            · exact .inl (f0g a z)
            · left; have := c0 a; omega
            · exact .inr z)
        have tz : ∀ a o, H a = some o → T a = 0 → T' a = 0 := fun a o e t => by
          have h1 := su a
          have h2 : F' a + f' a ≤ f0 a := (fr.own a o (g1 a o e)).2
          have := c0 a
          have h1' : T' a = F' a + f' a + (g a + τ a) := h1
          omega
        have sl2 := (sl.keep (T' := T') tz kp).put (s := ⟨r.2.1, s.pin, r.2.2⟩) (get_set_none es) ov hp
        rw [set_set_none, set_self e1] at sl2
        refine w H' T' (fun b => g b + F' b) f' sl2 (fun b => ?_) on ⟨fun a o e z => ?_, fun a o e => ?_⟩ x ox
        · have h1' : T' b = F' b + f' b + (g b + τ b) := su b
          show T' b = g b + F' b + f' b + τ b; omega
        · exact fr.keep a o (g1 a o e) (z.imp (fun q => by have := hs a; omega) id)
        · obtain ⟨q, l⟩ := fr.own a o (g1 a o e)
          refine ⟨q, ?_⟩
          have l' : F' a + f' a ≤ f0 a := l
          have := hs a
          show g a + F' a + f' a ≤ F a; omega
end
end M

set_option Elab.async false
set_option linter.all false
set_option maxRecDepth 100000
set_option maxHeartbeats 4000000
/-! bundles: defs that write to a parameter, defs with defaults; a settled expression as a statement -/
namespace M
open PySem PySem.Spec PyProof.Rows L2

structure CalIO (P : Program) (w : World) (K : PySem.W.Frag) (mg : Str → Option Value) (base : Heap) (k : Nat) (x : Str) (ps : List Str) (n j : Nat) (G : FnIO) : Prop where
  ex : ∃ (f : Addr) (fd : FuncData), FnOk P w K mg base (L2.CX P w) k f fd ps (spIO K mg n j G) ∧ mg x = some (.ref f) ∧ PySem.W.keepIn K (.ref f) = true ∧ Binds K fd ps []
/-- a def with defaults -/
structure DefD (K : PySem.W.Frag) (mg : Str → Option Value) (x : Str) (st : Stmt) (ps : List Str) (dps : List PV) : Prop where
  ex : ∃ (f : Addr) (fd : FuncData) (dvs : List V) (ds : List Value), FunD K x x (defArgs st) (defBody st) (defScope st) dvs [] f fd ∧ mg x = some (.ref f) ∧ Binds K fd ps [] ∧ Vals dvs ds ∧ Binds K fd ps ds ∧ ∀ H, Reps K mg H dvs dps
structure CalD (P : Program) (w : World) (K : PySem.W.Frag) (mg : Str → Option Value) (base : Heap) (k : Nat) (x : Str) (ps : List Str) (n : Nat) (dps : List PV) (G : Fn) : Prop where
  ex : ∃ (f : Addr) (fd : FuncData) (dvs : List V) (ds : List Value), FnOk P w K mg base (L2.CX P w) k f fd ps (spM K mg n G) ∧ mg x = some (.ref f) ∧ PySem.W.keepIn K (.ref f) = true ∧ Binds K fd ps [] ∧ Vals dvs ds ∧ Binds K fd ps ds ∧ (∀ H, Reps K mg H dvs dps) ∧ ∃ o : Obj, K.lookup f = some o ∧ o.data = .func fd
theorem CalD.toM {P : Program} {w : World} {K : PySem.W.Frag} {mg : Str → Option Value} {base : Heap} {k : Nat} {x : Str} {ps : List Str} {n : Nat} {dps : List PV} {G : Fn} (c : CalD P w K mg base k x ps n dps G) : CalM P w K mg base k x ps n G := by
  obtain ⟨f, fd, dvs, ds, F, hm, kp, hb, _, _, _, o⟩ := c.ex
  exact ⟨f, fd, F, hm, kp, hb, o⟩
section
variable {P : Program} {w : World} {K : PySem.W.Frag} {mg : Str → Option Value} {base : Heap}
theorem cal_okIO {x : Str} {st : Stmt} {N ps : List Str} {k : Nat} {b : MS} (D : DefM K mg x st ps) (S : FnScope N ps (defScope st)) (n j : Nat) (hn : n = ps.length)
    (hb : ∀ (f : Addr) (cdv : Value) (A : Around) (outer : List PySem.Env) (s : Shared) (H : Hp) (E : XK), Room k (A.deeper (envOfC x (defScope st) s.heap.objs.size f cdv)) →
      SSs (cxOf (L2.CX P w) P w K mg base N x (defScope st) f cdv A outer s H E) (fun cls d _ H' => E cls d H') (defBody st) b) : CalIO P w K mg base (k + 1) x ps n j (runIO N.length j b) := by
  obtain ⟨f, fd, F, hm, hbd⟩ := D.ex
  exact ⟨f, fd, fn_okIO F S n hn fun cdv A outer s H E hr => hb f cdv A outer s H E hr, hm, F.kp, hbd⟩
theorem fn_okD {x qual : Str} {st : Stmt} {f : Addr} {fd : FuncData} {dvs : List V} {N ps : List Str} {k : Nat} {b : MS} (F : FunD K x qual (defArgs st) (defBody st) (defScope st) dvs [] f fd) (S : FnScope N ps (defScope st)) (n : Nat) (hn : n = ps.length)
    (hb : ∀ (cdv : Value) (A : Around) (outer : List PySem.Env) (s : Shared) (H : Hp) (E : XK), Room k (A.deeper (envOfC qual (defScope st) s.heap.objs.size f cdv)) →
      SSs (cxOf (L2.CX P w) P w K mg base N qual (defScope st) f cdv A outer s H E) (fun cls d _ H' => E cls d H') (defBody st) b) : FnOk P w K mg base (L2.CX P w) (k + 1) f fd ps (spM K mg n (runM N.length b)) := by
  refine F.ok S (fun vs H Q E h => by obtain ⟨ps', τ, hl, o, _⟩ := h; rw [o.rep.length, hl, hn]) (fun cdv A outer s H vs Q E hr h => ⟨_, hb cdv A outer s H E hr, ?_⟩)
  obtain ⟨ps', τ, hl, o, on, ex, w⟩ := h
  have ln : vs.length = ps'.length := o.rep.length
  refine ⟨slotsOf N.length ps', L2.start N vs, τ, τ, (fun _ => 0), ⟨by
    show Slots K mg H τ (slotsOf N.length ps') (L2.start N vs) (L2.start N vs) _
    unfold slotsOf L2.start
    rw [ln]
    exact Slots.start o _, fun b => (Nat.zero_add _).symm, on, ex⟩, ?_⟩
  unfold runM at w
  cases hr : b (slotsOf N.length ps') with
  | stuck => rw [hr] at w; exact w.elim
  | exc z => rw [hr] at w; exact fun σ' C dd H' T' F' n fr c => w C dd H' (fun a o e => fr.keep a o e (.inl rfl)) c
  | ok a =>
    cases a with
    | nx e => rw [hr] at w; exact fun σ' H' T' F' n fr => w .non H' τ (fun _ => 0) (fun a o e => fr.keep a o e (.inl rfl)) (.non fun _ => rfl) (fun b => (Nat.zero_add _).symm) on (fun _ _ _ => rfl)
    | bk e => rw [hr] at w; exact w.elim
    | ct e => rw [hr] at w; exact w.elim
    | rt d p e =>
      rw [hr] at w
      intro x σ' H' T' F' f sl su on' o fr
      have lo : ∀ b, f b + τ b ≤ T' b := fun b => by have := su b; omega
      exact w x H' (fun b => f b + τ b) f (fun a o e => fr.keep a o e (.inl rfl)) (o.keep (fun a o e t => by have := lo a; show f a + τ a = 0; omega) fun a o e _ => e) (fun b => rfl) (fun b => Nat.le_trans (lo b) (on' b)) fun b o e => by
        have h : F' b + f b ≤ 0 := (fr.own b o e).2
        omega
theorem cal_okD {x : Str} {st : Stmt} {N ps : List Str} {dps : List PV} {k : Nat} {b : MS} (D : DefD K mg x st ps dps) (S : FnScope N ps (defScope st)) (n : Nat) (hn : n = ps.length)
    (hb : ∀ (f : Addr) (cdv : Value) (A : Around) (outer : List PySem.Env) (s : Shared) (H : Hp) (E : XK), Room k (A.deeper (envOfC x (defScope st) s.heap.objs.size f cdv)) →
      SSs (cxOf (L2.CX P w) P w K mg base N x (defScope st) f cdv A outer s H E) (fun cls d _ H' => E cls d H') (defBody st) b) : CalD P w K mg base (k + 1) x ps n dps (runM N.length b) := by
  obtain ⟨f, fd, dvs, ds, F, hm, b0, hv, b1, hr⟩ := D.ex
  refine ⟨f, fd, dvs, ds, fn_okD F S n hn fun cdv A outer s H E hr => hb f cdv A outer s H E hr, hm, F.kp, b0, hv, b1, hr, ?_⟩
  obtain ⟨oc, od, dV, kV, doc, pm, an, cdv, ct, osl, e, lk, _⟩ := F.ex
  exact ⟨_, lk, rfl⟩
theorem sc_any {H H' : Hp} : ∀ {vs : List V} {ps : List PV}, (ps.all fun p => (scV p).isSome) = true → Reps K mg H vs ps → Reps K mg H' vs ps
  | _, _, _, .nil => .nil
  | _, _, z, .cons h r => by
    rw [List.all_cons, Bool.and_eq_true] at z
    refine .cons ?_ (sc_any z.2 r)
    cases h with
    | non => exact .non
    | bl b => exact .bl b
    | int i => exact .int i
    | str x => exact .str x
    | _ => exact absurd z.1 (by simp [scV])
theorem defD_mk {h : Heap} {x : Str} {st : Stmt} {ps : List Str} {dps : List PV} {f T : Addr} {oc : Value} {od an : Option Addr} {sl : Array (Option Value)} {kV doc pm cd ct : Value} (n : Nat) (X : K.In h) (G : h.Ns mainGlobals mg) (hne : dps ≠ []) (hsc : (dps.all fun p => (scV p).isSome) = true) (hn : n + dps.length = ps.length)
    (b0 : ∀ (T : Addr) (kV doc pm : Value) (an : Option Addr) (cdv ct : Value) (us its : List Value), us.length = ps.length → its.length = dps.length → ∃ k, bindArgs (PySem.W.fnOf x x (defArgs st) (defBody st) (defScope st) (.ref T) kV doc pm an cdv ct) ⟨us, []⟩ = seqItems? (.ref T) >>= k ∧ k (some its.toArray) = pure (ps.zip us))
    (b1 : ∀ (T : Addr) (kV doc pm : Value) (an : Option Addr) (cdv ct : Value) (us its : List Value), us.length = n → its.length = dps.length → ∃ k, bindArgs (PySem.W.fnOf x x (defArgs st) (defBody st) (defScope st) (.ref T) kV doc pm an cdv ct) ⟨us, []⟩ = seqItems? (.ref T) >>= k ∧ k (some its.toArray) = pure (ps.zip (us ++ its)))
    (a : PySem.W.nsIn K mainGlobals x = some (some (.ref f))) (l : K.lookup f = some ⟨oc, od, .func (PySem.W.fnOf x x (defArgs st) (defBody st) (defScope st) (.ref T) kV doc pm an cd ct), sl⟩)
    (c : PySem.W.codeIn K cd x = true) (k : PySem.W.keepIn K (.ref f) = true) (r : readK K 9 (.ref T) = some (.ktp dps)) : DefD K mg x st ps dps := by
  obtain ⟨v, rv, rp⟩ := readK_ok (mg := mg) r
  have rp0 := rp fun _ => none
  cases rp0 with
  | @ktp a' vs _ hk rs =>
    obtain rfl : T = a' := by cases rv; rfl
    obtain ⟨o, its, m, lo, _, ho, _, hv⟩ := hk
    have len : vs.length = dps.length := rs.length
    have nv : vs ≠ [] := fun z => by rw [z] at len; exact hne (List.eq_nil_of_length_eq_zero len.symm)
    have F : FunD K x x (defArgs st) (defBody st) (defScope st) vs [] f (PySem.W.fnOf x x (defArgs st) (defBody st) (defScope st) (.ref T) kV doc pm an cd ct) :=
      ⟨⟨oc, od, .ref T, kV, doc, pm, an, cd, ct, sl, rfl, l, c, .inr ⟨nv, T, o, its.toList, m, rfl, lo, by rw [ho], hv⟩, .inl rfl⟩, k⟩
    obtain ⟨d0, v0, B0⟩ := F.binds1 (ps := ps) ps.length vs.length nv (by omega) fun T kV doc pm an cdv ct us its hu hi => by
      obtain ⟨k, h1, h2⟩ := b0 T kV doc pm an cdv ct us its hu (by omega)
      refine ⟨k, h1, ?_⟩
      rw [← hi, List.drop_length, List.append_nil]
      exact h2
    rw [List.drop_length] at v0
    cases v0
    obtain ⟨d1, v1, B1⟩ := F.binds1 (ps := ps) n 0 nv (by omega) fun T kV doc pm an cdv ct us its hu hi => by
      obtain ⟨k, h1, h2⟩ := b1 T kV doc pm an cdv ct us its hu (by omega)
      exact ⟨k, h1, h2⟩
    rw [List.drop_zero] at v1
    exact ⟨f, _, vs, d1, F, PySem.W.mg_of X G a, B0, v1, B1, fun H => sc_any hsc rs⟩
end

/-! ### calls -/
def mDropE (m : ME (Nat × PV)) : MS := fun env => (m env).bind fun z => .ok (.nx z.2)
/-- a call that leaves the defaults; nothing is raised -/
def mCallD (n : Nat) (G : Fn) (dps : List PV) (ms : MP (List PV)) : MP PV := fun env => (ms env).bind fun ps => if (ps ++ dps).length = n then (match G (ps ++ dps) with
  | .ok r => .ok r.2
  | _ => .stuck) else .stuck
def mCallDE (n : Nat) (G : Fn) (dps : List PV) (ms : MP (List PV)) : ME (Nat × PV) := fun env => liftP env ((ms env).bind fun ps => if (ps ++ dps).length = n then (match G (ps ++ dps) with
  | .ok r => ofO (okTall r)
  | _ => .stuck) else .stuck) some
section
variable {X : Cx} {W : WX} {a b c e tg : Expr} {es tgs : List Expr} {pos p p2 : Pos} {ms : MP (List PV)} {m : MP PV} {me : ME (Nat × PV)}
theorem ss_dropE (h : SE X W a me) (hs : swapsWith a none pos.line X.env = pure false := by rfl) : SS X W (.Expr a pos) (mDropE me) := (ps_expr h hs).weak fun D σ H ⟨env, σ0, τ, T, F, n, w⟩ =>
  ⟨env, σ0, τ, T, F, n, wpE_mono (wpE_S w) fun r e H' T' F' f sl su on fr w' x o => by
    obtain ⟨T2, n2, _, fr2⟩ := give_up n sl su on fr o
    exact w' σ H' T2 F' n2 fr2⟩
theorem se_calIO {x : Str} {ps : List Str} {k l i j n : Nat} {G : FnIO} (c : CalIO X.prog X.w X.K X.mg X.base k x ps n j G) (tk : Takes X W) (hr : Room l X.A) (hk : k ≤ l) (ha : SPJ X W i j (e :: es) ms) (hg : Gl X x := by rfl) (hdb : (x == ("__debug__" : Str)) = false := by decide)
    (he : starEach (e :: es) X.env = (false, eval e X.env) :: starEach es X.env := by rfl) (hpl : (backTo pos (starEach es X.env)).any (·.1) = false := by rfl) : SE X W (.Call (.Name x p) (e :: es) [] pos) (mCallIO i j n G ms) := by
  obtain ⟨f, fd, F, hm, kp, hb⟩ := c.ex
  exact se_callIO F tk (hr.mono hk) hm kp hb ha hg hdb he hpl
theorem pass_no : Passes (L2.CX X.prog X.w) X fun _ _ _ => False := fun pins σ H s e s' I h => (no_cx h).elim
theorem callD_wp {α : Type} {K : PySem.W.Frag} {mg : Str → Option Value} {W : WX} {n : Nat} {G : Fn} {ps dps : List PV} {vs dvs : List V} {k : Nat × PV → Option α} {σ : L2.St} {H : Hp} {Q : α → Hp → Prop} {Q' : VK} (r : Reps K mg H vs ps) (rd : Reps K mg H dvs dps)
    (w : wpP W K mg σ H (if (ps ++ dps).length = n then (match G (ps ++ dps) with | .ok r => ofO (k r) | _ => .stuck) else .stuck) Q)
    (h : ∀ z c x H' f, k z = some c → Grow H H' → Own K mg H' f z.1 x z.2 f → (∀ b, f b ≤ 1) → (∀ b o, H b = some o → f b = 0) → (∀ H2, Grow H H2 → Q c H2) → Q' x H') : spM K mg n G (vs ++ dvs) H Q' (fun _ _ _ => False) := by
  split at w
  · rename_i hl
    refine ⟨ps ++ dps, fun _ => 0, hl, Reps.own0 (r.append rd), fun _ => Nat.zero_le _, fun b z => absurd rfl z, ?_⟩
    cases hG : G (ps ++ dps) with
    | stuck => rw [hG] at w; exact w
    | exc x => rw [hG] at w; exact w.elim
    | ok z =>
      rw [hG] at w
      obtain ⟨c, e, q⟩ := wpP_ofO w
      intro x H' T' f g o su on fz
      exact h z c x H' f e g (o.keep (fun a o e t => by have := su a; omega) fun a o e _ => e) (fun b => by have := su b; have := on b; omega) fz q
  · exact w.elim
theorem sp_calD {x : Str} {ps : List Str} {dps : List PV} {j k n : Nat} {G : Fn} (c : CalD X.prog X.w X.K X.mg X.base k x ps n dps G) (hr : Room j X.A) (hk : k ≤ j) (ha : SPs X W (e :: es) ms) (hg : Gl X x := by rfl) (hdb : (x == ("__debug__" : Str)) = false := by decide)
    (he : starEach (e :: es) X.env = (false, eval e X.env) :: starEach es X.env := by rfl) (hpl : (backTo pos (starEach es X.env)).any (·.1) = false := by rfl) : SP X W (.Call (.Name x p) (e :: es) [] pos) (mCallD n G dps ms) := by
  obtain ⟨f, fd, dvs, ds, F, hm, kp, _, hv, hb, hrd, _⟩ := c.ex
  exact (pe_call F (hr.mono hk) hg hm kp hb hv pass_no ha hdb he hpl).weak fun σ H Q ⟨env, s, w⟩ =>
    tsps_bind (k := fun env ps => if (ps ++ dps).length = n then (match G (ps ++ dps) with | .ok r => .ok r.2 | _ => .stuck) else .stuck) s w fun ps xs H1 g r s1 w1 =>
      callD_wp (k := fun r => some r.2) r (hrd H1) w1 fun z c x H' f e g o on fz q => by cases e; exact q H' g x o.rep
theorem se_calD {x : Str} {ps : List Str} {dps : List PV} {j k n : Nat} {G : Fn} (c : CalD X.prog X.w X.K X.mg X.base k x ps n dps G) (hr : Room j X.A) (hk : k ≤ j) (ha : SPs X W (e :: es) ms) (hg : Gl X x := by rfl) (hdb : (x == ("__debug__" : Str)) = false := by decide)
    (he : starEach (e :: es) X.env = (false, eval e X.env) :: starEach es X.env := by rfl) (hpl : (backTo pos (starEach es X.env)).any (·.1) = false := by rfl) : SE X W (.Call (.Name x p) (e :: es) [] pos) (mCallDE n G dps ms) := by
  obtain ⟨f, fd, dvs, ds, F, hm, kp, _, hv, hb, hrd, _⟩ := c.ex
  exact (pe_call F (hr.mono hk) hg hm kp hb hv pass_no ha hdb he hpl).weak fun σ H Q ⟨env, σ0, τ, T, F, nn, w⟩ => by
    have w0 := wpE_lift nn w
    obtain ⟨env, rfl⟩ : ∃ e, e = env := ⟨_, rfl⟩
    exact tsps_bind (k := fun env ps => if (ps ++ dps).length = n then (match G (ps ++ dps) with | .ok r => ofO (okTall r) | _ => .stuck) else .stuck) nn.sees w0 fun ps xs H1 g0 r s1 w1 =>
      callD_wp (k := okTall) r (hrd H1) w1 fun z c x H' f e g o on fz q => by
        unfold okTall at e
        split at e
        · rename_i hz
          cases e
          obtain ⟨_, e, q⟩ := q H1 (.refl _)
          cases e
          exact q H' f (g0.trans g) (fun a o e => fz a o (g0 a o e)) on x (o.tall hz)
        · cases e
end
end M

set_option Elab.async false
set_option linter.all false
set_option maxRecDepth 100000
set_option maxHeartbeats 4000000
/-! x += n; texts as lists of signs; the newer pieces worked out -/
namespace M
open PySem PySem.Spec PyProof.Rows L2
section
variable {K : PySem.W.Frag} {mg : Str → Option Value}
theorem v_ip_add : VOp K mg (ipI fun i j => i + j) gAdd := vI0 fun _ _ _ => .int _
theorem v_ip_sub : VOp K mg (ipI fun i j => i - j) gSub := vI0 fun _ _ _ => .int _
end
def tx (l : List Nat) : Str := ⟨l.toArray⟩
theorem tx_tl (x : Str) : x = tx x.cps.toList := rfl
theorem tx_inj {a b : List Nat} : tx a = tx b ↔ a = b := ⟨fun h => by have := congrArg (fun x : Str => x.cps.toList) h; simpa [tx] using this, fun h => by rw [h]⟩
theorem tx_len (l : List Nat) : (tx l).length = l.length := by simp [tx, Str.length]
theorem tx_cps (l : List Nat) : (tx l).cps.toList = l := by simp [tx]
theorem tx_add (a b : List Nat) : tx a ++ tx b = tx (a ++ b) := by
  apply TL.ext_tl
  rw [TL.tl_append]
  simp only [TL.tl, tx_cps]
theorem tx_chr (c : Nat) : chr1 c = tx [c] := rfl
theorem tx_num (n : Nat) : Str.ofString (toString (n : Int)) = tx (TL.numL n) := by
  apply TL.ext_tl
  rw [TL.tl_num]
  simp only [TL.tl, tx_cps]
section
variable (ma mb mc md mk mx mv mj : MP PV) (mt mu : MP Bool) (ms mi ml : MP (List PV)) (me mf : ME (Nat × PV)) (env : LEnv) (i j n : Nat) (t : Tg) (G : Fn) (GI : FnIO)
@[simp] theorem ev_gLenX (l : List Nat) : gLen [.str (tx l)] = if sizeOk l.length then some (.int (l.length : Int)) else none := by
  show (if sizeOk (tx l).length then some (PV.int ((tx l).length : Int)) else none) = _
  rw [tx_len]
@[simp] theorem ev_gIxX (l : List Nat) (k : Int) : gIxS (.str (tx l)) (.int k) = if sizeOk l.length then (L2.atI l k).map fun c => .str (tx [c]) else none := by
  show (if sizeOk (tx l).length then (L2.atI (tx l).cps.toList k).map _ else none) = _
  rw [tx_len, tx_cps]; rfl
@[simp] theorem ev_gAddS (a b : List Nat) : gAddS (.str (tx a)) (.str (tx b)) = if sizeOk (a.length + b.length) then some (.str (tx (a ++ b))) else none := by
  show (if sizeOk ((tx a).length + (tx b).length) then some (PV.str (tx a ++ tx b)) else none) = _
  rw [tx_len, tx_len, tx_add]
@[simp] theorem ev_mSlcS (l h : MP (Option Int)) : mSlcS ma l h env = (ma env).bind fun p => (l env).bind fun l => (h env).bind fun h => ofO (kSlS p l h) := rfl
theorem ev_kSlS (l : List Nat) (a b : Option Int) : kSlS (.str (tx l)) a b = if sizeOk l.length then some (.str (tx ((l.drop (HT.sIx l.length 0 a)).take (HT.sIx l.length l.length b - HT.sIx l.length 0 a)))) else none := by
  show (if sizeOk (tx l).length then some (PV.str (cutS (tx l) a b)) else none) = _
  rw [tx_len]
  unfold cutS
  rw [tx_len, tx_cps]; rfl
theorem sIx_nat {n d k : Nat} (h : k ≤ n) : HT.sIx n d (some (k : Int)) = k := by
  show (if (k : Int) < 0 then ((k : Int) + n).toNat else min (k : Int).toNat n) = k
  rw [if_neg (by omega)]; omega
@[simp] theorem ev_gEqTs (a b : List Nat) : gEqT (.str (tx a)) (.str (tx b)) = some (.bl (decide (a = b))) := by
  show some (PV.bl (decide (tx a = tx b))) = _
  rw [decide_eq_decide.2 tx_inj]
@[simp] theorem ev_gNeTs (a b : List Nat) : gNeT (.str (tx a)) (.str (tx b)) = some (.bl (!decide (a = b))) := by
  show some (PV.bl (!decide (tx a = tx b))) = _
  rw [decide_eq_decide.2 tx_inj]
theorem lt1 (a b : Nat) : ltS (tx [a]) (tx [b]) = decide (a < b) := by
  unfold ltS
  rw [tx_cps, tx_cps]
  exact decide_eq_decide.2 (by rw [List.cons_lt_cons_iff]; exact ⟨fun h => (by rcases h with h | ⟨_, h⟩; exact h; exact absurd h (by simp)), Or.inl⟩)
@[simp] theorem ev_gLeS1 (a b : Nat) : gLeS (.str (tx [a])) (.str (tx [b])) = some (.bl (decide (a ≤ b))) := by
  show some (PV.bl (!ltS (tx [b]) (tx [a]))) = _
  rw [lt1, show (!decide (b < a)) = decide (a ≤ b) by rw [Bool.eq_iff_iff]; simp]
@[simp] theorem ev_gInC (neg : Bool) (c : Nat) (l : List Nat) : gInC neg (.str (tx [c])) (.str (tx l)) = some (.bl (if neg then !decide (c ∈ l) else decide (c ∈ l))) := by
  show (match (tx [c]).cps.toList with | [x] => some (PV.bl (if neg then !decide (x ∈ (tx l).cps.toList) else decide (x ∈ (tx l).cps.toList))) | _ => none) = _
  rw [tx_cps, tx_cps]
@[simp] theorem ev_mTm {α : Type} (g : PV → PV → Option α) : mTm g ma mb env = (ma env).bind fun p => (match p with | .str a => (mb env).bind fun q => ofO (g (.str a) q) | _ => .stuck) := rfl
@[simp] theorem ev_gStrI (k : Nat) : gStr [.int (k : Int)] = if Nat.blt k.log2 1920 then some (.str (tx (TL.numL k))) else none := by
  show (if Nat.blt (k : Int).natAbs.log2 1920 then some (PV.str (Str.ofString (toString (k : Int)))) else none) = _
  rw [tx_num, Int.natAbs_natCast]
@[simp] theorem ev_gStrS (x : Str) : gStr [.str x] = some (.str x) := rfl
@[simp] theorem ev_mIsA (T : String) : mIsA T ma env = (ma env).bind fun p => ofO (gIsA T p) := rfl
@[simp] theorem ev_mDropE : mDropE me env = (me env).bind fun z => .ok (.nx z.2) := rfl
@[simp] theorem ev_mCallD (dps : List PV) : mCallD n G dps ms env = (ms env).bind fun ps => if (ps ++ dps).length = n then (match G (ps ++ dps) with | .ok r => .ok r.2 | _ => .stuck) else .stuck := rfl
@[simp] theorem ev_mCallDE (dps : List PV) : mCallDE n G dps ms env = liftP env ((ms env).bind fun ps => if (ps ++ dps).length = n then (match G (ps ++ dps) with | .ok r => ofO (okTall r) | _ => .stuck) else .stuck) some := rfl
@[simp] theorem ev_mCallIO : mCallIO i j n GI ms env = (match env[i]? with
  | some (some s) => (match ms env with
    | .stuck => .stuck
    | .exc x => .exc (x, env)
    | .ok ps => if ps.length = n ∧ flatBut j ps = true then (match GI s.d ps with
      | .stuck => .stuck
      | .exc x => .exc (x, env.set i none)
      | .ok r => .ok (r.1, env.set i (some ⟨r.2.1, s.pin, r.2.2⟩))) else .stuck)
  | _ => .stuck) := rfl
@[simp] theorem ev_mAug (g : PV → PV → Option PV) : mAug i g ma env = (match env[i]? with
  | some (some s) => (match ma env with
    | .stuck => .stuck
    | .exc x => .exc (x, env)
    | .ok q => match g s.v q with
      | none => .stuck
      | some z => if hgt z = 0 then ofNx (setS env i 8 z) else .stuck)
  | _ => .stuck) := rfl
@[simp] theorem ev_fb0 (p : PV) (ps : List PV) : flatBut 0 (p :: ps) = (hgts ps == 0) := rfl
@[simp] theorem ev_fbS (j : Nat) (p : PV) (ps : List PV) : flatBut (j + 1) (p :: ps) = (hgt p == 0 && flatBut j ps) := rfl
end
theorem loopW_s (mt : MP Bool) (b : MS) (n : Nat) (env : LEnv) : loopW mt b (n + 1) env = liftT env (mt env) fun t => if t = true then contR (b env) (loopW mt b n) else .ok (.nx env) := rfl
/-- no number but 0 begins with 0 -/
theorem num_head : ∀ (n : Nat), n ≠ 0 → ∃ c r, TL.numL n = c :: r ∧ c ≠ 48
  | n, h => by
    by_cases h10 : n < 10
    · exact ⟨48 + n, [], TL.numL_lt h10, by omega⟩
    · obtain ⟨c, r, e, hc⟩ := num_head (n / 10) (by omega)
      exact ⟨c, r ++ [48 + n % 10], by rw [TL.numL_step (by omega), e]; rfl, hc⟩
/-- text.split of lines -/
theorem split_lines {ls : List (List Nat)} {text : List Nat} (h0 : ls ≠ []) (hf : ∀ l ∈ ls, ¬ 10 ∈ l) (e : TL.joinL [10] ls = text) : Txt.split (tx text) (tx [10]) = ls.map tx := by
  have k := TL.split_spl (tx text) (tx [10]) (by simp [TL.tl, tx_cps]) (TL.kind_ok (by kernel_rfl))
  simp only [TL.tl, tx_cps] at k
  subst e
  rw [TL.spl_join h0 hf] at k
  apply TL.map_tl_inj
  simp only [List.map_map]
  rw [k]
  exact (List.map_congr_left (g := id) fun l _ => tx_cps l).symm ▸ (List.map_id ls).symm
end M

set_option Elab.async false
set_option linter.all false
set_option maxRecDepth 100000
namespace M_ropebook_k00_tokens_of_texts
open M PySem

def g_LONGEST_NUMBER : PV := .int 7

def g_MOST_NUMBER : PV := .int 1000000

def g_SIGNS : PV := .str ("{}();,:+-*^/" : PySem.Str)

abbrev N_is_digit : List Str := ["character"]
def b_is_digit : MS :=
 (mRet (mFlat (mChain gLeS gLeS (mC (.str ("0" : PySem.Str))) (mV 0) (mC (.str ("9" : PySem.Str))))))
def F_is_digit : Fn := runM 1 b_is_digit

abbrev N_is_letter : List Str := ["character"]
def b_is_letter : MS :=
 (mRet (mFlat (mChain gLeS gLeS (mC (.str ("a" : PySem.Str))) (mV 0) (mC (.str ("z" : PySem.Str))))))
def F_is_letter : Fn := runM 1 b_is_letter

def t_run_of_digits_1 : MP Bool :=
 (mAnd (mTst (mBin gLt (mV 2) (mFn gLen (mCons (mV 0) mNil)))) (mTst (mCall 1 F_is_digit (mCons (mBin gIxS (mV 0) (mV 2)) mNil))))

def w_run_of_digits_1 : MS :=
 (mAug 2 gAdd (mC (.int 1)))

abbrev N_run_of_digits : List Str := ["line", "start", "end"]
def b_run_of_digits : MS :=
 (mSeq (mAsg (.nm 2) (mFlat (mV 1)))
 (mSeq (loopW t_run_of_digits_1
 w_run_of_digits_1 1000000)
 (mRet (mFlat (mV 2)))))
def F_run_of_digits : Fn := runM 3 b_run_of_digits

abbrev N_number_of_digits : List Str := ["digits", "value"]
def b_number_of_digits : MS :=
 (mSeq (mIfS (mOr (mTst (mBin gGt (mFn gLen (mCons (mV 0) mNil)) (mC g_LONGEST_NUMBER))) (mAnd (mTst (mBin gGt (mFn gLen (mCons (mV 0) mNil)) (mC (.int 1)))) (mTst (mBin gEqT (mBin gIxS (mV 0) (mC (.int 0))) (mC (.str ("0" : PySem.Str)))))))
 (mRet (mFlat (mC .non)))
 mSkip)
 (mSeq (mAsg (.nm 1) (mFlat (mFn gIntT (mCons (mV 0) mNil))))
 (mSeq (mIfS (mTst (mBin gGt (mV 1) (mC g_MOST_NUMBER)))
 (mRet (mFlat (mC .non)))
 mSkip)
 (mRet (mFlat (mV 1))))))
def F_number_of_digits : Fn := runM 2 b_number_of_digits

def t_run_of_letters_1 : MP Bool :=
 (mAnd (mTst (mBin gLt (mV 2) (mFn gLen (mCons (mV 0) mNil)))) (mOr (mTst (mCall 1 F_is_letter (mCons (mBin gIxS (mV 0) (mV 2)) mNil))) (mTst (mCall 1 F_is_digit (mCons (mBin gIxS (mV 0) (mV 2)) mNil)))))

def w_run_of_letters_1 : MS :=
 (mAug 2 gAdd (mC (.int 1)))

abbrev N_run_of_letters : List Str := ["line", "start", "end"]
def b_run_of_letters : MS :=
 (mSeq (mAsg (.nm 2) (mFlat (mV 1)))
 (mSeq (loopW t_run_of_letters_1
 w_run_of_letters_1 1000000)
 (mRet (mFlat (mV 2)))))
def F_run_of_letters : Fn := runM 3 b_run_of_letters

abbrev N_is_any_letter : List Str := ["character"]
def b_is_any_letter : MS :=
 (mRet (mFlat (mOrV (mCall 1 F_is_letter (mCons (mV 0) mNil)) (mChain gLeS gLeS (mC (.str ("A" : PySem.Str))) (mV 0) (mC (.str ("Z" : PySem.Str)))))))
def F_is_any_letter : Fn := runM 1 b_is_any_letter

abbrev N_is_alone : List Str := ["line", "at"]
def b_is_alone : MS :=
 (mRet (mFlat (mOrV (mBin gEqI (mBin gAdd (mV 1) (mC (.int 1))) (mFn gLen (mCons (mV 0) mNil))) (mUn gNotV (mOrV (mCall 1 F_is_any_letter (mCons (mBin gIxS (mV 0) (mBin gAdd (mV 1) (mC (.int 1)))) mNil)) (mCall 1 F_is_digit (mCons (mBin gIxS (mV 0) (mBin gAdd (mV 1) (mC (.int 1)))) mNil)))))))
def F_is_alone : Fn := runM 2 b_is_alone

abbrev N_token_at : List Str := ["line", "at", "letter", "character", "end", "value"]
def b_token_at : MS :=
 (mSeq (mAsg (.nm 3) (mFlat (mBin gIxS (mV 0) (mV 1))))
 (mSeq (mIfS (mTst (mCall 1 F_is_digit (mCons (mV 3) mNil)))
 (mSeq (mAsg (.nm 4) (mFlat (mCall 2 F_run_of_digits (mCons (mV 0) (mCons (mV 1) mNil)))))
 (mSeq (mAsg (.nm 5) (mFlat (mCall 1 F_number_of_digits (mCons (mSlcS (mV 0) (mOS (mV 1)) (mOS (mV 4))) mNil))))
 (mSeq (mIfS (mOr (mTst (mBin gIsN (mV 5) (mC .non))) (mAnd (mTst (mBin gLt (mV 4) (mFn gLen (mCons (mV 0) mNil)))) (mTst (mCall 1 F_is_any_letter (mCons (mBin gIxS (mV 0) (mV 4)) mNil)))))
 (mRet (mFlat (mC .non)))
 mSkip)
 (mRet (mFlat (mTup (mCons (mC (.str ("number" : PySem.Str))) (mCons (mV 5) (mCons (mV 4) mNil)))))))))
 mSkip)
 (mSeq (mIfS (mTst (mCall 1 F_is_letter (mCons (mV 3) mNil)))
 (mSeq (mAsg (.nm 4) (mFlat (mCall 2 F_run_of_letters (mCons (mV 0) (mCons (mV 1) mNil)))))
 (mRet (mFlat (mTup (mCons (mC (.str ("word" : PySem.Str))) (mCons (mSlcS (mV 0) (mOS (mV 1)) (mOS (mV 4))) (mCons (mV 4) mNil)))))))
 mSkip)
 (mSeq (mIfS (mTst (mBin gEqT (mV 3) (mV 2)))
 (mRet (mFlat (mIf (mTst (mCall 2 F_is_alone (mCons (mV 0) (mCons (mV 1) mNil)))) (mTup (mCons (mC (.str ("word" : PySem.Str))) (mCons (mV 3) (mCons (mBin gAdd (mV 1) (mC (.int 1))) mNil)))) (mC .non))))
 mSkip)
 (mSeq (mIfS (mTst (mBin (gInC false) (mV 3) (mC g_SIGNS)))
 (mRet (mFlat (mTup (mCons (mC (.str ("sign" : PySem.Str))) (mCons (mV 3) (mCons (mBin gAdd (mV 1) (mC (.int 1))) mNil))))))
 mSkip)
 (mRet (mFlat (mC .non))))))))
def F_token_at : Fn := runM 6 b_token_at

def t_scan_line_1 : MP Bool :=
 (mTst (mBin gLt (mV 4) (mFn gLen (mCons (mV 0) mNil))))

def w_scan_line_1 : MS :=
 (mSeq (mIfS (mTst (mBin gEqT (mBin gIxS (mV 0) (mV 4)) (mC (.str ("#" : PySem.Str)))))
 (mRet (mFlat (mC (.int 0))))
 mSkip)
 (mIfS (mTst (mBin gEqT (mBin gIxS (mV 0) (mV 4)) (mC (.str (" " : PySem.Str)))))
 (mAug 4 gAdd (mC (.int 1)))
 (mSeq (mAsg (.nm 5) (mFlat (mCall 3 F_token_at (mCons (mV 0) (mCons (mV 4) (mCons (mV 3) mNil))))))
 (mSeq (mIfS (mTst (mBin gIsN (mV 5) (mC .non)))
 (mRet (mFlat (mBin gAdd (mV 4) (mC (.int 1)))))
 mSkip)
 (mSeq (mApp 2 (mFlat (mTup (mCons (mBin gIxT (mV 5) (mC (.int 0))) (mCons (mBin gIxT (mV 5) (mC (.int 1))) (mCons (mV 1) (mCons (mBin gAdd (mV 4) (mC (.int 1))) mNil)))))))
 (mAsg (.nm 4) (mFlat (mBin gIxT (mV 5) (mC (.int 2))))))))))

abbrev N_scan_line : List Str := ["line", "number", "found", "letter", "at", "token"]
def b_scan_line : MS :=
 (mSeq (mAsg (.nm 4) (mFlat (mC (.int 0))))
 (mSeq (loopW t_scan_line_1
 w_scan_line_1 1000000)
 (mRet (mFlat (mC (.int 0))))))
def F_scan_line : FnIO := runIO 6 2 b_scan_line

def w_scan_1 : MS :=
 (mSeq (mAug 4 gAdd (mC (.int 1)))
 (mSeq (mAsg (.nm 6) (mCallIO 3 2 4 F_scan_line (mCons (mV 5) (mCons (mV 4) (mCons (mV 3) (mCons (mV 1) mNil))))))
 (mIfS (mTst (mBin gGt (mV 6) (mC (.int 0))))
 (mSeq (mApp 3 (mFlat (mTup (mCons (mC (.str ("fault" : PySem.Str))) (mCons (mC (.str ("" : PySem.Str))) (mCons (mV 4) (mCons (mV 6) mNil)))))))
 (mRet (mMove 3)))
 mSkip)))

abbrev d_scan : List PV := [.str ("X" : PySem.Str)]

abbrev N_scan : List Str := ["text", "letter", "lines", "found", "number", "line", "column"]
def b_scan : MS :=
 (mSeq (mAsg (.nm 2) (mNew (mTm gSplit (mV 0) (mC (.str ("\n" : PySem.Str))))))
 (mSeq (mAsg (.nm 3) (mNew (mLst mNil)))
 (mSeq (mAsg (.nm 4) (mFlat (mC (.int 0))))
 (mSeq (mForL (.nm 5) (mFrz 2)
 w_scan_1)
 (mSeq (mApp 3 (mFlat (mTup (mCons (mC (.str ("end" : PySem.Str))) (mCons (mC (.str ("" : PySem.Str))) (mCons (mV 4) (mCons (mBin gAdd (mFn gLen (mCons (mBin gIxL (mV 2) (mUn gNeg (mC (.int 1)))) mNil)) (mC (.int 1))) mNil)))))))
 (mRet (mMove 3)))))))
def F_scan : Fn := runM 7 b_scan

abbrev N_tokens_of : List Str := ["text", "found", "last"]
def b_tokens_of : MS :=
 (mSeq (mAsg (.nm 1) (mCallDE 2 F_scan d_scan (mCons (mV 0) mNil)))
 (mSeq (mAsg (.nm 2) (mFlat (mBin gIxL (mV 1) (mUn gNeg (mC (.int 1))))))
 (mSeq (mIfS (mTst (mBin gEqT (mBin gIxT (mV 2) (mC (.int 0))) (mC (.str ("fault" : PySem.Str)))))
 (mRaise ("BadText" : PySem.Str) 3 [(("label" : PySem.Str), .c ("BadText" : PySem.Str)), (("line" : PySem.Str), .a 0), (("column" : PySem.Str), .a 1), (("reason" : PySem.Str), .a 2)] (mCons (mBin gIxT (mV 2) (mC (.int 2))) (mCons (mBin gIxT (mV 2) (mC (.int 3))) (mCons (mC (.str ("token" : PySem.Str))) mNil))))
 mSkip)
 (mRet (mMove 1)))))
def F_tokens_of : Fn := runM 3 b_tokens_of

def w_law_draw_1 : MS :=
 (mIfS (mAnd (mTst (mV 4)) (mTst (mBin gGe (mV 3) (mBin gIxL (mV 1) (mV 5)))))
 (mSeq (mApp 2 (mFlat (mBin gMod (mFn gInt (mCons (mV 3) mNil)) (mBin gIxL (mV 1) (mV 5)))))
 (mAsg (.nm 3) (mFlat (mBin gDiv (mV 3) (mBin gIxL (mV 1) (mV 5))))))
 (mSeq (mAsg (.nm 6) (mFlat (mBin gMod (mFn gInt (mCons (mBin gAdd (mBin gMul (mFn gAbs (mCons (mV 0) mNil)) (mC (.int 48271))) (mBin gMul (mBin gAdd (mV 5) (mC (.int 1))) (mC (.int 69621)))) mNil)) (mC (.int 2147483647)))))
 (mSeq (mAsg (.nm 6) (mFlat (mBin gMod (mFn gInt (mCons (mBin gAdd (mBin gMul (mV 6) (mC (.int 16807))) (mBin gMul (mBin gAdd (mV 5) (mC (.int 1))) (mC (.int 40692)))) mNil)) (mC (.int 2147483399)))))
 (mApp 2 (mFlat (mBin gMod (mFn gInt (mCons (mV 6) mNil)) (mBin gIxL (mV 1) (mV 5))))))))

abbrev N_law_draw : List Str := ["cell", "limits", "row", "rest", "great", "k", "mixed"]
def b_law_draw : MS :=
 (mSeq (mAsg (.nm 2) (mNew (mLst mNil)))
 (mSeq (mAsg (.nm 3) (mFlat (mFn gAbs (mCons (mV 0) mNil))))
 (mSeq (mAsg (.nm 4) (mFlat (mBin gGe (mV 3) (mC (.int 1000000000000000000)))))
 (mSeq (mForR1 (.nm 5) (mCons (mFn gLen (mCons (mV 1) mNil)) mNil)
 w_law_draw_1)
 (mRet (mMove 2))))))
def F_law_draw : Fn := runM 7 b_law_draw

abbrev N_law_token : List Str := ["cell", "d", "small"]
def b_law_token : MS :=
 (mSeq (mAsg (.nm 1) (mCallE 2 F_law_draw (mCons (mV 0) (mCons (mOfF (mLst (mCons (mC (.int 3)) (mCons (mC (.int 1000001)) (mCons (mC (.int 26)) (mCons (mC (.int 36)) (mCons (mC (.int 36)) (mCons (mC (.int 12)) (mCons (mC (.int 5)) mNil))))))))) mNil))))
 (mSeq (mAsg (.nm 2) (mFlat (mC (.str ("abcdefghijklmnopqrstuvwxyz0123456789" : PySem.Str)))))
 (mSeq (mIfS (mAnd (mTst (mBin gEqI (mBin gIxL (mV 1) (mC (.int 0))) (mC (.int 0)))) (mTst (mBin gEqI (mBin gIxL (mV 1) (mC (.int 6))) (mC (.int 4)))))
 (mRet (mFlat (mTup (mCons (mC (.str ("word" : PySem.Str))) (mCons (mC (.str ("X" : PySem.Str))) mNil)))))
 mSkip)
 (mSeq (mIfS (mTst (mBin gEqI (mBin gIxL (mV 1) (mC (.int 0))) (mC (.int 0))))
 (mRet (mFlat (mTup (mCons (mC (.str ("word" : PySem.Str))) (mCons (mSlcS (mBin gAddS (mBin gAddS (mBin gIxS (mV 2) (mBin gIxL (mV 1) (mC (.int 2)))) (mBin gIxS (mV 2) (mBin gIxL (mV 1) (mC (.int 3))))) (mBin gIxS (mV 2) (mBin gIxL (mV 1) (mC (.int 4))))) mON (mOS (mBin gAdd (mC (.int 1)) (mBin gMod (mFn gInt (mCons (mBin gIxL (mV 1) (mC (.int 6))) mNil)) (mC (.int 3)))))) mNil)))))
 mSkip)
 (mSeq (mIfS (mTst (mBin gEqI (mBin gIxL (mV 1) (mC (.int 0))) (mC (.int 1))))
 (mRet (mFlat (mTup (mCons (mC (.str ("number" : PySem.Str))) (mCons (mBin gIxL (mOfF (mLst (mCons (mBin gIxL (mV 1) (mC (.int 1))) (mCons (mC (.int 1000000)) (mCons (mBin gMod (mFn gInt (mCons (mBin gIxL (mV 1) (mC (.int 1))) mNil)) (mC (.int 10))) (mCons (mC (.int 0)) (mCons (mBin gMod (mFn gInt (mCons (mBin gIxL (mV 1) (mC (.int 1))) mNil)) (mC (.int 1000))) mNil))))))) (mBin gIxL (mV 1) (mC (.int 6)))) mNil)))))
 mSkip)
 (mRet (mFlat (mTup (mCons (mC (.str ("sign" : PySem.Str))) (mCons (mBin gIxS (mC (.str ("{}();,:+-*^/" : PySem.Str))) (mBin gIxL (mV 1) (mC (.int 5)))) mNil))))))))))
def F_law_token : Fn := runM 3 b_law_token

abbrev N_law_gap : List Str := ["cell"]
def b_law_gap : MS :=
 (mRet (mFlat (mBin gIxL (mOfF (mLst (mCons (mC (.str (" " : PySem.Str))) (mCons (mC (.str ("  " : PySem.Str))) (mCons (mC (.str ("\n" : PySem.Str))) (mCons (mC (.str (" # a 5 ; @ !\n" : PySem.Str))) (mCons (mC (.str ("\n\n   " : PySem.Str))) (mCons (mC (.str ("   " : PySem.Str))) mNil)))))))) (mBin gMod (mFn gInt (mCons (mV 0) mNil)) (mC (.int 6))))))
def F_law_gap : Fn := runM 1 b_law_gap

def w_law_after_1 : MS :=
 (mIfS (mTst (mBin gEqT (mBin gIxS (mV 2) (mV 3)) (mC (.str ("\n" : PySem.Str)))))
 (mSeq (mAsg (.nm 0) (mFlat (mBin gAdd (mV 0) (mC (.int 1)))))
 (mAsg (.nm 1) (mFlat (mC (.int 1)))))
 (mAsg (.nm 1) (mFlat (mBin gAdd (mV 1) (mC (.int 1))))))

abbrev N_law_after : List Str := ["line", "column", "text", "k"]
def b_law_after : MS :=
 (mSeq (mForR1 (.nm 3) (mCons (mFn gLen (mCons (mV 2) mNil)) mNil)
 w_law_after_1)
 (mRet (mFlat (mTup (mCons (mV 0) (mCons (mV 1) mNil))))))
def F_law_after : Fn := runM 4 b_law_after

abbrev N_law_cell : List Str := ["script", "k"]
def b_law_cell : MS :=
 (mSeq (mIfS (mTst (mBin gLt (mV 1) (mFn gLen (mCons (mV 0) mNil))))
 (mRet (mFlat (mBin gIxL (mV 0) (mV 1))))
 mSkip)
 (mRet (mFlat (mC (.int 0)))))
def F_law_cell : Fn := runM 2 b_law_cell

def w_law_1 : MS :=
 (mSeq (mAsg (.nm 12) (mFlat (mBin gIxT (mBin gIxL (mV 5) (mV 4)) (mV 11))))
 (mIfS (mTst (mIsA "str" (mBin gIxT (mBin gIxL (mV 2) (mV 4)) (mV 11))))
 (mIfS (mOr (mNot (mTst (mIsA "str" (mV 12)))) (mTst (mBin gNe (mV 12) (mBin gIxT (mBin gIxL (mV 2) (mV 4)) (mV 11)))))
 (mRet (mFlat (mC (.bl false))))
 mSkip)
 (mIfS (mOr (mNot (mTst (mIsA "int" (mV 12)))) (mOr (mTst (mIsA "bool" (mV 12))) (mTst (mBin gNe (mV 12) (mBin gIxT (mBin gIxL (mV 2) (mV 4)) (mV 11))))))
 (mRet (mFlat (mC (.bl false))))
 mSkip)))

def w_law_2 : MS :=
 (mSeq (mIfS (mOr (mNot (mTst (mIsA "tuple" (mBin gIxL (mV 5) (mV 4))))) (mTst (mBin gNeI (mFn gLen (mCons (mBin gIxL (mV 5) (mV 4)) mNil)) (mC (.int 4)))))
 (mRet (mFlat (mC (.bl false))))
 mSkip)
 (mForR1 (.nm 11) (mCons (mC (.int 4)) mNil)
 w_law_1))

def w_law_3 : MS :=
 (mSeq (mAsg (.nm 8) (mFlat (mCall 1 F_law_token (mCons (mBin gIxL (mV 0) (mBin gAdd (mC (.int 1)) (mV 4))) mNil))))
 (mSeq (mAsg (.nm 9) (mFlat (mFn gStr (mCons (mBin gIxT (mV 8) (mC (.int 1))) mNil))))
 (mSeq (mApp 2 (mFlat (mTup (mCons (mBin gIxT (mV 8) (mC (.int 0))) (mCons (mBin gIxT (mV 8) (mC (.int 1))) (mCons (mBin gIxT (mV 3) (mC (.int 0))) (mCons (mBin gIxT (mV 3) (mC (.int 1))) mNil)))))))
 (mSeq (mAsg (.nm 10) (mFlat (mCall 1 F_law_gap (mCons (mBin gAdd (mBin gDiv (mBin gIxL (mV 0) (mBin gAdd (mC (.int 1)) (mV 4))) (mC (.int 3))) (mV 4)) mNil))))
 (mSeq (mIfS (mAnd (mTst (mBin gEqT (mBin gIxT (mV 8) (mC (.int 0))) (mC (.str ("sign" : PySem.Str))))) (mTst (mBin gEqI (mBin gMod (mBin gDiv (mFn gInt (mCons (mBin gIxL (mV 0) (mBin gAdd (mC (.int 1)) (mV 4))) mNil)) (mC (.int 2))) (mC (.int 2))) (mC (.int 1)))))
 (mAsg (.nm 10) (mFlat (mC (.str ("" : PySem.Str)))))
 mSkip)
 (mSeq (mAsg (.nm 1) (mFlat (mBin gAddS (mBin gAddS (mV 1) (mV 9)) (mV 10))))
 (mAsg (.nm 3) (mFlat (mCall 3 F_law_after (mCons (mBin gIxT (mV 3) (mC (.int 0))) (mCons (mBin gIxT (mV 3) (mC (.int 1))) (mCons (mBin gAddS (mV 9) (mV 10)) mNil))))))))))))

abbrev N_law : List Str := ["script", "text", "due", "place", "k", "actual", "tight", "wanted", "token", "spelled", "gap", "j", "one"]
def b_law : MS :=
 (mSeq (mAsg (.nm 1) (mFlat (mC (.str ("" : PySem.Str)))))
 (mSeq (mAsg (.nm 2) (mNew (mLst mNil)))
 (mSeq (mAsg (.nm 3) (mFlat (mTup (mCons (mC (.int 1)) (mCons (mC (.int 1)) mNil)))))
 (mSeq (mForR1 (.nm 4) (mCons (mFn gMin (mCons (mC (.int 40)) (mCons (mFn gMax (mCons (mC (.int 0)) (mCons (mBin gSub (mFn gLen (mCons (mV 0) mNil)) (mC (.int 1))) mNil))) mNil))) mNil)
 w_law_3)
 (mSeq (mIfS (mTst (mBin gEqI (mBin gMod (mFn gInt (mCons (mCall 2 F_law_cell (mCons (mV 0) (mCons (mC (.int 0)) mNil))) mNil)) (mC (.int 3))) (mC (.int 1))))
 (mSeq (mAsg (.nm 1) (mFlat (mBin gAddS (mV 1) (mC (.str ("# the end } ;" : PySem.Str))))))
 (mAsg (.nm 3) (mFlat (mCall 3 F_law_after (mCons (mBin gIxT (mV 3) (mC (.int 0))) (mCons (mBin gIxT (mV 3) (mC (.int 1))) (mCons (mC (.str ("# the end } ;" : PySem.Str))) mNil)))))))
 mSkip)
 (mSeq (mApp 2 (mFlat (mTup (mCons (mC (.str ("end" : PySem.Str))) (mCons (mC (.str ("" : PySem.Str))) (mCons (mBin gIxT (mV 3) (mC (.int 0))) (mCons (mBin gIxT (mV 3) (mC (.int 1))) mNil)))))))
 (mSeq (mAsg (.nm 5) (mCallE 1 F_tokens_of (mCons (mV 1) mNil)))
 (mSeq (mIfS (mOr (mNot (mTst (mIsA "list" (mV 5)))) (mTst (mBin gNeI (mFn gLen (mCons (mV 5) mNil)) (mFn gLen (mCons (mV 2) mNil)))))
 (mRet (mFlat (mC (.bl false))))
 mSkip)
 (mSeq (mForR1 (.nm 4) (mCons (mFn gLen (mCons (mV 2) mNil)) mNil)
 w_law_2)
 (mSeq (mAsg (.nm 6) (mNew (mComp [12] (.nm 12) (mIt itL (mCall 1 F_tokens_of (mCons (mC (.str ("a1,(2-3)*t^4{X}" : PySem.Str))) mNil))) mYes (mTup (mCons (mBin gIxT (mV 12) (mC (.int 0))) (mCons (mBin gIxT (mV 12) (mC (.int 1))) mNil))))))
 (mSeq (mAsg (.nm 7) (mNew (mLst (mCons (mTup (mCons (mC (.str ("word" : PySem.Str))) (mCons (mC (.str ("a1" : PySem.Str))) mNil))) (mCons (mTup (mCons (mC (.str ("sign" : PySem.Str))) (mCons (mC (.str ("," : PySem.Str))) mNil))) (mCons (mTup (mCons (mC (.str ("sign" : PySem.Str))) (mCons (mC (.str ("(" : PySem.Str))) mNil))) (mCons (mTup (mCons (mC (.str ("number" : PySem.Str))) (mCons (mC (.int 2)) mNil))) (mCons (mTup (mCons (mC (.str ("sign" : PySem.Str))) (mCons (mC (.str ("-" : PySem.Str))) mNil))) (mCons (mTup (mCons (mC (.str ("number" : PySem.Str))) (mCons (mC (.int 3)) mNil))) (mCons (mTup (mCons (mC (.str ("sign" : PySem.Str))) (mCons (mC (.str (")" : PySem.Str))) mNil))) (mCons (mTup (mCons (mC (.str ("sign" : PySem.Str))) (mCons (mC (.str ("*" : PySem.Str))) mNil))) mNil)))))))))))
 (mRet (mFlat (mBin gEq (mV 6) (mOfF (mBinF gCat (mV 7) (mOfF (mLst (mCons (mTup (mCons (mC (.str ("word" : PySem.Str))) (mCons (mC (.str ("t" : PySem.Str))) mNil))) (mCons (mTup (mCons (mC (.str ("sign" : PySem.Str))) (mCons (mC (.str ("^" : PySem.Str))) mNil))) (mCons (mTup (mCons (mC (.str ("number" : PySem.Str))) (mCons (mC (.int 4)) mNil))) (mCons (mTup (mCons (mC (.str ("sign" : PySem.Str))) (mCons (mC (.str ("{" : PySem.Str))) mNil))) (mCons (mTup (mCons (mC (.str ("word" : PySem.Str))) (mCons (mC (.str ("X" : PySem.Str))) mNil))) (mCons (mTup (mCons (mC (.str ("sign" : PySem.Str))) (mCons (mC (.str ("}" : PySem.Str))) mNil))) (mCons (mTup (mCons (mC (.str ("end" : PySem.Str))) (mCons (mC (.str ("" : PySem.Str))) mNil))) mNil)))))))))))))))))))))))))
def F_law : Fn := runM 13 b_law

end M_ropebook_k00_tokens_of_texts

set_option Elab.async false
set_option linter.all false
set_option maxRecDepth 100000
set_option maxHeartbeats 1000000
namespace M_ropebook_k00_tokens_of_texts
open M PySem L2

theorem c_0 : ("0" : Str) = tx [48] := by kernel_rfl
theorem c_9 : ("9" : Str) = tx [57] := by kernel_rfl
theorem c_a : ("a" : Str) = tx [97] := by kernel_rfl
theorem c_z : ("z" : Str) = tx [122] := by kernel_rfl
theorem c_A : ("A" : Str) = tx [65] := by kernel_rfl
theorem c_Z : ("Z" : Str) = tx [90] := by kernel_rfl
theorem c_X : ("X" : Str) = tx [88] := by kernel_rfl
theorem c_hash : ("#" : Str) = tx [35] := by kernel_rfl
theorem c_sp : (" " : Str) = tx [32] := by kernel_rfl
theorem c_nl : ("\n" : Str) = tx [10] := by kernel_rfl
theorem c_signs : ("{}();,:+-*^/" : Str) = tx [123, 125, 40, 41, 59, 44, 58, 43, 45, 42, 94, 47] := by kernel_rfl
/-! ### signs -/
def dg (c : Nat) : Bool := decide (48 ≤ c ∧ c ≤ 57)
def lo (c : Nat) : Bool := decide (97 ≤ c ∧ c ≤ 122)
def up (c : Nat) : Bool := decide (65 ≤ c ∧ c ≤ 90)
def lod (c : Nat) : Bool := lo c || dg c
def alnum (c : Nat) : Bool := lo c || up c || dg c
theorem isdigit (c : Nat) : F_is_digit [.str (tx [c])] = .ok (8, .bl (dg c)) := by
  simp [F_is_digit, runM, b_is_digit, slotsOf, List.replicate, c_0, c_9, dg]
  by_cases h : 48 ≤ c <;> simp [h]
theorem isletter (c : Nat) : F_is_letter [.str (tx [c])] = .ok (8, .bl (lo c)) := by
  simp [F_is_letter, runM, b_is_letter, slotsOf, List.replicate, c_a, c_z, lo]
  by_cases h : 97 ≤ c <;> simp [h]
theorem isany (c : Nat) : F_is_any_letter [.str (tx [c])] = .ok (8, .bl (lo c || up c)) := by
  have h := isletter c
  cases hl : lo c with
  | true => rw [hl] at h; simp [F_is_any_letter, runM, b_is_any_letter, slotsOf, List.replicate, h]
  | false =>
    rw [hl] at h
    simp [F_is_any_letter, runM, b_is_any_letter, slotsOf, List.replicate, h, c_A, c_Z, up]
    by_cases h : 65 ≤ c <;> simp [h]
theorem at_mid {p s : List Nat} {c : Nat} : atI (p ++ c :: s) (p.length : Int) = some c := atI_of rfl (by simp)
/-! ### runs -/
theorem rod_loop {l : List Nat} (hl : l.length ≤ 100000) (o1 : Option Slot) : ∀ (s p : List Nat) (n : Nat), l = p ++ s → s.length < n →
    loopW t_run_of_digits_1 w_run_of_digits_1 n [sl 0 (.str (tx l)), o1, sl 8 (.int p.length)] = .ok (.nx [sl 0 (.str (tx l)), o1, sl 8 (.int (p.length + (s.takeWhile dg).length : Nat))])
  | _, _, 0, _, h => by omega
  | [], p, n + 1, e, h => by
    rw [loopW_s]
    have z : l.length ≤ 16777216 := by omega
    have t : t_run_of_digits_1 [sl 0 (.str (tx l)), o1, sl 8 (.int p.length)] = .ok false := by
      have nl : ¬ (p.length : Int) < (l.length : Int) := by rw [e]; simp
      simp [t_run_of_digits_1, z, nl]
    rw [t]; simp
  | c :: s, p, n + 1, e, h => by
    rw [loopW_s]
    have z : l.length ≤ 16777216 := by omega
    have ln : (p.length : Int) < (l.length : Int) := by rw [e]; simp; omega
    have a : atI l (p.length : Int) = some c := by rw [e]; exact at_mid
    have t : t_run_of_digits_1 [sl 0 (.str (tx l)), o1, sl 8 (.int p.length)] = .ok (dg c) := by
      have := isdigit c
      generalize F_is_digit = F at this
      simp [t_run_of_digits_1, z, ln, a, isdigit c]
    rw [t]
    simp only [ev_liftT]
    cases hc : dg c with
    | false => rw [if_neg (by simp), List.takeWhile_cons, hc]; rfl
    | true =>
      rw [if_pos rfl, List.takeWhile_cons, hc]
      have w : w_run_of_digits_1 [sl 0 (.str (tx l)), o1, sl 8 (.int p.length)] = .ok (.nx [sl 0 (.str (tx l)), o1, sl 8 (.int (p ++ [c]).length)]) := by
        simp [w_run_of_digits_1]
      rw [w]
      simp only [ev_contN]
      rw [rod_loop hl o1 s (p ++ [c]) n (by simp [e]) (by simp at h; omega)]
      simp; omega
theorem rol_loop {l : List Nat} (hl : l.length ≤ 100000) (o1 : Option Slot) : ∀ (s p : List Nat) (n : Nat), l = p ++ s → s.length < n →
    loopW t_run_of_letters_1 w_run_of_letters_1 n [sl 0 (.str (tx l)), o1, sl 8 (.int p.length)] = .ok (.nx [sl 0 (.str (tx l)), o1, sl 8 (.int (p.length + (s.takeWhile lod).length : Nat))])
  | _, _, 0, _, h => by omega
  | [], p, n + 1, e, h => by
    rw [loopW_s]
    have z : l.length ≤ 16777216 := by omega
    have t : t_run_of_letters_1 [sl 0 (.str (tx l)), o1, sl 8 (.int p.length)] = .ok false := by
      have nl : ¬ (p.length : Int) < (l.length : Int) := by rw [e]; simp
      simp [t_run_of_letters_1, z, nl]
    rw [t]; simp
  | c :: s, p, n + 1, e, h => by
    rw [loopW_s]
    have z : l.length ≤ 16777216 := by omega
    have ln : (p.length : Int) < (l.length : Int) := by rw [e]; simp; omega
    have a : atI l (p.length : Int) = some c := by rw [e]; exact at_mid
    have t : t_run_of_letters_1 [sl 0 (.str (tx l)), o1, sl 8 (.int p.length)] = .ok (lod c) := by
      have h1 := isdigit c
      have h2 := isletter c
      unfold lod
      cases hc : lo c with
      | true => rw [hc] at h2; simp [t_run_of_letters_1, z, ln, a, h2]
      | false => rw [hc] at h2; simp [t_run_of_letters_1, z, ln, a, h1, h2]
    rw [t]
    simp only [ev_liftT]
    cases hc : lod c with
    | false => rw [if_neg (by simp), List.takeWhile_cons, hc]; rfl
    | true =>
      rw [if_pos rfl, List.takeWhile_cons, hc]
      have w : w_run_of_letters_1 [sl 0 (.str (tx l)), o1, sl 8 (.int p.length)] = .ok (.nx [sl 0 (.str (tx l)), o1, sl 8 (.int (p ++ [c]).length)]) := by
        simp [w_run_of_letters_1]
      rw [w]
      simp only [ev_contN]
      rw [rol_loop hl o1 s (p ++ [c]) n (by simp [e]) (by simp at h; omega)]
      simp; omega
theorem rod {p s : List Nat} (hl : (p ++ s).length ≤ 100000) : F_run_of_digits [.str (tx (p ++ s)), .int p.length] = .ok (8, .int (p.length + (s.takeWhile dg).length : Nat)) := by
  have q := rod_loop hl (sl 0 (.int p.length)) s p 1000000 rfl (by simp at hl; omega)
  refine run_rt (b := b_run_of_digits) (e := [sl 0 (.str (tx (p ++ s))), sl 0 (.int p.length), sl 8 (.int (p.length + (s.takeWhile dg).length : Nat))]) ?_
  show b_run_of_digits [sl 0 (.str (tx (p ++ s))), sl 0 (.int p.length), none] = _
  have s1 : mAsg (.nm 2) (mFlat (mV 1)) [sl 0 (.str (tx (p ++ s))), sl 0 (.int p.length), none] = .ok (.nx [sl 0 (.str (tx (p ++ s))), sl 0 (.int p.length), sl 8 (.int p.length)]) := by simp
  rw [b_run_of_digits, seq_nx s1, seq_nx q]
  simp
theorem rol {p s : List Nat} (hl : (p ++ s).length ≤ 100000) : F_run_of_letters [.str (tx (p ++ s)), .int p.length] = .ok (8, .int (p.length + (s.takeWhile lod).length : Nat)) := by
  have q := rol_loop hl (sl 0 (.int p.length)) s p 1000000 rfl (by simp at hl; omega)
  refine run_rt (b := b_run_of_letters) (e := [sl 0 (.str (tx (p ++ s))), sl 0 (.int p.length), sl 8 (.int (p.length + (s.takeWhile lod).length : Nat))]) ?_
  show b_run_of_letters [sl 0 (.str (tx (p ++ s))), sl 0 (.int p.length), none] = _
  have s1 : mAsg (.nm 2) (mFlat (mV 1)) [sl 0 (.str (tx (p ++ s))), sl 0 (.int p.length), none] = .ok (.nx [sl 0 (.str (tx (p ++ s))), sl 0 (.int p.length), sl 8 (.int p.length)]) := by simp
  rw [b_run_of_letters, seq_nx s1, seq_nx q]
  simp
/-! ### numbers -/
theorem nod {n : Nat} (h : n ≤ 1000000) : F_number_of_digits [.str (tx (TL.numL n))] = .ok (8, .int n) := by
  have ln : (TL.numL n).length ≤ 7 := TL.numL_len (by omega) (by omega)
  have z : (TL.numL n).length ≤ 16777216 := by omega
  have it : gIntT [.str (tx (TL.numL n))] = some (.int n) := by
    show (if Nat.ble (tx (TL.numL n)).length 640 = true then (intText? (tx (TL.numL n))).map PV.int else none) = _
    rw [if_pos (by rw [tx_len]; rw [Nat.ble_eq]; omega), ← tx_num, TL.int_num (by omega)]
    rfl
  obtain ⟨c, r, e⟩ : ∃ c r, TL.numL n = c :: r := by
    cases h : TL.numL n with
    | nil => exact absurd h (TL.numL_ne n)
    | cons c r => exact ⟨c, r, rfl⟩
  have hd : 1 < (TL.numL n).length → ¬ c = 48 := by
    intro h1
    by_cases h0 : n = 0
    · subst h0; rw [TL.numL_lt (by omega)] at h1; simp at h1
    · obtain ⟨c', r', e', hc⟩ := num_head n h0
      rw [e] at e'
      cases e'
      exact hc
  have a : atI (TL.numL n) 0 = some c := atI_of (j := 0) rfl (by rw [e]; rfl)
  have ln' : ¬ (7 : Int) < (TL.numL n).length := by omega
  have hn : ¬ (1000000 : Int) < n := by omega
  by_cases h1 : 1 < (TL.numL n).length
  · have h2 := hd h1
    have h1' : (1 : Int) < (TL.numL n).length := by omega
    simp [F_number_of_digits, runM, b_number_of_digits, slotsOf, List.replicate, z, g_LONGEST_NUMBER, g_MOST_NUMBER, ln', h1', a, c_0, h2, it, hn]
  · have h1' : ¬ (1 : Int) < (TL.numL n).length := by omega
    simp [F_number_of_digits, runM, b_number_of_digits, slotsOf, List.replicate, z, g_LONGEST_NUMBER, g_MOST_NUMBER, ln', h1', it, hn]
end M_ropebook_k00_tokens_of_texts

set_option Elab.async false
set_option linter.all false
set_option maxRecDepth 100000
set_option maxHeartbeats 1000000
namespace M_ropebook_k00_tokens_of_texts
open M PySem L2

def sgs : List Nat := [123, 125, 40, 41, 59, 44, 58, 43, 45, 42, 94, 47]
inductive Tk where
  | word (c : Nat) (u : List Nat) | num (n : Nat) | sign (c : Nat) | mark
def Tk.ok : Tk → Prop
  | .word c u => lo c = true ∧ u.all lod = true
  | .num n => n ≤ 1000000
  | .sign c => c ∈ sgs
  | .mark => True
def Tk.sp : Tk → List Nat
  | .word c u => c :: u
  | .num n => TL.numL n
  | .sign c => [c]
  | .mark => [88]
def Tk.kind : Tk → Str
  | .word _ _ => "word"
  | .num _ => "number"
  | .sign _ => "sign"
  | .mark => "word"
def Tk.val : Tk → PV
  | .word c u => .str (tx (c :: u))
  | .num n => .int n
  | .sign c => .str (tx [c])
  | .mark => .str (tx [88])
/-- nothing that would belong to the token -/
def ends : List Nat → Prop
  | [] => True
  | c :: _ => alnum c = false
def Tk.stop (t : Tk) (r : List Nat) : Prop := match t with
  | .sign _ => True
  | _ => ends r
@[simp] theorem isNonI (i : Int) : M.isNon (.int i) = false := rfl
@[simp] theorem isNonS (x : Str) : M.isNon (.str x) = false := rfl
theorem take_run {P : Nat → Bool} {w r : List Nat} (h : w.all P = true) (hr : ∀ c s, r = c :: s → P c = false) : (w ++ r).takeWhile P = w := by
  rw [List.takeWhile_append_of_pos (fun a ha => List.all_eq_true.1 h a ha)]
  cases r with
  | nil => simp
  | cons c s => rw [List.takeWhile_cons, hr c s rfl]; simp
theorem slc_mid {p w r : List Nat} (hl : (p ++ (w ++ r)).length ≤ 100000) : kSlS (.str (tx (p ++ (w ++ r)))) (some (p.length : Int)) (some ((p.length + w.length : Nat) : Int)) = some (.str (tx w)) := by
  rw [ev_kSlS, if_pos (by simp at hl; simp; omega), sIx_nat (by simp), sIx_nat (by simp)]
  rw [List.drop_left]
  rw [show p.length + w.length - p.length = w.length by omega, List.take_left]
theorem tok_word {p r u : List Nat} {c : Nat} (hl : (p ++ ((c :: u) ++ r)).length ≤ 100000) (h1 : lo c = true) (h2 : u.all lod = true) (h3 : ends r) :
    F_token_at [.str (tx (p ++ ((c :: u) ++ r))), .int p.length, .str (tx [88])] = .ok (8, .tup [.str ("word" : Str), .str (tx (c :: u)), .int ((p.length + (c :: u).length : Nat) : Int)]) := by
  have R := rol (p := p) (s := (c :: u) ++ r) hl
  rw [take_run (by rw [List.all_cons, h2]; simp [lod, h1]) (fun x s e => by subst e; unfold ends alnum at h3; unfold lod; simp at h3; simp [h3])] at R
  have K := slc_mid hl
  have A : atI (p ++ ((c :: u) ++ r)) (p.length : Int) = some c := at_mid
  have D := isdigit c
  rw [show dg c = false by unfold dg; unfold lo at h1; simp at h1; simp; omega] at D
  have Lt := isletter c
  rw [h1] at Lt
  have z : (p ++ ((c :: u) ++ r)).length ≤ 16777216 := by omega
  generalize p ++ ((c :: u) ++ r) = line at *
  generalize p.length + (c :: u).length = e at *
  generalize p.length = a at *
  generalize (c :: u) = w at *
  simp [F_token_at, runM, b_token_at, slotsOf, List.replicate, z, A, D, Lt, R, K]
theorem tok_num {p r : List Nat} {n : Nat} (hl : (p ++ (TL.numL n ++ r)).length ≤ 100000) (h1 : n ≤ 1000000) (h3 : ends r) :
    F_token_at [.str (tx (p ++ (TL.numL n ++ r))), .int p.length, .str (tx [88])] = .ok (8, .tup [.str ("number" : Str), .int n, .int ((p.length + (TL.numL n).length : Nat) : Int)]) := by
  have ad : (TL.numL n).all dg = true := List.all_eq_true.2 fun c hc => by have := TL.numL_digits n c hc; unfold dg; simpa using this
  have R := rod (p := p) (s := TL.numL n ++ r) hl
  rw [take_run ad (fun x s e => by subst e; unfold ends alnum at h3; simp at h3; simp [h3])] at R
  have K := slc_mid hl
  obtain ⟨c, u, e⟩ : ∃ c u, TL.numL n = c :: u := by
    cases h : TL.numL n with
    | nil => exact absurd h (TL.numL_ne n)
    | cons c u => exact ⟨c, u, rfl⟩
  have A : atI (p ++ (TL.numL n ++ r)) (p.length : Int) = some c := by rw [e]; exact at_mid
  have D := isdigit c
  rw [show dg c = true by rw [e, List.all_cons, Bool.and_eq_true] at ad; exact ad.1] at D
  have N := nod h1
  have z : (p ++ (TL.numL n ++ r)).length ≤ 16777216 := by omega
  have tst : ∀ o0 o2 o3 o5 : Option Slot, ∀ b, mAnd (mTst (mBin gLt (mV 4) (mFn gLen (mCons (mV 0) mNil)))) (mTst (mCall 1 F_is_any_letter (mCons (mBin gIxS (mV 0) (mV 4)) mNil))) [sl 0 (.str (tx (p ++ (TL.numL n ++ r)))), b, o2, o3, sl 8 (.int ((p.length + (TL.numL n).length : Nat) : Int)), o5] = .ok false := by
    intro o0 o2 o3 o5 b
    cases r with
    | nil =>
      have nl : ¬ ((p.length + (TL.numL n).length : Nat) : Int) < ((p ++ (TL.numL n ++ [])).length : Int) := by simp
      generalize p ++ (TL.numL n ++ []) = line at *
      generalize p.length + (TL.numL n).length = e at *
      simp [z, nl]
    | cons x s =>
      have nl : ((p.length + (TL.numL n).length : Nat) : Int) < ((p ++ (TL.numL n ++ x :: s)).length : Int) := by simp; omega
      have A2 : atI (p ++ (TL.numL n ++ x :: s)) ((p.length + (TL.numL n).length : Nat) : Int) = some x := by
        have := at_mid (p := p ++ TL.numL n) (s := s) (c := x)
        rwa [List.append_assoc, List.length_append] at this
      have I := isany x
      rw [show (lo x || up x) = false by unfold ends alnum at h3; simp at h3; simp [h3]] at I
      generalize p ++ (TL.numL n ++ x :: s) = line at *
      generalize p.length + (TL.numL n).length = e at *
      generalize F_is_any_letter = FA at *
      simp [z, nl, A2, I]
  clear ad
  generalize p ++ (TL.numL n ++ r) = line at *
  generalize p.length + (TL.numL n).length = en at *
  generalize p.length = a at *
  generalize TL.numL n = w at *
  have t3 := tst none (sl 0 (.str (tx [88]))) (sl 8 (.str (tx [c]))) (sl 8 (.int n)) (sl 0 (.int a))
  have t4 : mOr (mTst (mBin gIsN (mV 5) (mC .non))) (mAnd (mTst (mBin gLt (mV 4) (mFn gLen (mCons (mV 0) mNil)))) (mTst (mCall 1 F_is_any_letter (mCons (mBin gIxS (mV 0) (mV 4)) mNil)))) [sl 0 (.str (tx line)), sl 0 (.int a), sl 0 (.str (tx [88])), sl 8 (.str (tx [c])), sl 8 (.int en), sl 8 (.int n)] = .ok false := by
    rw [ev_mOr, t3]; simp
  have s1 : mAsg (.nm 3) (mFlat (mBin gIxS (mV 0) (mV 1))) [sl 0 (.str (tx line)), sl 0 (.int a), sl 0 (.str (tx [88])), none, none, none] = .ok (.nx [sl 0 (.str (tx line)), sl 0 (.int a), sl 0 (.str (tx [88])), sl 8 (.str (tx [c])), none, none]) := by simp [z, A]
  have s2 : mAsg (.nm 4) (mFlat (mCall 2 F_run_of_digits (mCons (mV 0) (mCons (mV 1) mNil)))) [sl 0 (.str (tx line)), sl 0 (.int a), sl 0 (.str (tx [88])), sl 8 (.str (tx [c])), none, none] = .ok (.nx [sl 0 (.str (tx line)), sl 0 (.int a), sl 0 (.str (tx [88])), sl 8 (.str (tx [c])), sl 8 (.int en), none]) := by simp [R]
  have s3 : mAsg (.nm 5) (mFlat (mCall 1 F_number_of_digits (mCons (mSlcS (mV 0) (mOS (mV 1)) (mOS (mV 4))) mNil))) [sl 0 (.str (tx line)), sl 0 (.int a), sl 0 (.str (tx [88])), sl 8 (.str (tx [c])), sl 8 (.int en), none] = .ok (.nx [sl 0 (.str (tx line)), sl 0 (.int a), sl 0 (.str (tx [88])), sl 8 (.str (tx [c])), sl 8 (.int en), sl 8 (.int n)]) := by simp [K, N]
  refine run_rt (b := b_token_at) (e := [sl 0 (.str (tx line)), sl 0 (.int a), sl 0 (.str (tx [88])), sl 8 (.str (tx [c])), sl 8 (.int en), sl 8 (.int n)]) ?_
  show b_token_at [sl 0 (.str (tx line)), sl 0 (.int a), sl 0 (.str (tx [88])), none, none, none] = _
  rw [b_token_at, seq_nx s1]
  have td : mTst (mCall 1 F_is_digit (mCons (mV 3) mNil)) [sl 0 (.str (tx line)), sl 0 (.int a), sl 0 (.str (tx [88])), sl 8 (.str (tx [c])), none, none] = .ok true := by simp [D]
  rw [ev_seq, ev_mIfS, td, ev_liftT, if_pos rfl, seq_nx s2, seq_nx s3, ev_seq, ev_mIfS, t4, ev_liftT]
  simp
theorem alone {p r : List Nat} {c : Nat} (hl : (p ++ c :: r).length ≤ 100000) (h3 : ends r) : F_is_alone [.str (tx (p ++ c :: r)), .int p.length] = .ok (8, .bl true) := by
  have z : (p ++ c :: r).length ≤ 16777216 := by omega
  cases r with
  | nil =>
    have e : (p.length : Int) + 1 = ((p ++ [c]).length : Int) := by simp
    generalize p ++ [c] = line at *
    generalize (p.length : Int) = a at *
    simp [F_is_alone, runM, b_is_alone, slotsOf, List.replicate, z, e]
  | cons x s =>
    have e : ¬ (p.length : Int) + 1 = ((p ++ c :: x :: s).length : Int) := by simp; omega
    have A2 : atI (p ++ c :: x :: s) ((p.length : Int) + 1) = some x := atI_of (j := p.length + 1) (by simp) (by simp)
    have I := isany x
    have D := isdigit x
    unfold ends alnum at h3
    simp at h3
    rw [show (lo x || up x) = false by simp [h3]] at I
    rw [h3.2] at D
    generalize p ++ c :: x :: s = line at *
    generalize (p.length : Int) = a at *
    simp [F_is_alone, runM, b_is_alone, slotsOf, List.replicate, z, e, A2, I, D]
theorem tok_mark {p r : List Nat} (hl : (p ++ ([88] ++ r)).length ≤ 100000) (h3 : ends r) :
    F_token_at [.str (tx (p ++ ([88] ++ r))), .int p.length, .str (tx [88])] = .ok (8, .tup [.str ("word" : Str), .str (tx [88]), .int ((p.length + 1 : Nat) : Int)]) := by
  have Al := alone (p := p) (r := r) (c := 88) hl h3
  have A : atI (p ++ 88 :: r) (p.length : Int) = some 88 := at_mid
  have D := isdigit 88
  have Lt := isletter 88
  rw [show dg 88 = false from rfl] at D
  rw [show lo 88 = false from rfl] at Lt
  have z : (p ++ 88 :: r).length ≤ 16777216 := by simp at hl ⊢; omega
  show F_token_at [.str (tx (p ++ 88 :: r)), .int p.length, .str (tx [88])] = _
  generalize p ++ 88 :: r = line at *
  generalize p.length = a at *
  simp [F_token_at, runM, b_token_at, slotsOf, List.replicate, z, A, D, Lt, Al]
theorem tok_sign {p r : List Nat} {c : Nat} (hl : (p ++ ([c] ++ r)).length ≤ 100000) (h1 : c ∈ sgs) :
    F_token_at [.str (tx (p ++ ([c] ++ r))), .int p.length, .str (tx [88])] = .ok (8, .tup [.str ("sign" : Str), .str (tx [c]), .int ((p.length + 1 : Nat) : Int)]) := by
  have A : atI (p ++ c :: r) (p.length : Int) = some c := at_mid
  have D := isdigit c
  have Lt := isletter c
  have fa : dg c = false ∧ lo c = false ∧ c ≠ 88 := by
    revert h1; revert c
    simp only [sgs]
    intro c _ A D Lt h1
    simp at h1
    rcases h1 with h | h | h | h | h | h | h | h | h | h | h | h <;> subst h <;> decide
  rw [fa.1] at D
  rw [fa.2.1] at Lt
  have hx := fa.2.2
  have z : (p ++ c :: r).length ≤ 16777216 := by simp at hl ⊢; omega
  show F_token_at [.str (tx (p ++ c :: r)), .int p.length, .str (tx [88])] = _
  have In : gInC false (.str (tx [c])) g_SIGNS = some (.bl true) := by
    rw [g_SIGNS, c_signs, ev_gInC]
    simp only [sgs] at h1
    rw [decide_eq_true h1]; rfl
  generalize p ++ c :: r = line at *
  generalize p.length = a at *
  simp [F_token_at, runM, b_token_at, slotsOf, List.replicate, z, A, D, Lt, hx, In]
theorem tok_any {t : Tk} {p r : List Nat} (hl : (p ++ (t.sp ++ r)).length ≤ 100000) (h1 : t.ok) (h2 : t.stop r) :
    F_token_at [.str (tx (p ++ (t.sp ++ r))), .int p.length, .str (tx [88])] = .ok (8, .tup [.str t.kind, t.val, .int ((p.length + t.sp.length : Nat) : Int)]) := by
  cases t with
  | word c u => exact tok_word hl h1.1 h1.2 h2
  | num n => exact tok_num hl h1 h2
  | sign c => exact tok_sign hl h1
  | mark => exact tok_mark hl h2
end M_ropebook_k00_tokens_of_texts

set_option Elab.async false
set_option linter.all false
set_option maxRecDepth 100000
set_option maxHeartbeats 1000000
namespace M_ropebook_k00_tokens_of_texts
open M PySem L2

/-- a line's rest is read from here -/
inductive Sc : List Nat → Nat → List (Tk × Nat) → Prop
  | nil (a : Nat) : Sc [] a []
  | com (r : List Nat) (a : Nat) : Sc (35 :: r) a []
  | sp {r : List Nat} {a : Nat} {ts : List (Tk × Nat)} : Sc r (a + 1) ts → Sc (32 :: r) a ts
  | tok {t : Tk} {r : List Nat} {a : Nat} {ts : List (Tk × Nat)} : t.ok → t.stop r → Sc r (a + t.sp.length) ts → Sc (t.sp ++ r) a ((t, a) :: ts)
def tkPV (num : Int) (z : Tk × Nat) : PV := .tup [.str z.1.kind, z.1.val, .int num, .int ((z.2 : Int) + 1)]
theorem val_flat (t : Tk) : hgt t.val = 0 := by cases t <;> simp [Tk.val]
theorem sp_head {t : Tk} (h : t.ok) : ∃ c u, t.sp = c :: u ∧ c ≠ 35 ∧ c ≠ 32 := by
  cases t with
  | word c u => exact ⟨c, u, rfl, by have := h.1; unfold lo at this; simp at this; omega, by have := h.1; unfold lo at this; simp at this; omega⟩
  | num n =>
    cases e : TL.numL n with
    | nil => exact absurd e (TL.numL_ne n)
    | cons c u =>
      have := TL.numL_digits n c (by rw [e]; simp)
      exact ⟨c, u, e, by omega, by omega⟩
  | sign c =>
    refine ⟨c, [], rfl, ?_⟩
    have h' : c ∈ sgs := h
    simp [sgs] at h'
    omega
  | mark => exact ⟨88, [], rfl, by decide, by decide⟩
def EL (line : List Nat) (num : Int) (acc : List PV) (a o5 : Option Slot) : LEnv := [sl 0 (.str (tx line)), sl 0 (.int num), some ⟨9, true, .lst acc⟩, sl 0 (.str (tx [88])), a, o5]
theorem sl_loop {line : List Nat} {num : Int} (hl : line.length ≤ 100000) : ∀ (s : List Nat) (at_ : Nat) (ts : List (Tk × Nat)), Sc s at_ ts → ∀ (p : List Nat) (n : Nat) (acc : List PV) (o5 : Option Slot), p.length = at_ → line = p ++ s → s.length < n → acc.length + ts.length ≤ 100000 → frB o5 = true →
    ∃ a' o5', loopW t_scan_line_1 w_scan_line_1 n (EL line num acc (sl 8 (.int at_)) o5) = .ok (.nx (EL line num (acc ++ ts.map (tkPV num)) a' o5')) ∨ loopW t_scan_line_1 w_scan_line_1 n (EL line num acc (sl 8 (.int at_)) o5) = .ok (.rt 8 (.int 0) (EL line num (acc ++ ts.map (tkPV num)) a' o5')) := by
  intro s at_ ts h
  have z : line.length ≤ 16777216 := by omega
  induction h with
  | nil a =>
    intro p n acc o5 hp e hn ha f5
    cases n with
    | zero => omega
    | succ n =>
    refine ⟨sl 8 (.int a), o5, .inl ?_⟩
    have nl : ¬ (a : Int) < (line.length : Int) := by rw [e]; simp; omega
    have t : t_scan_line_1 (EL line num acc (sl 8 (.int a)) o5) = .ok false := by simp [t_scan_line_1, EL, z, nl]
    rw [loopW_s, t]; simp
  | com r a =>
    intro p n acc o5 hp e hn ha f5
    cases n with
    | zero => omega
    | succ n =>
    refine ⟨sl 8 (.int a), o5, .inr ?_⟩
    have nl : (a : Int) < (line.length : Int) := by rw [e]; simp; omega
    have A : atI line (a : Int) = some 35 := by rw [e, ← hp]; exact at_mid
    have t : t_scan_line_1 (EL line num acc (sl 8 (.int a)) o5) = .ok true := by simp [t_scan_line_1, EL, z, nl]
    have w : w_scan_line_1 (EL line num acc (sl 8 (.int a)) o5) = .ok (.rt 8 (.int 0) (EL line num acc (sl 8 (.int a)) o5)) := by
      simp [w_scan_line_1, EL, z, A, c_hash]
    rw [loopW_s, t, ev_liftT, if_pos rfl, w]; simp
  | @sp r a ts h ih =>
    intro p n acc o5 hp e hn ha f5
    cases n with
    | zero => omega
    | succ n =>
    obtain ⟨a', o5', q⟩ := ih (p ++ [32]) n acc o5 (by simp [hp]) (by simp [e]) (by simp at hn; omega) ha f5
    refine ⟨a', o5', ?_⟩
    have nl : (a : Int) < (line.length : Int) := by rw [e]; simp; omega
    have A : atI line (a : Int) = some 32 := by rw [e, ← hp]; exact at_mid
    have t : t_scan_line_1 (EL line num acc (sl 8 (.int a)) o5) = .ok true := by simp [t_scan_line_1, EL, z, nl]
    have w : w_scan_line_1 (EL line num acc (sl 8 (.int a)) o5) = .ok (.nx (EL line num acc (sl 8 (.int ((a + 1 : Nat) : Int))) o5)) := by
      simp [w_scan_line_1, EL, z, A, c_hash, c_sp]
    rw [loopW_s, t, ev_liftT, if_pos rfl, w, ev_contN]
    exact q
  | @tok t r a ts h1 h2 h ih =>
    intro p n acc o5 hp e hn ha f5
    cases n with
    | zero => omega
    | succ n =>
    obtain ⟨c, u, es, c1, c2⟩ := sp_head h1
    have T := tok_any (t := t) (p := p) (r := r) (by rw [← e]; exact hl) h1 h2
    rw [← e, hp] at T
    obtain ⟨a', o5', q⟩ := ih (p ++ t.sp) n (acc ++ [tkPV num (t, a)]) (sl 8 (.tup [.str t.kind, t.val, .int ((a + t.sp.length : Nat) : Int)])) (by simp [hp]) (by simp [e]) (by rw [es] at hn; simp at hn; omega) (by simp at ha ⊢; omega) rfl
    refine ⟨a', o5', ?_⟩
    have nl : (a : Int) < (line.length : Int) := by rw [e, es]; simp; omega
    have A : atI line (a : Int) = some c := by rw [e, ← hp, es]; exact at_mid
    have tt : t_scan_line_1 (EL line num acc (sl 8 (.int a)) o5) = .ok true := by simp [t_scan_line_1, EL, z, nl]
    have vf := val_flat t
    have b0 : ∀ p q r : PV, atI [p, q, r] 0 = some p := fun _ _ _ => rfl
    have b1 : ∀ p q r : PV, atI [p, q, r] 1 = some q := fun _ _ _ => rfl
    have b2 : ∀ p q r : PV, atI [p, q, r] 2 = some r := fun _ _ _ => rfl
    have la : acc.length < 16777216 := by omega
    have w : w_scan_line_1 (EL line num acc (sl 8 (.int a)) o5) = .ok (.nx (EL line num (acc ++ [tkPV num (t, a)]) (sl 8 (.int ((a + t.sp.length : Nat) : Int))) (sl 8 (.tup [.str t.kind, t.val, .int ((a + t.sp.length : Nat) : Int)])))) := by
      generalize a + t.sp.length = en at *
      simp [w_scan_line_1, EL, z, A, c_hash, c_sp, c1, c2, T, vf, b0, b1, b2, la, tkPV, f5]
    rw [loopW_s, tt, ev_liftT, if_pos rfl, w, ev_contN]
    have ea : acc ++ ((t, a) :: ts).map (tkPV num) = acc ++ [tkPV num (t, a)] ++ ts.map (tkPV num) := by simp
    rw [ea]
    exact q
theorem scan_line_ok {line : List Nat} {num : Int} {acc : List PV} {ts : List (Tk × Nat)} (hl : line.length ≤ 100000) (h : Sc line 0 ts) (ha : acc.length + ts.length ≤ 100000) :
    F_scan_line 9 [.str (tx line), .int num, .lst acc, .str (tx [88])] = .ok ((8, .int 0), (9, .lst (acc ++ ts.map (tkPV num)))) := by
  obtain ⟨a', o5', q⟩ := sl_loop (num := num) hl line 0 ts h [] 1000000 acc none rfl rfl (by omega) ha rfl
  have s1 : mAsg (.nm 4) (mFlat (mC (.int 0))) [sl 0 (.str (tx line)), sl 0 (.int num), some ⟨9, true, .lst acc⟩, sl 0 (.str (tx [88])), none, none] = .ok (.nx (EL line num acc (sl 8 (.int 0)) none)) := by simp [EL]
  unfold F_scan_line runIO
  have e0 : slotsIO 6 2 9 [.str (tx line), .int num, .lst acc, .str (tx [88])] = [sl 0 (.str (tx line)), sl 0 (.int num), some ⟨9, true, .lst acc⟩, sl 0 (.str (tx [88])), none, none] := rfl
  rw [e0, b_scan_line, seq_nx s1]
  rcases q with q | q
  · have q' : loopW t_scan_line_1 w_scan_line_1 1000000 (EL line num acc (sl 8 (.int 0)) none) = _ := q
    rw [seq_nx q']
    rfl
  · have q' : loopW t_scan_line_1 w_scan_line_1 1000000 (EL line num acc (sl 8 (.int 0)) none) = _ := q
    rw [seq_rt q']
    rfl
/-! ### the whole text -/
/-- the tokens of lines, from line number num on -/
def toks : Int → List (List (Tk × Nat)) → List PV
  | _, [] => []
  | num, ts :: r => ts.map (tkPV num) ++ toks (num + 1) r
inductive Scs : List (List Nat) → List (List (Tk × Nat)) → Prop
  | nil : Scs [] []
  | cons {l : List Nat} {ts : List (Tk × Nat)} {ls : List (List Nat)} {tss : List (List (Tk × Nat))} : Sc l 0 ts → Scs ls tss → Scs (l :: ls) (ts :: tss)
theorem tks_flat (num : Int) : ∀ ts : List (Tk × Nat), hgts (ts.map (tkPV num)) = 0
  | [] => by simp
  | t :: ts => by
    have := val_flat t.1
    simp [tkPV, this, tks_flat num ts]
theorem toks_flat : ∀ (num : Int) (tss : List (List (Tk × Nat))), hgts (toks num tss) = 0
  | _, [] => by simp [toks]
  | num, ts :: tss => by rw [toks, hgts_app, tks_flat, toks_flat]; rfl
theorem scan_loop {text : PV} {lines : PV} : ∀ (ls : List (List Nat)) (tss : List (List (Tk × Nat))), Scs ls tss → ∀ (acc : List PV) (num : Int) (o5 o6 : Option Slot), (∀ l ∈ ls, l.length ≤ 100000) → acc.length + (toks (num + 1) tss).length ≤ 100000 → frB o5 = true → frB o6 = true →
    ∃ o5' o6', loopF (.nm 5) w_scan_1 (ls.map fun l => .str (tx l)) [sl 0 text, sl 0 (.str (tx [88])), sl 0 lines, sl 9 (.lst acc), sl 8 (.int num), o5, o6] = .ok (.nx [sl 0 text, sl 0 (.str (tx [88])), sl 0 lines, sl 9 (.lst (acc ++ toks (num + 1) tss)), sl 8 (.int (num + ls.length)), o5', o6']) := by
  intro ls tss h
  induction h with
  | nil =>
    intro acc num o5 o6 _ _ f5 f6
    exact ⟨o5, o6, by rw [List.map_nil, loopF]; simp [toks]⟩
  | @cons l ts ls tss h hs ih =>
    intro acc num o5 o6 hl ha f5 f6
    rw [toks, List.length_append, List.length_map] at ha
    obtain ⟨o5', o6', q⟩ := ih (acc ++ ts.map (tkPV (num + 1))) (num + 1) (sl 8 (.str (tx l))) (sl 8 (.int 0)) (fun x hx => hl x (List.mem_cons_of_mem _ hx)) (by simp; omega) rfl rfl
    refine ⟨o5', o6', ?_⟩
    have S := scan_line_ok (num := num + 1) (acc := acc) (hl l List.mem_cons_self) h (by omega)
    rw [List.map_cons]
    show (match setT (.nm 5) (itD (.str (tx l))) (.str (tx l)) [sl 0 text, sl 0 (.str (tx [88])), sl 0 lines, sl 9 (.lst acc), sl 8 (.int num), o5, o6] with | none => Rs.stuck | some e => contR (w_scan_1 e) (loopF (.nm 5) w_scan_1 (ls.map fun l => .str (tx l)))) = _
    have s5 : setT (.nm 5) (itD (.str (tx l))) (.str (tx l)) [sl 0 text, sl 0 (.str (tx [88])), sl 0 lines, sl 9 (.lst acc), sl 8 (.int num), o5, o6] = some [sl 0 text, sl 0 (.str (tx [88])), sl 0 lines, sl 9 (.lst acc), sl 8 (.int num), sl 8 (.str (tx l)), o6] := by simp [f5, itD]
    rw [s5]
    have w : w_scan_1 [sl 0 text, sl 0 (.str (tx [88])), sl 0 lines, sl 9 (.lst acc), sl 8 (.int num), sl 8 (.str (tx l)), o6] = .ok (.nx [sl 0 text, sl 0 (.str (tx [88])), sl 0 lines, sl 9 (.lst (acc ++ ts.map (tkPV (num + 1)))), sl 8 (.int (num + 1)), sl 8 (.str (tx l)), sl 8 (.int 0)]) := by
      simp [w_scan_1, S, f6]
    dsimp only
    rw [w, ev_contN, q]
    simp [toks]
    omega
theorem scan_ok {text : List Nat} {ls : List (List Nat)} {tss : List (List (Tk × Nat))} {last : List Nat} (h0 : ls ≠ []) (hf : ∀ l ∈ ls, ¬ 10 ∈ l) (e : TL.joinL [10] ls = text) (hz : text.length ≤ 50000) (hs : Scs ls tss) (hl : ∀ l ∈ ls, l.length ≤ 100000) (ha : (toks 1 tss).length ≤ 50000) (hla : ls.getLast? = some last) :
    F_scan [.str (tx text), .str (tx [88])] = .ok (9, .lst (toks 1 tss ++ [.tup [.str ("end" : Str), .str ("" : Str), .int ls.length, .int ((last.length : Int) + 1)]])) := by
  have sp : gSplit (.str (tx text)) (.str (tx [10])) = some (ls.map fun l => .str (tx l)) := by
    show (if ((tx [10]).length == 0) = false ∧ M.sizeOk ((tx text).length + 2) = true then some ((Txt.split (tx text) (tx [10])).map PV.str) else none) = _
    rw [split_lines h0 hf e, if_pos ⟨by rw [tx_len]; rfl, by rw [tx_len]; exact decide_eq_true (by omega)⟩, List.map_map]
    rfl
  have lf : hgts (ls.map fun l => PV.str (tx l)) = 0 := by
    clear e hla sp hs h0 hf hl
    induction ls with
    | nil => simp
    | cons l ls ih => simp [ih]
  obtain ⟨o5, o6, q⟩ := scan_loop (text := .str (tx text)) (lines := .lst (ls.map fun l => .str (tx l))) ls tss hs [] 0 none none hl (by simpa using by omega) rfl rfl
  have tf := toks_flat 1 tss
  have at1 : atI (ls.map fun l => PV.str (tx l)) (-1) = some (.str (tx last)) := by
    have hp : 0 < ls.length := by cases ls with | nil => exact absurd rfl h0 | cons => simp
    have : ls[ls.length - 1]? = some last := by rw [← List.getLast?_eq_getElem?]; exact hla
    unfold atI ixN
    rw [List.length_map, if_neg (by omega), if_pos (by omega)]
    have : (-1 + (ls.length : Int)).toNat = ls.length - 1 := by omega
    simp [this, *]
  have lz : last.length ≤ 16777216 := by have := hl last (List.mem_of_getLast? hla); omega
  have s1 : mAsg (.nm 2) (mNew (mTm gSplit (mV 0) (mC (.str ("\n" : Str))))) [sl 0 (.str (tx text)), sl 0 (.str (tx [88])), none, none, none, none, none] = .ok (.nx [sl 0 (.str (tx text)), sl 0 (.str (tx [88])), sl 9 (.lst (ls.map fun l => .str (tx l))), none, none, none, none]) := by
    rw [c_nl]
    simp [sp, lf]
  have s2 : mAsg (.nm 3) (mNew (mLst mNil)) [sl 0 (.str (tx text)), sl 0 (.str (tx [88])), sl 9 (.lst (ls.map fun l => .str (tx l))), none, none, none, none] = .ok (.nx [sl 0 (.str (tx text)), sl 0 (.str (tx [88])), sl 9 (.lst (ls.map fun l => .str (tx l))), sl 9 (.lst []), none, none, none]) := by simp
  have s3 : mAsg (.nm 4) (mFlat (mC (.int 0))) [sl 0 (.str (tx text)), sl 0 (.str (tx [88])), sl 9 (.lst (ls.map fun l => .str (tx l))), sl 9 (.lst []), none, none, none] = .ok (.nx [sl 0 (.str (tx text)), sl 0 (.str (tx [88])), sl 9 (.lst (ls.map fun l => .str (tx l))), sl 9 (.lst []), sl 8 (.int 0), none, none]) := by simp
  have s4 : mForL (.nm 5) (mFrz 2) w_scan_1 [sl 0 (.str (tx text)), sl 0 (.str (tx [88])), sl 9 (.lst (ls.map fun l => .str (tx l))), sl 9 (.lst []), sl 8 (.int 0), none, none] = .ok (.nx [sl 0 (.str (tx text)), sl 0 (.str (tx [88])), sl 0 (.lst (ls.map fun l => .str (tx l))), sl 9 (.lst ([] ++ toks (0 + 1) tss)), sl 8 (.int (0 + ls.length)), o5, o6]) := by
    rw [← q]
    generalize w_scan_1 = W
    simp
  have tl : (toks 1 tss).length < 16777216 := by omega
  refine run_rt (b := b_scan) (e := [sl 0 (.str (tx text)), sl 0 (.str (tx [88])), sl 0 (.lst (ls.map fun l => .str (tx l))), none, sl 8 (.int ls.length), o5, o6]) ?_
  show b_scan [sl 0 (.str (tx text)), sl 0 (.str (tx [88])), none, none, none, none, none] = _
  rw [b_scan, seq_nx s1, seq_nx s2, seq_nx s3, seq_nx s4]
  simp [at1, lz, tl, hgts_app, tf]
theorem tokens_ok {text : List Nat} {ls : List (List Nat)} {tss : List (List (Tk × Nat))} {last : List Nat} (h0 : ls ≠ []) (hf : ∀ l ∈ ls, ¬ 10 ∈ l) (e : TL.joinL [10] ls = text) (hz : text.length ≤ 50000) (hs : Scs ls tss) (hl : ∀ l ∈ ls, l.length ≤ 100000) (ha : (toks 1 tss).length ≤ 50000) (hla : ls.getLast? = some last) :
    F_tokens_of [.str (tx text)] = .ok (9, .lst (toks 1 tss ++ [.tup [.str ("end" : Str), .str ("" : Str), .int ls.length, .int ((last.length : Int) + 1)]])) := by
  have S := scan_ok h0 hf e hz hs hl ha hla
  have tf := toks_flat 1 tss
  have at1 : ∀ x : PV, atI (toks 1 tss ++ [x]) (-1) = some x := fun x => by
    unfold atI ixN
    rw [List.length_append, if_neg (by omega), if_pos (by simp; omega)]
    have : (-1 + (((toks 1 tss).length + [x].length : Nat) : Int)).toNat = (toks 1 tss).length := by simp only [List.length_singleton]; omega
    rw [this]
    simp
  have b0 : ∀ p q r s : PV, atI [p, q, r, s] 0 = some p := fun _ _ _ _ => rfl
  have ne : gEqT (.str ("end" : Str)) (.str ("fault" : Str)) = some (.bl false) := by kernel_rfl
  rw [← c_X] at S
  simp [F_tokens_of, runM, b_tokens_of, slotsOf, List.replicate, d_scan, S, hgts_app, tf, at1, b0, ne]
end M_ropebook_k00_tokens_of_texts

set_option Elab.async false
set_option linter.all false
set_option maxRecDepth 100000
set_option maxHeartbeats 1000000
namespace M_ropebook_k00_tokens_of_texts
open M PySem L2

theorem cell_ok (ns : List Int) (k : Nat) : ∃ c : Int, F_law_cell [.scr (ns.map .int), .int k] = .ok (8, .int c) := by
  by_cases h : k < ns.length
  · refine ⟨ns[k], ?_⟩
    have e : atI (List.map PV.int ns) (k : Int) = some (.int ns[k]) := atI_of rfl (by simp [h])
    simp [F_law_cell, runM, b_law_cell, slotsOf, List.replicate, h, e]
  · refine ⟨0, ?_⟩
    simp [F_law_cell, runM, b_law_cell, slotsOf, List.replicate, h]
theorem fm_lt {a b : Int} (h : 0 < b) : 0 ≤ a.fmod b ∧ a.fmod b < b := by
  rw [Int.fmod_eq_emod_of_nonneg _ (Int.le_of_lt h)]
  exact ⟨Int.emod_nonneg _ (by omega), Int.emod_lt_of_pos _ h⟩
def mix (c j : Int) : Int := ((((c.natAbs : Int) * 48271 + (j + 1) * 69621).fmod 2147483647) * 16807 + (j + 1) * 40692).fmod 2147483399
theorem draw_loop (c : Int) (ls : List Int) (hp : ∀ l ∈ ls, 0 < l ∧ l < 1073741824) (hs : ls.length ≤ 1000) (g : Bool) : ∀ (m j : Nat) (rs : List Int) (rest : Int) (d3 : Nat) (o5 o6 : Option Slot), m + j = ls.length → rs.length = j → (∀ i (h : i < rs.length) (h' : i < ls.length), 0 ≤ rs[i] ∧ rs[i] < ls[i]) → frB o5 = true → frB o6 = true →
    ∃ (rs' : List Int) (o3 o4 o5' o6' : Option Slot), loopF (.nm 5) w_law_draw_1 (rngs j m) [sl 0 (.int c), sl 0 (.lst (ls.map .int)), sl 9 (.lst (rs.map .int)), sl d3 (.int rest), sl 8 (.bl g), o5, o6] = .ok (.nx [sl 0 (.int c), sl 0 (.lst (ls.map .int)), sl 9 (.lst (rs'.map .int)), o3, o4, o5', o6']) ∧
      rs'.length = ls.length ∧ ∀ i (h : i < rs'.length) (h' : i < ls.length), 0 ≤ rs'[i] ∧ rs'[i] < ls[i]
  | 0, j, rs, rest, d3, o5, o6, hm, hr, hv, f5, f6 => ⟨rs, _, _, _, _, by rw [rngs_zero, loopF], by omega, hv⟩
  | m + 1, j, rs, rest, d3, o5, o6, hm, hr, hv, f5, f6 => by
    have hj : j < ls.length := by omega
    have e : atI (ls.map PV.int) (j : Int) = some (.int ls[j]) := atI_of rfl (by simp [hj])
    have pj := hp ls[j] (List.getElem_mem hj)
    have cd : ∀ i, cDiv i ls[j] = true := fun i => div_ok (by omega) (by omega)
    have cm : ∀ i, cMod i ls[j] = true := fun i => mod_ok (by omega)
    have cm1 : ∀ i, cMod i 2147483647 = true := fun i => mod_ok (by omega)
    have cm2 : ∀ i, cMod i 2147483399 = true := fun i => mod_ok (by omega)
    have k1 : ∀ i, cMul i 48271 = true := fun i => mul_ok (.inr (by omega))
    have k2 : ∀ i, cMul i 69621 = true := fun i => mul_ok (.inr (by omega))
    have k3 : ∀ i, cMul i 16807 = true := fun i => mul_ok (.inr (by omega))
    have k4 : ∀ i, cMul i 40692 = true := fun i => mul_ok (.inr (by omega))
    have more : ∀ x : Int, 0 ≤ x → x < ls[j] → ∀ i (h : i < (rs ++ [x]).length) (h' : i < ls.length), 0 ≤ (rs ++ [x])[i] ∧ (rs ++ [x])[i] < ls[i] := fun x h1 h2 i h h' => by
      by_cases hi : i < rs.length
      · rw [List.getElem_append_left hi]; exact hv i hi h'
      · have : i = j := by rw [List.length_append, List.length_singleton] at h; omega
        subst this
        rw [List.getElem_append_right (by omega)]
        simp only [hr, Nat.sub_self, List.getElem_cons_zero]
        exact ⟨h1, h2⟩
    have hl : rs.length < 16777216 := by omega
    rw [rngs_succ, loopF]
    have s5 : setS [sl 0 (.int c), sl 0 (.lst (ls.map .int)), sl 9 (.lst (rs.map .int)), sl d3 (.int rest), sl 8 (.bl g), o5, o6] 5 (itD (.int j)) (.int j) = some [sl 0 (.int c), sl 0 (.lst (ls.map .int)), sl 9 (.lst (rs.map .int)), sl d3 (.int rest), sl 8 (.bl g), sl (itD (.int j)) (.int j), o6] := by simp [f5]
    simp only [ev_setTnm, s5]
    have fin : ∀ x rest' d3' o6', 0 ≤ x → x < ls[j] → frB o6' = true → w_law_draw_1 [sl 0 (.int c), sl 0 (.lst (ls.map .int)), sl 9 (.lst (rs.map .int)), sl d3 (.int rest), sl 8 (.bl g), sl (itD (.int j)) (.int j), o6] = .ok (.nx [sl 0 (.int c), sl 0 (.lst (ls.map .int)), sl 9 (.lst ((rs ++ [x]).map .int)), sl d3' (.int rest'), sl 8 (.bl g), sl (itD (.int j)) (.int j), o6']) →
        ∃ (rs' : List Int) (o3 o4 o5' o6' : Option Slot), contR (w_law_draw_1 [sl 0 (.int c), sl 0 (.lst (ls.map .int)), sl 9 (.lst (rs.map .int)), sl d3 (.int rest), sl 8 (.bl g), sl (itD (.int j)) (.int j), o6]) (loopF (.nm 5) w_law_draw_1 (rngs (j + 1) m)) = .ok (.nx [sl 0 (.int c), sl 0 (.lst (ls.map .int)), sl 9 (.lst (rs'.map .int)), o3, o4, o5', o6']) ∧
          rs'.length = ls.length ∧ ∀ i (h : i < rs'.length) (h' : i < ls.length), 0 ≤ rs'[i] ∧ rs'[i] < ls[i] := fun x rest' d3' o6' h1 h2 f e => by
      obtain ⟨rs', o3, o4, o5', o6'', q, q2⟩ := draw_loop c ls hp hs g m (j + 1) (rs ++ [x]) rest' d3' (sl (itD (.int j)) (.int j)) o6' (by omega) (by simp [hr]) (more x h1 h2) rfl f
      refine ⟨rs', o3, o4, o5', o6'', ?_, q2⟩
      rw [e]
      exact q
    by_cases hg : g = true ∧ ls[j] ≤ rest
    · have r := fm_lt (a := rest) pj.1
      refine fin (rest.fmod ls[j]) (rest.fdiv ls[j]) 8 o6 r.1 r.2 f6 ?_
      obtain ⟨rfl, hg2⟩ := hg
      simp [w_law_draw_1, e, hg2, cd, cm, hl]
    · have r := fun a => fm_lt (a := a) pj.1
      have hg' : (if g = true then decide (ls[j] ≤ rest) else false) = false := by
        cases g with
        | false => rfl
        | true => simp at hg; simp [hg]
      refine fin ((mix c j).fmod ls[j]) rest d3 (sl 8 (.int (mix c j))) (r _).1 (r _).2 rfl ?_
      cases g with
      | false =>
        simp [w_law_draw_1, e, cd, cm, cm1, cm2, k1, k2, k3, k4, hl, mix, f6]
      | true =>
        have hg2 : ¬ ls[j] ≤ rest := by simpa using hg
        simp [w_law_draw_1, e, hg2, cd, cm, cm1, cm2, k1, k2, k3, k4, hl, mix, f6]
theorem draw_ok (c : Int) (ls : List Int) (hp : ∀ l ∈ ls, 0 < l ∧ l < 1073741824) (hs : ls.length ≤ 1000) : ∃ rs : List Int, F_law_draw [.int c, .lst (ls.map .int)] = .ok (9, .lst (rs.map .int)) ∧ rs.length = ls.length ∧ ∀ i (h : i < rs.length) (h' : i < ls.length), 0 ≤ rs[i] ∧ rs[i] < ls[i] := by
  obtain ⟨g, hg⟩ : ∃ g : Bool, gGe (.int (c.natAbs : Int)) (.int 1000000000000000000) = some (.bl g) := ⟨_, rfl⟩
  obtain ⟨rs, o3, o4, o5, o6, q, hl, hv⟩ := draw_loop c ls hp hs g ls.length 0 [] c.natAbs 8 none none (by omega) rfl (fun i h => absurd h (by simp)) rfl rfl
  refine ⟨rs, ?_, hl, hv⟩
  have k : rngOk ls.length = true := rng_ok (by omega) (by omega)
  simp only [List.map_nil, Int.ofNat_zero] at q
  refine run_rt (b := b_law_draw) (e := [sl 0 (.int c), sl 0 (.lst (ls.map .int)), none, o3, o4, o5, o6]) ?_
  show b_law_draw [sl 0 (.int c), sl 0 (.lst (ls.map .int)), none, none, none, none, none] = _
  rw [b_law_draw]
  refine (seq_nx (e := [sl 0 (.int c), sl 0 (.lst (ls.map .int)), sl 9 (.lst []), none, none, none, none]) (by simp)).trans ?_
  refine (seq_nx (e := [sl 0 (.int c), sl 0 (.lst (ls.map .int)), sl 9 (.lst []), sl 8 (.int c.natAbs), none, none, none]) (by simp)).trans ?_
  refine (seq_nx (e := [sl 0 (.int c), sl 0 (.lst (ls.map .int)), sl 9 (.lst []), sl 8 (.int c.natAbs), sl 8 (.bl g), none, none]) (by simp [hg, -ev_gGe])).trans ?_
  refine (seq_nx (e := _) (Eq.trans (by simp [k]) q)).trans ?_
  simp

/-! ### the law's tokens -/
def smallL : List Nat := [97, 98, 99, 100, 101, 102, 103, 104, 105, 106, 107, 108, 109, 110, 111, 112, 113, 114, 115, 116, 117, 118, 119, 120, 121, 122, 48, 49, 50, 51, 52, 53, 54, 55, 56, 57]
theorem c_small : ("abcdefghijklmnopqrstuvwxyz0123456789" : Str) = tx smallL := by kernel_rfl
theorem small_lo : ∀ i, i < 26 → ∃ c, smallL[i]? = some c ∧ lo c = true := by
  intro i h
  have : ∀ i : Fin 26, (smallL[i.val]?.map lo) = some true := by decide
  have q := this ⟨i, h⟩
  cases e : smallL[i]? with
  | none => rw [e] at q; cases q
  | some c => rw [e] at q; exact ⟨c, rfl, Option.some.inj q⟩
theorem small_lod : ∀ i, i < 36 → ∃ c, smallL[i]? = some c ∧ lod c = true := by
  intro i h
  have : ∀ i : Fin 36, (smallL[i.val]?.map lod) = some true := by decide
  have q := this ⟨i, h⟩
  cases e : smallL[i]? with
  | none => rw [e] at q; cases q
  | some c => rw [e] at q; exact ⟨c, rfl, Option.some.inj q⟩
theorem sgs_at : ∀ i, i < 12 → ∃ c, sgs[i]? = some c ∧ c ∈ sgs := by
  intro i h
  have h' : i < sgs.length := h
  exact ⟨sgs[i], List.getElem?_eq_getElem h', List.getElem_mem h'⟩
theorem atI_int {α : Type} {xs : List α} {i : Int} {x : α} (h0 : 0 ≤ i) (h : xs[i.toNat]? = some x) : atI xs i = some x := atI_of (j := i.toNat) (by omega) h
theorem ltoken_ok (c : Int) : ∃ t : Tk, t.ok ∧ t.sp.length ≤ 7 ∧ F_law_token [.int c] = .ok (8, .tup [.str t.kind, t.val]) := by
  obtain ⟨rs, dr, dl, dv⟩ := draw_ok c [3, 1000001, 26, 36, 36, 12, 5] (by simp) (by simp)
  have v0 := dv 0 (by rw [dl]; simp) (by simp)
  have v1 := dv 1 (by rw [dl]; simp) (by simp)
  have v2 := dv 2 (by rw [dl]; simp) (by simp)
  have v3 := dv 3 (by rw [dl]; simp) (by simp)
  have v4 := dv 4 (by rw [dl]; simp) (by simp)
  have v5 := dv 5 (by rw [dl]; simp) (by simp)
  have v6 := dv 6 (by rw [dl]; simp) (by simp)
  obtain ⟨a, b, e, f, g, h, i, rfl⟩ : ∃ a b e f g h i, rs = [a, b, e, f, g, h, i] := by
    match rs, dl with
    | [a, b, e, f, g, h, i], _ => exact ⟨a, b, e, f, g, h, i, rfl⟩
  simp only [List.getElem_cons_zero, List.getElem_cons_succ] at v0 v1 v2 v3 v4 v5 v6
  have dr' : F_law_draw [.int c, .lst [.int 3, .int 1000001, .int 26, .int 36, .int 36, .int 12, .int 5]] = .ok (9, .lst [.int a, .int b, .int e, .int f, .int g, .int h, .int i]) := dr
  have g0 : ∀ a b c d e f g : PV, atI [a, b, c, d, e, f, g] 0 = some a := fun _ _ _ _ _ _ _ => rfl
  have g1 : ∀ a b c d e f g : PV, atI [a, b, c, d, e, f, g] 1 = some b := fun _ _ _ _ _ _ _ => rfl
  have g2 : ∀ a b c d e f g : PV, atI [a, b, c, d, e, f, g] 2 = some c := fun _ _ _ _ _ _ _ => rfl
  have g3 : ∀ a b c d e f g : PV, atI [a, b, c, d, e, f, g] 3 = some d := fun _ _ _ _ _ _ _ => rfl
  have g4 : ∀ a b c d e f g : PV, atI [a, b, c, d, e, f, g] 4 = some e := fun _ _ _ _ _ _ _ => rfl
  have g5 : ∀ a b c d e f g : PV, atI [a, b, c, d, e, f, g] 5 = some f := fun _ _ _ _ _ _ _ => rfl
  have g6 : ∀ a b c d e f g : PV, atI [a, b, c, d, e, f, g] 6 = some g := fun _ _ _ _ _ _ _ => rfl
  have dn : [PV.int a, .int b, .int e, .int f, .int g, .int h, .int i].length = 7 := rfl
  generalize hds : [PV.int a, .int b, .int e, .int f, .int g, .int h, .int i] = ds at *
  have i0 : atI ds 0 = some (.int a) := by rw [← hds]; rfl
  have i1 : atI ds 1 = some (.int b) := by rw [← hds]; rfl
  have i2 : atI ds 2 = some (.int e) := by rw [← hds]; rfl
  have i3 : atI ds 3 = some (.int f) := by rw [← hds]; rfl
  have i4 : atI ds 4 = some (.int g) := by rw [← hds]; rfl
  have i5 : atI ds 5 = some (.int h) := by rw [← hds]; rfl
  have i6 : atI ds 6 = some (.int i) := by rw [← hds]; rfl
  have fl : hgts ds = 0 := by rw [← hds]; simp
  clear dr g0 g1 g2 g3 g4 g5 g6 dn hds dl dv
  have sz : smallL.length ≤ 16777216 := by decide
  by_cases h0 : a = 0
  · subst h0
    by_cases h6 : i = 4
    · subst h6
      refine ⟨.mark, trivial, by decide, ?_⟩
      simp [F_law_token, runM, b_law_token, slotsOf, List.replicate, dr', i0, i6, fl, Tk.kind, Tk.val, c_X]
    · obtain ⟨c1, e1, l1⟩ := small_lo e.toNat (by omega)
      obtain ⟨c2, e2, l2⟩ := small_lod f.toNat (by omega)
      obtain ⟨c3, e3, l3⟩ := small_lod g.toNat (by omega)
      have A1 : atI smallL e = some c1 := atI_int v2.1 e1
      have A2 : atI smallL f = some c2 := atI_int v3.1 e2
      have A3 : atI smallL g = some c3 := atI_int v4.1 e3
      have cm : cMod i 3 = true := mod_ok (by omega)
      have key : ∀ n : Nat, n ≤ 2 → i.fmod 3 = n → ∃ t : Tk, t.ok ∧ t.sp.length ≤ 7 ∧ F_law_token [.int c] = .ok (8, .tup [.str t.kind, t.val]) := by
        intro n hn hm
        refine ⟨.word c1 ([c2, c3].take n), ⟨l1, ?_⟩, by simp [Tk.sp]; omega, ?_⟩
        · refine List.all_eq_true.2 fun x hx => ?_
          have hx := List.mem_of_mem_take hx
          simp at hx
          rcases hx with rfl | rfl
          · exact l2
          · exact l3
        · have K : kSlS (.str (tx [c1, c2, c3])) none (some (1 + (n : Int))) = some (.str (tx (c1 :: [c2, c3].take n))) := by
            rw [ev_kSlS, if_pos (by simp), show (1 + (n : Int)) = ((n + 1 : Nat) : Int) by omega, sIx_nat (by simp; omega)]
            simp [HT.sIx]
          simp [F_law_token, runM, b_law_token, slotsOf, List.replicate, dr', i0, i2, i3, i4, i6, fl, h6, Tk.kind, Tk.val, c_small, sz, A1, A2, A3, cm, hm, K]
      have r := fm_lt (a := i) (b := 3) (by omega)
      have : i.fmod 3 = 0 ∨ i.fmod 3 = 1 ∨ i.fmod 3 = 2 := by omega
      rcases this with h | h | h
      · exact key 0 (by omega) (by rw [h]; rfl)
      · exact key 1 (by omega) (by rw [h]; rfl)
      · exact key 2 (by omega) (by rw [h]; rfl)
  · by_cases h1 : a = 1
    · subst h1
      have cm1 : cMod b 10 = true := mod_ok (by omega)
      have cm2 : cMod b 1000 = true := mod_ok (by omega)
      have r1 := fm_lt (a := b) (b := 10) (by omega)
      have r2 := fm_lt (a := b) (b := 1000) (by omega)
      have key : ∀ x : Int, 0 ≤ x → x ≤ 1000000 → atI [PV.int b, .int 1000000, .int (b.fmod 10), .int 0, .int (b.fmod 1000)] i = some (.int x) → ∃ t : Tk, t.ok ∧ t.sp.length ≤ 7 ∧ F_law_token [.int c] = .ok (8, .tup [.str t.kind, t.val]) := by
        intro x hx hx2 A
        refine ⟨.num x.toNat, by show x.toNat ≤ 1000000; omega, TL.numL_len (by omega) (by omega), ?_⟩
        have ex : ((x.toNat : Nat) : Int) = x := by omega
        simp [F_law_token, runM, b_law_token, slotsOf, List.replicate, dr', i0, i1, i6, fl, Tk.kind, Tk.val, cm1, cm2, A, ex]
      have : i = 0 ∨ i = 1 ∨ i = 2 ∨ i = 3 ∨ i = 4 := by omega
      rcases this with rfl | rfl | rfl | rfl | rfl
      · exact key b v1.1 (by omega) rfl
      · exact key 1000000 (by omega) (by omega) rfl
      · exact key (b.fmod 10) r1.1 (by omega) rfl
      · exact key 0 (by omega) (by omega) rfl
      · exact key (b.fmod 1000) r2.1 (by omega) rfl
    · obtain ⟨c1, e1, l1⟩ := sgs_at h.toNat (by omega)
      have A1 : atI sgs h = some c1 := atI_int v5.1 e1
      refine ⟨.sign c1, l1, by simp [Tk.sp], ?_⟩
      have sz : sgs.length ≤ 16777216 := by decide
      have cs : ("{}();,:+-*^/" : Str) = tx sgs := c_signs
      simp [F_law_token, runM, b_law_token, slotsOf, List.replicate, dr', i0, i5, fl, h0, h1, Tk.kind, Tk.val, cs, sz, A1]
/-! ### gaps, places -/
def gaps : List (List Nat) := [[32], [32, 32], [10], [32, 35, 32, 97, 32, 53, 32, 59, 32, 64, 32, 33, 10], [10, 10, 32, 32, 32], [32, 32, 32]]
theorem lgap_ok (c : Int) : ∃ g ∈ gaps, F_law_gap [.int c] = .ok (8, .str (tx g)) := by
  have r := fm_lt (a := c) (b := 6) (by omega)
  have cm : cMod c 6 = true := mod_ok (by omega)
  have c1 : ("  " : Str) = tx [32, 32] := by kernel_rfl
  have c2 : (" # a 5 ; @ !\n" : Str) = tx [32, 35, 32, 97, 32, 53, 32, 59, 32, 64, 32, 33, 10] := by kernel_rfl
  have c3 : ("\n\n   " : Str) = tx [10, 10, 32, 32, 32] := by kernel_rfl
  have c4 : ("   " : Str) = tx [32, 32, 32] := by kernel_rfl
  have key : ∀ g ∈ gaps, atI [PV.str (tx [32]), .str (tx [32, 32]), .str (tx [10]), .str (tx [32, 35, 32, 97, 32, 53, 32, 59, 32, 64, 32, 33, 10]), .str (tx [10, 10, 32, 32, 32]), .str (tx [32, 32, 32])] (c.fmod 6) = some (.str (tx g)) → ∃ g ∈ gaps, F_law_gap [.int c] = .ok (8, .str (tx g)) := by
    intro g hg A
    exact ⟨g, hg, by simp [F_law_gap, runM, b_law_gap, slotsOf, List.replicate, cm, c_sp, c_nl, c1, c2, c3, c4, A]⟩
  have : c.fmod 6 = 0 ∨ c.fmod 6 = 1 ∨ c.fmod 6 = 2 ∨ c.fmod 6 = 3 ∨ c.fmod 6 = 4 ∨ c.fmod 6 = 5 := by omega
  rcases this with h | h | h | h | h | h
  · exact key [32] (by simp [gaps]) (by rw [h]; rfl)
  · exact key [32, 32] (by simp [gaps]) (by rw [h]; rfl)
  · exact key [10] (by simp [gaps]) (by rw [h]; rfl)
  · exact key [32, 35, 32, 97, 32, 53, 32, 59, 32, 64, 32, 33, 10] (by simp [gaps]) (by rw [h]; rfl)
  · exact key [10, 10, 32, 32, 32] (by simp [gaps]) (by rw [h]; rfl)
  · exact key [32, 32, 32] (by simp [gaps]) (by rw [h]; rfl)
def aft : Int → Int → List Nat → Int × Int
  | l, c, [] => (l, c)
  | l, c, x :: s => if x = 10 then aft (l + 1) 1 s else aft l (c + 1) s
theorem aft_app : ∀ (a b : List Nat) (l c : Int), aft l c (a ++ b) = aft (aft l c a).1 (aft l c a).2 b
  | [], b, l, c => rfl
  | x :: a, b, l, c => by
    rw [List.cons_append, aft, aft]
    split
    · exact aft_app a b _ _
    · exact aft_app a b _ _
theorem aft_free : ∀ (a : List Nat) (l c : Int), ¬ 10 ∈ a → aft l c a = (l, c + a.length)
  | [], l, c, _ => by simp [aft]
  | x :: a, l, c, h => by
    rw [List.mem_cons, not_or] at h
    rw [aft, if_neg (fun e => h.1 e.symm), aft_free a l (c + 1) h.2]
    simp; omega
theorem after_loop {t : List Nat} (ht : t.length ≤ 100000) : ∀ (s p : List Nat) (l c : Int) (d0 d1 : Nat) (o3 : Option Slot), t = p ++ s → frB o3 = true →
    ∃ d0' d1' o3', loopF (.nm 3) w_law_after_1 (rngs p.length s.length) [sl d0 (.int l), sl d1 (.int c), sl 0 (.str (tx t)), o3] = .ok (.nx [sl d0' (.int (aft l c s).1), sl d1' (.int (aft l c s).2), sl 0 (.str (tx t)), o3'])
  | [], p, l, c, d0, d1, o3, _, f3 => ⟨d0, d1, o3, by rw [List.length_nil, rngs_zero, loopF]; rfl⟩
  | x :: s, p, l, c, d0, d1, o3, e, f3 => by
    have z : t.length ≤ 16777216 := by omega
    have A : atI t (p.length : Int) = some x := by rw [e]; exact at_mid
    have s3 : setT (.nm 3) (itD (.int p.length)) (.int p.length) [sl d0 (.int l), sl d1 (.int c), sl 0 (.str (tx t)), o3] = some [sl d0 (.int l), sl d1 (.int c), sl 0 (.str (tx t)), sl 8 (.int p.length)] := by simp [f3, itD]
    have lc : loopF (.nm 3) w_law_after_1 (rngs p.length (x :: s).length) [sl d0 (.int l), sl d1 (.int c), sl 0 (.str (tx t)), o3] = contR (w_law_after_1 [sl d0 (.int l), sl d1 (.int c), sl 0 (.str (tx t)), sl 8 (.int p.length)]) (loopF (.nm 3) w_law_after_1 (rngs ((p ++ [x]).length : Nat) s.length)) := by
      rw [List.length_cons, rngs_succ]
      show (match setT (.nm 3) (itD (.int p.length)) (.int p.length) [sl d0 (.int l), sl d1 (.int c), sl 0 (.str (tx t)), o3] with | none => Rs.stuck | some e => contR (w_law_after_1 e) (loopF (.nm 3) w_law_after_1 (rngs ((p.length : Int) + 1) s.length))) = _
      rw [s3]
      simp
    rw [lc]
    by_cases hx : x = 10
    · obtain ⟨d0', d1', o3', q⟩ := after_loop ht s (p ++ [x]) (l + 1) 1 8 8 (sl 8 (.int p.length)) (by simp [e]) rfl
      refine ⟨d0', d1', o3', ?_⟩
      have w : w_law_after_1 [sl d0 (.int l), sl d1 (.int c), sl 0 (.str (tx t)), sl 8 (.int p.length)] = .ok (.nx [sl 8 (.int (l + 1)), sl 8 (.int 1), sl 0 (.str (tx t)), sl 8 (.int p.length)]) := by
        simp [w_law_after_1, z, A, c_nl, hx]
      rw [w, ev_contN, q, aft, if_pos hx]
    · obtain ⟨d0', d1', o3', q⟩ := after_loop ht s (p ++ [x]) l (c + 1) d0 8 (sl 8 (.int p.length)) (by simp [e]) rfl
      refine ⟨d0', d1', o3', ?_⟩
      have w : w_law_after_1 [sl d0 (.int l), sl d1 (.int c), sl 0 (.str (tx t)), sl 8 (.int p.length)] = .ok (.nx [sl d0 (.int l), sl 8 (.int (c + 1)), sl 0 (.str (tx t)), sl 8 (.int p.length)]) := by
        simp [w_law_after_1, z, A, c_nl, hx]
      rw [w, ev_contN, q, aft, if_neg hx]
theorem lafter_ok {l c : Int} {t : List Nat} (ht : t.length ≤ 100000) : F_law_after [.int l, .int c, .str (tx t)] = .ok (8, .tup [.int (aft l c t).1, .int (aft l c t).2]) := by
  obtain ⟨d0, d1, o3, q⟩ := after_loop ht t [] l c 0 0 none rfl rfl
  have z : t.length ≤ 16777216 := by omega
  have k : rngOk (t.length : Int) = true := rng_ok (by omega) (by omega)
  have s1 : mForR1 (.nm 3) (mCons (mFn gLen (mCons (mV 2) mNil)) mNil) w_law_after_1 [sl 0 (.int l), sl 0 (.int c), sl 0 (.str (tx t)), none] = .ok (.nx [sl d0 (.int (aft l c t).1), sl d1 (.int (aft l c t).2), sl 0 (.str (tx t)), o3]) := by
    refine Eq.trans ?_ q
    generalize w_law_after_1 = W
    simp [z, k]
  refine run_rt (b := b_law_after) (e := [sl d0 (.int (aft l c t).1), sl d1 (.int (aft l c t).2), sl 0 (.str (tx t)), o3]) ?_
  show b_law_after [sl 0 (.int l), sl 0 (.int c), sl 0 (.str (tx t)), none] = _
  rw [b_law_after, seq_nx s1]
  simp
end M_ropebook_k00_tokens_of_texts

set_option Elab.async false
set_option linter.all false
set_option maxRecDepth 100000
set_option maxHeartbeats 1000000
namespace M_ropebook_k00_tokens_of_texts
open M PySem L2

/-! ### the law's text is read as it was made -/
abbrev It := Tk × List Nat
def It.ok (z : It) : Prop := z.1.ok ∧ (z.2 ∈ gaps ∨ z.2 = [] ∧ ∃ c, z.1 = .sign c)
def flat (its : List It) : List Nat := its.flatMap fun z => z.1.sp ++ z.2
def dues : Int → Int → List It → List PV
  | _, _, [] => []
  | l, c, z :: r => .tup [.str z.1.kind, z.1.val, .int l, .int c] :: dues (aft l c (z.1.sp ++ z.2)).1 (aft l c (z.1.sp ++ z.2)).2 r
def tailL : List Nat := [35, 32, 116, 104, 101, 32, 101, 110, 100, 32, 125, 32, 59]
theorem c_tail : ("# the end } ;" : Str) = tx tailL := by kernel_rfl
theorem sp_free {t : Tk} (h : t.ok) : ¬ 10 ∈ t.sp := by
  cases t with
  | word c u =>
    intro m
    rcases List.mem_cons.1 m with rfl | m
    · have := h.1; revert this; decide
    · have := List.all_eq_true.1 h.2 10 m; revert this; decide
  | num n => exact TL.numL_free (by omega)
  | sign c =>
    intro m
    have m' : 10 = c := by simpa [Tk.sp] using m
    subst m'
    revert h; show ¬ (10 ∈ sgs); decide
  | mark => show ¬ 10 ∈ [88]; decide
theorem ends_sp (r : List Nat) : ends (32 :: r) := by show alnum 32 = false; decide
theorem stop_of {t : Tk} {r : List Nat} (h : ends r) : t.stop r := by cases t <;> first | exact trivial | exact h
theorem sc_sps : ∀ (g r : List Nat) (a : Nat) (ts : List (Tk × Nat)), (∀ x ∈ g, x = 32) → Sc r (a + g.length) ts → Sc (g ++ r) a ts
  | [], r, a, ts, _, h => h
  | x :: g, r, a, ts, hg, h => by
    have := hg x List.mem_cons_self
    subst this
    refine .sp (sc_sps g r (a + 1) ts (fun y hy => hg y (List.mem_cons_of_mem _ hy)) ?_)
    rw [show a + 1 + g.length = a + (32 :: g).length by simp; omega]
    exact h
/-- the place behind the last line -/
def lastCol (a : Nat) (l0 : List Nat) (ls : List (List Nat)) : Int := match ls.getLast? with
  | none => ((a + l0.length : Nat) : Int) + 1
  | some l => (l.length : Int) + 1
theorem lastCol_cons (a b : Nat) (l0 x : List Nat) (ls : List (List Nat)) : lastCol a l0 (x :: ls) = lastCol 0 x ls := by
  unfold lastCol
  rw [List.getLast?_cons]
  cases ls.getLast? with
  | none => simp
  | some l => simp
theorem lastCol_app (a : Nat) (u l0 : List Nat) (ls : List (List Nat)) : lastCol a (u ++ l0) ls = lastCol (a + u.length) l0 ls := by
  unfold lastCol
  cases ls.getLast? with
  | none => simp; omega
  | some l => rfl
theorem joinL_two (a b : List Nat) (r : List (List Nat)) : TL.joinL [10] (a :: b :: r) = a ++ [10] ++ TL.joinL [10] (b :: r) := by rw [TL.joinL]; simp; all_goals simp
theorem joinL_app (u a : List Nat) : ∀ r : List (List Nat), TL.joinL [10] ((u ++ a) :: r) = u ++ TL.joinL [10] (a :: r)
  | [] => rfl
  | b :: r => by rw [joinL_two, joinL_two]; simp
theorem struct (tail : List Nat) (ht : tail = [] ∨ tail = tailL) : ∀ (its : List It), (∀ z ∈ its, z.ok) → ∀ (l : Int) (a : Nat), ∃ l0 ls ts0 tss, TL.joinL [10] (l0 :: ls) = flat its ++ tail ∧ (∀ x ∈ l0 :: ls, ¬ 10 ∈ x) ∧ Sc l0 a ts0 ∧ Scs ls tss ∧ dues l ((a : Int) + 1) its = ts0.map (tkPV l) ++ toks (l + 1) tss ∧ aft l ((a : Int) + 1) (flat its ++ tail) = (l + ls.length, lastCol a l0 ls)
  | [], _, l, a => by
    refine ⟨tail, [], [], [], rfl, ?_, ?_, .nil, rfl, ?_⟩
    · intro x hx
      rw [List.mem_singleton] at hx; subst hx
      rcases ht with rfl | rfl <;> decide
    · rcases ht with rfl | rfl
      · exact .nil a
      · exact .com _ a
    · have : ¬ 10 ∈ tail := by rcases ht with rfl | rfl <;> decide
      show aft l ((a : Int) + 1) tail = _
      rw [aft_free _ _ _ this]
      simp [lastCol]; omega
  | z :: its, hz, l, a => by
    obtain ⟨t, g⟩ := z
    obtain ⟨ok, hg⟩ := hz (t, g) List.mem_cons_self
    have hz' : ∀ z ∈ its, z.ok := fun z hm => hz z (List.mem_cons_of_mem _ hm)
    have fsp := sp_free ok
    have ef : flat ((t, g) :: its) ++ tail = t.sp ++ g ++ (flat its ++ tail) := by simp [flat]
    rw [ef]
    -- spaces only
    have spaces : (∀ x ∈ g, x = 32) → (∀ r, t.stop (g ++ r)) → ∃ l0 ls ts0 tss, TL.joinL [10] (l0 :: ls) = t.sp ++ g ++ (flat its ++ tail) ∧ (∀ x ∈ l0 :: ls, ¬ 10 ∈ x) ∧ Sc l0 a ts0 ∧ Scs ls tss ∧ dues l ((a : Int) + 1) ((t, g) :: its) = ts0.map (tkPV l) ++ toks (l + 1) tss ∧ aft l ((a : Int) + 1) (t.sp ++ g ++ (flat its ++ tail)) = (l + ls.length, lastCol a l0 ls) := by
      intro h32 hst
      obtain ⟨l0, ls, ts0, tss, e, fr, sc, scs, du, af⟩ := struct tail ht its hz' l (a + (t.sp ++ g).length)
      have fg : ¬ 10 ∈ t.sp ++ g := by
        rw [List.mem_append, not_or]
        exact ⟨fsp, fun m => by have := h32 10 m; omega⟩
      have fa : aft l ((a : Int) + 1) (t.sp ++ g) = (l, ((a + (t.sp ++ g).length : Nat) : Int) + 1) := by rw [aft_free _ _ _ fg]; congr 1; omega
      refine ⟨t.sp ++ g ++ l0, ls, (t, a) :: ts0, tss, by rw [joinL_app, e], ?_, ?_, scs, ?_, ?_⟩
      · intro x hx
        rcases List.mem_cons.1 hx with rfl | hx
        · rw [List.mem_append, not_or]
          exact ⟨fg, fr l0 List.mem_cons_self⟩
        · exact fr x (List.mem_cons_of_mem _ hx)
      · rw [List.append_assoc]
        refine .tok ok (hst l0) (sc_sps g l0 _ _ h32 ?_)
        rw [show a + t.sp.length + g.length = a + (t.sp ++ g).length by simp; omega]
        exact sc
      · rw [dues, fa]
        show _ :: dues l _ its = _
        rw [du]; rfl
      · rw [aft_app, fa, lastCol_app]
        exact af
    -- something without a newline, then one
    have line : ∀ u : List Nat, g = u ++ [10] → ¬ 10 ∈ u → t.stop u → (∀ b, Sc u b []) → ∃ l0 ls ts0 tss, TL.joinL [10] (l0 :: ls) = t.sp ++ g ++ (flat its ++ tail) ∧ (∀ x ∈ l0 :: ls, ¬ 10 ∈ x) ∧ Sc l0 a ts0 ∧ Scs ls tss ∧ dues l ((a : Int) + 1) ((t, g) :: its) = ts0.map (tkPV l) ++ toks (l + 1) tss ∧ aft l ((a : Int) + 1) (t.sp ++ g ++ (flat its ++ tail)) = (l + ls.length, lastCol a l0 ls) := by
      intro u eg fu hst su
      obtain ⟨l0, ls, ts0, tss, e, fr, sc, scs, du, af⟩ := struct tail ht its hz' (l + 1) 0
      have fg : ¬ 10 ∈ t.sp ++ u := by rw [List.mem_append, not_or]; exact ⟨fsp, fu⟩
      have fa : aft l ((a : Int) + 1) (t.sp ++ g) = (l + 1, ((0 : Nat) : Int) + 1) := by
        rw [eg, ← List.append_assoc, aft_app, aft_free _ _ _ fg]; rfl
      refine ⟨t.sp ++ u, l0 :: ls, [(t, a)], ts0 :: tss, ?_, ?_, ?_, .cons sc scs, ?_, ?_⟩
      · rw [joinL_two, e, eg]; simp
      · intro x hx
        rcases List.mem_cons.1 hx with rfl | hx
        · exact fg
        · exact fr x hx
      · exact .tok ok hst (su _)
      · rw [dues, fa, du]; rfl
      · rw [aft_app, fa, lastCol_cons a 0]
        rw [af]
        simp; omega
    rcases hg with hg | ⟨rfl, c, rfl⟩
    · simp only [gaps, List.mem_cons, List.not_mem_nil, or_false] at hg
      rcases hg with rfl | rfl | rfl | rfl | rfl | rfl
      · exact spaces (by simp) fun r => stop_of (ends_sp _)
      · exact spaces (by simp) fun r => stop_of (ends_sp _)
      · exact line [] rfl (by simp) (stop_of trivial) fun b => .nil b
      · exact line [32, 35, 32, 97, 32, 53, 32, 59, 32, 64, 32, 33] rfl (by decide) (stop_of (ends_sp _)) fun b => .sp (.com _ _)
      · obtain ⟨l0, ls, ts0, tss, e, fr, sc, scs, du, af⟩ := struct tail ht its hz' (l + 2) 3
        have fa : aft l ((a : Int) + 1) (t.sp ++ [10, 10, 32, 32, 32]) = (l + 2, ((3 : Nat) : Int) + 1) := by
          rw [aft_app, aft_free _ _ _ fsp]
          show (l + 1 + 1, (1 : Int) + 1 + 1 + 1) = _
          congr 1; omega
        refine ⟨t.sp, [] :: ([32, 32, 32] ++ l0) :: ls, [(t, a)], [] :: ts0 :: tss, ?_, ?_, ?_, .cons (.nil 0) (.cons (sc_sps [32, 32, 32] l0 0 ts0 (by simp) sc) scs), ?_, ?_⟩
        · rw [joinL_two, joinL_two, joinL_app, e]; simp
        · intro x hx
          rcases List.mem_cons.1 hx with rfl | hx
          · exact fsp
          rcases List.mem_cons.1 hx with rfl | hx
          · simp
          rcases List.mem_cons.1 hx with rfl | hx
          · rw [List.mem_append, not_or]
            exact ⟨by decide, fr l0 List.mem_cons_self⟩
          · exact fr x (List.mem_cons_of_mem _ hx)
        · have := Sc.tok (t := t) (r := []) (a := a) ok (stop_of trivial) (.nil _)
          rwa [List.append_nil] at this
        · rw [dues, fa, du]
          show _ = _ ++ ([] ++ (ts0.map (tkPV (l + 1 + 1)) ++ toks (l + 1 + 1 + 1) tss))
          rw [show l + 1 + 1 = l + 2 by omega]; rfl
        · rw [aft_app, fa, lastCol_cons a 0, lastCol_cons 0 0, lastCol_app, af]
          simp; omega
      · exact spaces (by simp) fun r => stop_of (ends_sp _)
    · exact spaces (by simp) fun r => trivial
end M_ropebook_k00_tokens_of_texts

set_option Elab.async false
set_option linter.all false
set_option maxRecDepth 100000
set_option maxHeartbeats 1000000
namespace M_ropebook_k00_tokens_of_texts
open M PySem L2

theorem compF_map {t : Tg} {mt : MP Bool} {me : MP PV} {env : LEnv} {g : PV → PV} : ∀ {ps : List PV}, (∀ p ∈ ps, ∃ e, setT t 0 p env = some e ∧ mt e = .ok true ∧ me e = .ok (g p) ∧ hgt (g p) = 0) → compF t mt me env ps = some (ps.map g)
  | [], _ => by rw [compF]; rfl
  | p :: ps, h => by
    obtain ⟨e, h1, h2, h3, h4⟩ := h p List.mem_cons_self
    rw [compF, h1]
    simp only [Option.bind_some, h2, h3, noX, if_true, h4, compF_map (fun q hq => h q (List.mem_cons_of_mem _ hq)), Option.map_some, List.map_cons]
theorem comp_ok {vs : List Nat} {t : Tg} {mi : MP (List PV)} {mt : MP Bool} {me : MP PV} {env : LEnv} {g : PV → PV} {ps : List PV} (hi : mi env = .ok ps) (hz : ps.length ≤ 16777216) (h : ∀ p ∈ ps, ∃ e, setT t 0 p (wipeE env vs) = some e ∧ mt e = .ok true ∧ me e = .ok (g p) ∧ hgt (g p) = 0) :
    mComp vs t mi mt me env = .ok (ps.map g) := by
  unfold mComp
  rw [hi]
  show ofO ((compF t mt me (wipeE env vs) ps).bind szL) = _
  rw [compF_map h]
  show ofO (szL (ps.map g)) = _
  unfold szL
  rw [if_pos (by simpa using hz)]
  rfl


/-! ### the law makes its text -/
theorem loop_cons (t : Tg) (b : MS) (p : PV) (r : List PV) (env : LEnv) : loopF t b (p :: r) env = (match setT t (itD p) p env with | none => .stuck | some e => contR (b e) (loopF t b r)) := rfl
theorem val_str {t : Tk} (h : t.ok) : gStr [t.val] = some (.str (tx t.sp)) := by
  cases t with
  | word c u => rfl
  | num n =>
    show gStr [.int (n : Int)] = _
    rw [ev_gStrI, if_pos]
    · rfl
    · have h' : n ≤ 1000000 := h
      rw [Nat.blt_eq]
      by_cases h0 : n = 0
      · subst h0; decide
      · exact Nat.lt_of_lt_of_le ((Nat.log2_lt h0).2 (show n < 2 ^ 20 by omega)) (by decide)
  | sign c => rfl
  | mark => rfl
theorem kind_sign (t : Tk) : gEqT (.str t.kind) (.str ("sign" : Str)) = some (.bl (match t with | .sign _ => true | _ => false)) := by
  have h1 : gEqT (.str ("word" : Str)) (.str ("sign" : Str)) = some (.bl false) := by kernel_rfl
  have h2 : gEqT (.str ("number" : Str)) (.str ("sign" : Str)) = some (.bl false) := by kernel_rfl
  have h3 : gEqT (.str ("sign" : Str)) (.str ("sign" : Str)) = some (.bl true) := by kernel_rfl
  cases t with
  | word c u => exact h1
  | num n => exact h2
  | sign c => exact h3
  | mark => exact h1
theorem gaps_len : ∀ g ∈ gaps, g.length ≤ 14 := by decide
theorem c_empty : ("" : Str) = tx [] := by kernel_rfl
theorem make_body {ns : List Int} {x : Int} {k : Nat} {text : List Nat} {due : List PV} {l c : Int} {o8 o9 o10 : Option Slot} (hx : ns[1 + k]? = some x) (ht : text.length ≤ 10000) (hd : due.length ≤ 10000) (f8 : frB o8 = true) (f9 : frB o9 = true) (f10 : frB o10 = true) :
    ∃ (z : It) (o8' o9' o10' : Option Slot), z.ok ∧ (z.1.sp ++ z.2).length ≤ 21 ∧ frB o8' = true ∧ frB o9' = true ∧ frB o10' = true ∧
      w_law_3 [sl 0 (.scr (ns.map .int)), sl 8 (.str (tx text)), sl 9 (.lst due), sl 8 (.tup [.int l, .int c]), sl 8 (.int k), none, none, none, o8, o9, o10, none, none] =
        .ok (.nx [sl 0 (.scr (ns.map .int)), sl 8 (.str (tx (text ++ (z.1.sp ++ z.2)))), sl 9 (.lst (due ++ [.tup [.str z.1.kind, z.1.val, .int l, .int c]])), sl 8 (.tup [.int (aft l c (z.1.sp ++ z.2)).1, .int (aft l c (z.1.sp ++ z.2)).2]), sl 8 (.int k), none, none, none, o8', o9', o10', none, none]) := by
  obtain ⟨t, tok, tlen, T⟩ := ltoken_ok x
  obtain ⟨g, gin, Gp⟩ := lgap_ok (x.fdiv 3 + k)
  have gl := gaps_len g gin
  have A : atI (ns.map PV.int) (1 + (k : Int)) = some (.int x) := atI_of (j := 1 + k) (by omega) (by simp [hx])
  have vf := val_flat t
  have vs := val_str tok
  have ks := kind_sign t
  have cd3 : cDiv x 3 = true := div_ok (by omega) (by omega)
  have cd2 : cDiv x 2 = true := div_ok (by omega) (by omega)
  have cm2 : ∀ y, cMod y 2 = true := fun y => mod_ok (by omega)
  have a0 : ∀ p q : PV, atI [p, q] 0 = some p := fun _ _ => rfl
  have a1 : ∀ p q : PV, atI [p, q] 1 = some q := fun _ _ => rfl
  have dl : due.length < 16777216 := by omega
  have s1 : mAsg (.nm 8) (mFlat (mCall 1 F_law_token (mCons (mBin gIxL (mV 0) (mBin gAdd (mC (.int 1)) (mV 4))) mNil))) [sl 0 (.scr (ns.map .int)), sl 8 (.str (tx text)), sl 9 (.lst due), sl 8 (.tup [.int l, .int c]), sl 8 (.int k), none, none, none, o8, o9, o10, none, none] = .ok (.nx [sl 0 (.scr (ns.map .int)), sl 8 (.str (tx text)), sl 9 (.lst due), sl 8 (.tup [.int l, .int c]), sl 8 (.int k), none, none, none, sl 8 (.tup [.str t.kind, t.val]), o9, o10, none, none]) := by
    simp [A, T, vf, f8]
  have s2 : mAsg (.nm 9) (mFlat (mFn gStr (mCons (mBin gIxT (mV 8) (mC (.int 1))) mNil))) [sl 0 (.scr (ns.map .int)), sl 8 (.str (tx text)), sl 9 (.lst due), sl 8 (.tup [.int l, .int c]), sl 8 (.int k), none, none, none, sl 8 (.tup [.str t.kind, t.val]), o9, o10, none, none] = .ok (.nx [sl 0 (.scr (ns.map .int)), sl 8 (.str (tx text)), sl 9 (.lst due), sl 8 (.tup [.int l, .int c]), sl 8 (.int k), none, none, none, sl 8 (.tup [.str t.kind, t.val]), sl 8 (.str (tx t.sp)), o10, none, none]) := by
    simp [a1, vs, f9]
  have s3 : mApp 2 (mFlat (mTup (mCons (mBin gIxT (mV 8) (mC (.int 0))) (mCons (mBin gIxT (mV 8) (mC (.int 1))) (mCons (mBin gIxT (mV 3) (mC (.int 0))) (mCons (mBin gIxT (mV 3) (mC (.int 1))) mNil)))))) [sl 0 (.scr (ns.map .int)), sl 8 (.str (tx text)), sl 9 (.lst due), sl 8 (.tup [.int l, .int c]), sl 8 (.int k), none, none, none, sl 8 (.tup [.str t.kind, t.val]), sl 8 (.str (tx t.sp)), o10, none, none] = .ok (.nx [sl 0 (.scr (ns.map .int)), sl 8 (.str (tx text)), sl 9 (.lst (due ++ [.tup [.str t.kind, t.val, .int l, .int c]])), sl 8 (.tup [.int l, .int c]), sl 8 (.int k), none, none, none, sl 8 (.tup [.str t.kind, t.val]), sl 8 (.str (tx t.sp)), o10, none, none]) := by
    simp [a0, a1, vf, dl]
  have s4 : mAsg (.nm 10) (mFlat (mCall 1 F_law_gap (mCons (mBin gAdd (mBin gDiv (mBin gIxL (mV 0) (mBin gAdd (mC (.int 1)) (mV 4))) (mC (.int 3))) (mV 4)) mNil))) [sl 0 (.scr (ns.map .int)), sl 8 (.str (tx text)), sl 9 (.lst (due ++ [.tup [.str t.kind, t.val, .int l, .int c]])), sl 8 (.tup [.int l, .int c]), sl 8 (.int k), none, none, none, sl 8 (.tup [.str t.kind, t.val]), sl 8 (.str (tx t.sp)), o10, none, none] = .ok (.nx [sl 0 (.scr (ns.map .int)), sl 8 (.str (tx text)), sl 9 (.lst (due ++ [.tup [.str t.kind, t.val, .int l, .int c]])), sl 8 (.tup [.int l, .int c]), sl 8 (.int k), none, none, none, sl 8 (.tup [.str t.kind, t.val]), sl 8 (.str (tx t.sp)), sl 8 (.str (tx g)), none, none]) := by
    simp [A, cd3, Gp, f10]
  have rest : ∀ g' : List Nat, g'.length ≤ 14 → (mSeq (mAsg (.nm 1) (mFlat (mBin gAddS (mBin gAddS (mV 1) (mV 9)) (mV 10)))) (mAsg (.nm 3) (mFlat (mCall 3 F_law_after (mCons (mBin gIxT (mV 3) (mC (.int 0))) (mCons (mBin gIxT (mV 3) (mC (.int 1))) (mCons (mBin gAddS (mV 9) (mV 10)) mNil))))))) [sl 0 (.scr (ns.map .int)), sl 8 (.str (tx text)), sl 9 (.lst (due ++ [.tup [.str t.kind, t.val, .int l, .int c]])), sl 8 (.tup [.int l, .int c]), sl 8 (.int k), none, none, none, sl 8 (.tup [.str t.kind, t.val]), sl 8 (.str (tx t.sp)), sl 8 (.str (tx g')), none, none] =
      .ok (.nx [sl 0 (.scr (ns.map .int)), sl 8 (.str (tx (text ++ (t.sp ++ g')))), sl 9 (.lst (due ++ [.tup [.str t.kind, t.val, .int l, .int c]])), sl 8 (.tup [.int (aft l c (t.sp ++ g')).1, .int (aft l c (t.sp ++ g')).2]), sl 8 (.int k), none, none, none, sl 8 (.tup [.str t.kind, t.val]), sl 8 (.str (tx t.sp)), sl 8 (.str (tx g')), none, none]) := by
    intro g' hg'
    have Af := lafter_ok (l := l) (c := c) (t := t.sp ++ g') (by simp; omega)
    have z1 : text.length + t.sp.length ≤ 16777216 := by omega
    have z2 : text.length + t.sp.length + g'.length ≤ 16777216 := by omega
    have z3 : t.sp.length + g'.length ≤ 16777216 := by omega
    generalize F_law_after = FA at *
    simp [a0, a1, z1, z2, z3, Af]
  have fin : ∀ (g' : List Nat), g'.length ≤ 14 → (g' ∈ gaps ∨ g' = [] ∧ ∃ c, t = .sign c) →
      mIfS (mAnd (mTst (mBin gEqT (mBin gIxT (mV 8) (mC (.int 0))) (mC (.str ("sign" : PySem.Str))))) (mTst (mBin gEqI (mBin gMod (mBin gDiv (mFn gInt (mCons (mBin gIxL (mV 0) (mBin gAdd (mC (.int 1)) (mV 4))) mNil)) (mC (.int 2))) (mC (.int 2))) (mC (.int 1))))) (mAsg (.nm 10) (mFlat (mC (.str ("" : PySem.Str))))) mSkip [sl 0 (.scr (ns.map .int)), sl 8 (.str (tx text)), sl 9 (.lst (due ++ [.tup [.str t.kind, t.val, .int l, .int c]])), sl 8 (.tup [.int l, .int c]), sl 8 (.int k), none, none, none, sl 8 (.tup [.str t.kind, t.val]), sl 8 (.str (tx t.sp)), sl 8 (.str (tx g)), none, none] = .ok (.nx [sl 0 (.scr (ns.map .int)), sl 8 (.str (tx text)), sl 9 (.lst (due ++ [.tup [.str t.kind, t.val, .int l, .int c]])), sl 8 (.tup [.int l, .int c]), sl 8 (.int k), none, none, none, sl 8 (.tup [.str t.kind, t.val]), sl 8 (.str (tx t.sp)), sl 8 (.str (tx g')), none, none]) →
      ∃ (z : It) (o8' o9' o10' : Option Slot), z.ok ∧ (z.1.sp ++ z.2).length ≤ 21 ∧ frB o8' = true ∧ frB o9' = true ∧ frB o10' = true ∧
      w_law_3 [sl 0 (.scr (ns.map .int)), sl 8 (.str (tx text)), sl 9 (.lst due), sl 8 (.tup [.int l, .int c]), sl 8 (.int k), none, none, none, o8, o9, o10, none, none] =
        .ok (.nx [sl 0 (.scr (ns.map .int)), sl 8 (.str (tx (text ++ (z.1.sp ++ z.2)))), sl 9 (.lst (due ++ [.tup [.str z.1.kind, z.1.val, .int l, .int c]])), sl 8 (.tup [.int (aft l c (z.1.sp ++ z.2)).1, .int (aft l c (z.1.sp ++ z.2)).2]), sl 8 (.int k), none, none, none, o8', o9', o10', none, none]) := by
    intro g' hl' hg' s5
    refine ⟨(t, g'), sl 8 (.tup [.str t.kind, t.val]), sl 8 (.str (tx t.sp)), sl 8 (.str (tx g')), ⟨tok, hg'⟩, by simp; omega, rfl, rfl, rfl, ?_⟩
    rw [w_law_3, seq_nx s1, seq_nx s2, seq_nx s3, seq_nx s4, seq_nx s5]
    exact rest g' hl'
  cases t with
  | sign ch =>
    by_cases hh : (x.fdiv 2).fmod 2 = 1
    · exact fin [] (by simp) (.inr ⟨rfl, ch, rfl⟩) (by simp [a0, ks, A, cd2, cm2, hh, c_empty])
    · exact fin g gl (.inl gin) (by simp [a0, ks, A, cd2, cm2, hh])
  | word _ _ => exact fin g gl (.inl gin) (by simp [a0, ks])
  | num _ => exact fin g gl (.inl gin) (by simp [a0, ks])
  | mark => exact fin g gl (.inl gin) (by simp [a0, ks])
theorem make_loop {ns : List Int} : ∀ (m k : Nat) (text : List Nat) (due : List PV) (l c : Int) (o4 o8 o9 o10 : Option Slot), (m = 0 ∨ 1 + k + m ≤ ns.length) → text.length + 21 * m ≤ 10000 → due.length + m ≤ 10000 → frB o4 = true → frB o8 = true → frB o9 = true → frB o10 = true →
    ∃ (its : List It) (o4' o8' o9' o10' : Option Slot), (∀ z ∈ its, z.ok) ∧ its.length = m ∧ (flat its).length ≤ 21 * m ∧ frB o4' = true ∧ frB o8' = true ∧ frB o9' = true ∧ frB o10' = true ∧
      loopF (.nm 4) w_law_3 (rngs k m) [sl 0 (.scr (ns.map .int)), sl 8 (.str (tx text)), sl 9 (.lst due), sl 8 (.tup [.int l, .int c]), o4, none, none, none, o8, o9, o10, none, none] =
        .ok (.nx [sl 0 (.scr (ns.map .int)), sl 8 (.str (tx (text ++ flat its))), sl 9 (.lst (due ++ dues l c its)), sl 8 (.tup [.int (aft l c (flat its)).1, .int (aft l c (flat its)).2]), o4', none, none, none, o8', o9', o10', none, none])
  | 0, k, text, due, l, c, o4, o8, o9, o10, _, _, _, f4, f8, f9, f10 => ⟨[], o4, o8, o9, o10, by simp, rfl, by simp [flat], f4, f8, f9, f10, by rw [rngs_zero, loopF]; simp [flat, dues, aft]⟩
  | m + 1, k, text, due, l, c, o4, o8, o9, o10, hk, ht, hd, f4, f8, f9, f10 => by
    have hx : ns[1 + k]? = some ns[1 + k] := List.getElem?_eq_getElem (by omega)
    obtain ⟨z, o8', o9', o10', zok, zl, g8, g9, g10, body⟩ := make_body (l := l) (c := c) hx (text := text) (due := due) (by omega) (by omega) f8 f9 f10
    obtain ⟨its, o4'', o8'', o9'', o10'', hok, hlen, hfl, k4, k8, k9, k10, q⟩ := make_loop (ns := ns) m (k + 1) (text ++ (z.1.sp ++ z.2)) (due ++ [.tup [.str z.1.kind, z.1.val, .int l, .int c]]) (aft l c (z.1.sp ++ z.2)).1 (aft l c (z.1.sp ++ z.2)).2 (sl 8 (.int k)) o8' o9' o10' (.inr (by omega)) (by have h1 := zl; have h2 := ht; simp only [List.length_append] at h1 ⊢; omega) (by simp; omega) rfl g8 g9 g10
    refine ⟨z :: its, o4'', o8'', o9'', o10'', ?_, by simp [hlen], ?_, k4, k8, k9, k10, ?_⟩
    · intro y hy
      rcases List.mem_cons.1 hy with rfl | hy
      · exact zok
      · exact hok y hy
    · have : flat (z :: its) = z.1.sp ++ z.2 ++ flat its := by simp [flat]
      rw [this, List.length_append]; omega
    · rw [rngs_succ, loop_cons]
      have s4 : setT (.nm 4) (itD (.int k)) (.int k) [sl 0 (.scr (ns.map .int)), sl 8 (.str (tx text)), sl 9 (.lst due), sl 8 (.tup [.int l, .int c]), o4, none, none, none, o8, o9, o10, none, none] = some [sl 0 (.scr (ns.map .int)), sl 8 (.str (tx text)), sl 9 (.lst due), sl 8 (.tup [.int l, .int c]), sl 8 (.int k), none, none, none, o8, o9, o10, none, none] := by simp [f4, itD]
      rw [s4]
      dsimp only
      rw [body, ev_contN]
      have ef : flat (z :: its) = (z.1.sp ++ z.2) ++ flat its := by simp [flat]
      rw [ef, aft_app (z.1.sp ++ z.2) (flat its), ← List.append_assoc text (z.1.sp ++ z.2), dues]
      have q' := q
      rw [List.append_assoc due, show ((k + 1 : Nat) : Int) = (k : Int) + 1 by omega] at q'
      exact q'
end M_ropebook_k00_tokens_of_texts

set_option Elab.async false
set_option linter.all false
set_option maxRecDepth 100000
set_option maxHeartbeats 1000000
namespace M_ropebook_k00_tokens_of_texts
open M PySem L2

/-! ### the check of each token -/
def gdv (v : PV) : Prop := (∃ s, v = .str s ∧ PyData.strOk s = true) ∨ ∃ n, v = .int n
def gd (p : PV) : Prop := ∃ (k : Str) (v : PV) (a b : Int), p = .tup [.str k, v, .int a, .int b] ∧ PyData.strOk k = true ∧ gdv v
theorem py_str {s : Str} (h : PyData.strOk s = true) : pyOk (.str s) := ⟨.str s, rfl, by unfold SeqAt.shaped; simp [PyData.canLay0, PyData.depth, h]⟩
theorem py_i (n : Int) : pyOk (.int n) := ⟨.int n, rfl, by unfold SeqAt.shaped; simp [PyData.canLay0, PyData.depth]⟩
theorem isL (l : List PV) : gIsA "list" (.lst l) = some (.bl true) := by
  have : kitB "list" "list" = some true := by decide +kernel
  show (kitB "list" "list").map PV.bl = _
  rw [this]; rfl
theorem isT (l : List PV) : gIsA "tuple" (.tup l) = some (.bl true) := by
  have : kitB "tuple" "tuple" = some true := by decide +kernel
  show (kitB "tuple" "tuple").map PV.bl = _
  rw [this]; rfl
theorem isSS (s : Str) : gIsA "str" (.str s) = some (.bl true) := by
  have : kitB "str" "str" = some true := by decide +kernel
  show (kitB "str" "str").map PV.bl = _
  rw [this]; rfl
theorem isSI (n : Int) : gIsA "str" (.int n) = some (.bl false) := by
  have : kitB "int" "str" = some false := by decide +kernel
  show (kitB "int" "str").map PV.bl = _
  rw [this]; rfl
theorem isII (n : Int) : gIsA "int" (.int n) = some (.bl true) := by
  have : kitB "int" "int" = some true := by decide +kernel
  show (kitB "int" "int").map PV.bl = _
  rw [this]; rfl
theorem isBI (n : Int) : gIsA "bool" (.int n) = some (.bl false) := by
  have : kitB "int" "bool" = some false := by decide +kernel
  show (kitB "int" "bool").map PV.bl = _
  rw [this]; rfl
theorem gdv_flat {v : PV} (h : gdv v) : hgt v = 0 := by
  rcases h with ⟨s, rfl, _⟩ | ⟨n, rfl⟩ <;> simp
theorem chk_one {D : List PV} {p : List PV} {v : PV} {k j : Int} (o0 o1 o3 o6 o7 o8 o9 o10 o12 : Option Slot) (h1 : atI D k = some (.tup p)) (h2 : atI p j = some v) (hv : gdv v) (f12 : frB o12 = true) :
    w_law_1 [o0, o1, sl 9 (.lst D), o3, sl 8 (.int k), sl 9 (.lst D), o6, o7, o8, o9, o10, sl 8 (.int j), o12] = .ok (.nx [o0, o1, sl 9 (.lst D), o3, sl 8 (.int k), sl 9 (.lst D), o6, o7, o8, o9, o10, sl 8 (.int j), sl 8 v]) := by
  have vf := gdv_flat hv
  have s1 : mAsg (.nm 12) (mFlat (mBin gIxT (mBin gIxL (mV 5) (mV 4)) (mV 11))) [o0, o1, sl 9 (.lst D), o3, sl 8 (.int k), sl 9 (.lst D), o6, o7, o8, o9, o10, sl 8 (.int j), o12] = .ok (.nx [o0, o1, sl 9 (.lst D), o3, sl 8 (.int k), sl 9 (.lst D), o6, o7, o8, o9, o10, sl 8 (.int j), sl 8 v]) := by
    simp [h1, h2, vf, f12]
  rw [w_law_1, seq_nx s1]
  rcases hv with ⟨s, rfl, hs⟩ | ⟨n, rfl⟩
  · have ne := gNe_same (py_str hs)
    have i1 := isSS s
    generalize gNe = GN at *
    simp [h1, h2, i1, ne]
  · have ne := gNe_same (py_i n)
    have i1 := isSI n
    have i2 := isII n
    have i3 := isBI n
    generalize gNe = GN at *
    simp [h1, h2, i1, i2, i3, ne]
theorem chk_item {D : List PV} {p : PV} {k : Int} (o0 o1 o3 o6 o7 o8 o9 o10 o11 o12 : Option Slot) (h1 : atI D k = some p) (hp : gd p) (f11 : frB o11 = true) (f12 : frB o12 = true) :
    ∃ o11' o12', frB o11' = true ∧ frB o12' = true ∧ w_law_2 [o0, o1, sl 9 (.lst D), o3, sl 8 (.int k), sl 9 (.lst D), o6, o7, o8, o9, o10, o11, o12] = .ok (.nx [o0, o1, sl 9 (.lst D), o3, sl 8 (.int k), sl 9 (.lst D), o6, o7, o8, o9, o10, o11', o12']) := by
  obtain ⟨kd, v, a, b, rfl, hk, hv⟩ := hp
  refine ⟨sl 8 (.int 3), sl 8 (.int b), rfl, rfl, ?_⟩
  have s1 : mIfS (mOr (mNot (mTst (mIsA "tuple" (mBin gIxL (mV 5) (mV 4))))) (mTst (mBin gNeI (mFn gLen (mCons (mBin gIxL (mV 5) (mV 4)) mNil)) (mC (.int 4))))) (mRet (mFlat (mC (.bl false)))) mSkip [o0, o1, sl 9 (.lst D), o3, sl 8 (.int k), sl 9 (.lst D), o6, o7, o8, o9, o10, o11, o12] = .ok (.nx [o0, o1, sl 9 (.lst D), o3, sl 8 (.int k), sl 9 (.lst D), o6, o7, o8, o9, o10, o11, o12]) := by
    have it := isT [.str kd, v, .int a, .int b]
    simp [h1, it]
  rw [w_law_2, seq_nx s1]
  have e : mForR1 (.nm 11) (mCons (mC (.int 4)) mNil) w_law_1 [o0, o1, sl 9 (.lst D), o3, sl 8 (.int k), sl 9 (.lst D), o6, o7, o8, o9, o10, o11, o12] = loopF (.nm 11) w_law_1 [.int 0, .int 1, .int 2, .int 3] [o0, o1, sl 9 (.lst D), o3, sl 8 (.int k), sl 9 (.lst D), o6, o7, o8, o9, o10, o11, o12] := rfl
  rw [e]
  have st : ∀ (j : Int) (o11 o12 : Option Slot), frB o11 = true → setT (.nm 11) (itD (.int j)) (.int j) [o0, o1, sl 9 (.lst D), o3, sl 8 (.int k), sl 9 (.lst D), o6, o7, o8, o9, o10, o11, o12] = some [o0, o1, sl 9 (.lst D), o3, sl 8 (.int k), sl 9 (.lst D), o6, o7, o8, o9, o10, sl 8 (.int j), o12] := fun j o11 o12 h => by simp [h, itD]
  have c0 := fun o12 f => chk_one (D := D) (j := 0) (v := .str kd) o0 o1 o3 o6 o7 o8 o9 o10 o12 h1 rfl (.inl ⟨kd, rfl, hk⟩) f
  have c1 := fun o12 f => chk_one (D := D) (j := 1) (v := v) o0 o1 o3 o6 o7 o8 o9 o10 o12 h1 rfl hv f
  have c2 := fun o12 f => chk_one (D := D) (j := 2) (v := .int a) o0 o1 o3 o6 o7 o8 o9 o10 o12 h1 rfl (.inr ⟨a, rfl⟩) f
  have c3 := fun o12 f => chk_one (D := D) (j := 3) (v := .int b) o0 o1 o3 o6 o7 o8 o9 o10 o12 h1 rfl (.inr ⟨b, rfl⟩) f
  generalize w_law_1 = W at *
  rw [loop_cons, st _ _ _ f11]
  dsimp only
  rw [c0 _ f12, ev_contN, loop_cons, st _ _ _ rfl]
  dsimp only
  rw [c1 _ rfl, ev_contN, loop_cons, st _ _ _ rfl]
  dsimp only
  rw [c2 _ rfl, ev_contN, loop_cons, st _ _ _ rfl]
  dsimp only
  rw [c3 _ rfl, ev_contN, loopF]
theorem chk_loop {D : List PV} (hD : ∀ p ∈ D, gd p) (o0 o1 o3 o6 o7 o8 o9 o10 : Option Slot) : ∀ (s pre : List PV) (o4 o11 o12 : Option Slot), D = pre ++ s → frB o4 = true → frB o11 = true → frB o12 = true →
    ∃ o4' o11' o12', frB o4' = true ∧ frB o11' = true ∧ frB o12' = true ∧ loopF (.nm 4) w_law_2 (rngs pre.length s.length) [o0, o1, sl 9 (.lst D), o3, o4, sl 9 (.lst D), o6, o7, o8, o9, o10, o11, o12] = .ok (.nx [o0, o1, sl 9 (.lst D), o3, o4', sl 9 (.lst D), o6, o7, o8, o9, o10, o11', o12'])
  | [], pre, o4, o11, o12, _, f4, f11, f12 => ⟨o4, o11, o12, f4, f11, f12, by rw [List.length_nil, rngs_zero, loopF]⟩
  | p :: s, pre, o4, o11, o12, e, f4, f11, f12 => by
    have h1 : atI D (pre.length : Int) = some p := atI_of rfl (by rw [e]; simp)
    obtain ⟨o11', o12', g11, g12, b⟩ := chk_item (D := D) o0 o1 o3 o6 o7 o8 o9 o10 o11 o12 h1 (hD p (by rw [e]; simp)) f11 f12
    obtain ⟨o4'', o11'', o12'', k4, k11, k12, q⟩ := chk_loop hD o0 o1 o3 o6 o7 o8 o9 o10 s (pre ++ [p]) (sl 8 (.int pre.length)) o11' o12' (by simp [e]) rfl g11 g12
    refine ⟨o4'', o11'', o12'', k4, k11, k12, ?_⟩
    rw [List.length_cons, rngs_succ, loop_cons]
    have s4 : setT (.nm 4) (itD (.int pre.length)) (.int pre.length) [o0, o1, sl 9 (.lst D), o3, o4, sl 9 (.lst D), o6, o7, o8, o9, o10, o11, o12] = some [o0, o1, sl 9 (.lst D), o3, sl 8 (.int pre.length), sl 9 (.lst D), o6, o7, o8, o9, o10, o11, o12] := by simp [f4, itD]
    rw [s4]
    dsimp only
    rw [b, ev_contN]
    have el : ((pre ++ [p]).length : Int) = (pre.length : Int) + 1 := by simp
    rw [el] at q
    exact q
theorem dues_len : ∀ (its : List It) (l c : Int), (dues l c its).length = its.length
  | [], _, _ => rfl
  | z :: its, l, c => by rw [dues, List.length_cons, List.length_cons, dues_len its]
theorem strOk_tx {l : List Nat} (h : ∀ x ∈ l, x < 1114112) : PyData.strOk (tx l) = true := by
  unfold PyData.strOk tx
  simp
  exact h
theorem lod_small {c : Nat} (h : lod c = true) : c < 1114112 := by
  unfold lod lo dg at h
  simp at h
  omega
theorem val_good {t : Tk} (h : t.ok) : gdv t.val := by
  cases t with
  | word c u => exact .inl ⟨_, rfl, strOk_tx fun x hx => by
      rcases List.mem_cons.1 hx with rfl | hx
      · exact lod_small (by unfold lod; rw [h.1]; rfl)
      · exact lod_small (List.all_eq_true.1 h.2 x hx)⟩
  | num n => exact .inr ⟨n, rfl⟩
  | sign c => exact .inl ⟨_, rfl, strOk_tx fun x hx => by
      rw [List.mem_singleton] at hx; subst hx
      have h' : x ∈ sgs := h
      simp [sgs] at h'
      omega⟩
  | mark => exact .inl ⟨_, rfl, strOk_tx (by decide)⟩
theorem kind_good (t : Tk) : PyData.strOk t.kind = true := by cases t <;> kernel_rfl
theorem dues_good : ∀ (its : List It) (l c : Int), (∀ z ∈ its, z.ok) → ∀ p ∈ dues l c its, gd p
  | [], _, _, _, p, hp => by cases hp
  | z :: its, l, c, hz, p, hp => by
    rw [dues] at hp
    rcases List.mem_cons.1 hp with rfl | hp
    · exact ⟨_, _, _, _, rfl, kind_good _, val_good (hz z List.mem_cons_self).1⟩
    · exact dues_good its _ _ (fun y hy => hz y (List.mem_cons_of_mem _ hy)) p hp
theorem part_len : ∀ {ls : List (List Nat)} {x text : List Nat}, x ∈ ls → TL.joinL [10] ls = text → x.length ≤ text.length
  | [], _, _, h, _ => by cases h
  | [a], x, text, h, e => by rw [List.mem_singleton] at h; subst h; subst e; exact Nat.le_refl _
  | a :: b :: r, x, text, h, e => by
    rw [joinL_two] at e
    subst e
    rcases List.mem_cons.1 h with rfl | h
    · simp
    · have := part_len h rfl
      simp; omega
def tightL : List PV := [.tup [.str ("word" : Str), .str ("a1" : Str), .int 1, .int 1], .tup [.str ("sign" : Str), .str ("," : Str), .int 1, .int 3], .tup [.str ("sign" : Str), .str ("(" : Str), .int 1, .int 4], .tup [.str ("number" : Str), .int 2, .int 1, .int 5], .tup [.str ("sign" : Str), .str ("-" : Str), .int 1, .int 6], .tup [.str ("number" : Str), .int 3, .int 1, .int 7], .tup [.str ("sign" : Str), .str (")" : Str), .int 1, .int 8], .tup [.str ("sign" : Str), .str ("*" : Str), .int 1, .int 9], .tup [.str ("word" : Str), .str ("t" : Str), .int 1, .int 10], .tup [.str ("sign" : Str), .str ("^" : Str), .int 1, .int 11], .tup [.str ("number" : Str), .int 4, .int 1, .int 12], .tup [.str ("sign" : Str), .str ("{" : Str), .int 1, .int 13], .tup [.str ("word" : Str), .str ("X" : Str), .int 1, .int 14], .tup [.str ("sign" : Str), .str ("}" : Str), .int 1, .int 15], .tup [.str ("end" : Str), .str ("" : Str), .int 1, .int 16]]
theorem tight : F_tokens_of [.str ("a1,(2-3)*t^4{X}" : Str)] = .ok (9, .lst tightL) := by kernel_rfl
def tw : PV → PV
  | .tup [a, b, _, _] => .tup [a, b]
  | p => p
theorem tightL_ok (p : PV) (h : p ∈ tightL) : ∃ a b c d, p = .tup [a, b, c, d] ∧ hgt a = 0 ∧ hgt b = 0 := by
  simp only [tightL, List.mem_cons, List.not_mem_nil, or_false] at h
  rcases h with h | h | h | h | h | h | h | h | h | h | h | h | h | h | h <;> subst h <;> exact ⟨_, _, _, _, rfl, by simp, by simp⟩
def wanted : List PV := [.tup [.str ("word" : Str), .str ("a1" : Str)], .tup [.str ("sign" : Str), .str ("," : Str)], .tup [.str ("sign" : Str), .str ("(" : Str)], .tup [.str ("number" : Str), .int 2], .tup [.str ("sign" : Str), .str ("-" : Str)], .tup [.str ("number" : Str), .int 3], .tup [.str ("sign" : Str), .str (")" : Str)], .tup [.str ("sign" : Str), .str ("*" : Str)]]
def wanted2 : List PV := [.tup [.str ("word" : Str), .str ("t" : Str)], .tup [.str ("sign" : Str), .str ("^" : Str)], .tup [.str ("number" : Str), .int 4], .tup [.str ("sign" : Str), .str ("{" : Str)], .tup [.str ("word" : Str), .str ("X" : Str)], .tup [.str ("sign" : Str), .str ("}" : Str)], .tup [.str ("end" : Str), .str ("" : Str)]]
theorem law_true (ns : List Int) : ∃ d, F_law [.scr (ns.map .int)] = .ok (d, .bl true) := by
  obtain ⟨c0, h0⟩ := cell_ok ns 0
  have h0 : F_law_cell [.scr (ns.map .int), .int 0] = .ok (8, .int c0) := h0
  obtain ⟨M0, hM⟩ : ∃ M0 : Nat, M0 = min 40 (ns.length - 1) := ⟨_, rfl⟩
  suffices h : ∃ e, b_law [sl 0 (.scr (ns.map .int)), none, none, none, none, none, none, none, none, none, none, none, none] = .ok (.rt 8 (.bl true) e) by
    obtain ⟨e, h⟩ := h
    exact ⟨8, run_rt h⟩
  rw [b_law]
  have s0 : (mAsg (.nm 1) (mFlat (mC (.str ("" : PySem.Str))))) [sl 0 (.scr (ns.map .int)), none, none, none, none, none, none, none, none, none, none, none, none] = .ok (.nx [sl 0 (.scr (ns.map .int)), sl 8 (.str (tx [])), none, none, none, none, none, none, none, none, none, none, none]) := by
    simp [c_empty]
  rw [seq_nx s0]
  clear s0
  have s1 : (mAsg (.nm 2) (mNew (mLst mNil))) [sl 0 (.scr (ns.map .int)), sl 8 (.str (tx [])), none, none, none, none, none, none, none, none, none, none, none] = .ok (.nx [sl 0 (.scr (ns.map .int)), sl 8 (.str (tx [])), sl 9 (.lst []), none, none, none, none, none, none, none, none, none, none]) := by
    simp
  rw [seq_nx s1]
  clear s1
  have s2 : (mAsg (.nm 3) (mFlat (mTup (mCons (mC (.int 1)) (mCons (mC (.int 1)) mNil))))) [sl 0 (.scr (ns.map .int)), sl 8 (.str (tx [])), sl 9 (.lst []), none, none, none, none, none, none, none, none, none, none] = .ok (.nx [sl 0 (.scr (ns.map .int)), sl 8 (.str (tx [])), sl 9 (.lst []), sl 8 (.tup [.int 1, .int 1]), none, none, none, none, none, none, none, none, none]) := by
    simp
  rw [seq_nx s2]
  clear s2
  obtain ⟨its, o4, o8, o9, o10, iok, ilen, ifl, f4, f8, f9, f10, q⟩ := make_loop (ns := ns) M0 0 [] [] 1 1 none none none none (by omega) (by simp; omega) (by simp; omega) rfl rfl rfl rfl
  have s3 : (mForR1 (.nm 4) (mCons (mFn gMin (mCons (mC (.int 40)) (mCons (mFn gMax (mCons (mC (.int 0)) (mCons (mBin gSub (mFn gLen (mCons (mV 0) mNil)) (mC (.int 1))) mNil))) mNil))) mNil)  w_law_3) [sl 0 (.scr (ns.map .int)), sl 8 (.str (tx [])), sl 9 (.lst []), sl 8 (.tup [.int 1, .int 1]), none, none, none, none, none, none, none, none, none] = .ok (.nx [sl 0 (.scr (ns.map .int)), sl 8 (.str (tx ([] ++ flat its))), sl 9 (.lst ([] ++ dues 1 1 its)), sl 8 (.tup [.int (aft 1 1 (flat its)).1, .int (aft 1 1 (flat its)).2]), o4, none, none, none, o8, o9, o10, none, none]) := by
    rw [← q]
    have hm : mCons (mFn gMin (mCons (mC (.int 40)) (mCons (mFn gMax (mCons (mC (.int 0)) (mCons (mBin gSub (mFn gLen (mCons (mV 0) mNil)) (mC (.int 1))) mNil))) mNil))) mNil [sl 0 (.scr (ns.map .int)), sl 8 (.str (tx [])), sl 9 (.lst []), sl 8 (.tup [.int 1, .int 1]), none, none, none, none, none, none, none, none, none] = .ok [.int (M0 : Int)] := by
      simp
      split <;> split <;> omega
    rw [ev_mForR1, hm]
    have kr : rngOk (M0 : Int) = true := rng_ok (by omega) (by omega)
    generalize w_law_3 = W
    simp [kr]
  rw [seq_nx s3]
  clear s3
  rw [List.nil_append, List.nil_append]
  obtain ⟨tail, htail, s4⟩ : ∃ tail, (tail = [] ∨ tail = tailL) ∧ (mIfS (mTst (mBin gEqI (mBin gMod (mFn gInt (mCons (mCall 2 F_law_cell (mCons (mV 0) (mCons (mC (.int 0)) mNil))) mNil)) (mC (.int 3))) (mC (.int 1))))  (mSeq (mAsg (.nm 1) (mFlat (mBin gAddS (mV 1) (mC (.str ("# the end } ;" : PySem.Str))))))  (mAsg (.nm 3) (mFlat (mCall 3 F_law_after (mCons (mBin gIxT (mV 3) (mC (.int 0))) (mCons (mBin gIxT (mV 3) (mC (.int 1))) (mCons (mC (.str ("# the end } ;" : PySem.Str))) mNil)))))))  mSkip) [sl 0 (.scr (ns.map .int)), sl 8 (.str (tx (flat its))), sl 9 (.lst (dues 1 1 its)), sl 8 (.tup [.int (aft 1 1 (flat its)).1, .int (aft 1 1 (flat its)).2]), o4, none, none, none, o8, o9, o10, none, none] = .ok (.nx [sl 0 (.scr (ns.map .int)), sl 8 (.str (tx (flat its ++ tail))), sl 9 (.lst (dues 1 1 its)), sl 8 (.tup [.int (aft 1 1 (flat its ++ tail)).1, .int (aft 1 1 (flat its ++ tail)).2]), o4, none, none, none, o8, o9, o10, none, none]) := by
    have cm : cMod c0 3 = true := mod_ok (by omega)
    by_cases hc : c0.fmod 3 = 1
    · refine ⟨tailL, .inr rfl, ?_⟩
      have Af := lafter_ok (l := (aft 1 1 (flat its)).1) (c := (aft 1 1 (flat its)).2) (t := tailL) (by decide)
      have z1 : (flat its).length + tailL.length ≤ 16777216 := by have : tailL.length = 13 := rfl; omega
      have a0 : ∀ p q : PV, atI [p, q] 0 = some p := fun _ _ => rfl
      have a1 : ∀ p q : PV, atI [p, q] 1 = some q := fun _ _ => rfl
      rw [← aft_app] at Af
      generalize F_law_after = FA at *
      generalize F_law_cell = FC at *
      simp [h0, cm, hc, c_tail, z1, a0, a1, Af]
    · refine ⟨[], .inl rfl, ?_⟩
      rw [List.append_nil]
      generalize F_law_cell = FC at *
      simp [h0, cm, hc]
  rw [seq_nx s4]
  clear s4
  obtain ⟨l0, ls, ts0, tss, e, fr, sc, scs, du, af⟩ := struct tail htail its iok 1 0
  have du' : dues 1 1 its = toks 1 (ts0 :: tss) := du
  have af' : aft 1 1 (flat its ++ tail) = ((1 : Int) + ls.length, lastCol 0 l0 ls) := af
  rw [du', af']
  have tl : tail.length ≤ 13 := by rcases htail with rfl | rfl <;> decide
  have sz : (flat its ++ tail).length ≤ 50000 := by rw [List.length_append]; omega
  have dln : (dues 1 1 its).length = its.length := dues_len its 1 1
  have tln : (toks 1 (ts0 :: tss)).length ≤ 50000 := by rw [← du', dln]; omega
  have T := tokens_ok (by simp) fr e sz (.cons sc scs) (fun x hx => by have := part_len hx e; omega) tln (last := ls.getLast?.getD l0) (by rw [List.getLast?_cons])
  have lc : lastCol 0 l0 ls = ((ls.getLast?.getD l0).length : Int) + 1 := by
    unfold lastCol
    cases ls.getLast? <;> simp
  rw [← lc] at T
  have ell : ((l0 :: ls).length : Int) = 1 + ls.length := by simp; omega
  rw [ell] at T
  have good : ∀ p ∈ toks 1 (ts0 :: tss) ++ [.tup [.str ("end" : Str), .str ("" : Str), .int (1 + (ls.length : Int)), .int (lastCol 0 l0 ls)]], gd p := by
    intro p hp
    rcases List.mem_append.1 hp with hp | hp
    · rw [← du'] at hp
      exact dues_good its 1 1 iok p hp
    · rw [List.mem_singleton] at hp
      subst hp
      exact ⟨_, _, _, _, rfl, by kernel_rfl, .inl ⟨_, rfl, by kernel_rfl⟩⟩
  have tf := toks_flat 1 (ts0 :: tss)
  have dl2 : (toks 1 (ts0 :: tss)).length < 16777216 := by omega
  generalize lastCol 0 l0 ls = LC at *
  generalize (1 : Int) + (ls.length : Int) = LN at *
  generalize toks 1 (ts0 :: tss) = D0 at *
  generalize tx (flat its ++ tail) = TT at *
  have s5 : (mApp 2 (mFlat (mTup (mCons (mC (.str ("end" : PySem.Str))) (mCons (mC (.str ("" : PySem.Str))) (mCons (mBin gIxT (mV 3) (mC (.int 0))) (mCons (mBin gIxT (mV 3) (mC (.int 1))) mNil))))))) [sl 0 (.scr (ns.map .int)), sl 8 (.str TT), sl 9 (.lst D0), sl 8 (.tup [.int LN, .int LC]), o4, none, none, none, o8, o9, o10, none, none] = .ok (.nx [sl 0 (.scr (ns.map .int)), sl 8 (.str TT), sl 9 (.lst (D0 ++ [.tup [.str ("end" : Str), .str ("" : Str), .int LN, .int LC]])), sl 8 (.tup [.int LN, .int LC]), o4, none, none, none, o8, o9, o10, none, none]) := by
    have a0 : ∀ p q : PV, atI [p, q] 0 = some p := fun _ _ => rfl
    have a1 : ∀ p q : PV, atI [p, q] 1 = some q := fun _ _ => rfl
    simp [a0, a1, dl2]
  rw [seq_nx s5]
  clear s5
  have tf2 : hgts (D0 ++ [PV.tup [.str ("end" : Str), .str ("" : Str), .int LN, .int LC]]) = 0 := by rw [hgts_app, tf]; simp
  have dl3 : (D0 ++ [PV.tup [.str ("end" : Str), .str ("" : Str), .int LN, .int LC]]).length ≤ 100000 := by simp; omega
  generalize D0 ++ [PV.tup [.str ("end" : Str), .str ("" : Str), .int LN, .int LC]] = D at *
  have s6 : (mAsg (.nm 5) (mCallE 1 F_tokens_of (mCons (mV 1) mNil))) [sl 0 (.scr (ns.map .int)), sl 8 (.str TT), sl 9 (.lst D), sl 8 (.tup [.int LN, .int LC]), o4, none, none, none, o8, o9, o10, none, none] = .ok (.nx [sl 0 (.scr (ns.map .int)), sl 8 (.str TT), sl 9 (.lst D), sl 8 (.tup [.int LN, .int LC]), o4, sl 9 (.lst D), none, none, o8, o9, o10, none, none]) := by
    simp [T, tf2]
  rw [seq_nx s6]
  clear s6
  have s7 : (mIfS (mOr (mNot (mTst (mIsA "list" (mV 5)))) (mTst (mBin gNeI (mFn gLen (mCons (mV 5) mNil)) (mFn gLen (mCons (mV 2) mNil)))))  (mRet (mFlat (mC (.bl false))))  mSkip) [sl 0 (.scr (ns.map .int)), sl 8 (.str TT), sl 9 (.lst D), sl 8 (.tup [.int LN, .int LC]), o4, sl 9 (.lst D), none, none, o8, o9, o10, none, none] = .ok (.nx [sl 0 (.scr (ns.map .int)), sl 8 (.str TT), sl 9 (.lst D), sl 8 (.tup [.int LN, .int LC]), o4, sl 9 (.lst D), none, none, o8, o9, o10, none, none]) := by
    simp [isL]
  rw [seq_nx s7]
  clear s7
  obtain ⟨o4', o11, o12, g4, g11, g12, q3⟩ := chk_loop (D := D) good (sl 0 (.scr (ns.map .int))) (sl 8 (.str TT)) (sl 8 (.tup [.int LN, .int LC])) none none o8 o9 o10 D [] o4 none none rfl f4 rfl rfl
  have s8 : (mForR1 (.nm 4) (mCons (mFn gLen (mCons (mV 2) mNil)) mNil)  w_law_2) [sl 0 (.scr (ns.map .int)), sl 8 (.str TT), sl 9 (.lst D), sl 8 (.tup [.int LN, .int LC]), o4, sl 9 (.lst D), none, none, o8, o9, o10, none, none] = .ok (.nx [sl 0 (.scr (ns.map .int)), sl 8 (.str TT), sl 9 (.lst D), sl 8 (.tup [.int LN, .int LC]), o4', sl 9 (.lst D), none, none, o8, o9, o10, o11, o12]) := by
    rw [← q3]
    have kr : rngOk (D.length : Int) = true := rng_ok (by omega) (by omega)
    generalize w_law_2 = W
    simp [kr]
  rw [seq_nx s8]
  clear s8
  have cmp : ∀ e6, mComp [12] (.nm 12) (mIt itL (mCall 1 F_tokens_of (mCons (mC (.str ("a1,(2-3)*t^4{X}" : PySem.Str))) mNil))) mYes (mTup (mCons (mBin gIxT (mV 12) (mC (.int 0))) (mCons (mBin gIxT (mV 12) (mC (.int 1))) mNil))) [sl 0 (.scr (ns.map .int)), sl 8 (.str TT), sl 9 (.lst D), sl 8 (.tup [.int LN, .int LC]), o4', sl 9 (.lst D), e6, none, o8, o9, o10, o11, o12] = .ok (tightL.map tw) := by
    intro e6
    refine comp_ok (ps := tightL) (by simp [tight]) (by decide) fun p hp => ?_
    obtain ⟨a, b, c, d, ep, z⟩ := tightL_ok p hp
    subst ep
    have b0 : ∀ p q r s : PV, atI [p, q, r, s] 0 = some p := fun _ _ _ _ => rfl
    have b1 : ∀ p q r s : PV, atI [p, q, r, s] 1 = some q := fun _ _ _ _ => rfl
    exact ⟨_, by simp [wipeE]; rfl, rfl, by simp [b0, b1, tw], by simp [tw]; simpa using z⟩
  have s9 : (mAsg (.nm 6) (mNew (mComp [12] (.nm 12) (mIt itL (mCall 1 F_tokens_of (mCons (mC (.str ("a1,(2-3)*t^4{X}" : PySem.Str))) mNil))) mYes (mTup (mCons (mBin gIxT (mV 12) (mC (.int 0))) (mCons (mBin gIxT (mV 12) (mC (.int 1))) mNil)))))) [sl 0 (.scr (ns.map .int)), sl 8 (.str TT), sl 9 (.lst D), sl 8 (.tup [.int LN, .int LC]), o4', sl 9 (.lst D), none, none, o8, o9, o10, o11, o12] = .ok (.nx [sl 0 (.scr (ns.map .int)), sl 8 (.str TT), sl 9 (.lst D), sl 8 (.tup [.int LN, .int LC]), o4', sl 9 (.lst D), sl 9 (.lst (tightL.map tw)), none, o8, o9, o10, o11, o12]) := by
    rw [ev_mAsg, ev_mNew, cmp, ev_lift, if_pos (show hgts (tightL.map tw) = 0 from by kernel_rfl)]
    simp
  rw [seq_nx s9]
  clear s9
  have s10 : (mAsg (.nm 7) (mNew (mLst (mCons (mTup (mCons (mC (.str ("word" : PySem.Str))) (mCons (mC (.str ("a1" : PySem.Str))) mNil))) (mCons (mTup (mCons (mC (.str ("sign" : PySem.Str))) (mCons (mC (.str ("," : PySem.Str))) mNil))) (mCons (mTup (mCons (mC (.str ("sign" : PySem.Str))) (mCons (mC (.str ("(" : PySem.Str))) mNil))) (mCons (mTup (mCons (mC (.str ("number" : PySem.Str))) (mCons (mC (.int 2)) mNil))) (mCons (mTup (mCons (mC (.str ("sign" : PySem.Str))) (mCons (mC (.str ("-" : PySem.Str))) mNil))) (mCons (mTup (mCons (mC (.str ("number" : PySem.Str))) (mCons (mC (.int 3)) mNil))) (mCons (mTup (mCons (mC (.str ("sign" : PySem.Str))) (mCons (mC (.str (")" : PySem.Str))) mNil))) (mCons (mTup (mCons (mC (.str ("sign" : PySem.Str))) (mCons (mC (.str ("*" : PySem.Str))) mNil))) mNil))))))))))) [sl 0 (.scr (ns.map .int)), sl 8 (.str TT), sl 9 (.lst D), sl 8 (.tup [.int LN, .int LC]), o4', sl 9 (.lst D), sl 9 (.lst (tightL.map tw)), none, o8, o9, o10, o11, o12] = .ok (.nx [sl 0 (.scr (ns.map .int)), sl 8 (.str TT), sl 9 (.lst D), sl 8 (.tup [.int LN, .int LC]), o4', sl 9 (.lst D), sl 9 (.lst (tightL.map tw)), sl 9 (.lst wanted), o8, o9, o10, o11, o12]) := by
    simp [wanted]
  rw [seq_nx s10]
  clear s10
  refine ⟨[sl 0 (.scr (ns.map .int)), sl 8 (.str TT), sl 9 (.lst D), sl 8 (.tup [.int LN, .int LC]), o4', sl 9 (.lst D), sl 9 (.lst (tightL.map tw)), sl 9 (.lst wanted), o8, o9, o10, o11, o12], ?_⟩
  have ge : gEq (.lst (tightL.map tw)) (.lst (wanted ++ wanted2)) = some (.bl true) := by kernel_rfl
  have wl : wanted.length + 7 ≤ 16777216 := by decide
  have w2 : wanted2 = [.tup [.str ("word" : Str), .str ("t" : Str)], .tup [.str ("sign" : Str), .str ("^" : Str)], .tup [.str ("number" : Str), .int 4], .tup [.str ("sign" : Str), .str ("{" : Str)], .tup [.str ("word" : Str), .str ("X" : Str)], .tup [.str ("sign" : Str), .str ("}" : Str)], .tup [.str ("end" : Str), .str ("" : Str)]] := rfl
  rw [w2] at ge
  generalize tightL.map tw = TL1 at *
  generalize wanted = TL2 at *
  generalize gEq = GE at *
  simp [ge, wl]
end M_ropebook_k00_tokens_of_texts


set_option Elab.async false
set_option linter.all false
set_option maxRecDepth 100000
set_option maxHeartbeats 4000000
namespace M_ropebook_k00_tokens_of_texts
open M PySem PySem.Spec PyProof.Rows L2

def topS (i : Nat) : Stmt := PySem.Challenge.pw_ropebook_k00_tokens_of_texts.main.body.getD i (.Pass ⟨0, 0, 0, 0⟩)
abbrev s_is_digit : Stmt := topS 6
theorem sc_is_digit : FnScope N_is_digit ["character"] (defScope s_is_digit) := ⟨rfl, rfl, rfl, by decide +kernel, rfl, by decide +kernel, by decide +kernel⟩
abbrev s_is_letter : Stmt := topS 4
theorem sc_is_letter : FnScope N_is_letter ["character"] (defScope s_is_letter) := ⟨rfl, rfl, rfl, by decide +kernel, rfl, by decide +kernel, by decide +kernel⟩
abbrev s_run_of_digits : Stmt := topS 12
theorem sc_run_of_digits : FnScope N_run_of_digits ["line", "start"] (defScope s_run_of_digits) := ⟨rfl, rfl, rfl, by decide +kernel, rfl, by decide +kernel, by decide +kernel⟩
abbrev s_number_of_digits : Stmt := topS 14
theorem sc_number_of_digits : FnScope N_number_of_digits ["digits"] (defScope s_number_of_digits) := ⟨rfl, rfl, rfl, by decide +kernel, rfl, by decide +kernel, by decide +kernel⟩
abbrev s_run_of_letters : Stmt := topS 13
theorem sc_run_of_letters : FnScope N_run_of_letters ["line", "start"] (defScope s_run_of_letters) := ⟨rfl, rfl, rfl, by decide +kernel, rfl, by decide +kernel, by decide +kernel⟩
abbrev s_is_any_letter : Stmt := topS 5
theorem sc_is_any_letter : FnScope N_is_any_letter ["character"] (defScope s_is_any_letter) := ⟨rfl, rfl, rfl, by decide +kernel, rfl, by decide +kernel, by decide +kernel⟩
abbrev s_is_alone : Stmt := topS 15
theorem sc_is_alone : FnScope N_is_alone ["line", "at"] (defScope s_is_alone) := ⟨rfl, rfl, rfl, by decide +kernel, rfl, by decide +kernel, by decide +kernel⟩
abbrev s_token_at : Stmt := topS 16
theorem sc_token_at : FnScope N_token_at ["line", "at", "letter"] (defScope s_token_at) := ⟨rfl, rfl, rfl, by decide +kernel, rfl, by decide +kernel, by decide +kernel⟩
abbrev s_scan_line : Stmt := topS 17
theorem sc_scan_line : FnScope N_scan_line ["line", "number", "found", "letter"] (defScope s_scan_line) := ⟨rfl, rfl, rfl, by decide +kernel, rfl, by decide +kernel, by decide +kernel⟩
abbrev s_scan : Stmt := topS 18
theorem sc_scan : FnScope N_scan ["text", "letter"] (defScope s_scan) := ⟨rfl, rfl, rfl, by decide +kernel, rfl, by decide +kernel, by decide +kernel⟩
abbrev s_tokens_of : Stmt := topS 19
theorem sc_tokens_of : FnScope N_tokens_of ["text"] (defScope s_tokens_of) := ⟨rfl, rfl, rfl, by decide +kernel, rfl, by decide +kernel, by decide +kernel⟩
abbrev s_law_draw : Stmt := topS 22
theorem sc_law_draw : FnScope N_law_draw ["cell", "limits"] (defScope s_law_draw) := ⟨rfl, rfl, rfl, by decide +kernel, rfl, by decide +kernel, by decide +kernel⟩
abbrev s_law_token : Stmt := topS 23
theorem sc_law_token : FnScope N_law_token ["cell"] (defScope s_law_token) := ⟨rfl, rfl, rfl, by decide +kernel, rfl, by decide +kernel, by decide +kernel⟩
abbrev s_law_gap : Stmt := topS 25
theorem sc_law_gap : FnScope N_law_gap ["cell"] (defScope s_law_gap) := ⟨rfl, rfl, rfl, by decide +kernel, rfl, by decide +kernel, by decide +kernel⟩
abbrev s_law_after : Stmt := topS 24
theorem sc_law_after : FnScope N_law_after ["line", "column", "text"] (defScope s_law_after) := ⟨rfl, rfl, rfl, by decide +kernel, rfl, by decide +kernel, by decide +kernel⟩
abbrev s_law_cell : Stmt := topS 21
theorem sc_law_cell : FnScope N_law_cell ["script", "k"] (defScope s_law_cell) := ⟨rfl, rfl, rfl, by decide +kernel, rfl, by decide +kernel, by decide +kernel⟩
abbrev s_law : Stmt := topS 26
theorem sc_law : FnScope N_law ["script"] (defScope s_law) := ⟨rfl, rfl, rfl, by decide +kernel, rfl, by decide +kernel, by decide +kernel⟩
/-- what the top has written -/
structure Txt (K : PySem.W.Frag) (mg : Str → Option Value) : Prop where
  d_is_digit : DefM K mg "is_digit" s_is_digit ["character"]
  d_is_letter : DefM K mg "is_letter" s_is_letter ["character"]
  d_run_of_digits : DefM K mg "run_of_digits" s_run_of_digits ["line", "start"]
  d_number_of_digits : DefM K mg "number_of_digits" s_number_of_digits ["digits"]
  d_run_of_letters : DefM K mg "run_of_letters" s_run_of_letters ["line", "start"]
  d_is_any_letter : DefM K mg "is_any_letter" s_is_any_letter ["character"]
  d_is_alone : DefM K mg "is_alone" s_is_alone ["line", "at"]
  d_token_at : DefM K mg "token_at" s_token_at ["line", "at", "letter"]
  d_scan_line : DefM K mg "scan_line" s_scan_line ["line", "number", "found", "letter"]
  d_scan : DefD K mg "scan" s_scan ["text", "letter"] d_scan
  d_tokens_of : DefM K mg "tokens_of" s_tokens_of ["text"]
  d_law_draw : DefM K mg "_law_draw" s_law_draw ["cell", "limits"]
  d_law_token : DefM K mg "_law_token" s_law_token ["cell"]
  d_law_gap : DefM K mg "_law_gap" s_law_gap ["cell"]
  d_law_after : DefM K mg "_law_after" s_law_after ["line", "column", "text"]
  d_law_cell : DefM K mg "_law_cell" s_law_cell ["script", "k"]
  d_law : DefM K mg "law" s_law ["script"]
  g_LONGEST_NUMBER : GlM K mg "LONGEST_NUMBER" g_LONGEST_NUMBER
  g_MOST_NUMBER : GlM K mg "MOST_NUMBER" g_MOST_NUMBER
  g_SIGNS : GlM K mg "SIGNS" g_SIGNS
  n_abs : mg "abs" = none
  n_bool : mg "bool" = none
  n_int : mg "int" = none
  n_isinstance : mg "isinstance" = none
  n_len : mg "len" = none
  n_list : mg "list" = none
  n_max : mg "max" = none
  n_min : mg "min" = none
  n_range : mg "range" = none
  n_str : mg "str" = none
  n_tuple : mg "tuple" = none
  e_BadText : ExM PySem.Challenge.pw_ropebook_k00_tokens_of_texts K mg "BadText" ["line", "column", "reason"] [(("label" : PySem.Str), .c ("BadText" : PySem.Str)), (("line" : PySem.Str), .a 0), (("column" : PySem.Str), .a 1), (("reason" : PySem.Str), .a 2)]
section
variable {w : World} {K : PySem.W.Frag} {mg : Str → Option Value} {base : Heap}
theorem cal_is_digit (T : Txt K mg) : CalM PySem.Challenge.pw_ropebook_k00_tokens_of_texts w K mg base 1 "is_digit" ["character"] 1 F_is_digit := by
  refine cal_ok T.d_is_digit sc_is_digit 1 rfl (fun f cdv A outer s H E hr => ?_)
  have tk := takes_of (X := cxOf (L2.CX PySem.Challenge.pw_ropebook_k00_tokens_of_texts w) PySem.Challenge.pw_ropebook_k00_tokens_of_texts w K mg base N_is_digit "is_digit" (defScope s_is_digit) f cdv A outer s H E) (E := E) rfl rfl rfl rfl
  have hp : PassesOwn _ _ _ (cxOf (L2.CX PySem.Challenge.pw_ropebook_k00_tokens_of_texts w) PySem.Challenge.pw_ropebook_k00_tokens_of_texts w K mg base N_is_digit "is_digit" (defScope s_is_digit) f cdv A outer s H E).xe := passes_of rfl
  exact (sss_one (ss_ret (se_flat (sp_chain op_le_str v_leS op_le_str v_leS sp_str (sp_var (pv 0)) sp_str))))
theorem cal_is_letter (T : Txt K mg) : CalM PySem.Challenge.pw_ropebook_k00_tokens_of_texts w K mg base 1 "is_letter" ["character"] 1 F_is_letter := by
  refine cal_ok T.d_is_letter sc_is_letter 1 rfl (fun f cdv A outer s H E hr => ?_)
  have tk := takes_of (X := cxOf (L2.CX PySem.Challenge.pw_ropebook_k00_tokens_of_texts w) PySem.Challenge.pw_ropebook_k00_tokens_of_texts w K mg base N_is_letter "is_letter" (defScope s_is_letter) f cdv A outer s H E) (E := E) rfl rfl rfl rfl
  have hp : PassesOwn _ _ _ (cxOf (L2.CX PySem.Challenge.pw_ropebook_k00_tokens_of_texts w) PySem.Challenge.pw_ropebook_k00_tokens_of_texts w K mg base N_is_letter "is_letter" (defScope s_is_letter) f cdv A outer s H E).xe := passes_of rfl
  exact (sss_one (ss_ret (se_flat (sp_chain op_le_str v_leS op_le_str v_leS sp_str (sp_var (pv 0)) sp_str))))
theorem cal_run_of_digits (T : Txt K mg) : CalM PySem.Challenge.pw_ropebook_k00_tokens_of_texts w K mg base 2 "run_of_digits" ["line", "start"] 2 F_run_of_digits := by
  refine cal_ok T.d_run_of_digits sc_run_of_digits 2 rfl (fun f cdv A outer s H E hr => ?_)
  have tk := takes_of (X := cxOf (L2.CX PySem.Challenge.pw_ropebook_k00_tokens_of_texts w) PySem.Challenge.pw_ropebook_k00_tokens_of_texts w K mg base N_run_of_digits "run_of_digits" (defScope s_run_of_digits) f cdv A outer s H E) (E := E) rfl rfl rfl rfl
  have hp : PassesOwn _ _ _ (cxOf (L2.CX PySem.Challenge.pw_ropebook_k00_tokens_of_texts w) PySem.Challenge.pw_ropebook_k00_tokens_of_texts w K mg base N_run_of_digits "run_of_digits" (defScope s_run_of_digits) f cdv A outer s H E).xe := passes_of rfl
  exact (sss_cons (ss_set (i := 2) (se_flat (sp_var (pv 1))) sc_run_of_digits.nd rfl (by first | exact .inl rfl | exact .inr rfl))
 (sss_cons (ss_while 1000000 hp (spt_w (spw_and (spt_cmp op_lt v_lt (sp_var (pv 2)) (fn_sp v_len (pe_callB call_len (by rfl) T.n_len PySem.boot_len (sps_cons (sp_var (pv 0)) sps_nil))) (nomark _)) (spw_and1 (spt_val (sp_cal (cal_is_digit T) tk hr (by decide) (sps_cons (sp_ixS (sp_var (pv 0)) (sp_var (pv 2))) sps_nil))))))
 (sss_one (ss_aug (i := 2) ip_add v_ip_add sc_run_of_digits.nd rfl (by first | exact .inl rfl | exact .inr rfl) sp_int)))
 (sss_one (ss_ret (se_flat (sp_var (pv 2)))))))
theorem cal_number_of_digits (T : Txt K mg) : CalM PySem.Challenge.pw_ropebook_k00_tokens_of_texts w K mg base 1 "number_of_digits" ["digits"] 1 F_number_of_digits := by
  refine cal_ok T.d_number_of_digits sc_number_of_digits 1 rfl (fun f cdv A outer s H E hr => ?_)
  have tk := takes_of (X := cxOf (L2.CX PySem.Challenge.pw_ropebook_k00_tokens_of_texts w) PySem.Challenge.pw_ropebook_k00_tokens_of_texts w K mg base N_number_of_digits "number_of_digits" (defScope s_number_of_digits) f cdv A outer s H E) (E := E) rfl rfl rfl rfl
  have hp : PassesOwn _ _ _ (cxOf (L2.CX PySem.Challenge.pw_ropebook_k00_tokens_of_texts w) PySem.Challenge.pw_ropebook_k00_tokens_of_texts w K mg base N_number_of_digits "number_of_digits" (defScope s_number_of_digits) f cdv A outer s H E).xe := passes_of rfl
  exact (sss_cons (ss_if (spt_w (spw_or (spt_cmp op_gt v_gt (fn_sp v_len (pe_callB call_len (by rfl) T.n_len PySem.boot_len (sps_cons (sp_var (pv 0)) sps_nil))) (sp_gl T.g_LONGEST_NUMBER) (nomark _)) (spw_or1 (spt_w (spw_and (spt_cmp op_gt v_gt (fn_sp v_len (pe_callB call_len (by rfl) T.n_len PySem.boot_len (sps_cons (sp_var (pv 0)) sps_nil))) sp_int (nomark _)) (spw_and1 (spt_cmp op_eq v_eqT (sp_ixS (sp_var (pv 0)) sp_int) sp_str (nomark _))))))))
 (sss_one (ss_ret (se_flat sp_non)))
 sss_nil)
 (sss_cons (ss_set (i := 1) (se_flat (fn_sp v_intT (pe_callTy call_int_str (by rfl) T.n_int (by first | rfl | decide +kernel) (sps_cons (sp_var (pv 0)) sps_nil)))) sc_number_of_digits.nd rfl (by first | exact .inl rfl | exact .inr rfl))
 (sss_cons (ss_if (spt_cmp op_gt v_gt (sp_var (pv 1)) (sp_gl T.g_MOST_NUMBER) (nomark _))
 (sss_one (ss_ret (se_flat sp_non)))
 sss_nil)
 (sss_one (ss_ret (se_flat (sp_var (pv 1))))))))
theorem cal_run_of_letters (T : Txt K mg) : CalM PySem.Challenge.pw_ropebook_k00_tokens_of_texts w K mg base 2 "run_of_letters" ["line", "start"] 2 F_run_of_letters := by
  refine cal_ok T.d_run_of_letters sc_run_of_letters 2 rfl (fun f cdv A outer s H E hr => ?_)
  have tk := takes_of (X := cxOf (L2.CX PySem.Challenge.pw_ropebook_k00_tokens_of_texts w) PySem.Challenge.pw_ropebook_k00_tokens_of_texts w K mg base N_run_of_letters "run_of_letters" (defScope s_run_of_letters) f cdv A outer s H E) (E := E) rfl rfl rfl rfl
  have hp : PassesOwn _ _ _ (cxOf (L2.CX PySem.Challenge.pw_ropebook_k00_tokens_of_texts w) PySem.Challenge.pw_ropebook_k00_tokens_of_texts w K mg base N_run_of_letters "run_of_letters" (defScope s_run_of_letters) f cdv A outer s H E).xe := passes_of rfl
  exact (sss_cons (ss_set (i := 2) (se_flat (sp_var (pv 1))) sc_run_of_letters.nd rfl (by first | exact .inl rfl | exact .inr rfl))
 (sss_cons (ss_while 1000000 hp (spt_w (spw_and (spt_cmp op_lt v_lt (sp_var (pv 2)) (fn_sp v_len (pe_callB call_len (by rfl) T.n_len PySem.boot_len (sps_cons (sp_var (pv 0)) sps_nil))) (nomark _)) (spw_and1 (spt_w (spw_or (spt_val (sp_cal (cal_is_letter T) tk hr (by decide) (sps_cons (sp_ixS (sp_var (pv 0)) (sp_var (pv 2))) sps_nil))) (spw_or1 (spt_val (sp_cal (cal_is_digit T) tk hr (by decide) (sps_cons (sp_ixS (sp_var (pv 0)) (sp_var (pv 2))) sps_nil)))))))))
 (sss_one (ss_aug (i := 2) ip_add v_ip_add sc_run_of_letters.nd rfl (by first | exact .inl rfl | exact .inr rfl) sp_int)))
 (sss_one (ss_ret (se_flat (sp_var (pv 2)))))))
theorem cal_is_any_letter (T : Txt K mg) : CalM PySem.Challenge.pw_ropebook_k00_tokens_of_texts w K mg base 2 "is_any_letter" ["character"] 1 F_is_any_letter := by
  refine cal_ok T.d_is_any_letter sc_is_any_letter 1 rfl (fun f cdv A outer s H E hr => ?_)
  have tk := takes_of (X := cxOf (L2.CX PySem.Challenge.pw_ropebook_k00_tokens_of_texts w) PySem.Challenge.pw_ropebook_k00_tokens_of_texts w K mg base N_is_any_letter "is_any_letter" (defScope s_is_any_letter) f cdv A outer s H E) (E := E) rfl rfl rfl rfl
  have hp : PassesOwn _ _ _ (cxOf (L2.CX PySem.Challenge.pw_ropebook_k00_tokens_of_texts w) PySem.Challenge.pw_ropebook_k00_tokens_of_texts w K mg base N_is_any_letter "is_any_letter" (defScope s_is_any_letter) f cdv A outer s H E).xe := passes_of rfl
  exact (sss_one (ss_ret (se_flat (sp_or (sp_cal (cal_is_letter T) tk hr (by decide) (sps_cons (sp_var (pv 0)) sps_nil)) (sp_one (sp_chain op_le_str v_leS op_le_str v_leS sp_str (sp_var (pv 0)) sp_str))))))
theorem cal_is_alone (T : Txt K mg) : CalM PySem.Challenge.pw_ropebook_k00_tokens_of_texts w K mg base 3 "is_alone" ["line", "at"] 2 F_is_alone := by
  refine cal_ok T.d_is_alone sc_is_alone 2 rfl (fun f cdv A outer s H E hr => ?_)
  have tk := takes_of (X := cxOf (L2.CX PySem.Challenge.pw_ropebook_k00_tokens_of_texts w) PySem.Challenge.pw_ropebook_k00_tokens_of_texts w K mg base N_is_alone "is_alone" (defScope s_is_alone) f cdv A outer s H E) (E := E) rfl rfl rfl rfl
  have hp : PassesOwn _ _ _ (cxOf (L2.CX PySem.Challenge.pw_ropebook_k00_tokens_of_texts w) PySem.Challenge.pw_ropebook_k00_tokens_of_texts w K mg base N_is_alone "is_alone" (defScope s_is_alone) f cdv A outer s H E).xe := passes_of rfl
  exact (sss_one (ss_ret (se_flat (sp_or (sp_cmp op_eq v_eqI (sp_bin op_add v_add (sp_var (pv 1)) sp_int) (fn_sp v_len (pe_callB call_len (by rfl) T.n_len PySem.boot_len (sps_cons (sp_var (pv 0)) sps_nil))) (nomark _)) (sp_one (sp_not (sp_or (sp_cal (cal_is_any_letter T) tk hr (by decide) (sps_cons (sp_ixS (sp_var (pv 0)) (sp_bin op_add v_add (sp_var (pv 1)) sp_int)) sps_nil)) (sp_one (sp_cal (cal_is_digit T) tk hr (by decide) (sps_cons (sp_ixS (sp_var (pv 0)) (sp_bin op_add v_add (sp_var (pv 1)) sp_int)) sps_nil))))))))))
theorem cal_token_at (T : Txt K mg) : CalM PySem.Challenge.pw_ropebook_k00_tokens_of_texts w K mg base 4 "token_at" ["line", "at", "letter"] 3 F_token_at := by
  refine cal_ok T.d_token_at sc_token_at 3 rfl (fun f cdv A outer s H E hr => ?_)
  have tk := takes_of (X := cxOf (L2.CX PySem.Challenge.pw_ropebook_k00_tokens_of_texts w) PySem.Challenge.pw_ropebook_k00_tokens_of_texts w K mg base N_token_at "token_at" (defScope s_token_at) f cdv A outer s H E) (E := E) rfl rfl rfl rfl
  have hp : PassesOwn _ _ _ (cxOf (L2.CX PySem.Challenge.pw_ropebook_k00_tokens_of_texts w) PySem.Challenge.pw_ropebook_k00_tokens_of_texts w K mg base N_token_at "token_at" (defScope s_token_at) f cdv A outer s H E).xe := passes_of rfl
  exact (sss_cons (ss_set (i := 3) (se_flat (sp_ixS (sp_var (pv 0)) (sp_var (pv 1)))) sc_token_at.nd rfl (by first | exact .inl rfl | exact .inr rfl))
 (sss_cons (ss_if (spt_val (sp_cal (cal_is_digit T) tk hr (by decide) (sps_cons (sp_var (pv 3)) sps_nil)))
 (sss_cons (ss_set (i := 4) (se_flat (sp_cal (cal_run_of_digits T) tk hr (by decide) (sps_cons (sp_var (pv 0)) (sps_cons (sp_var (pv 1)) sps_nil)))) sc_token_at.nd rfl (by first | exact .inl rfl | exact .inr rfl))
 (sss_cons (ss_set (i := 5) (se_flat (sp_cal (cal_number_of_digits T) tk hr (by decide) (sps_cons (sp_slcS (sp_var (pv 0)) (spo_some (sp_var (pv 1))) (spo_some (sp_var (pv 4)))) sps_nil))) sc_token_at.nd rfl (by first | exact .inl rfl | exact .inr rfl))
 (sss_cons (ss_if (spt_w (spw_or (spt_cmp op_isN v_isN (sp_var (pv 5)) sp_non (nomark _)) (spw_or1 (spt_w (spw_and (spt_cmp op_lt v_lt (sp_var (pv 4)) (fn_sp v_len (pe_callB call_len (by rfl) T.n_len PySem.boot_len (sps_cons (sp_var (pv 0)) sps_nil))) (nomark _)) (spw_and1 (spt_val (sp_cal (cal_is_any_letter T) tk hr (by decide) (sps_cons (sp_ixS (sp_var (pv 0)) (sp_var (pv 4))) sps_nil)))))))))
 (sss_one (ss_ret (se_flat sp_non)))
 sss_nil)
 (sss_one (ss_ret (se_flat (sp_tup (sps_cons sp_str (sps_cons (sp_var (pv 5)) (sps_cons (sp_var (pv 4)) sps_nil))))))))))
 sss_nil)
 (sss_cons (ss_if (spt_val (sp_cal (cal_is_letter T) tk hr (by decide) (sps_cons (sp_var (pv 3)) sps_nil)))
 (sss_cons (ss_set (i := 4) (se_flat (sp_cal (cal_run_of_letters T) tk hr (by decide) (sps_cons (sp_var (pv 0)) (sps_cons (sp_var (pv 1)) sps_nil)))) sc_token_at.nd rfl (by first | exact .inl rfl | exact .inr rfl))
 (sss_one (ss_ret (se_flat (sp_tup (sps_cons sp_str (sps_cons (sp_slcS (sp_var (pv 0)) (spo_some (sp_var (pv 1))) (spo_some (sp_var (pv 4)))) (sps_cons (sp_var (pv 4)) sps_nil))))))))
 sss_nil)
 (sss_cons (ss_if (spt_cmp op_eq v_eqT (sp_var (pv 3)) (sp_var (pv 2)) (nomark _))
 (sss_one (ss_ret (se_flat (sp_if (spt_val (sp_cal (cal_is_alone T) tk hr (by decide) (sps_cons (sp_var (pv 0)) (sps_cons (sp_var (pv 1)) sps_nil)))) (sp_tup (sps_cons sp_str (sps_cons (sp_var (pv 3)) (sps_cons (sp_bin op_add v_add (sp_var (pv 1)) sp_int) sps_nil)))) sp_non))))
 sss_nil)
 (sss_cons (ss_if (spt_cmp op_in_sign v_inC (sp_var (pv 3)) (sp_gl T.g_SIGNS) (by rfl))
 (sss_one (ss_ret (se_flat (sp_tup (sps_cons sp_str (sps_cons (sp_var (pv 3)) (sps_cons (sp_bin op_add v_add (sp_var (pv 1)) sp_int) sps_nil)))))))
 sss_nil)
 (sss_one (ss_ret (se_flat sp_non))))))))
theorem cal_scan_line (T : Txt K mg) : CalIO PySem.Challenge.pw_ropebook_k00_tokens_of_texts w K mg base 5 "scan_line" ["line", "number", "found", "letter"] 4 2 F_scan_line := by
  refine cal_okIO T.d_scan_line sc_scan_line 4 2 rfl (fun f cdv A outer s H E hr => ?_)
  have tk := takes_of (X := cxOf (L2.CX PySem.Challenge.pw_ropebook_k00_tokens_of_texts w) PySem.Challenge.pw_ropebook_k00_tokens_of_texts w K mg base N_scan_line "scan_line" (defScope s_scan_line) f cdv A outer s H E) (E := E) rfl rfl rfl rfl
  have hp : PassesOwn _ _ _ (cxOf (L2.CX PySem.Challenge.pw_ropebook_k00_tokens_of_texts w) PySem.Challenge.pw_ropebook_k00_tokens_of_texts w K mg base N_scan_line "scan_line" (defScope s_scan_line) f cdv A outer s H E).xe := passes_of rfl
  exact (sss_cons (ss_set (i := 4) (se_flat sp_int) sc_scan_line.nd rfl (by first | exact .inl rfl | exact .inr rfl))
 (sss_cons (ss_while 1000000 hp (spt_cmp op_lt v_lt (sp_var (pv 4)) (fn_sp v_len (pe_callB call_len (by rfl) T.n_len PySem.boot_len (sps_cons (sp_var (pv 0)) sps_nil))) (nomark _))
 (sss_cons (ss_if (spt_cmp op_eq v_eqT (sp_ixS (sp_var (pv 0)) (sp_var (pv 4))) sp_str (nomark _))
 (sss_one (ss_ret (se_flat sp_int)))
 sss_nil)
 (sss_one (ss_if (spt_cmp op_eq v_eqT (sp_ixS (sp_var (pv 0)) (sp_var (pv 4))) sp_str (nomark _))
 (sss_one (ss_aug (i := 4) ip_add v_ip_add sc_scan_line.nd rfl (by first | exact .inl rfl | exact .inr rfl) sp_int))
 (sss_cons (ss_set (i := 5) (se_flat (sp_cal (cal_token_at T) tk hr (by decide) (sps_cons (sp_var (pv 0)) (sps_cons (sp_var (pv 4)) (sps_cons (sp_var (pv 3)) sps_nil))))) sc_scan_line.nd rfl (by first | exact .inl rfl | exact .inr rfl))
 (sss_cons (ss_if (spt_cmp op_isN v_isN (sp_var (pv 5)) sp_non (nomark _))
 (sss_one (ss_ret (se_flat (sp_bin op_add v_add (sp_var (pv 4)) sp_int))))
 sss_nil)
 (sss_cons (ss_app (pv 2) (se_flat (sp_tup (sps_cons (sp_ixT (sp_var (pv 5)) sp_int) (sps_cons (sp_ixT (sp_var (pv 5)) sp_int) (sps_cons (sp_var (pv 1)) (sps_cons (sp_bin op_add v_add (sp_var (pv 4)) sp_int) sps_nil)))))))
 (sss_one (ss_set (i := 4) (se_flat (sp_ixT (sp_var (pv 5)) sp_int)) sc_scan_line.nd rfl (by first | exact .inl rfl | exact .inr rfl))))))))))
 (sss_one (ss_ret (se_flat sp_int)))))
theorem cal_scan (T : Txt K mg) : CalD PySem.Challenge.pw_ropebook_k00_tokens_of_texts w K mg base 6 "scan" ["text", "letter"] 2 d_scan F_scan := by
  refine cal_okD T.d_scan sc_scan 2 rfl (fun f cdv A outer s H E hr => ?_)
  have tk := takes_of (X := cxOf (L2.CX PySem.Challenge.pw_ropebook_k00_tokens_of_texts w) PySem.Challenge.pw_ropebook_k00_tokens_of_texts w K mg base N_scan "scan" (defScope s_scan) f cdv A outer s H E) (E := E) rfl rfl rfl rfl
  have hp : PassesOwn _ _ _ (cxOf (L2.CX PySem.Challenge.pw_ropebook_k00_tokens_of_texts w) PySem.Challenge.pw_ropebook_k00_tokens_of_texts w K mg base N_scan "scan" (defScope s_scan) f cdv A outer s H E).xe := passes_of rfl
  exact (sss_cons (ss_set (i := 2) (se_new (sp_split (sp_var (pv 0)) sp_str)) sc_scan.nd rfl (by first | exact .inl rfl | exact .inr rfl))
 (sss_cons (ss_set (i := 3) (se_new (sp_lst sps_nil)) sc_scan.nd rfl (by first | exact .inl rfl | exact .inr rfl))
 (sss_cons (ss_set (i := 4) (se_flat sp_int) sc_scan.nd rfl (by first | exact .inl rfl | exact .inr rfl))
 (sss_cons (ss_forL hp rfl (se_frz (pv 2)) (sg_name (pg_name (i := 5) sc_scan.nd rfl (by first | exact .inl rfl | exact .inr rfl)))
 (sss_cons (ss_aug (i := 4) ip_add v_ip_add sc_scan.nd rfl (by first | exact .inl rfl | exact .inr rfl) sp_int)
 (sss_cons (ss_set (i := 6) (se_calIO (cal_scan_line T) tk hr (by decide) (spj_next (sp_var (pv 5)) (spj_next (sp_var (pv 4)) (spj_here (pv 3) (sps_cons (sp_var (pv 1)) sps_nil))))) sc_scan.nd rfl (by first | exact .inl rfl | exact .inr rfl))
 (sss_one (ss_if (spt_cmp op_gt v_gt (sp_var (pv 6)) sp_int (nomark _))
 (sss_cons (ss_app (pv 3) (se_flat (sp_tup (sps_cons sp_str (sps_cons sp_str (sps_cons (sp_var (pv 4)) (sps_cons (sp_var (pv 6)) sps_nil)))))))
 (sss_one (ss_ret (se_move (pv 3)))))
 sss_nil)))))
 (sss_cons (ss_app (pv 3) (se_flat (sp_tup (sps_cons sp_str (sps_cons sp_str (sps_cons (sp_var (pv 4)) (sps_cons (sp_bin op_add v_add (fn_sp v_len (pe_callB call_len (by rfl) T.n_len PySem.boot_len (sps_cons (sp_ixL (sp_var (pv 2)) (sp_un un_neg v_neg sp_int)) sps_nil))) sp_int) sps_nil)))))))
 (sss_one (ss_ret (se_move (pv 3)))))))))
theorem cal_tokens_of (T : Txt K mg) : CalM PySem.Challenge.pw_ropebook_k00_tokens_of_texts w K mg base 7 "tokens_of" ["text"] 1 F_tokens_of := by
  refine cal_ok T.d_tokens_of sc_tokens_of 1 rfl (fun f cdv A outer s H E hr => ?_)
  have tk := takes_of (X := cxOf (L2.CX PySem.Challenge.pw_ropebook_k00_tokens_of_texts w) PySem.Challenge.pw_ropebook_k00_tokens_of_texts w K mg base N_tokens_of "tokens_of" (defScope s_tokens_of) f cdv A outer s H E) (E := E) rfl rfl rfl rfl
  have hp : PassesOwn _ _ _ (cxOf (L2.CX PySem.Challenge.pw_ropebook_k00_tokens_of_texts w) PySem.Challenge.pw_ropebook_k00_tokens_of_texts w K mg base N_tokens_of "tokens_of" (defScope s_tokens_of) f cdv A outer s H E).xe := passes_of rfl
  exact (sss_cons (ss_set (i := 1) (se_calD (cal_scan T) hr (by decide) (sps_cons (sp_var (pv 0)) sps_nil)) sc_tokens_of.nd rfl (by first | exact .inl rfl | exact .inr rfl))
 (sss_cons (ss_set (i := 2) (se_flat (sp_ixL (sp_var (pv 1)) (sp_un un_neg v_neg sp_int))) sc_tokens_of.nd rfl (by first | exact .inl rfl | exact .inr rfl))
 (sss_cons (ss_if (spt_cmp op_eq v_eqT (sp_ixT (sp_var (pv 2)) sp_int) sp_str (nomark _))
 (sss_one (ss_raiseM T.e_BadText (by simp) rfl tk hr (sps_cons (sp_ixT (sp_var (pv 2)) sp_int) (sps_cons (sp_ixT (sp_var (pv 2)) sp_int) (sps_cons sp_str sps_nil)))))
 sss_nil)
 (sss_one (ss_ret (se_move (pv 1)))))))
theorem cal_law_draw (T : Txt K mg) : CalM PySem.Challenge.pw_ropebook_k00_tokens_of_texts w K mg base 1 "_law_draw" ["cell", "limits"] 2 F_law_draw := by
  refine cal_ok T.d_law_draw sc_law_draw 2 rfl (fun f cdv A outer s H E hr => ?_)
  have tk := takes_of (X := cxOf (L2.CX PySem.Challenge.pw_ropebook_k00_tokens_of_texts w) PySem.Challenge.pw_ropebook_k00_tokens_of_texts w K mg base N_law_draw "_law_draw" (defScope s_law_draw) f cdv A outer s H E) (E := E) rfl rfl rfl rfl
  have hp : PassesOwn _ _ _ (cxOf (L2.CX PySem.Challenge.pw_ropebook_k00_tokens_of_texts w) PySem.Challenge.pw_ropebook_k00_tokens_of_texts w K mg base N_law_draw "_law_draw" (defScope s_law_draw) f cdv A outer s H E).xe := passes_of rfl
  exact (sss_cons (ss_set (i := 2) (se_new (sp_lst sps_nil)) sc_law_draw.nd rfl (by first | exact .inl rfl | exact .inr rfl))
 (sss_cons (ss_set (i := 3) (se_flat (fn_sp v_abs (pe_callB call_abs (by rfl) T.n_abs (by first | rfl | decide +kernel) (sps_cons (sp_var (pv 0)) sps_nil)))) sc_law_draw.nd rfl (by first | exact .inl rfl | exact .inr rfl))
 (sss_cons (ss_set (i := 4) (se_flat (sp_cmp op_ge v_ge (sp_var (pv 3)) sp_int (nomark _))) sc_law_draw.nd rfl (by first | exact .inl rfl | exact .inr rfl))
 (sss_cons (ss_forR1 hp rfl (by rfl) T.n_range (sps_cons (fn_sp v_len (pe_callB call_len (by rfl) T.n_len PySem.boot_len (sps_cons (sp_var (pv 1)) sps_nil))) sps_nil) (sg_name (pg_name (i := 5) sc_law_draw.nd rfl (by first | exact .inl rfl | exact .inr rfl)))
 (sss_one (ss_if (spt_w (spw_and (spt_val (sp_var (pv 4))) (spw_and1 (spt_cmp op_ge v_ge (sp_var (pv 3)) (sp_ixL (sp_var (pv 1)) (sp_var (pv 5))) (nomark _)))))
 (sss_cons (ss_app (pv 2) (se_flat (sp_bin op_modN v_mod (fn_sp v_int (pe_callTy call_int1 (by rfl) T.n_int (by first | rfl | decide +kernel) (sps_cons (sp_var (pv 3)) sps_nil))) (sp_ixL (sp_var (pv 1)) (sp_var (pv 5))))))
 (sss_one (ss_set (i := 3) (se_flat (sp_bin op_fdivN v_div (sp_var (pv 3)) (sp_ixL (sp_var (pv 1)) (sp_var (pv 5))))) sc_law_draw.nd rfl (by first | exact .inl rfl | exact .inr rfl))))
 (sss_cons (ss_set (i := 6) (se_flat (sp_bin op_modN v_mod (fn_sp v_int (pe_callTy call_int1 (by rfl) T.n_int (by first | rfl | decide +kernel) (sps_cons (sp_bin op_add v_add (sp_bin op_mul v_mul (fn_sp v_abs (pe_callB call_abs (by rfl) T.n_abs (by first | rfl | decide +kernel) (sps_cons (sp_var (pv 0)) sps_nil))) sp_int) (sp_bin op_mul v_mul (sp_bin op_add v_add (sp_var (pv 5)) sp_int) sp_int)) sps_nil))) sp_int)) sc_law_draw.nd rfl (by first | exact .inl rfl | exact .inr rfl))
 (sss_cons (ss_set (i := 6) (se_flat (sp_bin op_modN v_mod (fn_sp v_int (pe_callTy call_int1 (by rfl) T.n_int (by first | rfl | decide +kernel) (sps_cons (sp_bin op_add v_add (sp_bin op_mul v_mul (sp_var (pv 6)) sp_int) (sp_bin op_mul v_mul (sp_bin op_add v_add (sp_var (pv 5)) sp_int) sp_int)) sps_nil))) sp_int)) sc_law_draw.nd rfl (by first | exact .inl rfl | exact .inr rfl))
 (sss_one (ss_app (pv 2) (se_flat (sp_bin op_modN v_mod (fn_sp v_int (pe_callTy call_int1 (by rfl) T.n_int (by first | rfl | decide +kernel) (sps_cons (sp_var (pv 6)) sps_nil))) (sp_ixL (sp_var (pv 1)) (sp_var (pv 5))))))))))))
 (sss_one (ss_ret (se_move (pv 2))))))))
theorem cal_law_token (T : Txt K mg) : CalM PySem.Challenge.pw_ropebook_k00_tokens_of_texts w K mg base 2 "_law_token" ["cell"] 1 F_law_token := by
  refine cal_ok T.d_law_token sc_law_token 1 rfl (fun f cdv A outer s H E hr => ?_)
  have tk := takes_of (X := cxOf (L2.CX PySem.Challenge.pw_ropebook_k00_tokens_of_texts w) PySem.Challenge.pw_ropebook_k00_tokens_of_texts w K mg base N_law_token "_law_token" (defScope s_law_token) f cdv A outer s H E) (E := E) rfl rfl rfl rfl
  have hp : PassesOwn _ _ _ (cxOf (L2.CX PySem.Challenge.pw_ropebook_k00_tokens_of_texts w) PySem.Challenge.pw_ropebook_k00_tokens_of_texts w K mg base N_law_token "_law_token" (defScope s_law_token) f cdv A outer s H E).xe := passes_of rfl
  exact (sss_cons (ss_set (i := 1) (se_cal (cal_law_draw T) tk hr (by decide) (sps_cons (sp_var (pv 0)) (sps_cons (sp_ofF (sp_lst (sps_cons sp_int (sps_cons sp_int (sps_cons sp_int (sps_cons sp_int (sps_cons sp_int (sps_cons sp_int (sps_cons sp_int sps_nil))))))))) sps_nil))) sc_law_token.nd rfl (by first | exact .inl rfl | exact .inr rfl))
 (sss_cons (ss_set (i := 2) (se_flat sp_str) sc_law_token.nd rfl (by first | exact .inl rfl | exact .inr rfl))
 (sss_cons (ss_if (spt_w (spw_and (spt_cmp op_eq v_eqI (sp_ixL (sp_var (pv 1)) sp_int) sp_int (nomark _)) (spw_and1 (spt_cmp op_eq v_eqI (sp_ixL (sp_var (pv 1)) sp_int) sp_int (nomark _)))))
 (sss_one (ss_ret (se_flat (sp_tup (sps_cons sp_str (sps_cons sp_str sps_nil))))))
 sss_nil)
 (sss_cons (ss_if (spt_cmp op_eq v_eqI (sp_ixL (sp_var (pv 1)) sp_int) sp_int (nomark _))
 (sss_one (ss_ret (se_flat (sp_tup (sps_cons sp_str (sps_cons (sp_slcS (sp_bin op_add_str v_addS (sp_bin op_add_str v_addS (sp_ixS (sp_var (pv 2)) (sp_ixL (sp_var (pv 1)) sp_int)) (sp_ixS (sp_var (pv 2)) (sp_ixL (sp_var (pv 1)) sp_int))) (sp_ixS (sp_var (pv 2)) (sp_ixL (sp_var (pv 1)) sp_int))) spo_none (spo_some (sp_bin op_add v_add sp_int (sp_bin op_modN v_mod (fn_sp v_int (pe_callTy call_int1 (by rfl) T.n_int (by first | rfl | decide +kernel) (sps_cons (sp_ixL (sp_var (pv 1)) sp_int) sps_nil))) sp_int)))) sps_nil))))))
 sss_nil)
 (sss_cons (ss_if (spt_cmp op_eq v_eqI (sp_ixL (sp_var (pv 1)) sp_int) sp_int (nomark _))
 (sss_one (ss_ret (se_flat (sp_tup (sps_cons sp_str (sps_cons (sp_ixL (sp_ofF (sp_lst (sps_cons (sp_ixL (sp_var (pv 1)) sp_int) (sps_cons sp_int (sps_cons (sp_bin op_modN v_mod (fn_sp v_int (pe_callTy call_int1 (by rfl) T.n_int (by first | rfl | decide +kernel) (sps_cons (sp_ixL (sp_var (pv 1)) sp_int) sps_nil))) sp_int) (sps_cons sp_int (sps_cons (sp_bin op_modN v_mod (fn_sp v_int (pe_callTy call_int1 (by rfl) T.n_int (by first | rfl | decide +kernel) (sps_cons (sp_ixL (sp_var (pv 1)) sp_int) sps_nil))) sp_int) sps_nil))))))) (sp_ixL (sp_var (pv 1)) sp_int)) sps_nil))))))
 sss_nil)
 (sss_one (ss_ret (se_flat (sp_tup (sps_cons sp_str (sps_cons (sp_ixS sp_str (sp_ixL (sp_var (pv 1)) sp_int)) sps_nil)))))))))))
theorem cal_law_gap (T : Txt K mg) : CalM PySem.Challenge.pw_ropebook_k00_tokens_of_texts w K mg base 1 "_law_gap" ["cell"] 1 F_law_gap := by
  refine cal_ok T.d_law_gap sc_law_gap 1 rfl (fun f cdv A outer s H E hr => ?_)
  have tk := takes_of (X := cxOf (L2.CX PySem.Challenge.pw_ropebook_k00_tokens_of_texts w) PySem.Challenge.pw_ropebook_k00_tokens_of_texts w K mg base N_law_gap "_law_gap" (defScope s_law_gap) f cdv A outer s H E) (E := E) rfl rfl rfl rfl
  have hp : PassesOwn _ _ _ (cxOf (L2.CX PySem.Challenge.pw_ropebook_k00_tokens_of_texts w) PySem.Challenge.pw_ropebook_k00_tokens_of_texts w K mg base N_law_gap "_law_gap" (defScope s_law_gap) f cdv A outer s H E).xe := passes_of rfl
  exact (sss_one (ss_ret (se_flat (sp_ixL (sp_ofF (sp_lst (sps_cons sp_str (sps_cons sp_str (sps_cons sp_str (sps_cons sp_str (sps_cons sp_str (sps_cons sp_str sps_nil)))))))) (sp_bin op_modN v_mod (fn_sp v_int (pe_callTy call_int1 (by rfl) T.n_int (by first | rfl | decide +kernel) (sps_cons (sp_var (pv 0)) sps_nil))) sp_int)))))
theorem cal_law_after (T : Txt K mg) : CalM PySem.Challenge.pw_ropebook_k00_tokens_of_texts w K mg base 1 "_law_after" ["line", "column", "text"] 3 F_law_after := by
  refine cal_ok T.d_law_after sc_law_after 3 rfl (fun f cdv A outer s H E hr => ?_)
  have tk := takes_of (X := cxOf (L2.CX PySem.Challenge.pw_ropebook_k00_tokens_of_texts w) PySem.Challenge.pw_ropebook_k00_tokens_of_texts w K mg base N_law_after "_law_after" (defScope s_law_after) f cdv A outer s H E) (E := E) rfl rfl rfl rfl
  have hp : PassesOwn _ _ _ (cxOf (L2.CX PySem.Challenge.pw_ropebook_k00_tokens_of_texts w) PySem.Challenge.pw_ropebook_k00_tokens_of_texts w K mg base N_law_after "_law_after" (defScope s_law_after) f cdv A outer s H E).xe := passes_of rfl
  exact (sss_cons (ss_forR1 hp rfl (by rfl) T.n_range (sps_cons (fn_sp v_len (pe_callB call_len (by rfl) T.n_len PySem.boot_len (sps_cons (sp_var (pv 2)) sps_nil))) sps_nil) (sg_name (pg_name (i := 3) sc_law_after.nd rfl (by first | exact .inl rfl | exact .inr rfl)))
 (sss_one (ss_if (spt_cmp op_eq v_eqT (sp_ixS (sp_var (pv 2)) (sp_var (pv 3))) sp_str (nomark _))
 (sss_cons (ss_set (i := 0) (se_flat (sp_bin op_add v_add (sp_var (pv 0)) sp_int)) sc_law_after.nd rfl (by first | exact .inl rfl | exact .inr rfl))
 (sss_one (ss_set (i := 1) (se_flat sp_int) sc_law_after.nd rfl (by first | exact .inl rfl | exact .inr rfl))))
 (sss_one (ss_set (i := 1) (se_flat (sp_bin op_add v_add (sp_var (pv 1)) sp_int)) sc_law_after.nd rfl (by first | exact .inl rfl | exact .inr rfl))))))
 (sss_one (ss_ret (se_flat (sp_tup (sps_cons (sp_var (pv 0)) (sps_cons (sp_var (pv 1)) sps_nil)))))))
theorem cal_law_cell (T : Txt K mg) : CalM PySem.Challenge.pw_ropebook_k00_tokens_of_texts w K mg base 1 "_law_cell" ["script", "k"] 2 F_law_cell := by
  refine cal_ok T.d_law_cell sc_law_cell 2 rfl (fun f cdv A outer s H E hr => ?_)
  have tk := takes_of (X := cxOf (L2.CX PySem.Challenge.pw_ropebook_k00_tokens_of_texts w) PySem.Challenge.pw_ropebook_k00_tokens_of_texts w K mg base N_law_cell "_law_cell" (defScope s_law_cell) f cdv A outer s H E) (E := E) rfl rfl rfl rfl
  have hp : PassesOwn _ _ _ (cxOf (L2.CX PySem.Challenge.pw_ropebook_k00_tokens_of_texts w) PySem.Challenge.pw_ropebook_k00_tokens_of_texts w K mg base N_law_cell "_law_cell" (defScope s_law_cell) f cdv A outer s H E).xe := passes_of rfl
  exact (sss_cons (ss_if (spt_cmp op_lt v_lt (sp_var (pv 1)) (fn_sp v_len (pe_callB call_len (by rfl) T.n_len PySem.boot_len (sps_cons (sp_var (pv 0)) sps_nil))) (nomark _))
 (sss_one (ss_ret (se_flat (sp_ixL (sp_var (pv 0)) (sp_var (pv 1))))))
 sss_nil)
 (sss_one (ss_ret (se_flat sp_int))))
theorem cal_law (T : Txt K mg) : CalM PySem.Challenge.pw_ropebook_k00_tokens_of_texts w K mg base 8 "law" ["script"] 1 F_law := by
  refine cal_ok T.d_law sc_law 1 rfl (fun f cdv A outer s H E hr => ?_)
  have tk := takes_of (X := cxOf (L2.CX PySem.Challenge.pw_ropebook_k00_tokens_of_texts w) PySem.Challenge.pw_ropebook_k00_tokens_of_texts w K mg base N_law "law" (defScope s_law) f cdv A outer s H E) (E := E) rfl rfl rfl rfl
  have hp : PassesOwn _ _ _ (cxOf (L2.CX PySem.Challenge.pw_ropebook_k00_tokens_of_texts w) PySem.Challenge.pw_ropebook_k00_tokens_of_texts w K mg base N_law "law" (defScope s_law) f cdv A outer s H E).xe := passes_of rfl
  exact (sss_cons (ss_set (i := 1) (se_flat sp_str) sc_law.nd rfl (by first | exact .inl rfl | exact .inr rfl))
 (sss_cons (ss_set (i := 2) (se_new (sp_lst sps_nil)) sc_law.nd rfl (by first | exact .inl rfl | exact .inr rfl))
 (sss_cons (ss_set (i := 3) (se_flat (sp_tup (sps_cons sp_int (sps_cons sp_int sps_nil)))) sc_law.nd rfl (by first | exact .inl rfl | exact .inr rfl))
 (sss_cons (ss_forR1 hp rfl (by rfl) T.n_range (sps_cons (fn_sp v_min (pe_callB (call_min2 rfl) (by rfl) T.n_min (by first | rfl | decide +kernel) (sps_cons sp_int (sps_cons (fn_sp v_max (pe_callB (call_max2 rfl) (by rfl) T.n_max (by first | rfl | decide +kernel) (sps_cons sp_int (sps_cons (sp_bin op_sub v_sub (fn_sp v_len (pe_callB call_len (by rfl) T.n_len PySem.boot_len (sps_cons (sp_var (pv 0)) sps_nil))) sp_int) sps_nil)))) sps_nil)))) sps_nil) (sg_name (pg_name (i := 4) sc_law.nd rfl (by first | exact .inl rfl | exact .inr rfl)))
 (sss_cons (ss_set (i := 8) (se_flat (sp_cal (cal_law_token T) tk hr (by decide) (sps_cons (sp_ixL (sp_var (pv 0)) (sp_bin op_add v_add sp_int (sp_var (pv 4)))) sps_nil))) sc_law.nd rfl (by first | exact .inl rfl | exact .inr rfl))
 (sss_cons (ss_set (i := 9) (se_flat (fn_sp v_str (pe_callTy call_str1 (by rfl) T.n_str (by first | rfl | decide +kernel) (sps_cons (sp_ixT (sp_var (pv 8)) sp_int) sps_nil)))) sc_law.nd rfl (by first | exact .inl rfl | exact .inr rfl))
 (sss_cons (ss_app (pv 2) (se_flat (sp_tup (sps_cons (sp_ixT (sp_var (pv 8)) sp_int) (sps_cons (sp_ixT (sp_var (pv 8)) sp_int) (sps_cons (sp_ixT (sp_var (pv 3)) sp_int) (sps_cons (sp_ixT (sp_var (pv 3)) sp_int) sps_nil)))))))
 (sss_cons (ss_set (i := 10) (se_flat (sp_cal (cal_law_gap T) tk hr (by decide) (sps_cons (sp_bin op_add v_add (sp_bin op_fdivN v_div (sp_ixL (sp_var (pv 0)) (sp_bin op_add v_add sp_int (sp_var (pv 4)))) sp_int) (sp_var (pv 4))) sps_nil))) sc_law.nd rfl (by first | exact .inl rfl | exact .inr rfl))
 (sss_cons (ss_if (spt_w (spw_and (spt_cmp op_eq v_eqT (sp_ixT (sp_var (pv 8)) sp_int) sp_str (nomark _)) (spw_and1 (spt_cmp op_eq v_eqI (sp_bin op_modN v_mod (sp_bin op_fdivN v_div (fn_sp v_int (pe_callTy call_int1 (by rfl) T.n_int (by first | rfl | decide +kernel) (sps_cons (sp_ixL (sp_var (pv 0)) (sp_bin op_add v_add sp_int (sp_var (pv 4)))) sps_nil))) sp_int) sp_int) sp_int (nomark _)))))
 (sss_one (ss_set (i := 10) (se_flat sp_str) sc_law.nd rfl (by first | exact .inl rfl | exact .inr rfl)))
 sss_nil)
 (sss_cons (ss_set (i := 1) (se_flat (sp_bin op_add_str v_addS (sp_bin op_add_str v_addS (sp_var (pv 1)) (sp_var (pv 9))) (sp_var (pv 10)))) sc_law.nd rfl (by first | exact .inl rfl | exact .inr rfl))
 (sss_one (ss_set (i := 3) (se_flat (sp_cal (cal_law_after T) tk hr (by decide) (sps_cons (sp_ixT (sp_var (pv 3)) sp_int) (sps_cons (sp_ixT (sp_var (pv 3)) sp_int) (sps_cons (sp_bin op_add_str v_addS (sp_var (pv 9)) (sp_var (pv 10))) sps_nil))))) sc_law.nd rfl (by first | exact .inl rfl | exact .inr rfl))))))))))
 (sss_cons (ss_if (spt_cmp op_eq v_eqI (sp_bin op_modN v_mod (fn_sp v_int (pe_callTy call_int1 (by rfl) T.n_int (by first | rfl | decide +kernel) (sps_cons (sp_cal (cal_law_cell T) tk hr (by decide) (sps_cons (sp_var (pv 0)) (sps_cons sp_int sps_nil))) sps_nil))) sp_int) sp_int (nomark _))
 (sss_cons (ss_set (i := 1) (se_flat (sp_bin op_add_str v_addS (sp_var (pv 1)) sp_str)) sc_law.nd rfl (by first | exact .inl rfl | exact .inr rfl))
 (sss_one (ss_set (i := 3) (se_flat (sp_cal (cal_law_after T) tk hr (by decide) (sps_cons (sp_ixT (sp_var (pv 3)) sp_int) (sps_cons (sp_ixT (sp_var (pv 3)) sp_int) (sps_cons sp_str sps_nil))))) sc_law.nd rfl (by first | exact .inl rfl | exact .inr rfl))))
 sss_nil)
 (sss_cons (ss_app (pv 2) (se_flat (sp_tup (sps_cons sp_str (sps_cons sp_str (sps_cons (sp_ixT (sp_var (pv 3)) sp_int) (sps_cons (sp_ixT (sp_var (pv 3)) sp_int) sps_nil)))))))
 (sss_cons (ss_set (i := 5) (se_cal (cal_tokens_of T) tk hr (by decide) (sps_cons (sp_var (pv 1)) sps_nil)) sc_law.nd rfl (by first | exact .inl rfl | exact .inr rfl))
 (sss_cons (ss_if (spt_w (spw_or (spt_not (spt_val (sp_isA (T := "list") T.n_isinstance T.n_list (by first | rfl | decide +kernel) (sp_var (pv 5))))) (spw_or1 (spt_cmp op_ne v_neI (fn_sp v_len (pe_callB call_len (by rfl) T.n_len PySem.boot_len (sps_cons (sp_var (pv 5)) sps_nil))) (fn_sp v_len (pe_callB call_len (by rfl) T.n_len PySem.boot_len (sps_cons (sp_var (pv 2)) sps_nil))) (nomark _)))))
 (sss_one (ss_ret (se_flat sp_bl)))
 sss_nil)
 (sss_cons (ss_forR1 hp rfl (by rfl) T.n_range (sps_cons (fn_sp v_len (pe_callB call_len (by rfl) T.n_len PySem.boot_len (sps_cons (sp_var (pv 2)) sps_nil))) sps_nil) (sg_name (pg_name (i := 4) sc_law.nd rfl (by first | exact .inl rfl | exact .inr rfl)))
 (sss_cons (ss_if (spt_w (spw_or (spt_not (spt_val (sp_isA (T := "tuple") T.n_isinstance T.n_tuple (by first | rfl | decide +kernel) (sp_ixL (sp_var (pv 5)) (sp_var (pv 4)))))) (spw_or1 (spt_cmp op_ne v_neI (fn_sp v_len (pe_callB call_len (by rfl) T.n_len PySem.boot_len (sps_cons (sp_ixL (sp_var (pv 5)) (sp_var (pv 4))) sps_nil))) sp_int (nomark _)))))
 (sss_one (ss_ret (se_flat sp_bl)))
 sss_nil)
 (sss_one (ss_forR1 hp rfl (by rfl) T.n_range (sps_cons sp_int sps_nil) (sg_name (pg_name (i := 11) sc_law.nd rfl (by first | exact .inl rfl | exact .inr rfl)))
 (sss_cons (ss_set (i := 12) (se_flat (sp_ixT (sp_ixL (sp_var (pv 5)) (sp_var (pv 4))) (sp_var (pv 11)))) sc_law.nd rfl (by first | exact .inl rfl | exact .inr rfl))
 (sss_one (ss_if (spt_val (sp_isA (T := "str") T.n_isinstance T.n_str (by first | rfl | decide +kernel) (sp_ixT (sp_ixL (sp_var (pv 2)) (sp_var (pv 4))) (sp_var (pv 11)))))
 (sss_one (ss_if (spt_w (spw_or (spt_not (spt_val (sp_isA (T := "str") T.n_isinstance T.n_str (by first | rfl | decide +kernel) (sp_var (pv 12))))) (spw_or1 (spt_cmp (op_neD hr.units) v_ne (sp_var (pv 12)) (sp_ixT (sp_ixL (sp_var (pv 2)) (sp_var (pv 4))) (sp_var (pv 11))) (nomark _)))))
 (sss_one (ss_ret (se_flat sp_bl)))
 sss_nil))
 (sss_one (ss_if (spt_w (spw_or (spt_not (spt_val (sp_isA (T := "int") T.n_isinstance T.n_int (by first | rfl | decide +kernel) (sp_var (pv 12))))) (spw_or (spt_val (sp_isA (T := "bool") T.n_isinstance T.n_bool (by first | rfl | decide +kernel) (sp_var (pv 12)))) (spw_or1 (spt_cmp (op_neD hr.units) v_ne (sp_var (pv 12)) (sp_ixT (sp_ixL (sp_var (pv 2)) (sp_var (pv 4))) (sp_var (pv 11))) (nomark _))))))
 (sss_one (ss_ret (se_flat sp_bl)))
 sss_nil)))))))))
 (sss_cons (ss_setLc (i := 6) (own := [(("one" : PySem.Str), 12)]) (t := (.nm 12)) rfl sc_law.nd rfl rfl (sw_true rfl rfl rfl (by decide +kernel)) (si_list (sp_cal (cal_tokens_of T) tk hr (by decide) (sps_cons sp_str sps_nil))) (blkOk_by (N := N_law) (sc := defScope s_law) (by decide +kernel)) (by decide) (fun _ _ _ _ _ => (pgm_name (pg_name (i := 12) sc_law.nd rfl (by first | exact .inl rfl | exact .inr rfl)))) (fun _ _ _ _ _ => spts_nil) (fun _ _ _ _ _ => (sp_tup (sps_cons (sp_ixT (sp_var (pv 12)) sp_int) (sps_cons (sp_ixT (sp_var (pv 12)) sp_int) sps_nil)))))
 (sss_cons (ss_set (i := 7) (se_new (sp_lst (sps_cons (sp_tup (sps_cons sp_str (sps_cons sp_str sps_nil))) (sps_cons (sp_tup (sps_cons sp_str (sps_cons sp_str sps_nil))) (sps_cons (sp_tup (sps_cons sp_str (sps_cons sp_str sps_nil))) (sps_cons (sp_tup (sps_cons sp_str (sps_cons sp_int sps_nil))) (sps_cons (sp_tup (sps_cons sp_str (sps_cons sp_str sps_nil))) (sps_cons (sp_tup (sps_cons sp_str (sps_cons sp_int sps_nil))) (sps_cons (sp_tup (sps_cons sp_str (sps_cons sp_str sps_nil))) (sps_cons (sp_tup (sps_cons sp_str (sps_cons sp_str sps_nil))) sps_nil)))))))))) sc_law.nd rfl (by first | exact .inl rfl | exact .inr rfl))
 (sss_one (ss_ret (se_flat (sp_cmp (op_eqD hr.units) v_eq (sp_var (pv 6)) (sp_ofF (sp_binF op_cat' v_cat (sp_var (pv 7)) (sp_ofF (sp_lst (sps_cons (sp_tup (sps_cons sp_str (sps_cons sp_str sps_nil))) (sps_cons (sp_tup (sps_cons sp_str (sps_cons sp_str sps_nil))) (sps_cons (sp_tup (sps_cons sp_str (sps_cons sp_int sps_nil))) (sps_cons (sp_tup (sps_cons sp_str (sps_cons sp_str sps_nil))) (sps_cons (sp_tup (sps_cons sp_str (sps_cons sp_str sps_nil))) (sps_cons (sp_tup (sps_cons sp_str (sps_cons sp_str sps_nil))) (sps_cons (sp_tup (sps_cons sp_str (sps_cons sp_str sps_nil))) sps_nil))))))))))) (nomark _))))))))))))))))
end
end M_ropebook_k00_tokens_of_texts

set_option Elab.async false
set_option linter.all false
set_option maxRecDepth 100000
namespace M_ropebook_k00_tokens_of_texts
open M PySem PySem.Spec PyProof.Rows L2
theorem fin {w : World} {K : PySem.W.Frag} {mg : Str → Option Value} {h : Heap} {fa : Addr} (X : K.In h) (G : h.Ns mainGlobals mg) (hmg : mg "law" = some (.ref fa)) (T : Txt K mg) :
    ∃ fd : FuncData, (∀ (s : Shared) (u : Value), BindsTo s fd ⟨[u], []⟩ [(("script" : Str), u)]) ∧ ∀ base : Heap, K.In base → base.Ns mainGlobals mg → FnOk PySem.Challenge.pw_ropebook_k00_tokens_of_texts w K mg base (L2.CX PySem.Challenge.pw_ropebook_k00_tokens_of_texts w) 8 fa fd ["script"] (spLaw K 63) :=
  law_end (st := s_law) (fun _ _ _ _ _ _ us hl => match us, hl with | [_], _ => rfl) rfl hmg T.d_law (fun base => cal_law (w := w) (base := base) T) fun ns _ => law_true ns
end M_ropebook_k00_tokens_of_texts
open PySem PySem.W PyProof.Rows M M_ropebook_k00_tokens_of_texts
set_option maxHeartbeats 0 in
theorem PySem.Challenge.cw_ropebook_k00_tokens_of_texts_holds : PySem.Challenge.rw_ropebook_k00_tokens_of_texts.Holds := by
  w_on; o_law; k_head; (case hw => w_witness2)
  k_fill
  refine L2.walk_of (l := PySem.Challenge.rw_ropebook_k00_tokens_of_texts) (n := 63) (k := 8) (x := "script") (CX := fun w => L2.CX PySem.Challenge.rw_ropebook_k00_tokens_of_texts.prog w) (sp := fun w => M.spLaw _ 63) rfl (by decide) rfl ⟨rfl, by decide, by decide⟩ (fun w h Y => PySem.W.kIn_of Y) ?F (fun _ _ a ns hl _ hS => ⟨a, ns, rfl, hS, hl, fun _ => rfl⟩) (fun _ _ _ _ _ h => no_cx h)
  case F =>
    intro w mg fa h KX G hmg
    refine fin KX G hmg ?_
    refine' ⟨?d_is_digit, ?d_is_letter, ?d_run_of_digits, ?d_number_of_digits, ?d_run_of_letters, ?d_is_any_letter, ?d_is_alone, ?d_token_at, ?d_scan_line, ?d_scan, ?d_tokens_of, ?d_law_draw, ?d_law_token, ?d_law_gap, ?d_law_after, ?d_law_cell, ?d_law, ?g_LONGEST_NUMBER, ?g_MOST_NUMBER, ?g_SIGNS, ?n_abs, ?n_bool, ?n_int, ?n_isinstance, ?n_len, ?n_list, ?n_max, ?n_min, ?n_range, ?n_str, ?n_tuple, ?e_BadText⟩
    case d_is_digit =>
      refine' defM_mk KX G (fun _ _ _ _ _ _ us hl => match us, hl with | [_], _ => rfl) ?a ?l ?c ?k
      (case a => k_is); (case l => k_is); (case c => k_is); (case k => k_is)
    case d_is_letter =>
      refine' defM_mk KX G (fun _ _ _ _ _ _ us hl => match us, hl with | [_], _ => rfl) ?a ?l ?c ?k
      (case a => k_is); (case l => k_is); (case c => k_is); (case k => k_is)
    case d_run_of_digits =>
      refine' defM_mk KX G (fun _ _ _ _ _ _ us hl => match us, hl with | [_, _], _ => rfl) ?a ?l ?c ?k
      (case a => k_is); (case l => k_is); (case c => k_is); (case k => k_is)
    case d_number_of_digits =>
      refine' defM_mk KX G (fun _ _ _ _ _ _ us hl => match us, hl with | [_], _ => rfl) ?a ?l ?c ?k
      (case a => k_is); (case l => k_is); (case c => k_is); (case k => k_is)
    case d_run_of_letters =>
      refine' defM_mk KX G (fun _ _ _ _ _ _ us hl => match us, hl with | [_, _], _ => rfl) ?a ?l ?c ?k
      (case a => k_is); (case l => k_is); (case c => k_is); (case k => k_is)
    case d_is_any_letter =>
      refine' defM_mk KX G (fun _ _ _ _ _ _ us hl => match us, hl with | [_], _ => rfl) ?a ?l ?c ?k
      (case a => k_is); (case l => k_is); (case c => k_is); (case k => k_is)
    case d_is_alone =>
      refine' defM_mk KX G (fun _ _ _ _ _ _ us hl => match us, hl with | [_, _], _ => rfl) ?a ?l ?c ?k
      (case a => k_is); (case l => k_is); (case c => k_is); (case k => k_is)
    case d_token_at =>
      refine' defM_mk KX G (fun _ _ _ _ _ _ us hl => match us, hl with | [_, _, _], _ => rfl) ?a ?l ?c ?k
      (case a => k_is); (case l => k_is); (case c => k_is); (case k => k_is)
    case d_scan_line =>
      refine' defM_mk KX G (fun _ _ _ _ _ _ us hl => match us, hl with | [_, _, _, _], _ => rfl) ?a ?l ?c ?k
      (case a => k_is); (case l => k_is); (case c => k_is); (case k => k_is)
    case d_scan =>
      refine' defD_mk 1 KX G (by simp) (by rfl) rfl (fun _ _ _ _ _ _ _ us its hu hi => match us, hu, its, hi with | [_, _], _, [_], _ => ⟨_, rfl, rfl⟩) (fun _ _ _ _ _ _ _ us its hu hi => match us, hu, its, hi with | [_], _, [_], _ => ⟨_, rfl, rfl⟩) ?a ?l ?c ?k ?r
      (case a => k_is); (case l => k_is); (case c => k_is); (case k => k_is); (case r => kernel_rfl)
    case d_tokens_of =>
      refine' defM_mk KX G (fun _ _ _ _ _ _ us hl => match us, hl with | [_], _ => rfl) ?a ?l ?c ?k
      (case a => k_is); (case l => k_is); (case c => k_is); (case k => k_is)
    case d_law_draw =>
      refine' defM_mk KX G (fun _ _ _ _ _ _ us hl => match us, hl with | [_, _], _ => rfl) ?a ?l ?c ?k
      (case a => k_is); (case l => k_is); (case c => k_is); (case k => k_is)
    case d_law_token =>
      refine' defM_mk KX G (fun _ _ _ _ _ _ us hl => match us, hl with | [_], _ => rfl) ?a ?l ?c ?k
      (case a => k_is); (case l => k_is); (case c => k_is); (case k => k_is)
    case d_law_gap =>
      refine' defM_mk KX G (fun _ _ _ _ _ _ us hl => match us, hl with | [_], _ => rfl) ?a ?l ?c ?k
      (case a => k_is); (case l => k_is); (case c => k_is); (case k => k_is)
    case d_law_after =>
      refine' defM_mk KX G (fun _ _ _ _ _ _ us hl => match us, hl with | [_, _, _], _ => rfl) ?a ?l ?c ?k
      (case a => k_is); (case l => k_is); (case c => k_is); (case k => k_is)
    case d_law_cell =>
      refine' defM_mk KX G (fun _ _ _ _ _ _ us hl => match us, hl with | [_, _], _ => rfl) ?a ?l ?c ?k
      (case a => k_is); (case l => k_is); (case c => k_is); (case k => k_is)
    case d_law =>
      refine' defM_mk KX G (fun _ _ _ _ _ _ us hl => match us, hl with | [_], _ => rfl) ?a ?l ?c ?k
      (case a => k_is); (case l => k_is); (case c => k_is); (case k => k_is)
    case g_LONGEST_NUMBER =>
      refine' glM_mk KX G ?a ?r
      (case a => k_is); (case r => kernel_rfl)
    case g_MOST_NUMBER =>
      refine' glM_mk KX G ?a ?r
      (case a => k_is); (case r => kernel_rfl)
    case g_SIGNS =>
      refine' glM_mk KX G ?a ?r
      (case a => k_is); (case r => kernel_rfl)
    case n_abs =>
      refine' PySem.W.mg_none_of KX G ?a
      (case a => k_is)
    case n_bool =>
      refine' PySem.W.mg_none_of KX G ?a
      (case a => k_is)
    case n_int =>
      refine' PySem.W.mg_none_of KX G ?a
      (case a => k_is)
    case n_isinstance =>
      refine' PySem.W.mg_none_of KX G ?a
      (case a => k_is)
    case n_len =>
      refine' PySem.W.mg_none_of KX G ?a
      (case a => k_is)
    case n_list =>
      refine' PySem.W.mg_none_of KX G ?a
      (case a => k_is)
    case n_max =>
      refine' PySem.W.mg_none_of KX G ?a
      (case a => k_is)
    case n_min =>
      refine' PySem.W.mg_none_of KX G ?a
      (case a => k_is)
    case n_range =>
      refine' PySem.W.mg_none_of KX G ?a
      (case a => k_is)
    case n_str =>
      refine' PySem.W.mg_none_of KX G ?a
      (case a => k_is)
    case n_tuple =>
      refine' PySem.W.mg_none_of KX G ?a
      (case a => k_is)
    case e_BadText =>
      refine' exM_mk KX G ?aC ?xL ?hbm ?sa ?ga ?gg ?noN ?iC ?tC ?kC ?exC ?veC ?suC ?tp ?tyC ?hdC ?sup ?top ?few ?l ?cd ?lc ?ld ?sd ?st ?ha ?ha0 ?hv ?hf ?hb ?s1 ?s2 ?s3 ?s4 ?s5 ?s6 ?s7 ?s8 ?s9
      (case aC => k_is); (case xL => k_is); (case hbm => decide +kernel); (case sa => k_is); (case ga => k_is); (case gg => k_is)
      (case noN => exact List.forall_mem_cons.2 ⟨by k_is, List.forall_mem_cons.2 ⟨by k_is, List.forall_mem_cons.2 ⟨by k_is, List.forall_mem_cons.2 ⟨by k_is, fun _ h => nomatch h⟩⟩⟩⟩)
      (case iC => k_is); (case tC => k_is); (case kC => k_is); (case exC => k_is); (case veC => k_is); (case suC => ks_is); (case tp => k_is); (case tyC => k_is); (case hdC => k_is); (case sup => k_is)
      (case top => rfl); (case few => decide); (case l => k_is); (case cd => k_is); (case lc => k_is); (case ld => k_is)
      (case sd => first | exact .c | exact .a (i := 0) rfl | exact .a (i := 1) rfl | exact .a (i := 2) rfl); (case st => exact (.c (.a rfl (.a rfl (.a rfl .nil))))); (case ha => rfl); (case ha0 => rfl); (case hv => rfl); (case hf => first | rfl | decide +kernel)
      (case hb => exact fun s us hu => match us, hu with | [_, _, _, _], _ => .of_eq rfl)
      (case s1 => rfl); (case s2 => rfl); (case s3 => rfl); (case s4 => decide +kernel); (case s5 => rfl); (case s6 => rfl); (case s7 => decide +kernel); (case s8 => decide +kernel); (case s9 => exact ⟨_, fun _ => rfl⟩)
