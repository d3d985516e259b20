import PyProof.Rows.All
import Wide.All
import OpenK.AllK
import Wide.FinOn
import HandS.ForMost
import HandS.Exc
import HandS.ExcOwn
import HandS.TryMany
import HandS.WordsExc
import HandS.Style
import HandS.ExcInit
import KE.KExcSuper
import HandS.Deep
import HandS.IsInst
import HandS.DictComp
import PyProof.DictUpdate
import HandS.TupLen
import HandS.TupLe
import HandS.TryOnly
import HandS.WordsDict
import HandS.Sort
import KE.KDictDisplayH
import PySem.Challenge.RW_ropebook_k36_papers_of_braids
set_option Elab.async false
set_option linter.all false
set_option maxRecDepth 100000
set_option maxHeartbeats 4000000
namespace M
open PySem PySem.Spec PyProof.Rows L2

/-! ### plain values -/
inductive PV where
  | non | bl (b : Bool) | int (i : Int) | str (x : Str)
  | tup (xs : List PV) | ktp (xs : List PV) | rng (lo hi : Int) | lst (xs : List PV) | scr (xs : List PV) | dct (t : Bool) (kvs : List (PV × PV)) | ins (c : Str) (fs : List (Str × PV))
  deriving Inhabited

def kP : Key → PV
  | .inl i => .int i
  | .inr x => .str x
def kPs (l : List Key) : PV := .tup (l.map kP)

abbrev Cnt := Addr → Nat
/-- a list of the module -/
def KL (K : PySem.W.Frag) (a : Addr) (xs : List V) : Prop :=
  ∃ (its : Array Value) (n : Nat), K.lookup a = some ({ cls := .type "list", data := .seq its n } : Obj) ∧ its.size ≤ sizeLine ∧ Vals xs its.toList
/-- a list of the module, in the layer's words -/
def KS (K : PySem.W.Frag) (a : Addr) (xs : List V) : Prop :=
  ∃ (o : Obj) (its : Array Value) (n : Nat), K.lookup a = some o ∧ o.cls = .type "list" ∧ o.dict = none ∧ o.data = .seq its n ∧ its.size ≤ sizeLine ∧ Vals xs its.toList
/-- a tuple of the module -/
def KT (K : PySem.W.Frag) (a : Addr) (xs : List V) : Prop :=
  ∃ (o : Obj) (its : Array Value) (n : Nat), K.lookup a = some o ∧ o.cls = .type "tuple" ∧ o.data = .seq its n ∧ its.size ≤ sizeLine ∧ Vals xs its.toList
/-- a list: of the heap, or of the module -/
def LL (K : PySem.W.Frag) (H : Hp) (a : Addr) (xs : List V) : Prop := Rd H a (.lst xs) ∨ KL K a xs
theorem LL.sq {K : PySem.W.Frag} {H : Hp} {a : Addr} {xs : List V} (h : LL K H a xs) : SqL K H a xs := by
  rcases h with h | ⟨its, n, h, z, r⟩
  · exact .inl h
  · exact .inr ⟨_, its, n, h, rfl, rfl, rfl, z, r⟩
theorem LL.of {K : PySem.W.Frag} {H : Hp} {a : Addr} {xs : List V} (h : H a = some (.lst xs)) : LL K H a xs := .inl (.inl h)
/-- its object -/
theorem LL.obj {X : Cx} {pins : List (Addr × Obj)} {σ : L2.St} {H : Hp} {s : Shared} {a : Addr} {xs : List V} (I : L2.Inv X pins σ H s) (h : LL X.K H a xs) : xs.length ≤ sizeLine ∧ ∃ (its : List Value) (n : Nat), Vals xs its ∧ s.heap.get? a = some { cls := .type "list", data := .seq its.toArray n } := by
  rcases h with (h | ⟨o, h⟩) | ⟨its, n, h, z, r⟩
  · exact I.hok a _ h
  · obtain ⟨_, q⟩ := I.hok a _ h
    exact q
  · refine ⟨?_, its.toList, n, r, by simpa using I.kIn a _ h⟩
    have e := r.length
    simp only [Array.length_toList] at e
    omega
/-- objects that never change -/
def Still : HO → Prop
  | .tup _ => True
  | .frz _ _ => True
  | .rng _ _ => True
  | _ => False

mutual
/-- v stands for the plain value -/
inductive Rep (K : PySem.W.Frag) (mg : Str → Option Value) (H : Hp) : V → PV → Prop
  | non : Rep K mg H .non .non
  | bl (b : Bool) : Rep K mg H (.bl b) (.bl b)
  | int (i : Int) : Rep K mg H (.int i) (.int i)
  | str (x : Str) : Rep K mg H (.str x) (.str x)
  | tup {a : Addr} {vs : List V} {ps : List PV} : H a = some (.tup vs) → Reps K mg H vs ps → Rep K mg H (.ref a) (.tup ps)
  | ktp {a : Addr} {vs : List V} {ps : List PV} : KT K a vs → Reps K mg H vs ps → Rep K mg H (.ref a) (.ktp ps)
  | rng {a : Addr} {lo hi : Int} : H a = some (.rng lo hi) → Rep K mg H (.ref a) (.rng lo hi)
  | lst {a : Addr} {vs : List V} {ps : List PV} : LL K H a vs → Reps K mg H vs ps → Rep K mg H (.ref a) (.lst ps)
  | scr {a : Addr} {vs : List V} {ps : List PV} : Rd H a (.lst vs) ∨ KS K a vs → Reps K mg H vs ps → Rep K mg H (.ref a) (.scr ps)
  | dK {a : Addr} {es : List (Key × V)} {vs : List V} {kvs : List (PV × PV)} : H a = some (.dK es) → es.map (fun e => kP e.1) = kvs.map (·.1) → vs = es.map (·.2) → Reps K mg H vs (kvs.map (·.2)) → Rep K mg H (.ref a) (.dct false kvs)
  | dT {a : Addr} {es : List (List Key × V)} {vs : List V} {kvs : List (PV × PV)} : H a = some (.dT es) → es.map (fun e => kPs e.1) = kvs.map (·.1) → vs = es.map (·.2) → Reps K mg H vs (kvs.map (·.2)) → Rep K mg H (.ref a) (.dct true kvs)
  | ins {a C dx : Addr} {c : Str} {fs : List (Str × V)} {vs : List V} {ps : List (Str × PV)} : H a = some (.ins C dx fs) → mg c = some (.ref C) → fs.map (·.1) = ps.map (·.1) → vs = fs.map (·.2) → Reps K mg H vs (ps.map (·.2)) → Rep K mg H (.ref a) (.ins c ps)
inductive Reps (K : PySem.W.Frag) (mg : Str → Option Value) (H : Hp) : List V → List PV → Prop
  | nil : Reps K mg H [] []
  | cons {v : V} {vs : List V} {p : PV} {ps : List PV} : Rep K mg H v p → Reps K mg H vs ps → Reps K mg H (v :: vs) (p :: ps)
end

mutual
/-- .. d levels of its lists and dicts are ours alone: f counts them; T: all that is owned -/
inductive Own (K : PySem.W.Frag) (mg : Str → Option Value) (H : Hp) (T : Cnt) : Nat → V → PV → Cnt → Prop
  | non {d : Nat} {f : Cnt} : (∀ b, f b = 0) → Own K mg H T d .non .non f
  | bl {d : Nat} {f : Cnt} (k : Bool) : (∀ b, f b = 0) → Own K mg H T d (.bl k) (.bl k) f
  | int {d : Nat} {f : Cnt} (i : Int) : (∀ b, f b = 0) → Own K mg H T d (.int i) (.int i) f
  | str {d : Nat} {f : Cnt} (x : Str) : (∀ b, f b = 0) → Own K mg H T d (.str x) (.str x) f
  | tup {d : Nat} {f : Cnt} {a : Addr} {vs : List V} {ps : List PV} : H a = some (.tup vs) → Owns K mg H T d vs ps f → Own K mg H T d (.ref a) (.tup ps) f
  | ktp {d : Nat} {f : Cnt} {a : Addr} {vs : List V} {ps : List PV} : KT K a vs → Owns K mg H T d vs ps f → Own K mg H T d (.ref a) (.ktp ps) f
  | rng {d : Nat} {f : Cnt} {a : Addr} {lo hi : Int} : H a = some (.rng lo hi) → (∀ b, f b = 0) → Own K mg H T d (.ref a) (.rng lo hi) f
  | lst0 {f : Cnt} {a : Addr} {vs : List V} {ps : List PV} : ((Rd H a (.lst vs) ∧ T a = 0) ∨ KL K a vs) → Owns K mg H T 0 vs ps f → Own K mg H T 0 (.ref a) (.lst ps) f
  | scr0 {f : Cnt} {a : Addr} {vs : List V} {ps : List PV} : ((Rd H a (.lst vs) ∧ T a = 0) ∨ KS K a vs) → Owns K mg H T 0 vs ps f → Own K mg H T 0 (.ref a) (.scr ps) f
  | lst1 {d : Nat} {f g : Cnt} {a : Addr} {vs : List V} {ps : List PV} : H a = some (.lst vs) → Owns K mg H T d vs ps f → (∀ b, g b = f b + if b = a then 1 else 0) → Own K mg H T (d + 1) (.ref a) (.lst ps) g
  | dK0 {f : Cnt} {a : Addr} {es : List (Key × V)} {vs : List V} {kvs : List (PV × PV)} : H a = some (.dK es) → T a = 0 → es.map (fun e => kP e.1) = kvs.map (·.1) → vs = es.map (·.2) → Owns K mg H T 0 vs (kvs.map (·.2)) f → Own K mg H T 0 (.ref a) (.dct false kvs) f
  | dK1 {d : Nat} {f g : Cnt} {a : Addr} {es : List (Key × V)} {vs : List V} {kvs : List (PV × PV)} : H a = some (.dK es) → es.map (fun e => kP e.1) = kvs.map (·.1) → vs = es.map (·.2) → Owns K mg H T d vs (kvs.map (·.2)) f →
      (∀ b, g b = f b + if b = a then 1 else 0) → Own K mg H T (d + 1) (.ref a) (.dct false kvs) g
  | dT0 {f : Cnt} {a : Addr} {es : List (List Key × V)} {vs : List V} {kvs : List (PV × PV)} : H a = some (.dT es) → T a = 0 → es.map (fun e => kPs e.1) = kvs.map (·.1) → vs = es.map (·.2) → Owns K mg H T 0 vs (kvs.map (·.2)) f → Own K mg H T 0 (.ref a) (.dct true kvs) f
  | dT1 {d : Nat} {f g : Cnt} {a : Addr} {es : List (List Key × V)} {vs : List V} {kvs : List (PV × PV)} : H a = some (.dT es) → es.map (fun e => kPs e.1) = kvs.map (·.1) → vs = es.map (·.2) → Owns K mg H T d vs (kvs.map (·.2)) f →
      (∀ b, g b = f b + if b = a then 1 else 0) → Own K mg H T (d + 1) (.ref a) (.dct true kvs) g
  | ins0 {f : Cnt} {a C dx : Addr} {c : Str} {fs : List (Str × V)} {vs : List V} {ps : List (Str × PV)} : H a = some (.ins C dx fs) → T a = 0 → mg c = some (.ref C) → fs.map (·.1) = ps.map (·.1) → vs = fs.map (·.2) → Owns K mg H T 0 vs (ps.map (·.2)) f → Own K mg H T 0 (.ref a) (.ins c ps) f
  | ins1 {d : Nat} {f g : Cnt} {a C dx : Addr} {c : Str} {fs : List (Str × V)} {vs : List V} {ps : List (Str × PV)} : H a = some (.ins C dx fs) → mg c = some (.ref C) → fs.map (·.1) = ps.map (·.1) → vs = fs.map (·.2) → Owns K mg H T d vs (ps.map (·.2)) f →
      (∀ b, g b = f b + if b = a then 1 else 0) → Own K mg H T (d + 1) (.ref a) (.ins c ps) g
inductive Owns (K : PySem.W.Frag) (mg : Str → Option Value) (H : Hp) (T : Cnt) : Nat → List V → List PV → Cnt → Prop
  | nil {d : Nat} {f : Cnt} : (∀ b, f b = 0) → Owns K mg H T d [] [] f
  | cons {d : Nat} {v : V} {vs : List V} {p : PV} {ps : List PV} {f g h : Cnt} : Own K mg H T d v p f → Owns K mg H T d vs ps g → (∀ b, h b = f b + g b) → Owns K mg H T d (v :: vs) (p :: ps) h
end

section
variable {K : PySem.W.Frag} {mg : Str → Option Value} {H H' : Hp} {T T' : Cnt}

/-! ### Rep is kept by a heap that keeps -/
def Grow (H H' : Hp) : Prop := ∀ a o, H a = some o → H' a = some o
theorem Grow.refl (H : Hp) : Grow H H := fun _ _ h => h
theorem Grow.trans {H1 H2 H3 : Hp} (a : Grow H1 H2) (b : Grow H2 H3) : Grow H1 H3 := fun c o h => b c o (a c o h)
theorem Grow.upd {p : Addr} {o : HO} (h : H p = none) : Grow H (upd H p o) := fun b x e => by rw [upd_ne (ne_of_none e h)]; exact e
theorem Rd.grow {a : Addr} {o : HO} (h : Rd H a o) (g : Grow H H') : Rd H' a o := by
  rcases h with h | ⟨x, h⟩
  · exact .inl (g _ _ h)
  · exact .inr ⟨x, g _ _ h⟩
theorem sqL_grow {a : Addr} {vs : List V} (h : LL K H a vs) (g : Grow H H') : LL K H' a vs := by
  rcases h with h | h
  · exact .inl (Rd.grow h g)
  · exact .inr h
theorem sqT_grow {a : Addr} {vs : List V} (h : SqT K H a vs) (g : Grow H H') : SqT K H' a vs := by
  rcases h with h | h
  · exact .inl (Rd.grow h g)
  · exact .inr h
mutual
theorem Rep.grow (g : Grow H H') : ∀ {v : V} {p : PV}, Rep K mg H v p → Rep K mg H' v p
  | _, _, .non => .non
  | _, _, .bl b => .bl b
  | _, _, .int i => .int i
  | _, _, .str x => .str x
  | _, _, .tup h r => .tup (g _ _ h) (Reps.grow g r)
  | _, _, .ktp h r => .ktp h (Reps.grow g r)
  | _, _, .rng h => .rng (g _ _ h)
  | _, _, .lst h r => .lst (sqL_grow h g) (Reps.grow g r)
  | _, _, .scr h r => .scr (by rcases h with h | h; exact .inl (Rd.grow h g); exact .inr h) (Reps.grow g r)
  | _, _, .dK h e1 e2 r => .dK (g _ _ h) e1 e2 (Reps.grow g r)
  | _, _, .dT h e1 e2 r => .dT (g _ _ h) e1 e2 (Reps.grow g r)
  | _, _, .ins h m e1 e2 r => .ins (g _ _ h) m e1 e2 (Reps.grow g r)
theorem Reps.grow (g : Grow H H') : ∀ {vs : List V} {ps : List PV}, Reps K mg H vs ps → Reps K mg H' vs ps
  | _, _, .nil => .nil
  | _, _, .cons h r => .cons (Rep.grow g h) (Reps.grow g r)
end

/-! ### Own: what it says of Rep, of counts -/
mutual
theorem Own.rep : ∀ {d : Nat} {v : V} {p : PV} {f : Cnt}, Own K mg H T d v p f → Rep K mg H v p
  | _, _, _, _, .non _ => .non
  | _, _, _, _, .bl k _ => .bl k
  | _, _, _, _, .int i _ => .int i
  | _, _, _, _, .str x _ => .str x
  | _, _, _, _, .tup h r => .tup h (Owns.rep r)
  | _, _, _, _, .ktp h r => .ktp h (Owns.rep r)
  | _, _, _, _, .rng h _ => .rng h
  | _, _, _, _, .lst0 h r => .lst (by rcases h with ⟨h, _⟩ | h; exact .inl h; exact .inr h) (Owns.rep r)
  | _, _, _, _, .scr0 h r => .scr (by rcases h with ⟨h, _⟩ | h; exact .inl h; exact .inr h) (Owns.rep r)
  | _, _, _, _, .lst1 h r _ => .lst (LL.of h) (Owns.rep r)
  | _, _, _, _, .dK0 h _ e1 e2 r => .dK h e1 e2 (Owns.rep r)
  | _, _, _, _, .dK1 h e1 e2 r _ => .dK h e1 e2 (Owns.rep r)
  | _, _, _, _, .dT0 h _ e1 e2 r => .dT h e1 e2 (Owns.rep r)
  | _, _, _, _, .dT1 h e1 e2 r _ => .dT h e1 e2 (Owns.rep r)
  | _, _, _, _, .ins0 h _ m e1 e2 r => .ins h m e1 e2 (Owns.rep r)
  | _, _, _, _, .ins1 h m e1 e2 r _ => .ins h m e1 e2 (Owns.rep r)
theorem Owns.rep : ∀ {d : Nat} {vs : List V} {ps : List PV} {f : Cnt}, Owns K mg H T d vs ps f → Reps K mg H vs ps
  | _, _, _, _, .nil _ => .nil
  | _, _, _, _, .cons h r _ => .cons (Own.rep h) (Owns.rep r)
end

/-- what is owned is tracked -/
theorem cnt_split {f g : Cnt} {a b : Addr} (hg : ∀ b, g b = f b + if b = a then 1 else 0) : (b = a ∧ g b = f b + 1) ∨ (b ≠ a ∧ g b = f b) := by
  by_cases e : b = a
  · exact .inl ⟨e, by rw [hg, if_pos e]⟩
  · exact .inr ⟨e, by rw [hg, if_neg e]; rfl⟩
mutual
theorem Own.there : ∀ {d : Nat} {v : V} {p : PV} {f : Cnt}, Own K mg H T d v p f → ∀ b, f b ≠ 0 → ∃ o, H b = some o ∧ ¬ Still o
  | _, _, _, _, .non z, b, h => absurd (z b) h
  | _, _, _, _, .bl _ z, b, h => absurd (z b) h
  | _, _, _, _, .int _ z, b, h => absurd (z b) h
  | _, _, _, _, .str _ z, b, h => absurd (z b) h
  | _, _, _, _, .tup _ r, b, h => Owns.there r b h
  | _, _, _, _, .ktp _ r, b, h => Owns.there r b h
  | _, _, _, _, .rng _ z, b, h => absurd (z b) h
  | _, _, _, _, .lst0 _ r, b, h => Owns.there r b h
  | _, _, _, _, .scr0 _ r, b, h => Owns.there r b h
  | _, _, _, _, .lst1 e r hg, b, h => by
    rcases cnt_split (b := b) hg with ⟨rfl, _⟩ | ⟨_, q⟩
    · exact ⟨_, e, fun z => z⟩
    · exact Owns.there r b (by rw [← q]; exact h)
  | _, _, _, _, .dK0 _ _ _ _ r, b, h => Owns.there r b h
  | _, _, _, _, .dK1 e _ _ r hg, b, h => by
    rcases cnt_split (b := b) hg with ⟨rfl, _⟩ | ⟨_, q⟩
    · exact ⟨_, e, fun z => z⟩
    · exact Owns.there r b (by rw [← q]; exact h)
  | _, _, _, _, .dT0 _ _ _ _ r, b, h => Owns.there r b h
  | _, _, _, _, .dT1 e _ _ r hg, b, h => by
    rcases cnt_split (b := b) hg with ⟨rfl, _⟩ | ⟨_, q⟩
    · exact ⟨_, e, fun z => z⟩
    · exact Owns.there r b (by rw [← q]; exact h)
  | _, _, _, _, .ins0 _ _ _ _ _ r, b, h => Owns.there r b h
  | _, _, _, _, .ins1 e _ _ _ r hg, b, h => by
    rcases cnt_split (b := b) hg with ⟨rfl, _⟩ | ⟨_, q⟩
    · exact ⟨_, e, fun z => z⟩
    · exact Owns.there r b (by rw [← q]; exact h)
theorem Owns.there : ∀ {d : Nat} {vs : List V} {ps : List PV} {f : Cnt}, Owns K mg H T d vs ps f → ∀ b, f b ≠ 0 → ∃ o, H b = some o ∧ ¬ Still o
  | _, _, _, _, .nil z, b, h => absurd (z b) h
  | _, _, _, _, @Owns.cons _ _ _ _ _ _ _ _ _ f g k h r hk, b, hb => by
    by_cases e : f b = 0
    · exact Owns.there r b (by have := hk b; omega)
    · exact Own.there h b e
end
mutual
theorem Own.zero_ : ∀ {d : Nat} {v : V} {p : PV} {f : Cnt}, Own K mg H T d v p f → d = 0 → ∀ b, f b = 0
  | _, _, _, _, .non z, _, b => z b
  | _, _, _, _, .bl _ z, _, b => z b
  | _, _, _, _, .int _ z, _, b => z b
  | _, _, _, _, .str _ z, _, b => z b
  | _, _, _, _, .tup _ r, e, b => Owns.zero_ r e b
  | _, _, _, _, .ktp _ r, e, b => Owns.zero_ r e b
  | _, _, _, _, .rng _ z, _, b => z b
  | _, _, _, _, .lst0 _ r, e, b => Owns.zero_ r e b
  | _, _, _, _, .scr0 _ r, e, b => Owns.zero_ r e b
  | _, _, _, _, .lst1 _ _ _, e, _ => nomatch e
  | _, _, _, _, .dK0 _ _ _ _ r, e, b => Owns.zero_ r e b
  | _, _, _, _, .dK1 _ _ _ _ _, e, _ => nomatch e
  | _, _, _, _, .dT0 _ _ _ _ r, e, b => Owns.zero_ r e b
  | _, _, _, _, .dT1 _ _ _ _ _, e, _ => nomatch e
  | _, _, _, _, .ins0 _ _ _ _ _ r, e, b => Owns.zero_ r e b
  | _, _, _, _, .ins1 _ _ _ _ _ _, e, _ => nomatch e
theorem Owns.zero_ : ∀ {d : Nat} {vs : List V} {ps : List PV} {f : Cnt}, Owns K mg H T d vs ps f → d = 0 → ∀ b, f b = 0
  | _, _, _, _, .nil z, _, b => z b
  | _, _, _, _, .cons h r hk, e, b => by rw [hk b, Own.zero_ h e b, Owns.zero_ r e b]
end
theorem Own.zero {v : V} {p : PV} {f : Cnt} (h : Own K mg H T 0 v p f) (b : Addr) : f b = 0 := h.zero_ rfl b
theorem Owns.zero {vs : List V} {ps : List PV} {f : Cnt} (h : Owns K mg H T 0 vs ps f) (b : Addr) : f b = 0 := h.zero_ rfl b
/-! counts may be written otherwise -/
mutual
theorem Own.cnt : ∀ {d : Nat} {v : V} {p : PV} {f f' : Cnt}, Own K mg H T d v p f → (∀ b, f' b = f b) → Own K mg H T d v p f'
  | _, _, _, _, _, .non z, e => .non fun b => (e b).trans (z b)
  | _, _, _, _, _, .bl k z, e => .bl k fun b => (e b).trans (z b)
  | _, _, _, _, _, .int i z, e => .int i fun b => (e b).trans (z b)
  | _, _, _, _, _, .str x z, e => .str x fun b => (e b).trans (z b)
  | _, _, _, _, _, .tup h r, e => .tup h (Owns.cnt r e)
  | _, _, _, _, _, .ktp h r, e => .ktp h (Owns.cnt r e)
  | _, _, _, _, _, .rng h z, e => .rng h fun b => (e b).trans (z b)
  | _, _, _, _, _, .lst0 h r, e => .lst0 h (Owns.cnt r e)
  | _, _, _, _, _, .scr0 h r, e => .scr0 h (Owns.cnt r e)
  | _, _, _, _, _, .lst1 h r hg, e => .lst1 h r fun b => (e b).trans (hg b)
  | _, _, _, _, _, .dK0 h t e1 e2 r, e => .dK0 h t e1 e2 (Owns.cnt r e)
  | _, _, _, _, _, .dK1 h e1 e2 r hg, e => .dK1 h e1 e2 r fun b => (e b).trans (hg b)
  | _, _, _, _, _, .dT0 h t e1 e2 r, e => .dT0 h t e1 e2 (Owns.cnt r e)
  | _, _, _, _, _, .dT1 h e1 e2 r hg, e => .dT1 h e1 e2 r fun b => (e b).trans (hg b)
  | _, _, _, _, _, .ins0 h t m e1 e2 r, e => .ins0 h t m e1 e2 (Owns.cnt r e)
  | _, _, _, _, _, .ins1 h m e1 e2 r hg, e => .ins1 h m e1 e2 r fun b => (e b).trans (hg b)
theorem Owns.cnt : ∀ {d : Nat} {vs : List V} {ps : List PV} {f f' : Cnt}, Owns K mg H T d vs ps f → (∀ b, f' b = f b) → Owns K mg H T d vs ps f'
  | _, _, _, _, _, .nil z, e => .nil fun b => (e b).trans (z b)
  | _, _, _, _, _, .cons h r hk, e => .cons h r fun b => (e b).trans (hk b)
end

/-! ### Own is kept where what it leans on is kept -/
mutual
theorem Own.keep (h2 : ∀ a o, H a = some o → T a = 0 → T' a = 0) : ∀ {d : Nat} {v : V} {p : PV} {f : Cnt}, Own K mg H T d v p f → (∀ a o, H a = some o → (f a ≠ 0 ∨ T a = 0 ∨ Still o) → H' a = some o) → Own K mg H' T' d v p f
  | _, _, _, _, .non z, _ => .non z
  | _, _, _, _, .bl k z, _ => .bl k z
  | _, _, _, _, .int i z, _ => .int i z
  | _, _, _, _, .str x z, _ => .str x z
  | _, _, _, _, .tup h r, k => .tup (k _ _ h (.inr (.inr trivial))) (Owns.keep h2 r k)
  | _, _, _, _, .ktp h r, k => .ktp h (Owns.keep h2 r k)
  | _, _, _, _, .rng h z, k => .rng (k _ _ h (.inr (.inr trivial))) z
  | _, _, _, _, .lst0 h r, k => .lst0 (by
      rcases h with ⟨h | ⟨o, h⟩, t⟩ | h
      · exact .inl ⟨.inl (k _ _ h (.inr (.inl t))), h2 _ _ h t⟩
      · exact .inl ⟨.inr ⟨o, k _ _ h (.inr (.inr trivial))⟩, h2 _ _ h t⟩
      · exact .inr h) (Owns.keep h2 r k)
  | _, _, _, _, .scr0 h r, k => .scr0 (by
      rcases h with ⟨h | ⟨o, h⟩, t⟩ | h
      · exact .inl ⟨.inl (k _ _ h (.inr (.inl t))), h2 _ _ h t⟩
      · exact .inl ⟨.inr ⟨o, k _ _ h (.inr (.inr trivial))⟩, h2 _ _ h t⟩
      · exact .inr h) (Owns.keep h2 r k)
  | _, _, _, _, .lst1 h r hg, k => .lst1 (k _ _ h (.inl (by rw [hg, if_pos rfl]; omega))) (Owns.keep h2 r fun a o e z => k a o e (z.imp (fun q => by rw [hg]; omega) id)) hg
  | _, _, _, _, .dK0 h t e1 e2 r, k => .dK0 (k _ _ h (.inr (.inl t))) (h2 _ _ h t) e1 e2 (Owns.keep h2 r k)
  | _, _, _, _, .dK1 h e1 e2 r hg, k => .dK1 (k _ _ h (.inl (by rw [hg, if_pos rfl]; omega))) e1 e2 (Owns.keep h2 r fun a o e z => k a o e (z.imp (fun q => by rw [hg]; omega) id)) hg
  | _, _, _, _, .dT0 h t e1 e2 r, k => .dT0 (k _ _ h (.inr (.inl t))) (h2 _ _ h t) e1 e2 (Owns.keep h2 r k)
  | _, _, _, _, .dT1 h e1 e2 r hg, k => .dT1 (k _ _ h (.inl (by rw [hg, if_pos rfl]; omega))) e1 e2 (Owns.keep h2 r fun a o e z => k a o e (z.imp (fun q => by rw [hg]; omega) id)) hg
  | _, _, _, _, .ins0 h t m e1 e2 r, k => .ins0 (k _ _ h (.inr (.inl t))) (h2 _ _ h t) m e1 e2 (Owns.keep h2 r k)
  | _, _, _, _, .ins1 h m e1 e2 r hg, k => .ins1 (k _ _ h (.inl (by rw [hg, if_pos rfl]; omega))) m e1 e2 (Owns.keep h2 r fun a o e z => k a o e (z.imp (fun q => by rw [hg]; omega) id)) hg
theorem Owns.keep (h2 : ∀ a o, H a = some o → T a = 0 → T' a = 0) : ∀ {d : Nat} {vs : List V} {ps : List PV} {f : Cnt}, Owns K mg H T d vs ps f → (∀ a o, H a = some o → (f a ≠ 0 ∨ T a = 0 ∨ Still o) → H' a = some o) → Owns K mg H' T' d vs ps f
  | _, _, _, _, .nil z, _ => .nil z
  | _, _, _, _, .cons h r hk, k => .cons (Own.keep h2 h fun a o e z => k a o e (z.imp (fun q => by rw [hk]; omega) id)) (Owns.keep h2 r fun a o e z => k a o e (z.imp (fun q => by rw [hk]; omega) id)) hk
end

/-! ### given up: fewer levels are ours -/
/-- lowered -/
def Low (K : PySem.W.Frag) (mg : Str → Option Value) (H : Hp) (T : Cnt) (e : Nat) (v : V) (p : PV) (f : Cnt) : Prop :=
  ∃ f', (∀ b, f' b ≤ f b) ∧ ∀ T', (∀ b, T' b ≤ T b) → (∀ b, f b ≠ 0 → f' b = 0 → T' b = 0) → Own K mg H T' e v p f'
def Lows (K : PySem.W.Frag) (mg : Str → Option Value) (H : Hp) (T : Cnt) (e : Nat) (vs : List V) (ps : List PV) (f : Cnt) : Prop :=
  ∃ f', (∀ b, f' b ≤ f b) ∧ ∀ T', (∀ b, T' b ≤ T b) → (∀ b, f b ≠ 0 → f' b = 0 → T' b = 0) → Owns K mg H T' e vs ps f'
theorem le0 {T T' : Cnt} {a : Addr} (h : ∀ b, T' b ≤ T b) (z : T a = 0) : T' a = 0 := by have := h a; omega
theorem low1 {e : Nat} {a : Addr} {vs : List V} {qs : List PV} {f g : Cnt} {v : V} {p : PV} (hg : ∀ b, g b = f b + if b = a then 1 else 0) (u : ∀ b, g b ≤ 1) (h : Lows K mg H T e vs qs f)
    (mk : ∀ T' f' g', Owns K mg H T' e vs qs f' → (∀ b, g' b = f' b + if b = a then 1 else 0) → Own K mg H T' (e + 1) v p g') : Low K mg H T (e + 1) v p g := by
  obtain ⟨f', l, h⟩ := h
  refine ⟨fun b => f' b + if b = a then 1 else 0, fun b => by show f' b + _ ≤ g b; rw [hg]; have := l b; omega, fun T' t z => mk T' f' _ (h T' t fun b n n' => z b (by rw [hg]; omega) ?_) fun _ => rfl⟩
  have q := u b
  show f' b + _ = 0
  rw [hg] at q
  split
  · rename_i e; rw [if_pos e] at q; omega
  · omega
theorem low0 {a : Addr} {vs : List V} {qs : List PV} {f g : Cnt} {v : V} {p : PV} (hg : ∀ b, g b = f b + if b = a then 1 else 0) (h : Lows K mg H T 0 vs qs f)
    (mk : ∀ T', T' a = 0 → Owns K mg H T' 0 vs qs (fun _ => 0) → Own K mg H T' 0 v p (fun _ => 0)) : Low K mg H T 0 v p g := by
  obtain ⟨f', l, h⟩ := h
  refine ⟨fun _ => 0, fun b => Nat.zero_le _, fun T' t z => mk T' (z a (by rw [hg, if_pos rfl]; omega) rfl) ?_⟩
  have hz : ∀ b, f b ≠ 0 → f' b = 0 → T' b = 0 := fun b n _ => z b (by rw [hg]; omega) rfl
  have q := h T' t hz
  exact Owns.cnt q fun b => (Owns.zero q b).symm
mutual
theorem Own.low : ∀ {d e : Nat} {v : V} {p : PV} {f : Cnt}, Own K mg H T d v p f → (∀ b, f b ≤ 1) → e ≤ d → Low K mg H T e v p f
  | _, _, _, _, _, .non z, _, _ => ⟨fun _ => 0, fun _ => Nat.zero_le _, fun _ _ _ => .non fun _ => rfl⟩
  | _, _, _, _, _, .bl k z, _, _ => ⟨fun _ => 0, fun _ => Nat.zero_le _, fun _ _ _ => .bl k fun _ => rfl⟩
  | _, _, _, _, _, .int i z, _, _ => ⟨fun _ => 0, fun _ => Nat.zero_le _, fun _ _ _ => .int i fun _ => rfl⟩
  | _, _, _, _, _, .str x z, _, _ => ⟨fun _ => 0, fun _ => Nat.zero_le _, fun _ _ _ => .str x fun _ => rfl⟩
  | _, _, _, _, _, .tup h r, u, l => let ⟨f', a, b⟩ := Owns.low r u l; ⟨f', a, fun T' t z => .tup h (b T' t z)⟩
  | _, _, _, _, _, .ktp h r, u, l => let ⟨f', a, b⟩ := Owns.low r u l; ⟨f', a, fun T' t z => .ktp h (b T' t z)⟩
  | _, _, _, _, _, .rng h z, _, _ => ⟨fun _ => 0, fun _ => Nat.zero_le _, fun _ _ _ => .rng h fun _ => rfl⟩
  | _, e, _, _, _, .lst0 h r, u, l => by
    obtain rfl : e = 0 := by omega
    obtain ⟨f', a, b⟩ := Owns.low r u (Nat.le_refl 0)
    exact ⟨f', a, fun T' t z => .lst0 (h.imp (fun q => ⟨q.1, le0 t q.2⟩) id) (b T' t z)⟩
  | _, e, _, _, _, .scr0 h r, u, l => by
    obtain rfl : e = 0 := by omega
    obtain ⟨f', a, b⟩ := Owns.low r u (Nat.le_refl 0)
    exact ⟨f', a, fun T' t z => .scr0 (h.imp (fun q => ⟨q.1, le0 t q.2⟩) id) (b T' t z)⟩
  | _, 0, _, _, _, .lst1 h r hg, u, l => low0 hg (Owns.low r (fun b => by have := u b; rw [hg] at this; omega) (Nat.zero_le _)) fun T' z q => .lst0 (.inl ⟨.inl h, z⟩) q
  | _, e + 1, _, _, _, .lst1 h r hg, u, l => low1 hg u (Owns.low r (fun b => by have := u b; rw [hg] at this; omega) (Nat.le_of_succ_le_succ l)) fun T' f' g' q k => .lst1 h q k
  | _, e, _, _, _, .dK0 h t0 e1 e2 r, u, l => by
    obtain rfl : e = 0 := by omega
    obtain ⟨f', a, b⟩ := Owns.low r u (Nat.le_refl 0)
    exact ⟨f', a, fun T' t z => .dK0 h (le0 t t0) e1 e2 (b T' t z)⟩
  | _, 0, _, _, _, .dK1 h e1 e2 r hg, u, l => low0 hg (Owns.low r (fun b => by have := u b; rw [hg] at this; omega) (Nat.zero_le _)) fun T' z q => .dK0 h z e1 e2 q
  | _, e + 1, _, _, _, .dK1 h e1 e2 r hg, u, l => low1 hg u (Owns.low r (fun b => by have := u b; rw [hg] at this; omega) (Nat.le_of_succ_le_succ l)) fun T' f' g' q k => .dK1 h e1 e2 q k
  | _, e, _, _, _, .dT0 h t0 e1 e2 r, u, l => by
    obtain rfl : e = 0 := by omega
    obtain ⟨f', a, b⟩ := Owns.low r u (Nat.le_refl 0)
    exact ⟨f', a, fun T' t z => .dT0 h (le0 t t0) e1 e2 (b T' t z)⟩
  | _, 0, _, _, _, .dT1 h e1 e2 r hg, u, l => low0 hg (Owns.low r (fun b => by have := u b; rw [hg] at this; omega) (Nat.zero_le _)) fun T' z q => .dT0 h z e1 e2 q
  | _, e + 1, _, _, _, .dT1 h e1 e2 r hg, u, l => low1 hg u (Owns.low r (fun b => by have := u b; rw [hg] at this; omega) (Nat.le_of_succ_le_succ l)) fun T' f' g' q k => .dT1 h e1 e2 q k
  | _, e, _, _, _, .ins0 h t0 m e1 e2 r, u, l => by
    obtain rfl : e = 0 := by omega
    obtain ⟨f', a, b⟩ := Owns.low r u (Nat.le_refl 0)
    exact ⟨f', a, fun T' t z => .ins0 h (le0 t t0) m e1 e2 (b T' t z)⟩
  | _, 0, _, _, _, .ins1 h m e1 e2 r hg, u, l => low0 hg (Owns.low r (fun b => by have := u b; rw [hg] at this; omega) (Nat.zero_le _)) fun T' z q => .ins0 h z m e1 e2 q
  | _, e + 1, _, _, _, .ins1 h m e1 e2 r hg, u, l => low1 hg u (Owns.low r (fun b => by have := u b; rw [hg] at this; omega) (Nat.le_of_succ_le_succ l)) fun T' f' g' q k => .ins1 h m e1 e2 q k
theorem Owns.low : ∀ {d e : Nat} {vs : List V} {ps : List PV} {f : Cnt}, Owns K mg H T d vs ps f → (∀ b, f b ≤ 1) → e ≤ d → Lows K mg H T e vs ps f
  | _, _, _, _, _, .nil z, _, _ => ⟨fun _ => 0, fun _ => Nat.zero_le _, fun _ _ _ => .nil fun _ => rfl⟩
  | _, _, _, _, _, @Owns.cons _ _ _ _ _ _ _ _ _ f g k h r hk, u, l => by
    obtain ⟨f', a1, b1⟩ := Own.low h (fun b => by have := u b; rw [hk] at this; omega) l
    obtain ⟨g', a2, b2⟩ := Owns.low r (fun b => by have := u b; rw [hk] at this; omega) l
    refine ⟨fun b => f' b + g' b, fun b => by show f' b + g' b ≤ k b; rw [hk]; have := a1 b; have := a2 b; omega, fun T' t z => .cons (b1 T' t fun b n n' => z b (by rw [hk]; omega) ?_) (b2 T' t fun b n n' => z b (by rw [hk]; omega) ?_) fun _ => rfl⟩
    · have q := u b; rw [hk] at q; have := a2 b
      show f' b + g' b = 0; omega
    · have q := u b; rw [hk] at q; have := a1 b
      show f' b + g' b = 0; omega
end
end
end M

set_option Elab.async false
set_option linter.all false
set_option maxRecDepth 100000
set_option maxHeartbeats 4000000
namespace M
open PySem PySem.Spec PyProof.Rows L2

/-! ### heights, data -/
mutual
def hgt : PV → Nat
  | .tup xs => hgts xs
  | .ktp xs => hgts xs
  | .rng _ _ => 1
  | .lst xs => hgts xs + 1
  | .scr xs => hgts xs + 1
  | .dct _ kvs => hgtK kvs + 1
  | .ins _ fs => hgtF fs + 1
  | _ => 0
def hgts : List PV → Nat
  | [] => 0
  | p :: ps => max (hgt p) (hgts ps)
def hgtK : List (PV × PV) → Nat
  | [] => 0
  | (_, p) :: ps => max (hgt p) (hgtK ps)
def hgtF : List (Str × PV) → Nat
  | [] => 0
  | (_, p) :: ps => max (hgt p) (hgtF ps)
end
def flat (p : PV) : Bool := hgt p == 0
mutual
def py : PV → Option PyData
  | .non => some .none
  | .bl b => some (.bool b)
  | .int i => some (.int i)
  | .str x => some (.str x)
  | .tup xs => (pys xs).map .tuple
  | .ktp xs => (pys xs).map .tuple
  | .rng _ _ => none
  | .lst xs => (pys xs).map .list
  | .scr _ => none
  | .dct _ _ => none
  | .ins _ _ => none
def pys : List PV → Option (List PyData)
  | [] => some []
  | p :: ps => (py p).bind fun d => (pys ps).map (d :: ·)
end
theorem hgtK_map : ∀ kvs : List (PV × PV), hgtK kvs = hgts (kvs.map (·.2))
  | [] => rfl
  | (_, p) :: r => by rw [hgtK, List.map_cons, hgts, hgtK_map r]
theorem hgtF_map : ∀ kvs : List (Str × PV), hgtF kvs = hgts (kvs.map (·.2))
  | [] => rfl
  | (_, p) :: r => by rw [hgtF, List.map_cons, hgts, hgtF_map r]

section
variable {K : PySem.W.Frag} {mg : Str → Option Value} {H H' : Hp} {T T' : Cnt}
mutual
theorem Rep.dp : ∀ {v : V} {p : PV} {d : PyData}, Rep K mg H v p → py p = some d → Dp K H v d
  | _, _, _, .non, e => by cases e; exact .non
  | _, _, _, .bl b, e => by cases e; exact .bl b
  | _, _, _, .int i, e => by cases e; exact .int i
  | _, _, _, .str x, e => by cases e; exact .str x
  | _, _, _, @Rep.tup _ _ _ a vs ps h r, e => by
    rw [py, Option.map_eq_some_iff] at e
    obtain ⟨ds, e, rfl⟩ := e
    exact .tup (SqT.of h) (Reps.dp r e)
  | _, _, _, @Rep.ktp _ _ _ a vs ps h r, e => by
    rw [py, Option.map_eq_some_iff] at e
    obtain ⟨ds, e, rfl⟩ := e
    exact .tup (.inr h) (Reps.dp r e)
  | _, _, _, @Rep.lst _ _ _ a vs ps h r, e => by
    rw [py, Option.map_eq_some_iff] at e
    obtain ⟨ds, e, rfl⟩ := e
    exact .lst h.sq (Reps.dp r e)
  | _, _, _, .rng _, e => by cases e
  | _, _, _, .scr _ _, e => by cases e
  | _, _, _, .dK _ _ _ _, e => by cases e
  | _, _, _, .dT _ _ _ _, e => by cases e
  | _, _, _, .ins _ _ _ _ _, e => by cases e
theorem Reps.dp : ∀ {vs : List V} {ps : List PV} {ds : List PyData}, Reps K mg H vs ps → pys ps = some ds → DpAll K H vs ds
  | _, _, _, .nil, e => by cases e; exact .nil
  | _, _, _, .cons h r, e => by
    rw [pys, Option.bind_eq_some_iff] at e
    obtain ⟨d, e1, e⟩ := e
    rw [Option.map_eq_some_iff] at e
    obtain ⟨ds, e, rfl⟩ := e
    exact .cons (Rep.dp h e1) (Reps.dp r e)
end
mutual
/-- as many levels as there are: nothing of it is shared -/
theorem Own.tall : ∀ {d : Nat} {v : V} {p : PV} {f : Cnt}, Own K mg H T d v p f → hgt p ≤ d → Own K mg H T' d v p f
  | _, _, _, _, .non z, _ => .non z
  | _, _, _, _, .bl k z, _ => .bl k z
  | _, _, _, _, .int i z, _ => .int i z
  | _, _, _, _, .str x z, _ => .str x z
  | _, _, _, _, .tup h r, l => .tup h (Owns.tall r (by rw [hgt] at l; exact l))
  | _, _, _, _, .ktp h r, l => .ktp h (Owns.tall r (by rw [hgt] at l; exact l))
  | _, _, _, _, .rng h z, _ => .rng h z
  | _, _, _, _, .lst0 h r, l => by rw [hgt] at l; omega
  | _, _, _, _, .scr0 h r, l => by rw [hgt] at l; omega
  | _, _, _, _, .lst1 h r hg, l => .lst1 h (Owns.tall r (by rw [hgt] at l; omega)) hg
  | _, _, _, _, .dK0 h t e1 e2 r, l => by rw [hgt] at l; omega
  | _, _, _, _, .dK1 h e1 e2 r hg, l => .dK1 h e1 e2 (Owns.tall r (by rw [hgt, hgtK_map] at l; omega)) hg
  | _, _, _, _, .dT0 h t e1 e2 r, l => by rw [hgt] at l; omega
  | _, _, _, _, .dT1 h e1 e2 r hg, l => .dT1 h e1 e2 (Owns.tall r (by rw [hgt, hgtK_map] at l; omega)) hg
  | _, _, _, _, .ins0 h t m e1 e2 r, l => by rw [hgt] at l; omega
  | _, _, _, _, .ins1 h m e1 e2 r hg, l => .ins1 h m e1 e2 (Owns.tall r (by rw [hgt, hgtF_map] at l; omega)) hg
theorem Owns.tall : ∀ {d : Nat} {vs : List V} {ps : List PV} {f : Cnt}, Owns K mg H T d vs ps f → hgts ps ≤ d → Owns K mg H T' d vs ps f
  | _, _, _, _, .nil z, _ => .nil z
  | _, _, _, _, .cons h r hk, l => .cons (Own.tall h (by rw [hgts] at l; omega)) (Owns.tall r (by rw [hgts] at l; omega)) hk
end
mutual
/-- no list in it: any levels are ours -/
theorem Rep.own : ∀ {v : V} {p : PV}, Rep K mg H v p → hgt p = 0 → ∀ (d : Nat), Own K mg H T d v p fun _ => 0
  | _, _, .non, _, _ => .non fun _ => rfl
  | _, _, .bl k, _, _ => .bl k fun _ => rfl
  | _, _, .int i, _, _ => .int i fun _ => rfl
  | _, _, .str x, _, _ => .str x fun _ => rfl
  | _, _, .tup h r, l, d => .tup h (Reps.own r (by rw [hgt] at l; exact l) d)
  | _, _, .ktp h r, l, d => .ktp h (Reps.own r (by rw [hgt] at l; exact l) d)
  | _, _, .rng h, l, _ => by rw [hgt] at l; omega
  | _, _, .lst h r, l, _ => by rw [hgt] at l; omega
  | _, _, .scr h r, l, _ => by rw [hgt] at l; omega
  | _, _, .dK h e1 e2 r, l, _ => by rw [hgt] at l; omega
  | _, _, .dT h e1 e2 r, l, _ => by rw [hgt] at l; omega
  | _, _, .ins h m e1 e2 r, l, _ => by rw [hgt] at l; omega
theorem Reps.own : ∀ {vs : List V} {ps : List PV}, Reps K mg H vs ps → hgts ps = 0 → ∀ (d : Nat), Owns K mg H T d vs ps fun _ => 0
  | _, _, .nil, _, _ => .nil fun _ => rfl
  | _, _, .cons h r, l, d => .cons (Rep.own h (by rw [hgts] at l; omega) d) (Reps.own r (by rw [hgts] at l; omega) d) fun _ => rfl
end
theorem Reps.length : ∀ {vs : List V} {ps : List PV}, Reps K mg H vs ps → vs.length = ps.length
  | _, _, .nil => rfl
  | _, _, .cons _ r => by rw [List.length_cons, List.length_cons, r.length]
theorem Reps.get : ∀ {vs : List V} {ps : List PV} {i : Nat} {p : PV}, Reps K mg H vs ps → ps[i]? = some p → ∃ v, vs[i]? = some v ∧ Rep K mg H v p
  | _, _, _, _, .nil, e => by simp at e
  | _, _, 0, _, .cons h _, e => by simp at e; subst e; exact ⟨_, rfl, h⟩
  | _, _, i + 1, _, .cons _ r, e => by
    obtain ⟨v, a, b⟩ := r.get (i := i) (by simpa using e)
    exact ⟨v, by simpa using a, b⟩
theorem Reps.get' : ∀ {vs : List V} {ps : List PV} {i : Nat} {v : V}, Reps K mg H vs ps → vs[i]? = some v → ∃ p, ps[i]? = some p ∧ Rep K mg H v p
  | _, _, _, _, .nil, e => by simp at e
  | _, _, 0, _, .cons h _, e => by simp at e; subst e; exact ⟨_, rfl, h⟩
  | _, _, i + 1, _, .cons _ r, e => by
    obtain ⟨v, a, b⟩ := r.get' (i := i) (by simpa using e)
    exact ⟨v, by simpa using a, b⟩
theorem Reps.append : ∀ {vs ws : List V} {ps qs : List PV}, Reps K mg H vs ps → Reps K mg H ws qs → Reps K mg H (vs ++ ws) (ps ++ qs)
  | _, _, _, _, .nil, s => s
  | _, _, _, _, .cons h r, s => .cons h (r.append s)
theorem Reps.take : ∀ {vs : List V} {ps : List PV} (n : Nat), Reps K mg H vs ps → Reps K mg H (vs.take n) (ps.take n)
  | _, _, 0, _ => .nil
  | _, _, _ + 1, .nil => .nil
  | _, _, n + 1, .cons h r => .cons h (r.take n)
theorem Reps.drop : ∀ {vs : List V} {ps : List PV} (n : Nat), Reps K mg H vs ps → Reps K mg H (vs.drop n) (ps.drop n)
  | _, _, 0, r => r
  | _, _, _ + 1, .nil => .nil
  | _, _, n + 1, .cons _ r => r.drop n
theorem Reps.reverse : ∀ {vs : List V} {ps : List PV}, Reps K mg H vs ps → Reps K mg H vs.reverse ps.reverse
  | _, _, .nil => .nil
  | _, _, .cons h r => by rw [List.reverse_cons, List.reverse_cons]; exact r.reverse.append (.cons h .nil)
theorem Reps.rep {vs : List V} {ps : List PV} (h : Reps K mg H vs ps) : ∀ n, Reps K mg H (List.replicate n vs).flatten (List.replicate n ps).flatten
  | 0 => .nil
  | n + 1 => by rw [List.replicate_succ, List.replicate_succ, List.flatten_cons, List.flatten_cons]; exact h.append (h.rep n)
theorem Reps.atI {vs : List V} {ps : List PV} {i : Int} {p : PV} (h : Reps K mg H vs ps) (e : L2.atI ps i = some p) : ∃ v, L2.atI vs i = some v ∧ Rep K mg H v p := by
  unfold L2.atI at e ⊢
  rw [h.length]
  cases q : ixN ps.length i with
  | none => rw [q] at e; cases e
  | some j =>
    rw [q] at e
    exact h.get e
end

/-! ### results -/
inductive Rs (ε α : Type) where
  | stuck | ok (a : α) | exc (e : ε)
def Rs.bind {ε α β : Type} (r : Rs ε α) (k : α → Rs ε β) : Rs ε β :=
  match r with
  | .stuck => .stuck
  | .ok a => k a
  | .exc e => .exc e
structure Xn where
  nm : Str
  fl : List (Str × PV)
structure Slot where
  d : Nat
  pin : Bool
  v : PV
abbrev LEnv := List (Option Slot)
def ofO {ε α : Type} : Option α → Rs ε α
  | none => .stuck
  | some a => .ok a
/-- an exception's own dict -/
def XcAt (K : PySem.W.Frag) (mg : Str → Option Value) (H : Hp) (x : Xn) (C dd : Addr) : Prop :=
  mg x.nm = some (.ref C) ∧ ∃ fv vs, H dd = some (.xd fv) ∧ fv.map (·.1) = x.fl.map (·.1) ∧ vs = fv.map (·.2) ∧ Reps K mg H vs (x.fl.map (·.2))
theorem XcAt.grow {K : PySem.W.Frag} {mg : Str → Option Value} {H H' : Hp} {x : Xn} {C dd : Addr} (h : XcAt K mg H x C dd) (g : Grow H H') : XcAt K mg H' x C dd := by
  obtain ⟨a, fv, vs, b, c, d, e⟩ := h
  exact ⟨a, fv, vs, g _ _ b, c, d, e.grow g⟩

/-! ### pure expressions: the slots stand, the heap grows -/
def Sees (K : PySem.W.Frag) (mg : Str → Option Value) (H : Hp) (env : LEnv) (σ : L2.St) : Prop := (∀ (i : Nat) (s : Slot), env[i]? = some (some s) → ∃ v, σ[i]? = some (some v) ∧ Rep K mg H v s.v) ∧ env.length = σ.length
theorem Sees.grow {K : PySem.W.Frag} {mg : Str → Option Value} {H H' : Hp} {env : LEnv} {σ : L2.St} (h : Sees K mg H env σ) (g : Grow H H') : Sees K mg H' env σ := ⟨fun i s e => let ⟨v, a, b⟩ := h.1 i s e; ⟨v, a, b.grow g⟩, h.2⟩
abbrev MP (α : Type) := LEnv → Rs Xn α
def wpP {α : Type} (W : WX) (K : PySem.W.Frag) (mg : Str → Option Value) (σ : L2.St) (H : Hp) (r : Rs Xn α) (Q : α → Hp → Prop) : Prop :=
  match r with
  | .stuck => False
  | .ok a => ∀ H', Grow H H' → Q a H'
  | .exc xn => ∀ C dd H', Grow H H' → XcAt K mg H' xn C dd → W (.ref C) (some dd) σ H'
def tSP (K : PySem.W.Frag) (mg : Str → Option Value) (W : WX) (m : MP PV) : TE := fun σ H Q => ∃ env, Sees K mg H env σ ∧ wpP W K mg σ H (m env) fun p H' => ∀ x, Rep K mg H' x p → Q x H'
def tSPT (K : PySem.W.Frag) (mg : Str → Option Value) (W : WX) (m : MP Bool) : TT := fun σ H Q => ∃ env, Sees K mg H env σ ∧ wpP W K mg σ H (m env) fun b H' => Q b H'
def tSPs (K : PySem.W.Frag) (mg : Str → Option Value) (W : WX) (m : MP (List PV)) : TA := fun σ H Q => ∃ env, Sees K mg H env σ ∧ wpP W K mg σ H (m env) fun ps H' => ∀ xs, Reps K mg H' xs ps → Q xs H'
/-- .. whose value is a new list -/
def tSPF (K : PySem.W.Frag) (mg : Str → Option Value) (W : WX) (m : MP (List PV)) : TE := fun σ H Q => ∃ env, Sees K mg H env σ ∧ wpP W K mg σ H (m env) fun ps H' => ∀ xs q, Reps K mg H' xs ps → H' q = none → Q (.ref q) (upd H' q (.lst xs))
def SP (X : Cx) (W : WX) (e : Expr) (m : MP PV) : Prop := PE X e (tSP X.K X.mg W m)
def SPT (X : Cx) (W : WX) (e : Expr) (m : MP Bool) : Prop := PT X e (tSPT X.K X.mg W m)
def SPs (X : Cx) (W : WX) (es : List Expr) (m : MP (List PV)) : Prop := PA X es (tSPs X.K X.mg W m)
def SPF (X : Cx) (W : WX) (e : Expr) (m : MP (List PV)) : Prop := PE X e (tSPF X.K X.mg W m)

theorem _root_.L2.PE.weak {X : Cx} {e : Expr} {t t' : TE} (h : PE X e t) (w : ∀ σ H Q, t' σ H Q → t σ H Q) : PE X e t' := ⟨fun pins s σ H Q I q => h.run pins s σ H Q I (w σ H Q q)⟩
theorem _root_.L2.PT.weak {X : Cx} {e : Expr} {t t' : TT} (h : PT X e t) (w : ∀ σ H Q, t' σ H Q → t σ H Q) : PT X e t' := ⟨fun pins s σ H Q I q => h.run pins s σ H Q I (w σ H Q q)⟩
theorem _root_.L2.PA.weak {X : Cx} {e : List Expr} {t t' : TA} (h : PA X e t) (w : ∀ σ H Q, t' σ H Q → t σ H Q) : PA X e t' := ⟨fun pos pins s σ H Q I q => h.run pos pins s σ H Q I (w σ H Q q)⟩
theorem _root_.L2.PS.weak {X : Cx} {e : Stmt} {t t' : TS} (h : PS X e t) (w : ∀ D σ H, t' D σ H → t D σ H) : PS X e t' := ⟨fun pins s σ H D I q => h.run pins s σ H D I (w D σ H q)⟩
theorem _root_.L2.PSs.weak {X : Cx} {e : List Stmt} {t t' : TS} (h : PSs X e t) (w : ∀ D σ H, t' D σ H → t D σ H) : PSs X e t' := ⟨fun pins s σ H D I q => h.run pins s σ H D I (w D σ H q)⟩

section
variable {K : PySem.W.Frag} {mg : Str → Option Value} {W : WX} {σ : L2.St} {H : Hp} {α β : Type}
theorem wpP_mono {r : Rs Xn α} {Q Q' : α → Hp → Prop} (h : wpP W K mg σ H r Q) (k : ∀ a H', Grow H H' → Q a H' → Q' a H') : wpP W K mg σ H r Q' := by
  cases r with
  | stuck => exact h
  | ok a => exact fun H' g => k a H' g (h H' g)
  | exc x => exact h
theorem wpP_bind {r : Rs Xn α} {f : α → Rs Xn β} {Q : β → Hp → Prop} (h : wpP W K mg σ H (r.bind f) Q) : wpP W K mg σ H r fun a H' => wpP W K mg σ H' (f a) Q := by
  cases r with
  | stuck => exact h
  | ok a =>
    intro H' g
    show wpP W K mg σ H' (f a) Q
    have h' : wpP W K mg σ H (f a) Q := h
    generalize f a = z at h' ⊢
    cases z with
    | stuck => exact h'
    | ok b => exact fun H'' g' => h' H'' (g.trans g')
    | exc x => exact fun C dd H'' g' => h' C dd H'' (g.trans g')
  | exc x => exact h
/-- the first of two is evaluated -/
theorem tsp_bind {ma : MP PV} {k : LEnv → PV → Rs Xn β} {env : LEnv} {Q : β → Hp → Prop} {Q' : VK} (s : Sees K mg H env σ) (h : wpP W K mg σ H ((ma env).bind (k env)) Q)
    (q : ∀ p x H1, Grow H H1 → Rep K mg H1 x p → Sees K mg H1 env σ → wpP W K mg σ H1 (k env p) Q → Q' x H1) : tSP K mg W ma σ H Q' :=
  ⟨env, s, wpP_mono (wpP_bind h) fun p H1 g w x r => q p x H1 g r (s.grow g) w⟩
theorem tspT_bind {ma : MP Bool} {k : LEnv → Bool → Rs Xn β} {env : LEnv} {Q : β → Hp → Prop} {Q' : Bool → Hp → Prop} (s : Sees K mg H env σ) (h : wpP W K mg σ H ((ma env).bind (k env)) Q)
    (q : ∀ b H1, Grow H H1 → Sees K mg H1 env σ → wpP W K mg σ H1 (k env b) Q → Q' b H1) : tSPT K mg W ma σ H Q' :=
  ⟨env, s, wpP_mono (wpP_bind h) fun b H1 g w => q b H1 g (s.grow g) w⟩
theorem tsps_bind {ma : MP (List PV)} {k : LEnv → List PV → Rs Xn β} {env : LEnv} {Q : β → Hp → Prop} {Q' : List V → Hp → Prop} (s : Sees K mg H env σ) (h : wpP W K mg σ H ((ma env).bind (k env)) Q)
    (q : ∀ ps xs H1, Grow H H1 → Reps K mg H1 xs ps → Sees K mg H1 env σ → wpP W K mg σ H1 (k env ps) Q → Q' xs H1) : tSPs K mg W ma σ H Q' :=
  ⟨env, s, wpP_mono (wpP_bind h) fun p H1 g w x r => q p x H1 g r (s.grow g) w⟩
theorem wpP_ofO {o : Option α} {Q : α → Hp → Prop} (h : wpP W K mg σ H (ofO o) Q) : ∃ a, o = some a ∧ ∀ H', Grow H H' → Q a H' := by
  cases o with
  | none => exact h.elim
  | some a => exact ⟨a, rfl, h⟩
end

/-! ### operations on values -/
def VOp (K : PySem.W.Frag) (mg : Str → Option Value) (r : R2) (g : PV → PV → Option PV) : Prop :=
  ∀ H x y p q z Q, Rep K mg H x p → Rep K mg H y q → g p q = some z → (∀ v H', Grow H H' → Rep K mg H' v z → Q v H') → r x y H Q
/-- .. giving a new list -/
def VOpF (K : PySem.W.Frag) (mg : Str → Option Value) (r : R2) (g : PV → PV → Option (List PV)) : Prop :=
  ∀ H x y p q z Q, Rep K mg H x p → Rep K mg H y q → g p q = some z → (∀ vs a, Reps K mg H vs z → H a = none → Q (.ref a) (upd H a (.lst vs))) → r x y H Q
def UOp (K : PySem.W.Frag) (mg : Str → Option Value) (r : V → Hp → VK → Prop) (g : PV → Option PV) : Prop :=
  ∀ H x p z Q, Rep K mg H x p → g p = some z → (∀ v H', Grow H H' → Rep K mg H' v z → Q v H') → r x H Q
def COp (K : PySem.W.Frag) (mg : Str → Option Value) (r : List V → Hp → VK → Prop) (g : List PV → Option PV) : Prop :=
  ∀ H xs ps z Q, Reps K mg H xs ps → g ps = some z → (∀ v H', Grow H H' → Rep K mg H' v z → Q v H') → r xs H Q
def COpF (K : PySem.W.Frag) (mg : Str → Option Value) (r : List V → Hp → VK → Prop) (g : List PV → Option (List PV)) : Prop :=
  ∀ H xs ps z Q, Reps K mg H xs ps → g ps = some z → (∀ vs a, Reps K mg H vs z → H a = none → Q (.ref a) (upd H a (.lst vs))) → r xs H Q

def mBin (g : PV → PV → Option PV) (ma mb : MP PV) : MP PV := fun env => (ma env).bind fun p => (mb env).bind fun q => ofO (g p q)
def mBinF (g : PV → PV → Option (List PV)) (ma mb : MP PV) : MP (List PV) := fun env => (ma env).bind fun p => (mb env).bind fun q => ofO (g p q)
def mUn (g : PV → Option PV) (ma : MP PV) : MP PV := fun env => (ma env).bind fun p => ofO (g p)
def mFn (g : List PV → Option PV) (ma : MP (List PV)) : MP PV := fun env => (ma env).bind fun p => ofO (g p)
def mFnF (g : List PV → Option (List PV)) (ma : MP (List PV)) : MP (List PV) := fun env => (ma env).bind fun p => ofO (g p)
def mNil : MP (List PV) := fun _ => .ok []
def mCons (ma : MP PV) (mr : MP (List PV)) : MP (List PV) := fun env => (ma env).bind fun p => (mr env).bind fun ps => .ok (p :: ps)
def mV (i : Nat) : MP PV := fun env => match env[i]? with
  | some (some s) => .ok s.v
  | _ => .stuck
def mC (p : PV) : MP PV := fun _ => .ok p
def sizeOk (n : Nat) : Bool := decide (n ≤ 16777216)
theorem sizeOk_le {n : Nat} (h : sizeOk n = true) : n ≤ sizeLine := by rw [sizeLine_eq]; exact of_decide_eq_true h
def mTup (mr : MP (List PV)) : MP PV := fun env => (mr env).bind fun ps => if sizeOk ps.length then .ok (.tup ps) else .stuck
def mLst (mr : MP (List PV)) : MP (List PV) := fun env => (mr env).bind fun ps => if sizeOk ps.length then .ok ps else .stuck
def mOfF (m : MP (List PV)) : MP PV := fun env => (m env).bind fun ps => .ok (.lst ps)
def mIf (mt : MP Bool) (ma mb : MP PV) : MP PV := fun env => (mt env).bind fun b => if b = true then ma env else mb env
def mTst (ma : MP PV) : MP Bool := fun env => (ma env).bind fun p => match p with
  | .bl b => .ok b
  | _ => .stuck
def mNot (mt : MP Bool) : MP Bool := fun env => (mt env).bind fun b => .ok (!b)
def mAnd (ma mb : MP Bool) : MP Bool := fun env => (ma env).bind fun b => if b = true then mb env else .ok false
def mOr (ma mb : MP Bool) : MP Bool := fun env => (ma env).bind fun b => if b = true then .ok true else mb env
def mBl (mt : MP Bool) : MP PV := fun env => (mt env).bind fun b => .ok (.bl b)

section
variable {X : Cx} {W : WX} {a b c : Expr} {es : List Expr} {pos p p2 : Pos} {ma mb mc : MP PV} {ms : MP (List PV)} {mt mu : MP Bool}

theorem sp_var {i : Nat} {x : Str} (h : PE X (.Name x pos) (tVar i)) : SP X W (.Name x pos) (mV i) := h.weak fun σ H Q q => by
  obtain ⟨env, s, w⟩ := q
  unfold mV at w
  split at w
  · rename_i sl e
    obtain ⟨v, e1, r⟩ := s.1 i sl e
    exact ⟨v, e1, w H (Grow.refl H) v r⟩
  · exact w.elim
theorem sp_c {v : V} {z : PV} (h : PE X a (tC v)) (r : ∀ H, Rep X.K X.mg H v z) : SP X W a (mC z) := h.weak fun σ H Q ⟨env, s, w⟩ => w H (Grow.refl H) v (r H)
theorem sp_int {i : Int} {j} : SP X W (.Constant (.int i) j pos) (mC (.int i)) := sp_c pe_int fun _ => .int i
theorem sp_str {x : Str} {j} : SP X W (.Constant (.str x) j pos) (mC (.str x)) := sp_c pe_str fun _ => .str x
theorem sp_bl {k : Bool} {j} : SP X W (.Constant (.bool k) j pos) (mC (.bl k)) := sp_c pe_bl fun _ => .bl k
theorem sp_non {j} : SP X W (.Constant .none j pos) (mC .non) := sp_c pe_non fun _ => .non
theorem sps_nil : SPs X W [] mNil := pa_nil.weak fun σ H Q ⟨env, s, w⟩ => w H (Grow.refl H) [] .nil
theorem sps_cons (ha : SP X W a ma) (hr : SPs X W es ms) (hs : starEach (a :: es) X.env = (false, eval a X.env) :: starEach es X.env := by rfl) : SPs X W (a :: es) (mCons ma ms) :=
  (pa_cons ha hr hs).weak fun σ H Q ⟨env, s, w⟩ => tsp_bind (k := fun env p => (ms env).bind fun ps => .ok (p :: ps)) s w fun p x H1 g r s1 w1 =>
    tsps_bind (k := fun env ps => .ok (p :: ps)) s1 w1 fun ps xs H2 g2 rs s2 w2 => w2 H2 (Grow.refl H2) (x :: xs) (.cons (r.grow g2) rs)

/-- two operands, whatever stands behind -/
theorem two {r : R2} {β : Type} {k : PV → PV → Rs Xn β} {Q' : β → Hp → Prop} {σ : L2.St} {H : Hp} {Q : VK} {env : LEnv} (s : Sees X.K X.mg H env σ) (w : wpP W X.K X.mg σ H ((ma env).bind fun p => (mb env).bind fun q => k p q) Q')
    (h : ∀ x y p q H2, Rep X.K X.mg H2 x p → Rep X.K X.mg H2 y q → wpP W X.K X.mg σ H2 (k p q) Q' → r x y H2 Q) : tOp r (tSP X.K X.mg W ma) (tSP X.K X.mg W mb) σ H Q :=
  tsp_bind (k := fun env p => (mb env).bind fun q => k p q) s w fun p x H1 g r1 s1 w1 => tsp_bind (k := fun env q => k p q) s1 w1 fun q y H2 g2 r2 s2 w2 => h x y p q H2 (r1.grow g2) r2 w2
theorem op_sp {r : R2} {g : PV → PV → Option PV} (hg : VOp X.K X.mg r g) {e : Expr} (h : PE X e (tOp r (tSP X.K X.mg W ma) (tSP X.K X.mg W mb))) : SP X W e (mBin g ma mb) := h.weak fun σ H Q ⟨env, s, w⟩ =>
  two (k := fun p q => ofO (g p q)) s w fun x y p q H2 r1 r2 w2 => by
    obtain ⟨z, e, q2⟩ := wpP_ofO w2
    exact hg H2 x y p q z Q r1 r2 e fun v H' g' rv => q2 H' g' v rv
theorem op_spF {r : R2} {g : PV → PV → Option (List PV)} (hg : VOpF X.K X.mg r g) {e : Expr} (h : PE X e (tOp r (tSP X.K X.mg W ma) (tSP X.K X.mg W mb))) : SPF X W e (mBinF g ma mb) := h.weak fun σ H Q ⟨env, s, w⟩ =>
  two (k := fun p q => ofO (g p q)) s w fun x y p q H2 r1 r2 w2 => by
    obtain ⟨z, e, q2⟩ := wpP_ofO w2
    exact hg H2 x y p q z Q r1 r2 e fun vs a rv na => q2 H2 (Grow.refl H2) vs a rv na
theorem sp_bin {op : Operator} {r : R2} {g : PV → PV → Option PV} (ho : OpR X (binaryOp op) r) (hg : VOp X.K X.mg r g) (ha : SP X W a ma) (hb : SP X W b mb) : SP X W (.BinOp a op b pos) (mBin g ma mb) := op_sp hg (pe_op ho ha hb)
theorem sp_binF {op : Operator} {r : R2} {g : PV → PV → Option (List PV)} (ho : OpR X (binaryOp op) r) (hg : VOpF X.K X.mg r g) (ha : SP X W a ma) (hb : SP X W b mb) : SPF X W (.BinOp a op b pos) (mBinF g ma mb) := op_spF hg (pe_op ho ha hb)
theorem sp_cmp {op : CmpOp} {r : R2} {g : PV → PV → Option PV} (ho : OpR X (compareOp op) r) (hg : VOp X.K X.mg r g) (ha : SP X W a ma) (hb : SP X W b mb) (hm : behindInMarks op b = false) : SP X W (.Compare a [op] [b] pos) (mBin g ma mb) := op_sp hg (pe_cmpR ho ha hb hm)
theorem sp_un {op : UnaryOp} {r : V → Hp → VK → Prop} {g : PV → Option PV} (ho : UnR X (unaryOp op) r) (hg : UOp X.K X.mg r g) (ha : SP X W a ma) : SP X W (.UnaryOp op a pos) (mUn g ma) := (pe_un ho ha).weak fun σ H Q ⟨env, s, w⟩ =>
  tsp_bind (k := fun env p => ofO (g p)) s w fun p x H1 g1 r1 s1 w1 => by
    obtain ⟨z, e, q2⟩ := wpP_ofO w1
    exact hg H1 x p z Q r1 e fun v H' g' rv => q2 H' g' v rv
theorem fn_sp {r : List V → Hp → VK → Prop} {g : List PV → Option PV} (hg : COp X.K X.mg r g) {e : Expr} (h : PE X e (tCB r (tSPs X.K X.mg W ms))) : SP X W e (mFn g ms) := h.weak fun σ H Q ⟨env, s, w⟩ =>
  tsps_bind (k := fun env p => ofO (g p)) s w fun p x H1 g1 r1 s1 w1 => by
    obtain ⟨z, e, q2⟩ := wpP_ofO w1
    exact hg H1 x p z Q r1 e fun v H' g' rv => q2 H' g' v rv
theorem fn_spF {r : List V → Hp → VK → Prop} {g : List PV → Option (List PV)} (hg : COpF X.K X.mg r g) {e : Expr} (h : PE X e (tCB r (tSPs X.K X.mg W ms))) : SPF X W e (mFnF g ms) := h.weak fun σ H Q ⟨env, s, w⟩ =>
  tsps_bind (k := fun env p => ofO (g p)) s w fun p x H1 g1 r1 s1 w1 => by
    obtain ⟨z, e, q2⟩ := wpP_ofO w1
    exact hg H1 x p z Q r1 e fun vs a rv na => q2 H1 (Grow.refl H1) vs a rv na
theorem sp_tup {x1} (h : SPs X W es ms) : SP X W (.Tuple es x1 pos) (mTup ms) := (pe_tup h).weak fun σ H Q ⟨env, s, w⟩ =>
  tsps_bind (k := fun env ps => if sizeOk ps.length then .ok (PV.tup ps) else .stuck) s w fun ps xs H1 g1 r1 s1 w1 => by
    split at w1
    · rename_i hz
      exact ⟨by rw [r1.length]; exact sizeOk_le hz, fun q hq => w1 _ (Grow.upd hq) _ (.tup upd_same (r1.grow (Grow.upd hq)))⟩
    · exact w1.elim
theorem sp_lst (h : SPs X W es ms) : SPF X W (.List es pos) (mLst ms) := (pe_lst h).weak fun σ H Q ⟨env, s, w⟩ =>
  tsps_bind (k := fun env ps => if sizeOk ps.length then .ok ps else .stuck) s w fun ps xs H1 g1 r1 s1 w1 => by
    split at w1
    · rename_i hz
      exact ⟨by rw [r1.length]; exact sizeOk_le hz, fun q hq => w1 _ (Grow.refl _) _ _ r1 hq⟩
    · exact w1.elim
theorem sp_ofF (h : SPF X W a ms) : SP X W a (mOfF ms) := h.weak fun σ H Q ⟨env, s, w⟩ => ⟨env, s, wpP_mono (wpP_bind w) fun ps H1 g w1 xs q r na =>
  w1 _ (Grow.upd na) _ (.lst (LL.of upd_same) (r.grow (Grow.upd na)))⟩
theorem spt_val (h : SP X W a ma) (he : ∀ whole, isTrue a X.env whole = (do let v ← whole; standAt a.pos; holding [v] (truthy v)) := by intro _; rfl) : SPT X W a (mTst ma) := (pt_val h he).weak fun σ H Q ⟨env, s, w⟩ =>
  tsp_bind (k := fun env p => match p with | .bl b => .ok b | _ => .stuck) s w fun p x H1 g r s1 w1 => by
    cases r with
    | bl k => exact ⟨k, rfl, w1 H1 (Grow.refl _)⟩
    | _ => exact w1.elim
theorem spt_cmp {op : CmpOp} {r : R2} {g : PV → PV → Option PV} (ho : OpR X (compareOp op) r) (hg : VOp X.K X.mg r g) (ha : SP X W a ma) (hb : SP X W b mb) (hm : behindInMarks op b = false) : SPT X W (.Compare a [op] [b] pos) (mTst (mBin g ma mb)) :=
  (pt_cmpR ho ha hb hm).weak fun σ H Q ⟨env, s, w⟩ => by
    have h : tSP X.K X.mg W (mBin g ma mb) σ H (fun x H' => ∃ k, x = .bl k ∧ Q k H') := tsp_bind (k := fun env p => match p with | .bl b => .ok b | _ => .stuck) s w fun p x H1 g r s1 w1 => by
      cases r with
      | bl k => exact ⟨k, rfl, w1 H1 (Grow.refl _)⟩
      | _ => exact w1.elim
    obtain ⟨env, s, w⟩ := h
    exact two (k := fun p q => ofO (g p q)) s w fun x y p q H2 r1 r2 w2 => by
      obtain ⟨z, e, q2⟩ := wpP_ofO w2
      exact hg H2 x y p q z _ r1 r2 e fun v H' g' rv => q2 H' g' v rv
theorem spt_not (h : SPT X W a mt) : SPT X W (.UnaryOp .Not a pos) (mNot mt) := (pt_not h).weak fun σ H Q ⟨env, s, w⟩ => tspT_bind (k := fun env b => .ok (!b)) s w fun b H1 g s1 w1 => w1 H1 (Grow.refl _)
theorem sp_if (hc : SPT X W c mt) (ha : SP X W a ma) (hb : SP X W b mb) : SP X W (.IfExp c a b pos) (mIf mt ma mb) := (pe_ifExp hc ha hb).weak fun σ H Q ⟨env, s, w⟩ =>
  tspT_bind (k := fun env b => if b = true then ma env else mb env) s w fun b H1 g s1 w1 => by
    cases b with
    | true => exact ⟨env, s1, w1⟩
    | false => exact ⟨env, s1, w1⟩
/-- and, or: a chain's link -/
def SPW (X : Cx) (W : WX) (e : Expr) (m : MP Bool) : Prop := PW X e (tSPT X.K X.mg W m)
theorem _root_.L2.PW.weak {e : Expr} {t t' : TT} (h : PW X e t) (w : ∀ σ H Q, t' σ H Q → t σ H Q) : PW X e t' := ⟨fun wh pins s σ H Q I q => h.run wh pins s σ H Q I (w σ H Q q)⟩
theorem spt_w (h : SPW X W a mt) : SPT X W a mt := h.pt
theorem spw_and1 (h : SPT X W a mt) : SPW X W (.BoolOp .And [a] pos) mt := pw_and1 h
theorem spw_or1 (h : SPT X W a mt) : SPW X W (.BoolOp .Or [a] pos) mt := pw_or1 h
theorem spw_and {rest : List Expr} (h : SPT X W a mt) (hr : SPW X W (.BoolOp .And (b :: rest) pos) mu) : SPW X W (.BoolOp .And (a :: b :: rest) pos) (mAnd mt mu) := L2.PW.weak (pw_and h hr) fun σ H Q ⟨env, s, w⟩ =>
  tspT_bind (k := fun env b => if b = true then mu env else .ok false) s w fun b H1 g s1 w1 => by
    cases b with
    | true => exact ⟨env, s1, w1⟩
    | false => exact w1 H1 (Grow.refl _)
theorem spw_or {rest : List Expr} (h : SPT X W a mt) (hr : SPW X W (.BoolOp .Or (b :: rest) pos) mu) : SPW X W (.BoolOp .Or (a :: b :: rest) pos) (mOr mt mu) := L2.PW.weak (pw_or h hr) fun σ H Q ⟨env, s, w⟩ =>
  tspT_bind (k := fun env b => if b = true then .ok true else mu env) s w fun b H1 g s1 w1 => by
    cases b with
    | true => exact w1 H1 (Grow.refl _)
    | false => exact ⟨env, s1, w1⟩
end
end M

set_option Elab.async false
set_option linter.all false
set_option maxRecDepth 100000
set_option maxHeartbeats 4000000
namespace M
open PySem PySem.Spec PyProof.Rows L2

/-! ### the slots -/
inductive Slots (K : PySem.W.Frag) (mg : Str → Option Value) (H : Hp) (T : Cnt) : LEnv → L2.St → L2.St → Cnt → Prop
  | nil {f : Cnt} : (∀ b, f b = 0) → Slots K mg H T [] [] [] f
  | off {env : LEnv} {σ σ0 : L2.St} {o o0 : Option V} {f : Cnt} : Slots K mg H T env σ σ0 f → Slots K mg H T (none :: env) (o :: σ) (o0 :: σ0) f
  | on {s : Slot} {env : LEnv} {v : V} {σ σ0 : L2.St} {o0 : Option V} {f g h : Cnt} : Own K mg H T s.d v s.v f → Slots K mg H T env σ σ0 g → (∀ b, h b = f b + g b) → (s.pin = true → o0 = some v) → Slots K mg H T (some s :: env) (some v :: σ) (o0 :: σ0) h

section
variable {K : PySem.W.Frag} {mg : Str → Option Value} {H H' : Hp} {T T' : Cnt} {env : LEnv} {σ σ0 : L2.St} {F : Cnt}
theorem Slots.sees1 (h : Slots K mg H T env σ σ0 F) : ∀ (i : Nat) (s : Slot), env[i]? = some (some s) → ∃ v, σ[i]? = some (some v) ∧ Rep K mg H v s.v := by
  induction h with
  | nil _ => intro i s e; simp at e
  | off _ ih =>
    intro i s e
    cases i with
    | zero => simp at e
    | succ i => simpa using ih i s (by simpa using e)
  | on h _ _ _ ih =>
    intro i s e
    cases i with
    | zero => simp at e; subst e; exact ⟨_, rfl, h.rep⟩
    | succ i => simpa using ih i s (by simpa using e)
theorem Slots.len (h : Slots K mg H T env σ σ0 F) : env.length = σ.length := by
  induction h with
  | nil _ => rfl
  | off _ ih => simp [ih]
  | on _ _ _ _ ih => simp [ih]
theorem Slots.sees (h : Slots K mg H T env σ σ0 F) : Sees K mg H env σ := ⟨h.sees1, h.len⟩
theorem Slots.there (h : Slots K mg H T env σ σ0 F) : ∀ b, F b ≠ 0 → ∃ o, H b = some o ∧ ¬ Still o := by
  induction h with
  | nil z => intro b hb; exact absurd (z b) hb
  | off _ ih => exact ih
  | @on s env v σ σ0 o0 f g h x _ e _ ih =>
    intro b hb
    by_cases q : f b = 0
    · exact ih b (by have := e b; omega)
    · exact x.there b q
theorem Slots.cnt (h : Slots K mg H T env σ σ0 F) {G : Cnt} (e : ∀ b, G b = F b) : Slots K mg H T env σ σ0 G := by
  induction h generalizing G with
  | nil z => exact .nil fun b => (e b).trans (z b)
  | off _ ih => exact .off (ih e)
  | on x r k p ih => exact .on x r (fun b => (e b).trans (k b)) p
theorem Slots.keep (h : Slots K mg H T env σ σ0 F) (h2 : ∀ a o, H a = some o → T a = 0 → T' a = 0) (k : ∀ a o, H a = some o → (F a ≠ 0 ∨ T a = 0 ∨ Still o) → H' a = some o) : Slots K mg H' T' env σ σ0 F := by
  induction h with
  | nil z => exact .nil z
  | off _ ih => exact .off (ih k)
  | on x r e p ih => exact .on (x.keep h2 fun a o q z => k a o q (z.imp (fun n => by rw [e]; omega) id)) (ih fun a o q z => k a o q (z.imp (fun n => by rw [e]; omega) id)) e p
/-- a slot's value is taken out -/
theorem Slots.get (h : Slots K mg H T env σ σ0 F) : ∀ {i : Nat} {s : Slot}, env[i]? = some (some s) → ∃ v f g, σ[i]? = some (some v) ∧ Own K mg H T s.d v s.v f ∧ Slots K mg H T (env.set i none) σ σ0 g ∧ (∀ b, F b = g b + f b) ∧ (s.pin = true → σ0[i]? = some (some v)) := by
  induction h with
  | nil _ => intro i s e; simp at e
  | off r ih =>
    intro i s e
    cases i with
    | zero => simp at e
    | succ i =>
      obtain ⟨v, f, g, a, b, c, d, p⟩ := ih (i := i) (by simpa using e)
      exact ⟨v, f, g, by simpa using a, b, .off c, d, by simpa using p⟩
  | @on s' env v σ σ0 o0 f g h x r e p ih =>
    intro i s q
    cases i with
    | zero =>
      simp at q; subst q
      exact ⟨v, f, g, rfl, x, .off r, fun b => by rw [e b]; omega, fun z => by rw [p z]; rfl⟩
    | succ i =>
      obtain ⟨v', f', g', a, b, c, d, p'⟩ := ih (i := i) (by simpa using q)
      exact ⟨v', f', _, by simpa using a, b, .on x c (fun _ => rfl) p, fun b => by rw [e b, d b]; omega, by simpa using p'⟩
/-- .. is let go -/
theorem Slots.clear (h : Slots K mg H T env σ σ0 F) : ∀ (i : Nat), ∃ g, (∀ b, g b ≤ F b) ∧ Slots K mg H T (env.set i none) σ σ0 g := by
  induction h with
  | nil z => intro i; exact ⟨_, fun b => Nat.le_refl _, .nil z⟩
  | @off env σ σ0 o o0 f r ih =>
    intro i
    cases i with
    | zero => exact ⟨f, fun _ => Nat.le_refl _, .off r⟩
    | succ i => obtain ⟨g, a, b⟩ := ih i; exact ⟨g, a, .off b⟩
  | @on s' env v σ σ0 o0 f g h x r e p ih =>
    intro i
    cases i with
    | zero => exact ⟨g, fun b => by rw [e b]; omega, .off r⟩
    | succ i => obtain ⟨g', a, b⟩ := ih i; exact ⟨_, fun b => by rw [e b]; have := a b; exact Nat.add_le_add_left this _, .on x b (fun _ => rfl) p⟩
/-- .. is put in -/
theorem Slots.put (h : Slots K mg H T env σ σ0 F) : ∀ {i : Nat} {s : Slot} {v : V} {f : Cnt}, env[i]? = some none → Own K mg H T s.d v s.v f → (s.pin = true → σ0[i]? = some (some v)) → Slots K mg H T (env.set i (some s)) (σ.set i (some v)) σ0 fun b => F b + f b := by
  induction h with
  | nil _ => intro i s v f e; simp at e
  | off r ih =>
    intro i s v f e x p
    cases i with
    | zero => exact .on x r (fun b => Nat.add_comm _ _) fun z => by simpa using p z
    | succ i => exact .off (ih (by simpa using e) x (by simpa using p))
  | @on s' env v' σ σ0 o0 f' g h x' r e' p' ih =>
    intro i s v f e x p
    cases i with
    | zero => simp at e
    | succ i => exact .on x' (ih (by simpa using e) x (by simpa using p)) (fun b => by show h b + f b = f' b + (g b + f b); rw [e' b]; omega) p'
theorem Slots.any (h : Slots K mg H T env σ σ0 F) : ∀ {i : Nat} {o : Option V}, env[i]? = some none → Slots K mg H T env (σ.set i o) σ0 F := by
  induction h with
  | nil z => intro i o e; simp at e
  | off r ih =>
    intro i o e
    cases i with
    | zero => exact .off r
    | succ i => exact .off (ih (by simpa using e))
  | on x r e' p ih =>
    intro i o e
    cases i with
    | zero => simp at e
    | succ i => exact .on x (ih (by simpa using e)) e' p
end

/-! ### the state -/
structure Now (K : PySem.W.Frag) (mg : Str → Option Value) (H : Hp) (env : LEnv) (σ σ0 : L2.St) (τ T F : Cnt) : Prop where
  sl : Slots K mg H T env σ σ0 F
  sum : ∀ b, T b = F b + τ b
  one : ∀ b, T b ≤ 1
  ex : ∀ b, τ b ≠ 0 → ∃ o, H b = some o
/-- what code may have done: it wrote what it owned, it made new things; G: what it owns now -/
structure Frm (H : Hp) (F : Cnt) (H' : Hp) (G : Cnt) : Prop where
  keep : ∀ a o, H a = some o → (F a = 0 ∨ Still o) → H' a = some o
  own : ∀ a o, H a = some o → (∃ o', H' a = some o') ∧ G a ≤ F a
section
variable {K : PySem.W.Frag} {mg : Str → Option Value} {H H' H1 H2 : Hp} {T T' F G F1 F2 f τ : Cnt} {env : LEnv} {σ σ0 : L2.St}
theorem Frm.trans (a : Frm H F H1 F1) (b : Frm H1 F1 H2 F2) : Frm H F H2 F2 := by
  refine ⟨fun c o e z => ?_, fun c o e => ?_⟩
  · have e1 := a.keep c o e z
    exact b.keep c o e1 (z.imp (fun q => by have := (a.own c o e).2; omega) id)
  · obtain ⟨⟨o1, e1⟩, l⟩ := a.own c o e
    obtain ⟨⟨o2, e2⟩, l2⟩ := b.own c o1 e1
    exact ⟨⟨o2, e2⟩, Nat.le_trans l2 l⟩
theorem Frm.grow (g : Grow H H') (l : ∀ a o, H a = some o → G a ≤ F a) : Frm H F H' G := ⟨fun a o e _ => g a o e, fun a o e => ⟨⟨o, g a o e⟩, l a o e⟩⟩
theorem Frm.refl : Frm H F H F := .grow (.refl H) fun _ _ _ => Nat.le_refl _
theorem Frm.less (a : Frm H F H' F1) (l : ∀ b, G b ≤ F1 b) : Frm H F H' G := ⟨a.keep, fun c o e => ⟨(a.own c o e).1, Nat.le_trans (l c) (a.own c o e).2⟩⟩
theorem Frm.cnt (a : Frm H F H' F1) (l : ∀ b, G b = F1 b) : Frm H F H' G := a.less fun b => Nat.le_of_eq (l b)
theorem Now.sees (n : Now K mg H env σ σ0 τ T F) : Sees K mg H env σ := n.sl.sees
/-- a temporary value's description stands through code -/
theorem Own.frm {d : Nat} {v : V} {p : PV} (x : Own K mg H T d v p f) (sum : ∀ b, T b = F b + τ b) (one : ∀ b, T b ≤ 1) (l : ∀ b, f b ≤ τ b) (fr : Frm H F H' G) (sum' : ∀ b, T' b = G b + τ b) : Own K mg H' T' d v p f :=
  x.keep (fun a o e t => by have := (fr.own a o e).2; have := sum a; have := sum' a; omega) fun a o e z => fr.keep a o e (by
    rcases z with z | z | z
    · left; have := l a; have := sum a; have := one a; omega
    · left; have := sum a; omega
    · exact .inr z)
theorem Owns.frm {d : Nat} {v : List V} {p : List PV} (x : Owns K mg H T d v p f) (sum : ∀ b, T b = F b + τ b) (one : ∀ b, T b ≤ 1) (l : ∀ b, f b ≤ τ b) (fr : Frm H F H' G) (sum' : ∀ b, T' b = G b + τ b) : Owns K mg H' T' d v p f :=
  x.keep (fun a o e t => by have := (fr.own a o e).2; have := sum a; have := sum' a; omega) fun a o e z => fr.keep a o e (by
    rcases z with z | z | z
    · left; have := l a; have := sum a; have := one a; omega
    · left; have := sum a; omega
    · exact .inr z)
theorem Slots.grow (h : Slots K mg H T env σ σ0 F) (g : Grow H H') : Slots K mg H' T env σ σ0 F := h.keep (fun _ _ _ z => z) fun a o e _ => g a o e
theorem Now.grow (h : Now K mg H env σ σ0 τ T F) (g : Grow H H') : Now K mg H' env σ σ0 τ T F := ⟨h.sl.grow g, h.sum, h.one, fun b z => let ⟨o, e⟩ := h.ex b z; ⟨o, g b o e⟩⟩
end

/-! ### expressions that may give up or hand over what is owned -/
abbrev ME (α : Type) := LEnv → Rs (Xn × LEnv) (α × LEnv)
def wpX (W : WX) (K : PySem.W.Frag) (mg : Str → Option Value) (σ σ0 : L2.St) (τ : Cnt) (H : Hp) (F : Cnt) (x : Xn) (env : LEnv) : Prop :=
  ∀ C dd H' T' F', Now K mg H' env σ σ0 τ T' F' → Frm H F H' F' → XcAt K mg H' x C dd → W (.ref C) (some dd) σ H'
/-- R: what is told of the value -/
def wpE {α : Type} (W : WX) (K : PySem.W.Frag) (mg : Str → Option Value) (σ σ0 : L2.St) (τ : Cnt) (H : Hp) (F : Cnt) (r : Rs (Xn × LEnv) (α × LEnv)) (Q : α → LEnv → Hp → Cnt → Cnt → Cnt → Prop) : Prop :=
  match r with
  | .stuck => False
  | .ok (a, env') => ∀ H' T' F' f, Slots K mg H' T' env' σ σ0 F' → (∀ b, T' b = F' b + f b + τ b) → (∀ b, T' b ≤ 1) → Frm H F H' (fun b => F' b + f b) → Q a env' H' T' F' f
  | .exc (x, env') => wpX W K mg σ σ0 τ H F x env'
def tSE (K : PySem.W.Frag) (mg : Str → Option Value) (W : WX) (m : ME (Nat × PV)) : TE := fun σ H Q => ∃ env σ0 τ T F, Now K mg H env σ σ0 τ T F ∧
  wpE W K mg σ σ0 τ H F (m env) fun a env' H' T' F' f => ∀ x, Own K mg H' T' a.1 x a.2 f → Q x H'
def tSEs (K : PySem.W.Frag) (mg : Str → Option Value) (W : WX) (m : ME (Nat × List PV)) : TA := fun σ H Q => ∃ env σ0 τ T F, Now K mg H env σ σ0 τ T F ∧
  wpE W K mg σ σ0 τ H F (m env) fun a env' H' T' F' f => ∀ xs, Owns K mg H' T' a.1 xs a.2 f → Q xs H'
def SE (X : Cx) (W : WX) (e : Expr) (m : ME (Nat × PV)) : Prop := PE X e (tSE X.K X.mg W m)
def SEs (X : Cx) (W : WX) (e : List Expr) (m : ME (Nat × List PV)) : Prop := PA X e (tSEs X.K X.mg W m)

/-- a pure one's value, settled -/
def liftP {α β : Type} (env : LEnv) (r : Rs Xn α) (k : α → Option β) : Rs (Xn × LEnv) (β × LEnv) :=
  match r with
  | .stuck => .stuck
  | .ok a => match k a with
    | none => .stuck
    | some b => .ok (b, env)
  | .exc x => .exc (x, env)
def mFlat (m : MP PV) : ME (Nat × PV) := fun env => liftP env (m env) fun p => if hgt p = 0 then some (8, p) else none
def mNew (m : MP (List PV)) : ME (Nat × PV) := fun env => liftP env (m env) fun ps => if hgts ps = 0 then some (9, .lst ps) else none
def mMove (i : Nat) : ME (Nat × PV) := fun env => match env[i]? with
  | some (some s) => if hgt s.v = 0 then .ok ((8, s.v), env) else if s.pin then .stuck else .ok ((s.d, s.v), env.set i none)
  | _ => .stuck
def mFrz (i : Nat) : ME (Nat × PV) := fun env => match env[i]? with
  | some (some s) => if hgt s.v = 0 then .ok ((8, s.v), env) else .ok ((0, s.v), env.set i (some ⟨0, s.pin, s.v⟩))
  | _ => .stuck
def mENil : ME (Nat × List PV) := fun env => .ok ((8, []), env)
def eMap {α β : Type} (g : α → Option β) (m : ME α) : ME β := fun env => (m env).bind fun z => match g z.1 with
  | none => .stuck
  | some b => .ok (b, z.2)
def mECons (ma : ME (Nat × PV)) (mr : ME (Nat × List PV)) : ME (Nat × List PV) := fun env => (ma env).bind fun z => eMap (fun r => some (min z.1.1 r.1, z.1.2 :: r.2)) mr z.2
def gTupE (r : Nat × List PV) : Option (Nat × PV) := if sizeOk r.2.length then some (r.1, .tup r.2) else none
def gLstE (r : Nat × List PV) : Option (Nat × PV) := if sizeOk r.2.length then some (r.1 + 1, .lst r.2) else none
def mETup (mr : ME (Nat × List PV)) : ME (Nat × PV) := eMap gTupE mr
def mELst (mr : ME (Nat × List PV)) : ME (Nat × PV) := eMap gLstE mr

section
variable {K : PySem.W.Frag} {mg : Str → Option Value} {W : WX} {σ σ0 : L2.St} {H H1 : Hp} {F F1 f T T1 τ : Cnt} {α β : Type} {env env1 : LEnv}
theorem wpX_frm {x : Xn} (h : wpX W K mg σ σ0 τ H F x env) (fr : Frm H F H1 F1) : wpX W K mg σ σ0 τ H1 F1 x env := fun C dd H' T' F' n g c => h C dd H' T' F' n (fr.trans g) c
/-- a temporary is dropped -/
theorem wpX_drop {x : Xn} (h : wpX W K mg σ σ0 τ H F x env) (fr : Frm H F H1 (fun b => F1 b + f b)) (sum : ∀ b, T1 b = F1 b + f b + τ b) (one : ∀ b, T1 b ≤ 1) : wpX W K mg σ σ0 (fun b => τ b + f b) H1 F1 x env := fun C dd H' T' F' n g c => by
  refine h C dd H' (fun b => F' b + τ b) F' ⟨n.sl.keep (fun a o e t => ?_) (fun a o e z => e), fun b => rfl, fun b => ?_, fun b z => n.ex b (by show τ b + f b ≠ 0; omega)⟩ ⟨fun a o e z => ?_, fun a o e => ?_⟩ c
  · have := n.sum a; show F' a + τ a = 0; omega
  · have := n.sum b; have := n.one b; show F' b + τ b ≤ 1; omega
  · exact g.keep a o (fr.keep a o e z) (z.imp (fun q => by have : F1 a + f a ≤ F a := (fr.own a o e).2; omega) id)
  · obtain ⟨⟨o1, e1⟩, l⟩ := fr.own a o e
    obtain ⟨q, l2⟩ := g.own a o1 e1
    exact ⟨q, by have l' : F1 a + f a ≤ F a := l; omega⟩
/-- what a pure one gives -/
theorem wpE_lift {r : Rs Xn α} {k : α → Option β} {Q : β → LEnv → Hp → Cnt → Cnt → Cnt → Prop} (n : Now K mg H env σ σ0 τ T F) (h : wpE W K mg σ σ0 τ H F (liftP env r k) Q) :
    wpP W K mg σ H r fun a H' => ∃ b, k a = some b ∧ ∀ H2 f, Grow H H2 → (∀ a o, H a = some o → f a = 0) → (∀ b, f b ≤ 1) → Q b env H2 (fun b => F b + f b + τ b) F f := by
  cases r with
  | stuck => exact h
  | ok a =>
    intro H' g
    unfold liftP at h
    simp only at h
    split at h
    · exact h.elim
    · rename_i b e
      refine ⟨b, e, fun H2 f g2 fz fo => h H2 _ F f (n.sl.keep (fun a o e t => ?_) fun a o e _ => g2 a o e) (fun _ => rfl) (fun b => ?_) (.grow g2 fun a o e => ?_)⟩
      · have := fz a o e; have := n.sum a; omega
      · by_cases q : f b = 0
        · have := n.sum b; have := n.one b; omega
        · have t0 : T b = 0 := by
            cases hb : H b with
            | some o => exact absurd (fz b o hb) q
            | none =>
              have h1 : F b = 0 := Classical.byContradiction fun z => by obtain ⟨o, e, _⟩ := n.sl.there b z; rw [hb] at e; cases e
              have h2 : τ b = 0 := Classical.byContradiction fun z => by obtain ⟨o, e⟩ := n.ex b z; rw [hb] at e; cases e
              have := n.sum b; omega
          have := n.sum b; have := fo b; omega
      · have := fz a o e; omega
  | exc x =>
    intro C dd H' g c
    exact h C dd H' T F (n.grow g) (.grow g fun _ _ _ => Nat.le_refl _) c
end
end M

set_option Elab.async false
set_option linter.all false
set_option maxRecDepth 100000
set_option maxHeartbeats 4000000
namespace M
open PySem PySem.Spec PyProof.Rows L2

section
variable {X : Cx} {W : WX} {a b c : Expr} {es : List Expr} {pos p p2 : Pos} {m : MP PV} {mn : MP (List PV)} {ma : ME (Nat × PV)} {ms : ME (Nat × List PV)}
theorem se_flat (h : SP X W a m) : SE X W a (mFlat m) := h.weak fun σ H Q ⟨env, σ0, τ, T, F, n, w⟩ => ⟨env, n.sees, wpP_mono (wpE_lift n w) fun p H' g ⟨q, e, k⟩ x r => by
  split at e
  · rename_i hz
    cases e
    exact k H' (fun _ => 0) g (fun _ _ _ => rfl) (fun _ => Nat.zero_le _) x (r.own hz 8)
  · cases e⟩
theorem se_new (h : SPF X W a mn) : SE X W a (mNew mn) := h.weak fun σ H Q ⟨env, σ0, τ, T, F, n, w⟩ => ⟨env, n.sees, wpP_mono (wpE_lift n w) fun ps H' g ⟨q, e, k⟩ xs l r na => by
  split at e
  · rename_i hz
    cases e
    refine k (upd H' l (.lst xs)) (fun b => if b = l then 1 else 0) (g.trans (Grow.upd na)) (fun a o e => if_neg ?_) (fun b => ?_) (.ref l) (.lst1 upd_same ((r.grow (Grow.upd na)).own hz 8) fun b => (Nat.zero_add _).symm)
    · rintro rfl
      rw [g _ _ e] at na; cases na
    · show (if b = l then 1 else 0) ≤ 1
      split <;> omega
  · cases e⟩
theorem se_move {i : Nat} {x : Str} (h : PE X (.Name x pos) (tVar i)) : SE X W (.Name x pos) (mMove i) := h.weak fun σ H Q ⟨env, σ0, τ, T, F, n, w⟩ => by
  unfold mMove at w
  split at w
  · rename_i s e
    split at w
    · rename_i hz
      obtain ⟨v, e1, r⟩ := n.sees.1 i s e
      exact ⟨v, e1, w H T F (fun _ => 0) n.sl n.sum n.one .refl v (r.own hz 8)⟩
    split at w
    · exact w.elim
    · obtain ⟨v, f, g, e1, o, sl, hs, _⟩ := n.sl.get e
      exact ⟨v, e1, w H T g f sl (fun b => by rw [n.sum b, hs b]) n.one (.grow (.refl H) fun a o e => Nat.le_of_eq (hs a).symm) v o⟩
  · exact w.elim
theorem set_self {α : Type} : ∀ {l : List α} {i : Nat} {a : α}, l[i]? = some a → l.set i a = l
  | [], _, _, e => by simp at e
  | x :: l, 0, a, e => by simp at e; subst e; rfl
  | x :: l, i + 1, a, e => by simp at e; simp [set_self e]
theorem set_set_none {l : LEnv} {i : Nat} {s : Option Slot} : (l.set i none).set i s = l.set i s := by simp
theorem get_set_none {l : LEnv} {i : Nat} {s : Option Slot} (e : l[i]? = some s) : (l.set i none)[i]? = some none := by
  have := (List.getElem?_eq_some_iff.mp e).1
  simp [this]
theorem se_frz {i : Nat} {x : Str} (h : PE X (.Name x pos) (tVar i)) : SE X W (.Name x pos) (mFrz i) := h.weak fun σ H Q ⟨env, σ0, τ, T, F, n, w⟩ => by
  unfold mFrz at w
  split at w
  · rename_i s e
    split at w
    · rename_i hz
      obtain ⟨v, e1, r⟩ := n.sees.1 i s e
      exact ⟨v, e1, w H T F (fun _ => 0) n.sl n.sum n.one .refl v (r.own hz 8)⟩
    · obtain ⟨v, f, g, e1, o, sl, hs, hp⟩ := n.sl.get e
      obtain ⟨f', l, lo⟩ := o.low (fun b => by have := hs b; have := n.sum b; have := n.one b; omega) (Nat.zero_le _)
      have t' : ∀ b, g b + τ b ≤ T b := fun b => by have := hs b; have := n.sum b; omega
      have z : ∀ b, f b ≠ 0 → g b + τ b = 0 := fun b hb => by have := hs b; have := n.sum b; have := n.one b; omega
      have o' := lo (fun b => g b + τ b) t' fun b hb _ => z b hb
      have f0 : ∀ b, f' b = 0 := o'.zero
      have sl' := (sl.keep (T' := fun b => g b + τ b) (fun a o e t => by have := t' a; show g a + τ a = 0; omega) fun a o e _ => e).put (s := ⟨0, s.pin, s.v⟩) (get_set_none e) o' hp
      rw [set_set_none, set_self e1] at sl'
      refine ⟨v, e1, w H (fun b => g b + τ b) (fun b => g b + f' b) (fun _ => 0) sl' (fun b => ?_) (fun b => Nat.le_trans (t' b) (n.one b)) (.grow (.refl H) fun a o e => ?_) v (o'.cnt fun b => (f0 b).symm)⟩
      · have := f0 b; show g b + τ b = g b + f' b + 0 + τ b; omega
      · have := f0 a; have := hs a; show g a + f' a + 0 ≤ F a; omega
  · exact w.elim
theorem ses_nil : SEs X W [] mENil := pa_nil.weak fun σ H Q ⟨env, σ0, τ, T, F, n, w⟩ => w H T F (fun _ => 0) n.sl n.sum n.one .refl [] (.nil fun _ => rfl)

/-- the first of two is evaluated: what follows, with it in hand; behind the second: one operation more -/
theorem wpE_bind {α β : Type} {K : PySem.W.Frag} {mg : Str → Option Value} {σ σ0 : L2.St} {τ : Cnt} {H : Hp} {F : Cnt} {r : Rs (Xn × LEnv) (α × LEnv)} {k : α × LEnv → Rs (Xn × LEnv) (β × LEnv)} {Q : β → LEnv → Hp → Cnt → Cnt → Cnt → Prop}
    (h : wpE W K mg σ σ0 τ H F (r.bind k) Q) : wpE W K mg σ σ0 τ H F r fun a env1 H1 T1 F1 f1 =>
      wpE W K mg σ σ0 (fun b => τ b + f1 b) H1 F1 (k (a, env1)) fun c env2 H2 T2 F2 f2 => ∀ H3 T3 F3 f3, Slots K mg H3 T3 env2 σ σ0 F3 → (∀ b, T3 b = F3 b + f3 b + τ b) → (∀ b, T3 b ≤ 1) →
        Frm H2 (fun b => F2 b + f1 b + f2 b) H3 (fun b => F3 b + f3 b) → Q c env2 H3 T3 F3 f3 := by
  cases r with
  | stuck => exact h
  | ok a =>
    obtain ⟨a, env1⟩ := a
    intro H1 T1 F1 f1 sl1 sum1 one1 fr1
    have h' : wpE W K mg σ σ0 τ H F (k (a, env1)) Q := h
    generalize k (a, env1) = z at h' ⊢
    cases z with
    | stuck => exact h'
    | ok c =>
      obtain ⟨c, env2⟩ := c
      intro H2 T2 F2 f2 sl2 sum2 one2 fr2 H3 T3 F3 f3 sl3 sum3 one3 fr3
      refine h' H3 T3 F3 f3 sl3 sum3 one3 ⟨fun a o e z => ?_, fun a o e => ?_⟩
      · refine fr3.keep a o (fr2.keep a o (fr1.keep a o e z) (z.imp (fun q => by have : F1 a + f1 a ≤ F a := (fr1.own a o e).2; omega) id)) (z.imp (fun q => ?_) id)
        have l1 : F1 a + f1 a ≤ F a := (fr1.own a o e).2
        have l2 : F2 a + f2 a ≤ F1 a := (fr2.own a o (fr1.keep a o e (.inl q))).2
        show F2 a + f1 a + f2 a = 0
        omega
      · obtain ⟨⟨o1, e1⟩, l1⟩ := fr1.own a o e
        obtain ⟨⟨o2, e2⟩, l2⟩ := fr2.own a o1 e1
        obtain ⟨q, l3⟩ := fr3.own a o2 e2
        have l1' : F1 a + f1 a ≤ F a := l1
        have l2' : F2 a + f2 a ≤ F1 a := l2
        have l3' : F3 a + f3 a ≤ F2 a + f1 a + f2 a := l3
        exact ⟨q, by show F3 a + f3 a ≤ F a; omega⟩
    | exc x => 
      obtain ⟨x, env2⟩ := x
      exact wpX_drop h' fr1 sum1 one1
  | exc x => exact h
theorem wpE_mono {α : Type} {K : PySem.W.Frag} {mg : Str → Option Value} {σ σ0 : L2.St} {τ : Cnt} {H : Hp} {F : Cnt} {r : Rs (Xn × LEnv) (α × LEnv)} {Q Q' : α → LEnv → Hp → Cnt → Cnt → Cnt → Prop}
    (h : wpE W K mg σ σ0 τ H F r Q) (k : ∀ a env' H' T' F' f, Slots K mg H' T' env' σ σ0 F' → (∀ b, T' b = F' b + f b + τ b) → (∀ b, T' b ≤ 1) → Frm H F H' (fun b => F' b + f b) → Q a env' H' T' F' f → Q' a env' H' T' F' f) :
    wpE W K mg σ σ0 τ H F r Q' := by
  cases r with
  | stuck => exact h
  | ok a => exact fun H' T' F' f sl su on fr => k _ _ _ _ _ _ sl su on fr (h H' T' F' f sl su on fr)
  | exc x => exact h
/-- the state behind the first, the value among the temporaries -/
theorem Now.temp {K : PySem.W.Frag} {mg : Str → Option Value} {σ σ0 : L2.St} {τ T F : Cnt} {H : Hp} {env : LEnv} (n : Now K mg H env σ σ0 τ T F) {env1 : LEnv} {H1 : Hp} {T1 F1 f1 : Cnt} (sl : Slots K mg H1 T1 env1 σ σ0 F1) (sum : ∀ b, T1 b = F1 b + f1 b + τ b) (one : ∀ b, T1 b ≤ 1)
    (fr : Frm H F H1 (fun b => F1 b + f1 b)) (ex : ∀ b, f1 b ≠ 0 → ∃ o, H1 b = some o) : Now K mg H1 env1 σ σ0 (fun b => τ b + f1 b) T1 F1 :=
  ⟨sl, fun b => by rw [sum b]; show F1 b + f1 b + τ b = F1 b + (τ b + f1 b); omega, one, fun b z => by
    by_cases q : f1 b = 0
    · obtain ⟨o, e⟩ := n.ex b (by have z' : τ b + f1 b ≠ 0 := z; omega)
      exact (fr.own b o e).1
    · exact ex b q⟩
theorem Owns.there' {K : PySem.W.Frag} {mg : Str → Option Value} {H : Hp} {T : Cnt} {d : Nat} {vs : List V} {ps : List PV} {f : Cnt} (h : Owns K mg H T d vs ps f) (b : Addr) (hb : f b ≠ 0) : ∃ o, H b = some o := let ⟨o, e, _⟩ := h.there b hb; ⟨o, e⟩
theorem Own.there' {K : PySem.W.Frag} {mg : Str → Option Value} {H : Hp} {T : Cnt} {d : Nat} {v : V} {p : PV} {f : Cnt} (h : Own K mg H T d v p f) (b : Addr) (hb : f b ≠ 0) : ∃ o, H b = some o := let ⟨o, e, _⟩ := h.there b hb; ⟨o, e⟩

theorem wpE_map {α β : Type} {K : PySem.W.Frag} {mg : Str → Option Value} {σ σ0 : L2.St} {τ : Cnt} {H : Hp} {F : Cnt} {m : ME α} {env : LEnv} {g : α → Option β} {Q : β → LEnv → Hp → Cnt → Cnt → Cnt → Prop}
    (h : wpE W K mg σ σ0 τ H F (eMap g m env) Q) : wpE W K mg σ σ0 τ H F (m env) fun a env' _ _ _ _ => ∃ b, g a = some b ∧ ∀ H' T' F' f, Slots K mg H' T' env' σ σ0 F' → (∀ b, T' b = F' b + f b + τ b) → (∀ b, T' b ≤ 1) → Frm H F H' (fun b => F' b + f b) → Q b env' H' T' F' f := by
  unfold eMap at h
  generalize m env = r at h ⊢
  cases r with
  | stuck => exact h
  | ok a =>
    intro _ _ _ _ _ _ _ _
    have h' : wpE W K mg σ σ0 τ H F (match g a.1 with | none => .stuck | some b => .ok (b, a.2)) Q := h
    split at h'
    · exact h'.elim
    · rename_i b e
      exact ⟨b, e, fun H' T' F' f sl su on fr => h' H' T' F' f sl su on fr⟩
  | exc x => exact h
theorem ses_cons (ha : SE X W a ma) (hr : SEs X W es ms) (hs : starEach (a :: es) X.env = (false, eval a X.env) :: starEach es X.env := by rfl) : SEs X W (a :: es) (mECons ma ms) :=
  (pa_cons ha hr hs).weak fun σ H Q ⟨env, σ0, τ, T, F, n, w⟩ => ⟨env, σ0, τ, T, F, n, wpE_mono (wpE_bind w) fun c env1 H1 T1 F1 f1 sl1 su1 on1 fr1 w1 x o1 =>
    ⟨env1, σ0, _, T1, F1, n.temp sl1 su1 on1 fr1 o1.there', wpE_mono (wpE_map w1) fun r env2 H2 T2 F2 f2 sl2 su2 on2 fr2 ⟨z, ez, w2⟩ xs o2 => by
      cases ez
      have o1' := o1.frm (τ := fun b => τ b + f1 b) (T' := fun b => F2 b + f2 b + (τ b + f1 b)) (F := F1) (fun b => by rw [su1 b]; show F1 b + f1 b + τ b = F1 b + (τ b + f1 b); omega) on1 (fun b => Nat.le_add_left _ _) fr2 (fun b => rfl)
      have e2 : ∀ b, T2 b = F2 b + f2 b + (τ b + f1 b) := su2
      have u2 : ∀ b, F2 b + f2 b + (τ b + f1 b) ≤ 1 := fun b => by rw [← e2 b]; exact on2 b
      obtain ⟨f1', l1, k1⟩ := o1'.low (fun b => by have := u2 b; omega) (Nat.min_le_left c.1 r.1)
      obtain ⟨f2', l2, k2⟩ := o2.low (fun b => by have := u2 b; omega) (Nat.min_le_right c.1 r.1)
      refine w2 H2 T2 F2 f2 sl2 su2 on2 fr2 H2 (fun b => F2 b + (f1' b + f2' b) + τ b) F2 (fun b => f1' b + f2' b) (sl2.keep (fun a o e t => ?_) fun a o e _ => e) (fun b => rfl) (fun b => ?_) (.grow (.refl _) fun b _ _ => ?_) (x :: xs) (.cons (k1 _ (fun b => ?_) fun b z z' => ?_) (k2 _ (fun b => ?_) fun b z z' => ?_) fun _ => rfl)
      · have := e2 a; have := l1 a; have := l2 a; show F2 a + (f1' a + f2' a) + τ a = 0; omega
      · have := u2 b; have := l1 b; have := l2 b; show F2 b + (f1' b + f2' b) + τ b ≤ 1; omega
      · have := l1 b; have := l2 b; show F2 b + (f1' b + f2' b) ≤ F2 b + f1 b + f2 b; omega
      · have := l1 b; have := l2 b; show F2 b + (f1' b + f2' b) + τ b ≤ F2 b + f2 b + (τ b + f1 b); omega
      · have := u2 b; have := l2 b; show F2 b + (f1' b + f2' b) + τ b = 0; omega
      · have := e2 b; have := l1 b; have := l2 b; show F2 b + (f1' b + f2' b) + τ b ≤ T2 b; omega
      · have := u2 b; have := l1 b; show F2 b + (f1' b + f2' b) + τ b = 0; omega⟩⟩
theorem Owns.grow {K : PySem.W.Frag} {mg : Str → Option Value} {H H' : Hp} {T : Cnt} {d : Nat} {vs : List V} {ps : List PV} {f : Cnt} (h : Owns K mg H T d vs ps f) (g : Grow H H') : Owns K mg H' T d vs ps f := h.keep (fun _ _ _ z => z) fun a o e _ => g a o e
theorem Own.grow {K : PySem.W.Frag} {mg : Str → Option Value} {H H' : Hp} {T : Cnt} {d : Nat} {vs : V} {ps : PV} {f : Cnt} (h : Own K mg H T d vs ps f) (g : Grow H H') : Own K mg H' T d vs ps f := h.keep (fun _ _ _ z => z) fun a o e _ => g a o e
theorem Frm.then_grow {H H1 H2 : Hp} {F G : Cnt} (fr : Frm H F H1 G) (g : Grow H1 H2) : Frm H F H2 G := ⟨fun a o e z => g a o (fr.keep a o e z), fun a o e => let ⟨⟨o1, e1⟩, l⟩ := fr.own a o e; ⟨⟨o1, g a o1 e1⟩, l⟩⟩
theorem se_tup {x1} (h : SEs X W es ms) : SE X W (.Tuple es x1 pos) (mETup ms) := (pe_tup h).weak fun σ H Q ⟨env, σ0, τ, T, F, n, w⟩ =>
  ⟨env, σ0, τ, T, F, n, wpE_mono (wpE_map w) fun r env2 H2 T2 F2 f2 sl2 su2 on2 fr2 ⟨z, ez, w2⟩ xs o => by
    unfold gTupE at ez
    split at ez
    · rename_i hz
      cases ez
      exact ⟨by rw [o.rep.length]; exact sizeOk_le hz, fun q hq => w2 _ T2 F2 f2 (sl2.grow (Grow.upd hq)) su2 on2 (fr2.then_grow (Grow.upd hq)) _ (.tup upd_same (o.grow (Grow.upd hq)))⟩
    · cases ez⟩
theorem se_lst (h : SEs X W es ms) : SE X W (.List es pos) (mELst ms) := (pe_lst h).weak fun σ H Q ⟨env, σ0, τ, T, F, n, w⟩ =>
  ⟨env, σ0, τ, T, F, n, wpE_mono (wpE_map w) fun r env2 H2 T2 F2 f2 sl2 su2 on2 fr2 ⟨z, ez, w2⟩ xs o => by
    unfold gLstE at ez
    split at ez
    · rename_i hz
      cases ez
      refine ⟨by rw [o.rep.length]; exact sizeOk_le hz, fun q hq => ?_⟩
      have g := Grow.upd (o := .lst xs) hq
      have t0 : T2 q = 0 := by
        have h1 : F2 q = 0 := Classical.byContradiction fun z => by obtain ⟨o, e, _⟩ := sl2.there q z; rw [hq] at e; cases e
        have h2 : f2 q = 0 := Classical.byContradiction fun z => by obtain ⟨o, e⟩ := o.there' q z; rw [hq] at e; cases e
        have h3 : τ q = 0 := Classical.byContradiction fun z => by
          obtain ⟨o, e⟩ := n.ex q z
          obtain ⟨⟨o1, e1⟩, _⟩ := fr2.own q o e
          rw [hq] at e1; cases e1
        have := su2 q; omega
      refine w2 _ (fun b => F2 b + (f2 b + if b = q then 1 else 0) + τ b) F2 (fun b => f2 b + if b = q then 1 else 0) (sl2.keep (fun a o e t => ?_) fun a o e _ => g a o e) (fun b => rfl) (fun b => ?_) ⟨fun a o e z => (fr2.then_grow g).keep a o e z, fun a o e => ?_⟩ (.ref q)
        (.lst1 upd_same (o.keep (fun a o e t => ?_) fun a o e _ => g a o e) fun b => rfl)
      · have := su2 a; have ne : a ≠ q := fun z => by rw [z, hq] at e; cases e
        show F2 a + (f2 a + if a = q then 1 else 0) + τ a = 0; rw [if_neg ne]; omega
      · have := su2 b; have := on2 b; show F2 b + (f2 b + if b = q then 1 else 0) + τ b ≤ 1
        by_cases hb : b = q
        · subst hb; rw [if_pos rfl]; omega
        · rw [if_neg hb]; omega
      · obtain ⟨z, l⟩ := (fr2.then_grow g).own a o e
        refine ⟨z, ?_⟩
        have ne : a ≠ q := fun z => by
          obtain ⟨⟨o1, e1⟩, _⟩ := fr2.own a o e
          rw [z, hq] at e1; cases e1
        have l' : F2 a + f2 a ≤ F a := l
        show F2 a + (f2 a + if a = q then 1 else 0) ≤ F a; rw [if_neg ne]; omega
      · have := su2 a; have ne : a ≠ q := fun z => by rw [z, hq] at e; cases e
        show F2 a + (f2 a + if a = q then 1 else 0) + τ a = 0; rw [if_neg ne]; omega
    · cases ez⟩
end
end M

set_option Elab.async false
set_option linter.all false
set_option maxRecDepth 100000
set_option maxHeartbeats 4000000
namespace M
open PySem PySem.Spec PyProof.Rows L2

/-! ### statements -/
inductive Fl where
  | nx (env : LEnv) | bk (env : LEnv) | ct (env : LEnv) | rt (d : Nat) (p : PV) (env : LEnv)
abbrev RF := Rs (Xn × LEnv) Fl
abbrev MS := LEnv → RF
def wpN (K : PySem.W.Frag) (mg : Str → Option Value) (σ0 : L2.St) (τ : Cnt) (H : Hp) (F : Cnt) (env : LEnv) (Q : L2.St → Hp → Prop) : Prop :=
  ∀ σ' H' T' F', Now K mg H' env σ' σ0 τ T' F' → Frm H F H' F' → Q σ' H'
def wpS (W : WX) (K : PySem.W.Frag) (mg : Str → Option Value) (σ0 : L2.St) (τ : Cnt) (H : Hp) (F : Cnt) (r : RF) (D : Ends) : Prop :=
  match r with
  | .stuck => False
  | .ok (.nx e) => wpN K mg σ0 τ H F e D.nx
  | .ok (.bk e) => wpN K mg σ0 τ H F e D.bk
  | .ok (.ct e) => wpN K mg σ0 τ H F e D.ct
  | .ok (.rt d p e) => ∀ x σ' H' T' F' f, Slots K mg H' T' e σ' σ0 F' → (∀ b, T' b = F' b + f b + τ b) → (∀ b, T' b ≤ 1) → Own K mg H' T' d x p f → Frm H F H' (fun b => F' b + f b) → D.rt x H'
  | .exc (x, e) => ∀ σ', wpX W K mg σ' σ0 τ H F x e
def tSS (K : PySem.W.Frag) (mg : Str → Option Value) (W : WX) (m : MS) : TS := fun D σ H => ∃ env σ0 τ T F, Now K mg H env σ σ0 τ T F ∧ wpS W K mg σ0 τ H F (m env) D
def SS (X : Cx) (W : WX) (st : Stmt) (m : MS) : Prop := PS X st (tSS X.K X.mg W m)
def SSs (X : Cx) (W : WX) (st : List Stmt) (m : MS) : Prop := PSs X st (tSS X.K X.mg W m)

section
variable {W : WX} {K : PySem.W.Frag} {mg : Str → Option Value} {σ σ0 : L2.St} {τ T F F1 f : Cnt} {H H1 : Hp} {env : LEnv}
theorem wpN_frm {Q : L2.St → Hp → Prop} (h : wpN K mg σ0 τ H F env Q) (fr : Frm H F H1 F1) : wpN K mg σ0 τ H1 F1 env Q := fun σ' H' T' F' n g => h σ' H' T' F' n (fr.trans g)
theorem wpS_frm {r : RF} {D : Ends} (h : wpS W K mg σ0 τ H F r D) (fr : Frm H F H1 F1) : wpS W K mg σ0 τ H1 F1 r D := by
  cases r with
  | stuck => exact h
  | ok a =>
    cases a with
    | nx e => exact wpN_frm h fr
    | bk e => exact wpN_frm h fr
    | ct e => exact wpN_frm h fr
    | rt d p e => exact fun x σ' H' T' F' f sl su on o g => h x σ' H' T' F' f sl su on o (fr.trans g)
  | exc x => exact fun σ' => wpX_frm (h σ') fr
theorem wpS_mono {r : RF} {D D' : Ends} (h : wpS W K mg σ0 τ H F r D) (h1 : ∀ σ H, D.nx σ H → D'.nx σ H) (h2 : ∀ σ H, D.bk σ H → D'.bk σ H) (h3 : ∀ σ H, D.ct σ H → D'.ct σ H) (h4 : ∀ σ H, D.rt σ H → D'.rt σ H) : wpS W K mg σ0 τ H F r D' := by
  cases r with
  | stuck => exact h
  | ok a =>
    cases a with
    | nx e => exact fun σ' H' T' F' n g => h1 _ _ (h σ' H' T' F' n g)
    | bk e => exact fun σ' H' T' F' n g => h2 _ _ (h σ' H' T' F' n g)
    | ct e => exact fun σ' H' T' F' n g => h3 _ _ (h σ' H' T' F' n g)
    | rt d p e => exact fun x σ' H' T' F' f sl su on o g => h4 _ _ (h x σ' H' T' F' f sl su on o g)
  | exc x => exact h
end

def mSkip : MS := fun env => .ok (.nx env)
def mBrk : MS := fun env => .ok (.bk env)
def mCnt : MS := fun env => .ok (.ct env)
def seqR (r : RF) (b : MS) : RF := match r with
  | .ok (.nx e) => b e
  | z => z
def mSeq (a b : MS) : MS := fun env => seqR (a env) b
def mRet (m : ME (Nat × PV)) : MS := fun env => (m env).bind fun z => .ok (.rt z.1.1 z.1.2 z.2)
def mRetN : MS := fun env => .ok (.rt 8 .non env)
def liftT (env : LEnv) (r : Rs Xn Bool) (k : Bool → RF) : RF := match r with
  | .stuck => .stuck
  | .ok b => k b
  | .exc x => .exc (x, env)
def mIfS (mt : MP Bool) (a b : MS) : MS := fun env => liftT env (mt env) fun t => if t = true then a env else b env
def mDrop (m : MP PV) : MS := fun env => match m env with
  | .stuck => .stuck
  | .ok _ => .ok (.nx env)
  | .exc x => .exc (x, env)
def setS (env : LEnv) (i d : Nat) (p : PV) : Option LEnv := match env[i]? with
  | some none => some (env.set i (some ⟨d, false, p⟩))
  | some (some s) => if s.pin then none else some (env.set i (some ⟨d, false, p⟩))
  | none => none
inductive Tg where
  | nm (i : Nat) | tup (ts : List Tg)
mutual
def setT : Tg → Nat → PV → LEnv → Option LEnv
  | .nm i, d, p, env => setS env i d p
  | .tup ts, d, .tup ps, env => setTs ts d ps env
  | .tup ts, d, .ktp ps, env => setTs ts d ps env
  | .tup _, _, _, _ => none
def setTs : List Tg → Nat → List PV → LEnv → Option LEnv
  | [], _, [], env => some env
  | t :: ts, d, p :: ps, env => (setT t d p env).bind fun e => setTs ts d ps e
  | _, _, _, _ => none
end
def ofNx : Option LEnv → RF
  | none => .stuck
  | some e => .ok (.nx e)
def mAsg (t : Tg) (m : ME (Nat × PV)) : MS := fun env => (m env).bind fun z => ofNx (setT t z.1.1 z.1.2 z.2)
def tTG (K : PySem.W.Frag) (mg : Str → Option Value) (t : Tg) : TG := fun v σ H Q => ∃ (env : LEnv) (σ0 : L2.St) (τ T F f : Cnt) (d : Nat) (p : PV) (env' : LEnv), Slots K mg H T env σ σ0 F ∧ (∀ b, T b = F b + f b + τ b) ∧ (∀ b, T b ≤ 1) ∧ Own K mg H T d v p f ∧ setT t d p env = some env' ∧
  ∀ σ' T' F', Slots K mg H T' env' σ' σ0 F' → (∀ b, T' b = F' b + τ b) → (∀ b, F' b ≤ F b + f b) → Q σ' H
def tTGs (K : PySem.W.Frag) (mg : Str → Option Value) (t : List Tg) : TGs := fun v σ H Q => ∃ (env : LEnv) (σ0 : L2.St) (τ T F f : Cnt) (d : Nat) (p : List PV) (env' : LEnv), Slots K mg H T env σ σ0 F ∧ (∀ b, T b = F b + f b + τ b) ∧ (∀ b, T b ≤ 1) ∧ Owns K mg H T d v p f ∧ setTs t d p env = some env' ∧
  ∀ σ' T' F', Slots K mg H T' env' σ' σ0 F' → (∀ b, T' b = F' b + τ b) → (∀ b, F' b ≤ F b + f b) → Q σ' H
def SG (X : Cx) (tg : Expr) (t : Tg) : Prop := PG X tg (tTG X.K X.mg t)
def SGs (X : Cx) (tg : List Expr) (t : List Tg) : Prop := PGs X tg (tTGs X.K X.mg t)

section
variable {X : Cx} {W : WX} {a b c tg : Expr} {es tgs : List Expr} {st : Stmt} {sts : List Stmt} {pos p p2 : Pos} {m : MP PV} {mt : MP Bool} {me : ME (Nat × PV)} {ms ns : MS} {t : Tg} {ts : List Tg}
theorem _root_.L2.PG.weak {t t' : TG} (h : PG X tg t) (w : ∀ v σ H Q, t' v σ H Q → t v σ H Q) : PG X tg t' := ⟨fun pins s σ H v u Q I r q => h.run pins s σ H v u Q I r (w v σ H Q q)⟩
theorem _root_.L2.PGs.weak {t t' : TGs} (h : PGs X tgs t) (w : ∀ v σ H Q, t' v σ H Q → t v σ H Q) : PGs X tgs t' := ⟨fun pins s σ H v u Q I r q => h.run pins s σ H v u Q I r (w v σ H Q q)⟩
theorem tg_name {i : Nat} {v : V} {σ : L2.St} {H : Hp} {Q : L2.St → Hp → Prop} : tTG X.K X.mg (.nm i) v σ H Q → gName i v σ H Q := fun ⟨env, σ0, τ, T, F, f, d, p, env', sl, su, on, o, e, q⟩ => by
  have key : ∀ (so : Option Slot), env[i]? = some so → env' = env.set i (some ⟨d, false, p⟩) → Q (σ.set i (some v)) H := fun so hi he => by
    subst he
    obtain ⟨g, l, sl'⟩ := sl.clear i
    have lt : ∀ b, g b + f b + τ b ≤ T b := fun b => by have := l b; have := su b; omega
    have o' : Own X.K X.mg H (fun b => g b + f b + τ b) d v p f := o.keep (fun a x e t => by have := lt a; show g a + f a + τ a = 0; omega) fun a x e _ => e
    have sl2 := (sl'.keep (T' := fun b => g b + f b + τ b) (fun a x e t => by have := lt a; show g a + f a + τ a = 0; omega) fun a x e _ => e).put (s := ⟨d, false, p⟩) (get_set_none hi) o' (fun z => by cases z)
    rw [set_set_none] at sl2
    exact q _ _ _ sl2 (fun b => rfl) fun b => Nat.add_le_add_right (l b) _
  have e2 : setS env i d p = some env' := by rw [setT] at e; exact e
  unfold setS at e2
  split at e2
  · rename_i hi; exact key _ hi (Option.some.inj e2).symm
  · rename_i s hi
    split at e2
    · cases e2
    · exact key _ hi (Option.some.inj e2).symm
  · cases e2
theorem sg_name {i : Nat} (h : PG X tg (gName i)) : SG X tg (.nm i) := h.weak fun v σ H Q => tg_name
theorem sgs_nil : SGs X [] [] := pgs_nil.weak fun v σ H Q ⟨env, σ0, τ, T, F, f, d, p, env', sl, su, on, o, e, q⟩ => by
  cases o with
  | nil z =>
    rw [setTs] at e; cases e
    exact ⟨rfl, q σ T F sl (fun b => by rw [su b, z b]; omega) fun b => Nat.le_add_right _ _⟩
  | cons _ _ _ => rw [setTs] at e; cases e; all_goals simp
theorem sgs_cons (h1 : SG X tg t) (h2 : SGs X tgs ts) (hs : (assignEach (tg :: tgs) X.env).map (·.2) = assign tg X.env :: (assignEach tgs X.env).map (·.2) := by rfl) : SGs X (tg :: tgs) (t :: ts) := (pgs_cons h1 h2 hs).weak fun v σ H Q ⟨env, σ0, τ, T, F, f, d, p, env', sl, su, on, o, e, q⟩ => by
  cases o with
  | nil z => rw [setTs] at e; cases e; all_goals simp
  | @cons _ v vs p ps f1 f2 _ o1 o2 hk =>
    rw [setTs, Option.bind_eq_some_iff] at e
    obtain ⟨e1, ea, eb⟩ := e
    refine ⟨v, vs, rfl, env, σ0, (fun b => τ b + f2 b), T, F, f1, d, p, e1, sl, fun b => by rw [su b, hk b]; show F b + (f1 b + f2 b) + τ b = F b + f1 b + (τ b + f2 b); omega, on, o1, ea, fun σ1 T1 F1 sl1 su1 l1 => ?_⟩
    have lt : ∀ b, T1 b ≤ T b := fun b => by have : T1 b = F1 b + (τ b + f2 b) := su1 b; have := l1 b; have := su b; have := hk b; omega
    exact ⟨e1, σ0, τ, T1, F1, f2, d, ps, env', sl1, fun b => by rw [su1 b]; show F1 b + (τ b + f2 b) = _; omega, fun b => Nat.le_trans (lt b) (on b), o2.keep (fun a x e t => by have := lt a; omega) (fun a x e _ => e), eb,
      fun σ' T' F' s' u' l' => q σ' T' F' s' u' fun b => by have := l' b; have := l1 b; have := hk b; omega⟩
theorem sg_tup {n k : Nat} (hc : X.calm = true) (h : SGs X es ts) (hl : ts.length = n) (hn : (assignEach es X.env).length = n := by rfl) (hst : (assignEach es X.env).findIdx? (·.1) = none := by rfl) : SG X (.Tuple es k pos) (.tup ts) :=
  (pg_tup (k := k) (n := n) hc h hn hst).weak fun v σ H Q ⟨env, σ0, τ, T, F, f, d, p, env', sl, su, on, o, e, q⟩ => by
    have len : ∀ (ts : List Tg) (ps : List PV) (env : LEnv), setTs ts d ps env = some env' → ps.length = ts.length := by
      intro ts
      induction ts with
      | nil => intro ps env e; cases ps with
        | nil => rfl
        | cons => rw [setTs] at e; cases e; all_goals simp
      | cons t ts ih => intro ps env e; cases ps with
        | nil => rw [setTs] at e; cases e; all_goals simp
        | cons p ps =>
          rw [setTs, Option.bind_eq_some_iff] at e
          obtain ⟨e1, _, eb⟩ := e
          rw [List.length_cons, List.length_cons, ih ps e1 eb]
    cases o with
    | @tup _ _ a vs ps hs r =>
      rw [setT] at e
      refine ⟨a, vs, rfl, SqT.of hs, ?_, env, σ0, τ, T, F, f, d, ps, env', sl, su, on, r, e, q⟩
      rw [r.rep.length, len ts ps env e, hl]
    | @ktp _ _ a vs ps hs r =>
      rw [setT] at e
      refine ⟨a, vs, rfl, .inr hs, ?_, env, σ0, τ, T, F, f, d, ps, env', sl, su, on, r, e, q⟩
      rw [r.rep.length, len ts ps env e, hl]
    | _ => rw [setT] at e; cases e; all_goals simp

/-! ### blocks, tests, returns -/
theorem sss_nil : SSs X W [] mSkip := pss_nil.weak fun D σ H ⟨env, σ0, τ, T, F, n, w⟩ => w σ H T F n .refl
theorem seq_wp {K : PySem.W.Frag} {mg : Str → Option Value} {σ0 : L2.St} {τ F : Cnt} {H : Hp} {r : RF} {D : Ends} (h : wpS W K mg σ0 τ H F (seqR r ns) D) : wpS W K mg σ0 τ H F r { D with nx := fun σ' H' => tSS K mg W ns D σ' H' } := by
  cases r with
  | stuck => exact h
  | ok a =>
    cases a with
    | nx e => exact fun σ' H' T' F' n g => ⟨e, σ0, τ, T', F', n, wpS_frm h g⟩
    | bk e => exact h
    | ct e => exact h
    | rt d p e => exact h
  | exc x => exact h
theorem sss_cons (h1 : SS X W st ms) (h2 : SSs X W sts ns) : SSs X W (st :: sts) (mSeq ms ns) := (pss_cons h1 h2).weak fun D σ H ⟨env, σ0, τ, T, F, n, w⟩ => ⟨env, σ0, τ, T, F, n, seq_wp w⟩
theorem sss_one (h : SS X W st ms) : SSs X W [st] ms := pss_one h
theorem ss_pass : SS X W (.Pass pos) mSkip := ps_pass.weak fun D σ H ⟨env, σ0, τ, T, F, n, w⟩ => w σ H T F n .refl
theorem ss_break : SS X W (.Break pos) mBrk := ps_break.weak fun D σ H ⟨env, σ0, τ, T, F, n, w⟩ => w σ H T F n .refl
theorem ss_continue : SS X W (.Continue pos) mCnt := ps_continue.weak fun D σ H ⟨env, σ0, τ, T, F, n, w⟩ => w σ H T F n .refl
/-- from an expression's result to a statement's -/
theorem wpE_S {α : Type} {K : PySem.W.Frag} {mg : Str → Option Value} {σ σ0 : L2.St} {τ F : Cnt} {H : Hp} {r : Rs (Xn × LEnv) (α × LEnv)} {k : α × LEnv → RF} {D : Ends} (h : wpS W K mg σ0 τ H F (r.bind k) D) :
    wpE W K mg σ σ0 τ H F r fun a e H' T' F' f => wpS W K mg σ0 τ H F (k (a, e)) D := by
  cases r with
  | stuck => exact h
  | ok a => exact fun H' T' F' f sl su on fr => h
  | exc x => exact h σ
theorem ss_ret (h : SE X W a me) : SS X W (.Return (some a) pos) (mRet me) := (ps_ret h).weak fun D σ H ⟨env, σ0, τ, T, F, n, w⟩ =>
  ⟨env, σ0, τ, T, F, n, wpE_mono (wpE_S w) fun r e H' T' F' f sl su on fr w' x o => w' x σ H' T' F' f sl su on o fr⟩
theorem ss_retN : SS X W (.Return none pos) mRetN := ps_retN.weak fun D σ H ⟨env, σ0, τ, T, F, n, w⟩ => w .non σ H T F (fun _ => 0) n.sl n.sum n.one (.non fun _ => rfl) .refl
theorem liftT_wp {K : PySem.W.Frag} {mg : Str → Option Value} {σ σ0 : L2.St} {τ T F : Cnt} {H : Hp} {r : Rs Xn Bool} {k : Bool → RF} {D : Ends} {env : LEnv} (n : Now K mg H env σ σ0 τ T F) (w : wpS W K mg σ0 τ H F (liftT env r k) D) :
    wpP W K mg σ H r fun b H' => wpS W K mg σ0 τ H' F (k b) D := by
  cases r with
  | stuck => exact w
  | ok b => exact fun H' g => wpS_frm w (.grow g fun _ _ _ => Nat.le_refl _)
  | exc x => exact fun C dd H' g c => w σ C dd H' T F (n.grow g) (.grow g fun _ _ _ => Nat.le_refl _) c
theorem ss_if {sa sb : List Stmt} (hc : SPT X W c mt) (ha : SSs X W sa ms) (hb : SSs X W sb ns) : SS X W (.If c sa sb pos) (mIfS mt ms ns) := (ps_if hc ha hb).weak fun D σ H ⟨env, σ0, τ, T, F, n, w⟩ =>
  ⟨env, n.sees, by
    have z := liftT_wp n w
    cases h : mt env with
    | stuck => rw [h] at z; exact z
    | exc x => rw [h] at z; exact z
    | ok b =>
      rw [h] at z
      intro H' g
      have z' := z H' g
      cases b with
      | true => exact ⟨env, σ0, τ, T, F, n.grow g, z'⟩
      | false => exact ⟨env, σ0, τ, T, F, n.grow g, z'⟩⟩
theorem ss_drop (h : SP X W a m) (hs : swapsWith a none pos.line X.env = pure false := by rfl) : SS X W (.Expr a pos) (mDrop m) := (ps_expr h hs).weak fun D σ H ⟨env, σ0, τ, T, F, n, w⟩ =>
  ⟨env, n.sees, by
    unfold mDrop at w
    cases h : m env with
    | stuck => rw [h] at w; exact w
    | ok b => rw [h] at w; exact fun H' g x r => w σ H' T F (n.grow g) (.grow g fun _ _ _ => Nat.le_refl _)
    | exc x => rw [h] at w; exact fun C dd H' g c => w σ C dd H' T F (n.grow g) (.grow g fun _ _ _ => Nat.le_refl _) c⟩
/-- a target stored to -/
theorem asg_wp {K : PySem.W.Frag} {mg : Str → Option Value} {σ σ0 : L2.St} {τ T F : Cnt} {H : Hp} {env : LEnv} {D : Ends} {r : Nat × PV} {e : LEnv} {H' : Hp} {T' F' f : Cnt} {x : V} (n : Now K mg H env σ σ0 τ T F) (sl : Slots K mg H' T' e σ σ0 F') (su : ∀ b, T' b = F' b + f b + τ b) (on : ∀ b, T' b ≤ 1)
    (fr : Frm H F H' fun b => F' b + f b) (o : Own K mg H' T' r.1 x r.2 f) (w : wpS W K mg σ0 τ H F (ofNx (setT t r.1 r.2 e)) D) : tTG K mg t x σ H' D.nx := by
  cases q : setT t r.1 r.2 e with
  | none => rw [q] at w; exact w.elim
  | some e2 =>
    rw [q] at w
    refine ⟨e, σ0, τ, T', F', f, r.1, r.2, e2, sl, su, on, o, q, fun σ2 T2 F2 s2 u2 l2 => w σ2 H' T2 F2 ⟨s2, u2, fun b => ?_, fun b z => ?_⟩ (fr.less l2)⟩
    · have := u2 b; have := l2 b; have := su b; have := on b; omega
    · obtain ⟨o, e⟩ := n.ex b z; exact (fr.own b o e).1
theorem ss_set {x : Str} {i : Nat} {pos' : Pos} (he : SE X W a me) (hN : X.N.Nodup) (hi : X.N[i]? = some x) (hx : Loc X.env.scope x) (hs : swapsWith a (some (.Name x pos')) pos.line X.env = pure false := by rfl)
    (hf : X.fn x = true ∨ X.env.scope.names.lookup x = some .local := by first | exact .inl rfl | exact .inr rfl | assumption) : SS X W (.Assign [.Name x pos'] a pos) (mAsg (.nm i) me) :=
  (ps_set hN hi hx he hs hf).weak fun D σ H ⟨env, σ0, τ, T, F, n, w⟩ => ⟨env, σ0, τ, T, F, n, wpE_mono (wpE_S w) fun r e H' T' F' f sl su on fr w' x o => tg_name (asg_wp n sl su on fr o w')⟩
theorem ss_asg (he : SE X W a me) (hg : SG X tg t) (hs : swapsWithSole [tg] a pos.line X.env = pure false := by rfl) (hw : swappedStores [tg] a X.env = pure none := by rfl) (h1 : (assignEach [tg] X.env).map (·.2) = [assign tg X.env] := by rfl) : SS X W (.Assign [tg] a pos) (mAsg t me) :=
  (ps_asg he hg hs hw h1).weak fun D σ H ⟨env, σ0, τ, T, F, n, w⟩ => ⟨env, σ0, τ, T, F, n, wpE_mono (wpE_S w) fun r e H' T' F' f sl su on fr w' x o => asg_wp n sl su on fr o w'⟩
end
end M

set_option Elab.async false
set_option linter.all false
set_option maxRecDepth 100000
set_option maxHeartbeats 4000000
namespace M
open PySem PySem.Spec PyProof.Rows L2

/-! ### parallel stores, loops -/
def mPar (i j : Nat) (m : ME (Nat × List PV)) : MS := fun env => (m env).bind fun z => ofNx (setTs [.nm i, .nm j] z.1.1 z.1.2 z.2)
def contR (r : RF) (k : MS) : RF := match r with
  | .ok (.nx e) => k e
  | .ok (.ct e) => k e
  | .ok (.bk e) => .ok (.nx e)
  | z => z
def loopW (mt : MP Bool) (b : MS) : Nat → MS
  | 0 => fun _ => .stuck
  | n + 1 => fun env => liftT env (mt env) fun t => if t = true then contR (b env) (loopW mt b n) else .ok (.nx env)
/-- what a list's items are for a loop -/
def itD (p : PV) : Nat := if hgt p = 0 then 8 else 0
def loopF (t : Tg) (b : MS) : List PV → MS
  | [] => fun env => .ok (.nx env)
  | p :: r => fun env => match setT t (itD p) p env with
    | none => .stuck
    | some e => contR (b e) (loopF t b r)
def lstOf : PV → Option (List PV)
  | .lst ps => some ps
  | _ => none
def tupOf : PV → Option (List PV)
  | .tup ps => some ps
  | .ktp ps => some ps
  | _ => none
def mForL (t : Tg) (m : ME (Nat × PV)) (b : MS) : MS := fun env => (m env).bind fun z => match lstOf z.1.2 with
  | none => .stuck
  | some ps => loopF t b ps z.2
def mForT (t : Tg) (m : ME (Nat × PV)) (b : MS) : MS := fun env => (m env).bind fun z => match tupOf z.1.2 with
  | none => .stuck
  | some ps => loopF t b ps z.2
def rngs (lo : Int) (n : Nat) : List PV := (List.range n).map fun (i : Nat) => PV.int (lo + (i : Int))
def rngOk (i : Int) : Bool := decide (i.natAbs < 4611686018427387904)
theorem rngOk_lt {i : Int} (h : rngOk i = true) : -4611686018427387904 ≤ i ∧ i < 4611686018427387904 := by
  have := of_decide_eq_true h
  omega
def mForR1 (t : Tg) (m : MP (List PV)) (b : MS) : MS := fun env => match m env with
  | .stuck => .stuck
  | .exc x => .exc (x, env)
  | .ok [.int j] => if rngOk j then loopF t b (rngs 0 j.toNat) env else .stuck
  | .ok _ => .stuck
def mForR2 (t : Tg) (m : MP (List PV)) (b : MS) : MS := fun env => match m env with
  | .stuck => .stuck
  | .exc x => .exc (x, env)
  | .ok [.int i, .int j] => if rngOk i && rngOk j then loopF t b (rngs i (j - i).toNat) env else .stuck
  | .ok _ => .stuck

section
variable {X : Cx} {W : WX} {a b c tg : Expr} {es tgs : List Expr} {st : Stmt} {sts : List Stmt} {pos p p2 : Pos} {m : MP PV} {mt : MP Bool} {me : ME (Nat × PV)} {mes : ME (Nat × List PV)} {ml : MP (List PV)} {ms ns : MS} {t : Tg} {ts : List Tg}
theorem ss_par {i j : Nat} {x y : Str} {px py pt : Pos} {kt k2 pt2} (hc : X.calm = true) (hN : X.N.Nodup) (hi : X.N[i]? = some x) (hj : X.N[j]? = some y) (hij : i ≠ j)
    (hx : X.env.scope.names.lookup x = some .local) (hy : X.env.scope.names.lookup y = some .local) (ha : SEs X W [a, b] mes)
    (hw : swappedStores [.Tuple [.Name x px, .Name y py] kt pt] (.Tuple [a, b] k2 pt2) X.env = pure (some [x, y]))
    (hs : swapsWithSole [.Tuple [.Name x px, .Name y py] kt pt] (.Tuple [a, b] k2 pt2) pos.line X.env = pure false := by rfl) :
    SS X W (.Assign [.Tuple [.Name x px, .Name y py] kt pt] (.Tuple [a, b] k2 pt2) pos) (mPar i j mes) := (ps_par hc hN hi hj hij hx hy ha hw hs).weak fun D σ H ⟨env, σ0, τ, T, F, n, w⟩ =>
  ⟨env, σ0, τ, T, F, n, wpE_mono (wpE_S w) fun r e H' T' F' f sl su on fr w' xs o => by
    cases q : setTs [.nm i, .nm j] r.1 r.2 e with
    | none => rw [show ofNx (setTs [.nm i, .nm j] r.1 r.2 e) = .stuck by rw [q]; rfl] at w'; exact w'.elim
    | some e2 =>
      have w2 : wpS W X.K X.mg σ0 τ H F (.ok (.nx e2)) D := by rw [show ofNx (setTs [.nm i, .nm j] r.1 r.2 e) = .ok (.nx e2) by rw [q]; rfl] at w'; exact w'
      have z : tTGs X.K X.mg [.nm i, .nm j] xs σ H' D.nx := ⟨e, σ0, τ, T', F', f, r.1, r.2, e2, sl, su, on, o, q, fun σ2 T2 F2 s2 u2 l2 => w2 σ2 H' T2 F2 ⟨s2, u2, fun b => by
        have := u2 b; have := l2 b; have := su b; have := on b; omega, fun b z => by obtain ⟨o, e⟩ := n.ex b z; exact (fr.own b o e).1⟩ (fr.less l2)⟩
      -- two names
      obtain ⟨env, σ0, τ, T, F, f, d, p, env', sl, su, on, o, e, q⟩ := z
      cases o with
      | nil z => rw [setTs] at e; cases e; all_goals simp
      | @cons _ v vs p ps f1 f2 _ o1 o2 hk =>
        cases o2 with
        | nil z => rw [setTs, Option.bind_eq_some_iff] at e; obtain ⟨_, _, e⟩ := e; rw [setTs] at e; cases e; all_goals simp
        | @cons _ v' vs' p' ps' g1 g2 _ o1' o2' hk' =>
          cases o2' with
          | cons _ _ _ => rw [setTs, Option.bind_eq_some_iff] at e; obtain ⟨_, _, e⟩ := e; rw [setTs, Option.bind_eq_some_iff] at e; obtain ⟨_, _, e⟩ := e; rw [setTs] at e; cases e; all_goals simp
          | nil z =>
            rw [setTs, Option.bind_eq_some_iff] at e
            obtain ⟨e1, ea, eb⟩ := e
            rw [setTs, Option.bind_eq_some_iff] at eb
            obtain ⟨e2, eb, ec⟩ := eb
            rw [setTs] at ec; cases ec
            refine ⟨v, v', rfl, ?_⟩
            have k1 : tTG X.K X.mg (.nm i) v σ H' fun σ1 H1 => tTG X.K X.mg (.nm j) v' σ1 H1 D.nx := ⟨env, σ0, (fun b => τ b + f2 b), T, F, f1, d, p, e1, sl, fun b => by rw [su b, hk b]; show F b + (f1 b + f2 b) + τ b = F b + f1 b + (τ b + f2 b); omega, on, o1, ea, fun σ1 T1 F1 sl1 su1 l1 => by
              have lt : ∀ b, T1 b ≤ T b := fun b => by have : T1 b = F1 b + (τ b + f2 b) := su1 b; have := l1 b; have := su b; have := hk b; omega
              exact ⟨e1, σ0, τ, T1, F1, g1, d, p', env', sl1, fun b => by have h1 : T1 b = F1 b + (τ b + f2 b) := su1 b; have := hk' b; have := z b; omega, fun b => Nat.le_trans (lt b) (on b), o1'.keep (fun a x e t => by have := lt a; omega) (fun a x e _ => e), eb,
                fun σ' T' F' s' u' l' => q σ' T' F' s' u' fun b => by have := l' b; have := l1 b; have := hk b; have := hk' b; have := z b; omega⟩⟩
            exact tg_name k1 |> fun z => tg_name z⟩
theorem cont_wp {K : PySem.W.Frag} {mg : Str → Option Value} {σ0 : L2.St} {τ F : Cnt} {H : Hp} {r : RF} {k : MS} {D : Ends} (h : wpS W K mg σ0 τ H F (contR r k) D) {N : L2.St → Hp → Prop}
    (hN : ∀ e σ' H' T' F', Now K mg H' e σ' σ0 τ T' F' → Frm H F H' F' → wpS W K mg σ0 τ H' F' (k e) D → N σ' H') : wpS W K mg σ0 τ H F r { D with nx := N, ct := N, bk := D.nx } := by
  cases r with
  | stuck => exact h
  | ok a =>
    cases a with
    | nx e => exact fun σ' H' T' F' n g => hN e σ' H' T' F' n g (wpS_frm h g)
    | bk e => exact h
    | ct e => exact fun σ' H' T' F' n g => hN e σ' H' T' F' n g (wpS_frm h g)
    | rt d p e => exact h
  | exc x => exact h
theorem ss_while {body : List Stmt} (fuel : Nat) (hp : PassesOwn (model X.prog X.w) X.A X.env X.xe) (hc : SPT X W c mt) (hb : SSs X W body ms) : SS X W (.While c body [] pos) (loopW mt ms fuel) := (ps_while hp hc hb).weak fun D σ H ⟨env, σ0, τ, T, F, n, w⟩ => by
  refine ⟨fun k σ H => ∃ env T F, Now X.K X.mg H env σ σ0 τ T F ∧ wpS W X.K X.mg σ0 τ H F (loopW mt ms k env) D, ⟨fuel, env, T, F, n, w⟩, ?_⟩
  rintro k σ H ⟨env, T, F, n, w⟩
  cases k with
  | zero => exact w.elim
  | succ k =>
    refine ⟨env, n.sees, ?_⟩
    have z := liftT_wp n w
    cases h : mt env with
    | stuck => rw [h] at z; exact z
    | exc x => rw [h] at z; exact z
    | ok b =>
      rw [h] at z
      intro H' g
      have z' := z H' g
      cases b with
      | true => exact ⟨fun σ' H' => ∃ env T F, Now X.K X.mg H' env σ' σ0 τ T F ∧ wpS W X.K X.mg σ0 τ H' F (loopW mt ms k env) D, fun σ' H' q => ⟨k, Nat.lt_succ_self k, q⟩, env, σ0, τ, T, F, n.grow g, cont_wp (k := loopW mt ms k) z' fun e σ' H' T' F' n g w => ⟨e, T', F', n, w⟩⟩
      | false => exact z' σ H' T F (n.grow g) .refl
/-- a loop over things that stand still: one turn after the other -/
theorem for_go {J : It} {K : PySem.W.Frag} {mg : Str → Option Value} {σ σ0 : L2.St} {τ T F : Cnt} {H : Hp} {D : Ends} {ps : List PV} {env : LEnv} {vs : List V} {f : Cnt} (hK : X.K = K) (hm : X.mg = mg) (n : Now K mg H env σ σ0 τ T F) (o : Owns K mg H T 0 vs ps f) (there : Hp → Cnt → Prop) (th : there H T)
    (stay : ∀ {H H' : Hp} {T F T' G : Cnt}, there H T → (∀ b, T b = F b + τ b) → Frm H F H' G → (∀ b, T' b = G b + τ b) → there H' T')
    (w : wpS W K mg σ0 τ H F (loopF t ms ps env) D) (g : TG) (hg : ∀ v σ H Q, tTG K mg t v σ H Q → g v σ H Q)
    (go : ∀ i H T v, there H T → vs[i]? = some v → J.go i H) (stop : ∀ i H T, there H T → vs.length ≤ i → J.stop i H) (yld : ∀ i H T x H', i < vs.length → there H T → J.yld i H x H' → H' = H ∧ vs[i]? = some x) :
    ∃ W' : Nat → Nat → L2.St → Hp → Prop, (∃ m, W' 0 m σ H) ∧ ∀ i m σ H, W' i m σ H →
      (J.stop i H ∧ D.nx σ H) ∨ (J.go i H ∧ ∃ N : L2.St → Hp → Prop, (∀ σ' H', N σ' H' → ∃ m', m' < m ∧ W' (i + 1) m' σ' H') ∧ ∀ x H', J.yld i H x H' → g x σ H' fun σ2 H2 => tSS K mg W ms { D with nx := N, ct := N, bk := D.nx } σ2 H2) := by
  have len := o.rep.length
  refine ⟨fun i m σ H => m = ps.length - i ∧ i ≤ ps.length ∧ ∃ env T F, Now K mg H env σ σ0 τ T F ∧ Owns K mg H T 0 vs ps f ∧ there H T ∧ wpS W K mg σ0 τ H F (loopF t ms (ps.drop i) env) D, ⟨ps.length, rfl, Nat.zero_le _, env, T, F, n, o, th, w⟩, ?_⟩
  rintro i m σ H ⟨rfl, hi, env, T, F, n, o, th, w⟩
  by_cases hlt : i < ps.length
  · have hv : i < vs.length := by rw [len]; exact hlt
    refine .inr ⟨go i H T vs[i] th (by simp [hv]), fun σ' H' => i + 1 ≤ ps.length ∧ ∃ env T F, Now K mg H' env σ' σ0 τ T F ∧ Owns K mg H' T 0 vs ps f ∧ there H' T ∧ wpS W K mg σ0 τ H' F (loopF t ms (ps.drop (i + 1)) env) D, fun σ' H' ⟨q1, q2⟩ => ⟨ps.length - (i + 1), by omega, rfl, q1, q2⟩, fun x H' y => ?_⟩
    obtain ⟨rfl, hx⟩ := yld i H T x H' hv th y
    have hd : ps.drop i = ps[i] :: ps.drop (i + 1) := List.drop_eq_getElem_cons hlt
    rw [hd] at w
    obtain ⟨v, hv', ov⟩ : ∃ v, vs[i]? = some v ∧ Own K mg H' T 0 v ps[i] fun _ => 0 := by
      clear hd w len hi y hx go stop yld stay hv
      revert i
      have : ∀ {vs : List V} {ps : List PV} {f : Cnt}, Owns K mg H' T 0 vs ps f → ∀ (i : Nat) (h : i < ps.length), ∃ v, vs[i]? = some v ∧ Own K mg H' T 0 v ps[i] fun _ => 0 := by
        intro vs ps
        induction ps generalizing vs with
        | nil => intro f o i h; simp at h
        | cons p ps ih =>
          intro f o i h
          cases o with
          | cons a r hk =>
            cases i with
            | zero => exact ⟨_, rfl, a.cnt fun b => (a.zero b).symm⟩
            | succ i => simpa using ih r i (by simpa using h)
      intro i h
      exact this o i h
    rw [hx] at hv'; cases hv'
    have ov' : Own K mg H' T (itD ps[i]) x ps[i] fun _ => 0 := by
      unfold itD
      split
      · rename_i hz; exact ov.rep.own hz 8
      · exact ov
    cases q : setT t (itD ps[i]) ps[i] env with
    | none => simp only [loopF, q] at w; exact w.elim
    | some e2 =>
      simp only [loopF, q] at w
      refine hg x σ H' _ ⟨env, σ0, τ, T, F, (fun _ => 0), _, _, e2, n.sl, n.sum, n.one, ov', q, fun σ2 T2 F2 s2 u2 l2 => ?_⟩
      have n2 : Now K mg H' e2 σ2 σ0 τ T2 F2 := ⟨s2, u2, fun b => by have := u2 b; have h := l2 b; have := n.sum b; have := n.one b; simp only at h; omega, n.ex⟩
      have fr : Frm H' F H' F2 := .grow (.refl _) fun b _ _ => l2 b
      have o2 : Owns K mg H' T2 0 vs ps f := o.keep (fun a x e t => by have := u2 a; have h := l2 a; have := n.sum a; simp only at h; omega) fun a x e _ => e
      refine ⟨e2, σ0, τ, T2, F2, n2, cont_wp (k := loopF t ms (ps.drop (i + 1))) (wpS_frm w fr) fun e σ' H2 T' F' n' g' w' => ⟨hlt, e, T', F', n', ?_, ?_, w'⟩⟩
      · have fz : ∀ b, f b = 0 := o.zero
        exact o2.frm n2.sum n2.one (fun b => by rw [fz b]; exact Nat.zero_le _) g' n'.sum
      · exact stay (stay th n.sum fr n2.sum) n2.sum g' n'.sum
  · have e : i = ps.length := by omega
    subst e
    refine .inl ⟨stop _ H T th (by rw [len]; exact Nat.le_refl _), ?_⟩
    rw [List.drop_length] at w
    exact w σ H T F n .refl
end
end M

set_option Elab.async false
set_option linter.all false
set_option maxRecDepth 100000
set_option maxHeartbeats 4000000
namespace M
open PySem PySem.Spec PyProof.Rows L2

section
variable {X : Cx} {W : WX} {a b c tg : Expr} {es tgs : List Expr} {st : Stmt} {sts : List Stmt} {pos p p2 : Pos} {m : MP PV} {mt : MP Bool} {me : ME (Nat × PV)} {mes : ME (Nat × List PV)} {ml : MP (List PV)} {ms ns : MS} {t : Tg} {ts : List Tg}

/-- a temporary value is given up: all of it is shared from now on -/
theorem give_up {K : PySem.W.Frag} {mg : Str → Option Value} {σ σ0 : L2.St} {τ T F F' f T' : Cnt} {H H' : Hp} {env e : LEnv} {d : Nat} {v : V} {p : PV} (n : Now K mg H env σ σ0 τ T F) (sl : Slots K mg H' T' e σ σ0 F') (su : ∀ b, T' b = F' b + f b + τ b) (on : ∀ b, T' b ≤ 1)
    (fr : Frm H F H' fun b => F' b + f b) (o : Own K mg H' T' d v p f) : ∃ T2, Now K mg H' e σ σ0 τ T2 F' ∧ Own K mg H' T2 0 v p (fun _ => 0) ∧ Frm H F H' F' := by
  obtain ⟨f', l, lo⟩ := o.low (fun b => by have := su b; have := on b; omega) (Nat.zero_le _)
  have o2 := lo (fun b => F' b + τ b) (fun b => by have := su b; show F' b + τ b ≤ T' b; omega) fun b z _ => by have := su b; have := on b; show F' b + τ b = 0; omega
  refine ⟨fun b => F' b + τ b, ⟨sl.keep (fun a o e t => by have := su a; show F' a + τ a = 0; omega) fun a o e _ => e, fun b => rfl, fun b => by have := su b; have := on b; show F' b + τ b ≤ 1; omega, fun b z => ?_⟩, o2.cnt fun b => (o2.zero b).symm, fr.less fun b => Nat.le_add_right _ _⟩
  obtain ⟨o, e⟩ := n.ex b z
  exact (fr.own b o e).1
theorem gives_up {K : PySem.W.Frag} {mg : Str → Option Value} {σ σ0 : L2.St} {τ T F F' f T' : Cnt} {H H' : Hp} {env e : LEnv} {d : Nat} {v : List V} {p : List PV} (n : Now K mg H env σ σ0 τ T F) (sl : Slots K mg H' T' e σ σ0 F') (su : ∀ b, T' b = F' b + f b + τ b) (on : ∀ b, T' b ≤ 1)
    (fr : Frm H F H' fun b => F' b + f b) (o : Owns K mg H' T' d v p f) : ∃ T2, Now K mg H' e σ σ0 τ T2 F' ∧ Owns K mg H' T2 0 v p (fun _ => 0) ∧ Frm H F H' F' := by
  obtain ⟨f', l, lo⟩ := o.low (fun b => by have := su b; have := on b; omega) (Nat.zero_le _)
  have o2 := lo (fun b => F' b + τ b) (fun b => by have := su b; show F' b + τ b ≤ T' b; omega) fun b z _ => by have := su b; have := on b; show F' b + τ b = 0; omega
  refine ⟨fun b => F' b + τ b, ⟨sl.keep (fun a o e t => by have := su a; show F' a + τ a = 0; omega) fun a o e _ => e, fun b => rfl, fun b => by have := su b; have := on b; show F' b + τ b ≤ 1; omega, fun b z => ?_⟩, o2.cnt fun b => (o2.zero b).symm, fr.less fun b => Nat.le_add_right _ _⟩
  obtain ⟨o, e⟩ := n.ex b z
  exact (fr.own b o e).1

theorem stay_rd {H H' : Hp} {T F T' G τ : Cnt} {a : Addr} {vs : List V} (q : Rd H a (.lst vs)) (z : T a = 0) (su : ∀ b, T b = F b + τ b) (fr : Frm H F H' G) (su' : ∀ b, T' b = G b + τ b) : Rd H' a (.lst vs) ∧ T' a = 0 := by
  have hz := su a
  have hz' := su' a
  rcases q with q | ⟨o, q⟩
  · exact ⟨.inl (fr.keep _ _ q (.inl (by omega))), by have := (fr.own _ _ q).2; omega⟩
  · exact ⟨.inr ⟨o, fr.keep _ _ q (.inr trivial)⟩, by have := (fr.own _ _ q).2; omega⟩
theorem ss_forL {body : List Stmt} (hp : PassesOwn (model X.prog X.w) X.A X.env X.xe) (hc : X.calm = true) (hi : SE X W a me) (hg : SG X tg t) (hb : SSs X W body ms) (hs : ∀ x, foldedSetIterable a X.env x = pure x := by intro _; rfl) : SS X W (.For tg a body [] pos) (mForL t me ms) :=
  (ps_for hp hc (pi_list hi) hg hb hs).weak fun D σ H ⟨env, σ0, τ, T, F, n, w⟩ => ⟨env, σ0, τ, T, F, n, wpE_mono (wpE_S w) fun r e H' T' F' f sl su on fr w' x o => by
    cases hr : lstOf r.2 with
    | none => rw [hr] at w'; exact w'.elim
    | some ps =>
      rw [hr] at w'
      have er : r.2 = .lst ps := by
        unfold lstOf at hr
        split at hr
        · rename_i q; cases hr; exact q
        · cases hr
      obtain ⟨T2, n2, o2, fr2⟩ := give_up n sl su on fr o
      rw [er] at o2
      cases o2 with
      | @lst0 f a vs ps hl r =>
        have sq : ∀ {H : Hp} {T : Cnt}, (Rd H a (.lst vs) ∧ T a = 0) ∨ KL X.K a vs → SqL X.K H a vs := fun h => LL.sq (h.imp (fun q => q.1) id)
        exact ⟨a, rfl, ⟨vs, sq hl⟩, for_go (J := Itl X.K a) rfl rfl n2 r (fun H T => (Rd H a (.lst vs) ∧ T a = 0) ∨ KL X.K a vs) hl (fun th su fr su' => th.imp (fun ⟨q, z⟩ => stay_rd q z su fr su') id) (wpS_frm w' fr2) _ (fun _ _ _ _ q => q)
          (fun i H T v th hv => ⟨vs, v, sq th, hv⟩) (fun i H T th hv => ⟨vs, sq th, hv⟩) fun i H T x H' _ th y => ⟨y.1, y.2 vs (sq th)⟩⟩⟩
theorem ss_forT {body : List Stmt} (hp : PassesOwn (model X.prog X.w) X.A X.env X.xe) (hc : X.calm = true) (hi : SE X W a me) (hg : SG X tg t) (hb : SSs X W body ms) (hs : ∀ x, foldedSetIterable a X.env x = pure x := by intro _; rfl) : SS X W (.For tg a body [] pos) (mForT t me ms) :=
  (ps_for hp hc (pi_tup hi) hg hb hs).weak fun D σ H ⟨env, σ0, τ, T, F, n, w⟩ => ⟨env, σ0, τ, T, F, n, wpE_mono (wpE_S w) fun r e H' T' F' f sl su on fr w' x o => by
    cases hr : tupOf r.2 with
    | none => rw [hr] at w'; exact w'.elim
    | some ps =>
      rw [hr] at w'
      obtain ⟨T2, n2, o2, fr2⟩ := give_up n sl su on fr o
      have go : ∀ a vs, SqT X.K H' a vs → Owns X.K X.mg H' T2 0 vs ps (fun _ => 0) → _ := fun a vs hl r => for_go (J := Itt X.K a) (ps := ps) (vs := vs) (t := t) (ms := ms) (D := D) rfl rfl n2 r (fun H T => SqT X.K H a vs) hl (fun th su fr su' => by
            rcases th with (th | ⟨o, th⟩) | th
            · exact .inl (.inl (fr.keep _ _ th (.inr trivial)))
            · exact .inl (.inr ⟨o, fr.keep _ _ th (.inr trivial)⟩)
            · exact .inr th) (wpS_frm w' fr2) _ (fun _ _ _ _ q => q)
          (fun i H T v th hv => ⟨vs, v, th, hv⟩) (fun i H T th hv => ⟨vs, th, hv⟩) fun i H T x H' _ th y => ⟨y.1, y.2 vs th⟩
      generalize r.2 = rr at o2 hr
      cases o2 with
      | @tup _ f a vs ps hl r => cases hr; exact ⟨a, rfl, ⟨vs, SqT.of hl⟩, go a vs (SqT.of hl) r⟩
      | @ktp _ f a vs ps hl r => cases hr; exact ⟨a, rfl, ⟨vs, .inr hl⟩, go a vs (.inr hl) r⟩
      | _ => cases hr⟩
theorem rngs_own {K : PySem.W.Frag} {mg : Str → Option Value} {H : Hp} {T : Cnt} (lo : Int) (n : Nat) : ∃ vs, Owns K mg H T 0 vs (rngs lo n) (fun _ => 0) ∧ vs = (List.range n).map fun (i : Nat) => V.int (lo + (i : Int)) := by
  refine ⟨_, ?_, rfl⟩
  unfold rngs
  generalize List.range n = l
  induction l with
  | nil => exact .nil fun _ => rfl
  | cons i l ih => exact .cons (.int _ fun _ => rfl) ih fun _ => rfl
theorem rng_go {K : PySem.W.Frag} {mg : Str → Option Value} {σ σ0 : L2.St} {τ T F : Cnt} {H : Hp} {D : Ends} {env : LEnv} {lo : Int} {k : Nat} (hK : X.K = K) (hm : X.mg = mg) (n : Now K mg H env σ σ0 τ T F) (w : wpS W K mg σ0 τ H F (loopF t ms (rngs lo k) env) D) (g : TG) (hg : ∀ v σ H Q, tTG K mg t v σ H Q → g v σ H Q) :
    ∃ W' : Nat → Nat → L2.St → Hp → Prop, (∃ m, W' 0 m σ H) ∧ ∀ i m σ H, W' i m σ H →
      ((Itr lo k).stop i H ∧ D.nx σ H) ∨ ((Itr lo k).go i H ∧ ∃ N : L2.St → Hp → Prop, (∀ σ' H', N σ' H' → ∃ m', m' < m ∧ W' (i + 1) m' σ' H') ∧ ∀ x H', (Itr lo k).yld i H x H' → g x σ H' fun σ2 H2 => tSS K mg W ms { D with nx := N, ct := N, bk := D.nx } σ2 H2) := by
  obtain ⟨vs, o, ev⟩ := rngs_own (K := K) (mg := mg) (H := H) (T := T) lo k
  have el : ∀ (i : Nat) (v : V), vs[i]? = some v → i < k ∧ v = .int (lo + i) := fun i v e => by
    rw [ev, List.getElem?_map] at e
    cases q : (List.range k)[i]? with
    | none => rw [q] at e; cases e
    | some j =>
      rw [q] at e
      have h1 := (List.getElem?_eq_some_iff.mp q)
      obtain ⟨h1, h2⟩ := h1
      rw [List.length_range] at h1
      rw [List.getElem_range] at h2
      subst h2
      exact ⟨h1, (Option.some.inj e).symm⟩
  have ln : vs.length = k := by rw [ev, List.length_map, List.length_range]
  refine for_go (J := Itr lo k) hK hm n o (fun _ _ => True) trivial (fun _ _ _ _ => trivial) w g hg (fun i H T v _ e => (el i v e).1) (fun i H T _ l => by rw [ln] at l; exact l) fun i H T x H' hl _ y => ⟨y.1, ?_⟩
  obtain ⟨v, hv⟩ : ∃ v, vs[i]? = some v := ⟨vs[i], by simp [hl]⟩
  rw [hv, (el i v hv).2, y.2]
theorem ss_forR1 {body : List Stmt} {pf pc : Pos} (hp : PassesOwn (model X.prog X.w) X.A X.env X.xe) (hc : X.calm = true) (hgl : Gl X "range") (hm : X.mg "range" = none) (ha : SPs X W [a] ml) (hg : SG X tg t) (hb : SSs X W body ms)
    (hst : starEach [a] X.env = [(false, eval a X.env)] := by rfl) (hs : ∀ x, foldedSetIterable (.Call (.Name "range" pf) [a] [] pc) X.env x = pure x := by intro _; rfl) : SS X W (.For tg (.Call (.Name "range" pf) [a] [] pc) body [] pos) (mForR1 t ml ms) :=
  (ps_for hp hc (pi_range1 hgl hm ha hst) hg hb hs).weak fun D σ H ⟨env, σ0, τ, T, F, n, w⟩ => ⟨env, n.sees, by
    unfold mForR1 at w
    split at w
    · exact w.elim
    · rename_i x hx; rw [hx]; exact fun C dd H' g c => w σ C dd H' T F (n.grow g) (.grow g fun _ _ _ => Nat.le_refl _) c
    · rename_i j hx
      rw [hx]
      split at w
      · rename_i hj
        intro H' g xs r
        obtain ⟨h1, h2⟩ : -4611686018427387904 ≤ j ∧ j < 4611686018427387904 := rngOk_lt hj
        cases r with
        | cons r1 r2 =>
          cases r2
          cases r1
          exact ⟨j, rfl, by omega, by omega, rng_go rfl rfl (n.grow g) (wpS_frm w (.grow g fun _ _ _ => Nat.le_refl _)) _ fun _ _ _ _ q => q⟩
      · exact w.elim
    · exact w.elim⟩
theorem ss_forR2 {body : List Stmt} {pf pc : Pos} (hp : PassesOwn (model X.prog X.w) X.A X.env X.xe) (hc : X.calm = true) (hgl : Gl X "range") (hm : X.mg "range" = none) (ha : SPs X W [a, b] ml) (hg : SG X tg t) (hb : SSs X W body ms)
    (hst : starEach [a, b] X.env = [(false, eval a X.env), (false, eval b X.env)] := by rfl) (hst2 : starEach [b] X.env = [(false, eval b X.env)] := by rfl) (hs : ∀ x, foldedSetIterable (.Call (.Name "range" pf) [a, b] [] pc) X.env x = pure x := by intro _; rfl) :
    SS X W (.For tg (.Call (.Name "range" pf) [a, b] [] pc) body [] pos) (mForR2 t ml ms) :=
  (ps_for hp hc (pi_range2 hgl hm ha hst hst2) hg hb hs).weak fun D σ H ⟨env, σ0, τ, T, F, n, w⟩ => ⟨env, n.sees, by
    unfold mForR2 at w
    split at w
    · exact w.elim
    · rename_i x hx; rw [hx]; exact fun C dd H' g c => w σ C dd H' T F (n.grow g) (.grow g fun _ _ _ => Nat.le_refl _) c
    · rename_i i j hx
      rw [hx]
      split at w
      · rename_i hj
        intro H' g xs r
        rw [Bool.and_eq_true] at hj
        obtain ⟨h1, h2⟩ : -4611686018427387904 ≤ i ∧ i < 4611686018427387904 := rngOk_lt hj.1
        obtain ⟨h3, h4⟩ : -4611686018427387904 ≤ j ∧ j < 4611686018427387904 := rngOk_lt hj.2
        cases r with
        | cons r1 r2 =>
          cases r2 with
          | cons r2 r3 =>
            cases r3
            cases r1
            cases r2
            exact ⟨i, j, rfl, ⟨by omega, by omega, by omega, by omega⟩, rng_go rfl rfl (n.grow g) (wpS_frm w (.grow g fun _ _ _ => Nat.le_refl _)) _ fun _ _ _ _ q => q⟩
      · exact w.elim
    · exact w.elim⟩
/-! ### a list's append -/
theorem Own.lstInv {K : PySem.W.Frag} {mg : Str → Option Value} {H : Hp} {T : Cnt} {d : Nat} {v : V} {ps : List PV} {f : Cnt} (o : Own K mg H T (d + 1) v (.lst ps) f) : ∃ a vs fc, v = .ref a ∧ H a = some (.lst vs) ∧ Owns K mg H T d vs ps fc ∧ ∀ b, f b = fc b + if b = a then 1 else 0 := by
  cases o with
  | lst1 h r hg => exact ⟨_, _, _, rfl, h, r, hg⟩
theorem Owns.append {K : PySem.W.Frag} {mg : Str → Option Value} {H : Hp} {T : Cnt} {d : Nat} : ∀ {vs ws : List V} {ps qs : List PV} {f g : Cnt}, Owns K mg H T d vs ps f → Owns K mg H T d ws qs g → Owns K mg H T d (vs ++ ws) (ps ++ qs) fun b => f b + g b
  | _, _, _, _, _, _, .nil z, s => s.cnt fun b => by show _ + _ = _; rw [z b]; omega
  | _, _, _, _, _, _, .cons a r hk, s => .cons a (r.append s) fun b => by show _ + _ = _ + (_ + _); rw [hk b]; omega
def appS (env : LEnv) (i dv : Nat) (p : PV) : Option LEnv := match env[i]? with
  | some (some s) => match s.d, s.v with
    | d + 1, .lst ps => if decide (ps.length < 16777216) then some (env.set i (some ⟨min d dv + 1, s.pin, .lst (ps ++ [p])⟩)) else none
    | _, _ => none
  | _ => none
def isLst (env : LEnv) (i : Nat) : Bool := match env[i]? with
  | some (some s) => (lstOf s.v).isSome
  | _ => false
def mApp (i : Nat) (m : ME (Nat × PV)) : MS := fun env => if isLst env i then (m env).bind fun z => ofNx (appS z.2 i z.1.1 z.1.2) else .stuck
theorem isLst_at {K : PySem.W.Frag} {mg : Str → Option Value} {H : Hp} {env : LEnv} {σ : L2.St} {i : Nat} (h : isLst env i = true) (s : Sees K mg H env σ) : ∃ a vs, σ[i]? = some (some (.ref a)) ∧ SqL K H a vs := by
  unfold isLst at h
  split at h
  · rename_i sl e
    obtain ⟨v, e1, r⟩ := s.1 i sl e
    obtain ⟨d, pn, pv⟩ := sl
    cases pv with
    | lst ps =>
      cases r with
      | lst hs hr => exact ⟨_, _, e1, hs.sq⟩
    | _ => cases h
  · cases h
/-- a write to an object that is owned: what else is described stands -/
theorem Own.wr {K : PySem.W.Frag} {mg : Str → Option Value} {H : Hp} {T : Cnt} {d : Nat} {v : V} {p : PV} {f : Cnt} {a : Addr} {o' : HO} (o : Own K mg H T d v p f) (ta : T a ≠ 0) (fa : f a = 0) (ha : ∀ x, H a = some x → ¬ Still x) : Own K mg (upd H a o') T d v p f :=
  o.keep (fun _ _ _ z => z) fun b x e z => by
    have ne : b ≠ a := fun q => by
      subst q
      rcases z with z | z | z
      · exact z fa
      · exact ta z
      · exact ha x e z
    rw [upd_ne ne]; exact e
theorem Owns.wr {K : PySem.W.Frag} {mg : Str → Option Value} {H : Hp} {T : Cnt} {d : Nat} {v : List V} {p : List PV} {f : Cnt} {a : Addr} {o' : HO} (o : Owns K mg H T d v p f) (ta : T a ≠ 0) (fa : f a = 0) (ha : ∀ x, H a = some x → ¬ Still x) : Owns K mg (upd H a o') T d v p f :=
  o.keep (fun _ _ _ z => z) fun b x e z => by
    have ne : b ≠ a := fun q => by
      subst q
      rcases z with z | z | z
      · exact z fa
      · exact ta z
      · exact ha x e z
    rw [upd_ne ne]; exact e
theorem Slots.wr {K : PySem.W.Frag} {mg : Str → Option Value} {H : Hp} {T : Cnt} {env : LEnv} {σ σ0 : L2.St} {f : Cnt} {a : Addr} {o' : HO} (o : Slots K mg H T env σ σ0 f) (ta : T a ≠ 0) (fa : f a = 0) (ha : ∀ x, H a = some x → ¬ Still x) : Slots K mg (upd H a o') T env σ σ0 f :=
  o.keep (fun _ _ _ z => z) fun b x e z => by
    have ne : b ≠ a := fun q => by
      subst q
      rcases z with z | z | z
      · exact z fa
      · exact ta z
      · exact ha x e z
    rw [upd_ne ne]; exact e
theorem ss_app {i : Nat} {x : Str} {px pa pc : Pos} (hv : PE X (.Name x px) (tVar i)) (he : SE X W a me) (hst : starEach [a] X.env = (false, eval a X.env) :: starEach [] X.env := by rfl)
    (hbase : attributeBase (.Name x px) "append" X.env (eval (.Name x px) X.env) = eval (.Name x px) X.env := by rfl)
    (hfew : ((backTo pc (starEach [a] X.env)).all (fun x => !x.1) && (backToKw pc (keywordEach [] X.env)).all (fun x => x.1.isSome)
      && decide ([a].length + ([] : List Keyword).length + (if ([] : List Keyword).isEmpty then 0 else 1) < 30)) = true := by rfl)
    (hline : (pa.endLine == pc.line) = true := by rfl) (hplain : (backTo pc (starEach [] X.env)).any (·.1) = false := by rfl)
    (hs : swapsWith (.Call (.Attribute (.Name x px) "append" pa) [a] [] pc) none pos.line X.env = pure false := by rfl) : SS X W (.Expr (.Call (.Attribute (.Name x px) "append" pa) [a] [] pc) pos) (mApp i me) :=
  (ps_expr (pe_bm PySem.F.plainAttrs_list PySem.F.slot_list_append PySem.F.type_list_append mt_append hv (pa_cons he pa_nil hst) hbase hfew hline hst hplain) hs).weak fun D σ H ⟨env, σ0, τ, T, F, n, w⟩ => by
    unfold mApp at w
    split at w
    · rename_i hi
      obtain ⟨l, vs0, e1, hs0⟩ := isLst_at hi n.sees
      refine ⟨.ref l, e1, .inl ⟨rfl, _, hs0⟩, env, σ0, τ, T, F, n, wpE_mono (wpE_S w) fun r e H' T' F' f sl su on fr w' x o => ?_⟩
      cases q : appS e i r.1 r.2 with
      | none => rw [show ofNx (appS (r, e).2 i (r, e).1.1 (r, e).1.2) = .stuck by show ofNx (appS e i r.1 r.2) = _; rw [q]; rfl] at w'; exact w'.elim
      | some e2 =>
        have w2 : wpS W X.K X.mg σ0 τ H F (.ok (.nx e2)) D := by rw [show ofNx (appS (r, e).2 i (r, e).1.1 (r, e).1.2) = .ok (.nx e2) by show ofNx (appS e i r.1 r.2) = _; rw [q]; rfl] at w'; exact w'
        unfold appS at q
        split at q
        · rename_i s es
          obtain ⟨d0, pin, pv⟩ := s
          dsimp only at q
          split at q
          · rename_i d ps
            split at q
            · rename_i hz
              cases q
              obtain ⟨v, g, G, ev, og, slG, hG, hp⟩ := sl.get es
              rw [e1] at ev; cases ev
              obtain ⟨a, vs, gc, ea, hH, oc, hg⟩ := og.lstInv
              cases ea
              have lv : vs.length = ps.length := oc.rep.length
              refine ⟨l, vs, x, rfl, rfl, hH, by rw [lv, sizeLine_eq]; exact of_decide_eq_true hz, ?_⟩
              have ga : g l = gc l + 1 := by rw [hg, if_pos rfl]
              have t1 := on l
              have t2 := su l
              have t3 := hG l
              have ta : T' l ≠ 0 := by omega
              have nst : ∀ y, H' l = some y → ¬ Still y := fun y ey => by rw [hH] at ey; cases ey; exact fun z => z
              have u2 : ∀ b, G b + g b + f b + τ b ≤ 1 := fun b => by have := su b; have := on b; have := hG b; omega
              obtain ⟨gc', l1, k1⟩ := oc.low (fun b => by have := u2 b; have := hg b; omega) (Nat.min_le_left d r.1)
              obtain ⟨f', l2, k2⟩ := o.low (fun b => by have := u2 b; omega) (Nat.min_le_right d r.1)
              -- the new counts
              have cz : ∀ b, gc b ≤ g b := fun b => by rw [hg]; omega
              let T2 : Cnt := fun b => G b + ((gc' b + f' b) + if b = l then 1 else 0) + τ b
              have tl : ∀ b, T2 b ≤ T' b := fun b => by
                show G b + ((gc' b + f' b) + if b = l then 1 else 0) + τ b ≤ T' b
                have := su b; have := hG b; have := hg b; have := l1 b; have := l2 b; omega
              have o1 : Owns X.K X.mg H' T2 (min d r.1) vs ps gc' := k1 T2 tl fun b z z' => by
                show G b + ((gc' b + f' b) + if b = l then 1 else 0) + τ b = 0
                have := u2 b; have := hg b; have := l2 b
                by_cases hb : b = l
                · subst hb; rw [if_pos rfl] at this; omega
                · rw [if_neg hb]; rw [if_neg hb] at *; omega
              have o2 : Own X.K X.mg H' T2 (min d r.1) x r.2 f' := k2 T2 tl fun b z z' => by
                show G b + ((gc' b + f' b) + if b = l then 1 else 0) + τ b = 0
                have := u2 b; have := hg b; have := l1 b
                by_cases hb : b = l
                · subst hb; rw [if_pos rfl] at *; omega
                · rw [if_neg hb]; rw [if_neg hb] at *; omega
              have t2l : T2 l ≠ 0 := by show G l + ((gc' l + f' l) + if l = l then 1 else 0) + τ l ≠ 0; rw [if_pos rfl]; omega
              have slG' : Slots X.K X.mg H' T2 (e.set i none) σ σ0 G := slG.keep (fun a o e t => by have := tl a; omega) fun a o e _ => e
              have f0 : ∀ b, gc' b ≤ gc b ∧ f' b ≤ f b := fun b => ⟨l1 b, l2 b⟩
              have s1 := slG'.wr (o' := .lst (vs ++ [x])) t2l (by omega) nst
              have s2 := (o1.append (.cons o2 (.nil (f := fun _ => 0) fun _ => rfl) fun b => rfl)).wr (o' := .lst (vs ++ [x])) t2l (by show gc' l + f' l = 0; have := f0 l; omega) nst
              have s3 : Own X.K X.mg (upd H' l (.lst (vs ++ [x]))) T2 (min d r.1 + 1) (.ref l) (.lst (ps ++ [r.2])) (fun b => (gc' b + f' b) + if b = l then 1 else 0) := .lst1 upd_same s2 fun b => rfl
              have s4 := s1.put (s := ⟨min d r.1 + 1, pin, .lst (ps ++ [r.2])⟩) (get_set_none es) s3 hp
              rw [set_set_none, set_self e1] at s4
              refine w2 σ _ T2 _ ⟨s4, fun b => rfl, fun b => Nat.le_trans (tl b) (on b), fun b z => ?_⟩ ⟨fun b y ey z => ?_, fun b y ey => ?_⟩
              · obtain ⟨y, ey⟩ := n.ex b z
                obtain ⟨⟨y', ey'⟩, _⟩ := fr.own b y ey
                by_cases hb : b = l
                · subst hb; exact ⟨_, upd_same⟩
                · exact ⟨y', by rw [upd_ne hb]; exact ey'⟩
              · have k := fr.keep b y ey z
                have ne : b ≠ l := fun q => by
                  subst q
                  rcases z with z | z
                  · have h : F' b + f b ≤ F b := (fr.own b y ey).2; have := hG b; omega
                  · exact nst y k z
                rw [upd_ne ne]; exact k
              · obtain ⟨⟨y', ey'⟩, lb⟩ := fr.own b y ey
                refine ⟨?_, ?_⟩
                · by_cases hb : b = l
                  · subst hb; exact ⟨_, upd_same⟩
                  · exact ⟨y', by rw [upd_ne hb]; exact ey'⟩
                · have lb' : F' b + f b ≤ F b := lb
                  show G b + ((gc' b + f' b) + if b = l then 1 else 0) ≤ F b
                  have := hG b; have := hg b; have := l1 b; have := l2 b; omega
            · cases q
          · cases q
        · cases q
    · exact w.elim
end
end M

set_option Elab.async false
set_option linter.all false
set_option maxRecDepth 100000
set_option maxHeartbeats 4000000
namespace M
open PySem PySem.Spec PyProof.Rows L2

/-! ### defs -/
abbrev Fn := List PV → Rs Xn (Nat × PV)
/-- what a def promises: its arguments are read, its value comes with its levels -/
def spM (K : PySem.W.Frag) (mg : Str → Option Value) (n : Nat) (G : Fn) : Sp := fun vs H Q E => ∃ ps τ, ps.length = n ∧ Owns K mg H τ 0 vs ps (fun _ => 0) ∧ (∀ b, τ b ≤ 1) ∧ (∀ b, τ b ≠ 0 → ∃ o, H b = some o) ∧
  match G ps with
  | .stuck => False
  | .ok r => ∀ x H' T' f, Grow H H' → Own K mg H' T' r.1 x r.2 f → (∀ b, T' b = f b + τ b) → (∀ b, T' b ≤ 1) → (∀ b o, H b = some o → f b = 0) → Q x H'
  | .exc xn => ∀ C dd H', Grow H H' → XcAt K mg H' xn C dd → E (.ref C) (some dd) H'
def slotsOf (n : Nat) (ps : List PV) : LEnv := ps.map (fun p => some ⟨0, false, p⟩) ++ List.replicate (n - ps.length) none
def runM (n : Nat) (b : MS) : Fn := fun ps => match b (slotsOf n ps) with
  | .ok (.rt d p _) => .ok (d, p)
  | .ok (.nx _) => .ok (8, .non)
  | .exc (x, _) => .exc x
  | _ => .stuck

section
variable {K : PySem.W.Frag} {mg : Str → Option Value}
mutual
theorem Rep.own0 {H : Hp} : ∀ {v : V} {p : PV}, Rep K mg H v p → Own K mg H (fun _ => 0) 0 v p fun _ => 0
  | _, _, .non => .non fun _ => rfl
  | _, _, .bl k => .bl k fun _ => rfl
  | _, _, .int i => .int i fun _ => rfl
  | _, _, .str x => .str x fun _ => rfl
  | _, _, .tup h r => .tup h (Reps.own0 r)
  | _, _, .ktp h r => .ktp h (Reps.own0 r)
  | _, _, .rng h => .rng h fun _ => rfl
  | _, _, .lst h r => .lst0 (by rcases h with h | h; exact .inl ⟨h, rfl⟩; exact .inr h) (Reps.own0 r)
  | _, _, .scr h r => .scr0 (by rcases h with h | h; exact .inl ⟨h, rfl⟩; exact .inr h) (Reps.own0 r)
  | _, _, .dK h e1 e2 r => .dK0 h rfl e1 e2 (Reps.own0 r)
  | _, _, .dT h e1 e2 r => .dT0 h rfl e1 e2 (Reps.own0 r)
  | _, _, .ins h m e1 e2 r => .ins0 h rfl m e1 e2 (Reps.own0 r)
theorem Reps.own0 {H : Hp} : ∀ {vs : List V} {ps : List PV}, Reps K mg H vs ps → Owns K mg H (fun _ => 0) 0 vs ps fun _ => 0
  | _, _, .nil => .nil fun _ => rfl
  | _, _, .cons h r => .cons (Rep.own0 h) (Reps.own0 r) fun _ => rfl
end
theorem Slots.nones {H : Hp} {T : Cnt} : ∀ n, Slots K mg H T (List.replicate n none) (List.replicate n none) (List.replicate n none) fun _ => 0
  | 0 => .nil fun _ => rfl
  | n + 1 => .off (Slots.nones n)
theorem Slots.start {H : Hp} {T : Cnt} : ∀ {vs : List V} {ps : List PV} {f : Cnt}, Owns K mg H T 0 vs ps f → ∀ n, Slots K mg H T (ps.map (fun p => some ⟨0, false, p⟩) ++ List.replicate n none) (vs.map some ++ List.replicate n none) (vs.map some ++ List.replicate n none) f
  | _, _, _, .nil z, n => (Slots.nones n).cnt fun b => z b
  | _, _, _, .cons h r hk, n => .on (s := ⟨0, false, _⟩) h (Slots.start r n) hk fun z => nomatch z
end

section
variable {P : Program} {w : World} {K : PySem.W.Frag} {mg : Str → Option Value} {base : Heap}
theorem fn_ok {x qual : Str} {st : Stmt} {f : Addr} {fd : FuncData} {N ps : List Str} {k : Nat} {b : MS} (F : Fun K x qual st f fd) (S : FnScope N ps (defScope st)) (n : Nat) (hn : n = ps.length)
    (hb : ∀ (cdv : Value) (A : Around) (outer : List PySem.Env) (s : Shared) (H : Hp) (E : XK), Room k (A.deeper (envOfC qual (defScope st) s.heap.objs.size f cdv)) →
      SSs (cxOf (L2.CX P w) P w K mg base N qual (defScope st) f cdv A outer s H E) (fun cls d _ H' => E cls d H') (defBody st) b) : FnOk P w K mg base (L2.CX P w) (k + 1) f fd ps (spM K mg n (runM N.length b)) := by
  refine F.okX S (fun vs H Q E h => by obtain ⟨ps', τ, hl, o, _⟩ := h; rw [o.rep.length, hl, hn]) (fun cdv A outer s H vs Q E hr h => ⟨_, hb cdv A outer s H E hr, ?_⟩)
  obtain ⟨ps', τ, hl, o, on, ex, w⟩ := h
  have ln : vs.length = ps'.length := o.rep.length
  refine ⟨slotsOf N.length ps', L2.start N vs, τ, τ, (fun _ => 0), ⟨by
    show Slots K mg H τ (slotsOf N.length ps') (L2.start N vs) (L2.start N vs) _
    unfold slotsOf L2.start
    rw [ln]
    exact Slots.start o _, fun b => (Nat.zero_add _).symm, on, ex⟩, ?_⟩
  unfold runM at w
  cases hr : b (slotsOf N.length ps') with
  | stuck => rw [hr] at w; exact w.elim
  | exc z => rw [hr] at w; exact fun σ' C dd H' T' F' n fr c => w C dd H' (fun a o e => fr.keep a o e (.inl rfl)) c
  | ok a =>
    cases a with
    | nx e => rw [hr] at w; exact fun σ' H' T' F' n fr => w .non H' τ (fun _ => 0) (fun a o e => fr.keep a o e (.inl rfl)) (.non fun _ => rfl) (fun b => (Nat.zero_add _).symm) on (fun _ _ _ => rfl)
    | bk e => rw [hr] at w; exact w.elim
    | ct e => rw [hr] at w; exact w.elim
    | rt d p e =>
      rw [hr] at w
      intro x σ' H' T' F' f sl su on' o fr
      have lo : ∀ b, f b + τ b ≤ T' b := fun b => by have := su b; omega
      exact w x H' (fun b => f b + τ b) f (fun a o e => fr.keep a o e (.inl rfl)) (o.keep (fun a o e t => by have := lo a; show f a + τ a = 0; omega) fun a o e _ => e) (fun b => rfl) (fun b => Nat.le_trans (lo b) (on' b)) fun b o e => by
        have h : F' b + f b ≤ 0 := (fr.own b o e).2
        omega
end

/-! ### calls -/
def callR {α : Type} (n : Nat) (G : Fn) (ps : List PV) (k : Nat × PV → Option α) : Rs Xn α := if ps.length = n then (match G ps with
  | .stuck => .stuck
  | .ok r => ofO (k r)
  | .exc x => .exc x) else .stuck
def okTall (r : Nat × PV) : Option (Nat × PV) := if hgt r.2 ≤ r.1 then some r else none
def mCall (n : Nat) (G : Fn) (ms : MP (List PV)) : MP PV := fun env => (ms env).bind fun ps => callR n G ps fun r => some r.2
def mCallE (n : Nat) (G : Fn) (ms : MP (List PV)) : ME (Nat × PV) := fun env => liftP env ((ms env).bind fun ps => callR n G ps okTall) some
section
variable {X : Cx} {W : WX} {a b c e tg : Expr} {es tgs : List Expr} {pos p p2 : Pos} {ms : MP (List PV)}
theorem call_wp {α : Type} {K : PySem.W.Frag} {mg : Str → Option Value} {n : Nat} {G : Fn} {ps : List PV} {vs : List V} {k : Nat × PV → Option α} {σ : L2.St} {H : Hp} {Q : α → Hp → Prop} {Q' : VK} (r : Reps K mg H vs ps) (w : wpP W K mg σ H (callR n G ps k) Q)
    (h : ∀ z c x H' f, k z = some c → Grow H H' → Own K mg H' f z.1 x z.2 f → (∀ b, f b ≤ 1) → (∀ b o, H b = some o → f b = 0) → (∀ H2, Grow H H2 → Q c H2) → Q' x H') : spM K mg n G vs H Q' (WE W σ) := by
  unfold callR at w
  split at w
  · rename_i hl
    refine ⟨ps, fun _ => 0, hl, Reps.own0 r, fun _ => Nat.zero_le _, fun b z => absurd rfl z, ?_⟩
    cases hG : G ps with
    | stuck => rw [hG] at w; exact w
    | exc x => rw [hG] at w; exact fun C dd H' g c => w C dd H' g c
    | ok z =>
      rw [hG] at w
      obtain ⟨c, e, q⟩ := wpP_ofO w
      intro x H' T' f g o su on fz
      exact h z c x H' f e g (o.keep (fun a o e t => by have := su a; omega) fun a o e _ => e) (fun b => by have := su b; have := on b; omega) fz q
  · exact w.elim
theorem sp_call {x : Str} {f : Addr} {fd : FuncData} {ps : List Str} {k n : Nat} {G : Fn} (F : FnOk X.prog X.w X.K X.mg X.base (L2.CX X.prog X.w) k f fd ps (spM X.K X.mg n G)) (tk : Takes X W) (hr : Room k X.A) (hm : X.mg x = some (.ref f)) (hk : PySem.W.keepIn X.K (.ref f) = true) (hb : Binds X.K fd ps [])
    (ha : SPs X W (e :: es) ms) (hg : Gl X x := by rfl) (hdb : (x == ("__debug__" : Str)) = false := by decide) (he : starEach (e :: es) X.env = (false, eval e X.env) :: starEach es X.env := by rfl) (hpl : (backTo pos (starEach es X.env)).any (·.1) = false := by rfl) :
    SP X W (.Call (.Name x p) (e :: es) [] pos) (mCall n G ms) := (pe_callS F hr hg hm hk hb (fun σ => passAt tk σ) ha hdb he hpl).weak fun σ H Q ⟨env, s, w⟩ =>
  tsps_bind (k := fun env ps => callR n G ps fun r => some r.2) s w fun ps xs H1 g r s1 w1 => call_wp r w1 fun z c x H' f e g o on fz q => by cases e; exact q H' g x o.rep
theorem se_call {x : Str} {f : Addr} {fd : FuncData} {ps : List Str} {k n : Nat} {G : Fn} (F : FnOk X.prog X.w X.K X.mg X.base (L2.CX X.prog X.w) k f fd ps (spM X.K X.mg n G)) (tk : Takes X W) (hr : Room k X.A) (hm : X.mg x = some (.ref f)) (hk : PySem.W.keepIn X.K (.ref f) = true) (hb : Binds X.K fd ps [])
    (ha : SPs X W (e :: es) ms) (hg : Gl X x := by rfl) (hdb : (x == ("__debug__" : Str)) = false := by decide) (he : starEach (e :: es) X.env = (false, eval e X.env) :: starEach es X.env := by rfl) (hpl : (backTo pos (starEach es X.env)).any (·.1) = false := by rfl) :
    SE X W (.Call (.Name x p) (e :: es) [] pos) (mCallE n G ms) := (pe_callS F hr hg hm hk hb (fun σ => passAt tk σ) ha hdb he hpl).weak fun σ H Q ⟨env, σ0, τ, T, F, n, w⟩ => by
  have w0 := wpE_lift n w
  obtain ⟨env, rfl⟩ : ∃ e, e = env := ⟨_, rfl⟩
  exact tsps_bind (k := fun env ps => callR _ G ps okTall) n.sees w0 fun ps xs H1 g0 r s1 w1 => call_wp r w1 fun z c x H' f e g o on fz q => by
    unfold okTall at e
    split at e
    · rename_i hz
      cases e
      obtain ⟨_, e, q⟩ := q H1 (.refl _)
      cases e
      exact q H' f (g0.trans g) (fun a o e => fz a o (g0 a o e)) on x (o.tall hz)
    · cases e
end
end M

set_option Elab.async false
set_option linter.all false
set_option maxRecDepth 100000
set_option maxHeartbeats 4000000
namespace M
open PySem PySem.Spec PyProof.Rows L2

theorem wpP_mono' {K : PySem.W.Frag} {mg : Str → Option Value} {W : WX} {σ : L2.St} {H H1 : Hp} {α : Type} {r : Rs Xn α} {Q : α → Hp → Prop} (h : wpP W K mg σ H r Q) (g : Grow H H1) : wpP W K mg σ H1 r Q := by
  cases r with
  | stuck => exact h
  | ok a => exact fun H' g' => h H' (g.trans g')
  | exc x => exact fun C dd H' g' => h C dd H' (g.trans g')
/-! ### operations on whole numbers -/
def gI (C : Int → Int → Bool) (f : Int → Int → PV) : PV → PV → Option PV
  | .int i, .int j => if C i j then some (f i j) else none
  | _, _ => none
abbrev cT : Int → Int → Bool := fun _ _ => true
def cMul (i j : Int) : Bool := decide (i.natAbs < 18446744073709551616) || decide (j.natAbs < 18446744073709551616)
def cDiv (_ j : Int) : Bool := decide (j ≠ 0) && decide (j.natAbs < 1073741824)
def cMod (_ j : Int) : Bool := decide (j ≠ 0)
/-- < of whole numbers, so that the kernel never counts down a great number -/
def ltZ : Int → Int → Bool
  | .ofNat a, .ofNat b => Nat.blt a b
  | .ofNat _, .negSucc _ => false
  | .negSucc _, .ofNat _ => true
  | .negSucc a, .negSucc b => Nat.blt b a
theorem ltZ_eq (i j : Int) : ltZ i j = decide (i < j) := by
  cases i <;> cases j <;> simp only [ltZ, Nat.blt]
  all_goals (rw [Bool.eq_iff_iff]; simp; try omega)
def gAdd := gI cT fun i j => .int (i + j)
def gSub := gI cT fun i j => .int (i - j)
def gMul := gI cMul fun i j => .int (i * j)
def gDiv := gI cDiv fun i j => .int (i.fdiv j)
def gMod := gI cMod fun i j => .int (i.fmod j)
def gLt := gI cT fun i j => .bl (ltZ i j)
def gLe := gI cT fun i j => .bl (!ltZ j i)
def gGt := gI cT fun i j => .bl (ltZ j i)
def gGe := gI cT fun i j => .bl (!ltZ i j)
def gNeg : PV → Option PV
  | .int i => some (.int (-i))
  | _ => none
def gAbs : List PV → Option PV
  | [.int i] => some (.int (i.natAbs : Int))
  | _ => none
def gInt : List PV → Option PV
  | [.int i] => some (.int i)
  | [.bl k] => some (.int (if k then 1 else 0))
  | _ => none
def gLen : List PV → Option PV
  | [.lst ps] => some (.int (ps.length : Int))
  | [.tup ps] => some (.int (ps.length : Int))
  | [.ktp ps] => some (.int (ps.length : Int))
  | [.scr ps] => some (.int (ps.length : Int))
  | [.str x] => if sizeOk x.length then some (.int (x.length : Int)) else none
  | _ => none
def gPy (p q : PV) (k : PyData → PyData → PV) : Option PV := match py p, py q with
  | some d, some e => if SeqAt.shaped d && SeqAt.shaped e then some (k d e) else none
  | _, _ => none
def gEq (p q : PV) : Option PV := gPy p q fun d e => .bl (PyData.eqv d e)
def gNe (p q : PV) : Option PV := gPy p q fun d e => .bl (!PyData.eqv d e)
def gIxL : PV → PV → Option PV
  | .lst ps, .int i => L2.atI ps i
  | .scr ps, .int i => L2.atI ps i
  | _, _ => none
def gIxT : PV → PV → Option PV
  | .tup ps, .int i => L2.atI ps i
  | .ktp ps, .int i => L2.atI ps i
  | _, _ => none
def gCat : PV → PV → Option (List PV)
  | .lst ps, .lst qs => if sizeOk (ps.length + qs.length) then some (ps ++ qs) else none
  | _, _ => none
def gRep : PV → PV → Option (List PV)
  | .lst ps, .int k => if decide (k.natAbs < 9223372036854775808) && sizeOk (ps.length * k.toNat) then some (List.replicate k.toNat ps).flatten else none
  | _, _ => none
def gList : List PV → Option (List PV)
  | [.lst ps] => some ps
  | [.tup ps] => some ps
  | [.ktp ps] => some ps
  | _ => none

section
variable {K : PySem.W.Frag} {mg : Str → Option Value}
theorem gI_some {C : Int → Int → Bool} {f : Int → Int → PV} {p q z : PV} (e : gI C f p q = some z) : ∃ i j, p = .int i ∧ q = .int j ∧ C i j = true ∧ z = f i j := by
  unfold gI at e
  split at e
  · split at e
    · cases e; exact ⟨_, _, rfl, rfl, by assumption, rfl⟩
    · cases e
  · cases e
theorem vI0 {g : Int → Int → V} {C : Int → Int → Bool} {f : Int → Int → PV} (r : ∀ H i j, Rep K mg H (g i j) (f i j)) : VOp K mg (rI0 g) (gI C f) := fun H x y p q z Q r1 r2 e h => by
  obtain ⟨i, j, rfl, rfl, _, rfl⟩ := gI_some e
  cases r1; cases r2
  exact ⟨i, j, rfl, rfl, h _ H (.refl H) (r H i j)⟩
theorem vI {g : Int → Int → V} {C : Int → Int → Bool} {D : Int → Int → Prop} {f : Int → Int → PV} (hC : ∀ i j, C i j = true → D i j) (r : ∀ H i j, Rep K mg H (g i j) (f i j)) : VOp K mg (rI D g) (gI C f) := fun H x y p q z Q r1 r2 e h => by
  obtain ⟨i, j, rfl, rfl, c, rfl⟩ := gI_some e
  cases r1; cases r2
  exact ⟨i, j, rfl, rfl, hC i j c, h _ H (.refl H) (r H i j)⟩
theorem v_add : VOp K mg (rI0 fun i j => V.int (i + j)) gAdd := vI0 fun _ _ _ => .int _
theorem v_sub : VOp K mg (rI0 fun i j => V.int (i - j)) gSub := vI0 fun _ _ _ => .int _
theorem v_mul : VOp K mg (rI CMul fun i j => V.int (i * j)) gMul := vI (fun i j c => by
  unfold cMul at c
  rw [Bool.or_eq_true] at c
  rcases c with c | c
  · left; have := of_decide_eq_true c; omega
  · right; have := of_decide_eq_true c; omega) fun _ _ _ => .int _
theorem v_div : VOp K mg (rI CDivN fun i j => V.int (i.fdiv j)) gDiv := vI (fun i j c => by
  unfold cDiv at c
  rw [Bool.and_eq_true] at c
  exact ⟨of_decide_eq_true c.1, of_decide_eq_true c.2⟩) fun _ _ _ => .int _
theorem v_mod : VOp K mg (rI (fun _ j => j ≠ 0) fun i j => V.int (i.fmod j)) gMod := vI (fun i j c => of_decide_eq_true c) fun _ _ _ => .int _
theorem leZ_eq (i j : Int) : (!ltZ j i) = decide (i ≤ j) := by rw [ltZ_eq, Bool.eq_iff_iff]; simp
theorem v_lt : VOp K mg (rI0 fun i j => V.bl (decide (i < j))) gLt := vI0 fun i j _ => by rw [← ltZ_eq]; exact .bl _
theorem v_le : VOp K mg (rI0 fun i j => V.bl (decide (i ≤ j))) gLe := vI0 fun i j _ => by rw [← leZ_eq]; exact .bl _
theorem v_gt : VOp K mg (rI0 fun i j => V.bl (decide (j < i))) gGt := vI0 fun i j _ => by rw [← ltZ_eq]; exact .bl _
theorem v_ge : VOp K mg (rI0 fun i j => V.bl (decide (j ≤ i))) gGe := vI0 fun i j _ => by rw [← leZ_eq]; exact .bl _
theorem v_neg : UOp K mg (rU fun i => V.int (-i)) gNeg := fun H x p z Q r e h => by
  unfold gNeg at e
  split at e
  · cases e; cases r; exact ⟨_, rfl, h _ H (.refl H) (.int _)⟩
  · cases e
theorem v_abs : COp K mg (fun xs H Q => ∃ i, xs = [V.int i] ∧ Q (V.int (if i < 0 then -i else i)) H) gAbs := fun H xs ps z Q r e h => by
  unfold gAbs at e
  split at e
  · rename_i i
    cases e
    cases r with
    | cons r1 r2 =>
      cases r1; cases r2
      refine ⟨i, rfl, ?_⟩
      have q := h _ H (.refl H) (.int (i.natAbs : Int))
      have e : (if i < 0 then -i else i) = (i.natAbs : Int) := by split <;> omega
      rw [e]; exact q
  · cases e
theorem v_int : COp K mg (fun xs H Q => (∃ i, xs = [V.int i] ∧ Q (V.int i) H) ∨ ∃ k, xs = [V.bl k] ∧ Q (V.int (if k then 1 else 0)) H) gInt := fun H xs ps z Q r e h => by
  unfold gInt at e
  split at e
  · cases e
    cases r with
    | cons r1 r2 => cases r1; cases r2; exact .inl ⟨_, rfl, h _ H (.refl H) (.int _)⟩
  · cases e
    cases r with
    | cons r1 r2 => cases r1; cases r2; exact .inr ⟨_, rfl, h _ H (.refl H) (.int _)⟩
  · cases e
theorem v_len : COp K mg (fun xs H Q => ∃ x n, xs = [x] ∧ LenV K x H n ∧ Q (V.int n) H) gLen := fun H xs ps z Q r e h => by
  unfold gLen at e
  split at e
  · cases e
    cases r with
    | cons r1 r2 => cases r1; cases r2; rename_i hs hr; exact ⟨_, _, rfl, .inl ⟨_, hs.sq, hr.length.symm⟩, h _ H (.refl H) (.int _)⟩
  · cases e
    cases r with
    | cons r1 r2 => cases r1; cases r2; rename_i hs hr; exact ⟨_, _, rfl, .inr ⟨_, SqT.of hs, hr.length.symm⟩, h _ H (.refl H) (.int _)⟩
  · cases e
    cases r with
    | cons r1 r2 => cases r1; cases r2; rename_i hs hr; exact ⟨_, _, rfl, .inr ⟨_, .inr hs, hr.length.symm⟩, h _ H (.refl H) (.int _)⟩
  · cases e
    cases r with
    | cons r1 r2 => cases r1; cases r2; rename_i hs hr; exact ⟨_, _, rfl, .inl ⟨_, hs, hr.length.symm⟩, h _ H (.refl H) (.int _)⟩
  · split at e
    · rename_i hz
      cases e
      cases r with
      | cons r1 r2 => cases r1; cases r2; exact ⟨_, _, rfl, ⟨sizeOk_le hz, rfl⟩, h _ H (.refl H) (.int _)⟩
    · cases e
  · cases e
theorem v_eq : VOp K mg (rEqD K) gEq := fun H x y p q z Q r1 r2 e h => by
  unfold gEq gPy at e
  split at e
  · rename_i d e1 hd he
    split at e
    · rename_i hz
      rw [Bool.and_eq_true] at hz
      cases e
      exact ⟨d, e1, r1.dp hd, r2.dp he, hz.1, hz.2, h _ H (.refl H) (.bl _)⟩
    · cases e
  · cases e
theorem v_ne : VOp K mg (rNeD K) gNe := fun H x y p q z Q r1 r2 e h => by
  unfold gNe gPy at e
  split at e
  · rename_i d e1 hd he
    split at e
    · rename_i hz
      rw [Bool.and_eq_true] at hz
      cases e
      exact ⟨d, e1, r1.dp hd, r2.dp he, hz.1, hz.2, h _ H (.refl H) (.bl _)⟩
    · cases e
  · cases e
theorem v_ixL : VOp K mg (rIxL K) gIxL := fun H x y p q z Q r1 r2 e h => by
  unfold gIxL at e
  split at e
  · cases r1; cases r2
    rename_i hs hr
    obtain ⟨v, ev, rv⟩ := hr.atI e
    exact ⟨_, _, _, v, rfl, rfl, hs.sq, ev, h v H (.refl H) rv⟩
  · cases r1; cases r2
    rename_i hs hr
    obtain ⟨v, ev, rv⟩ := hr.atI e
    exact ⟨_, _, _, v, rfl, rfl, hs, ev, h v H (.refl H) rv⟩
  · cases e
theorem v_ixT : VOp K mg (rIxT K) gIxT := fun H x y p q z Q r1 r2 e h => by
  unfold gIxT at e
  split at e
  · cases r1; cases r2
    rename_i hs hr
    obtain ⟨v, ev, rv⟩ := hr.atI e
    exact ⟨_, _, _, v, rfl, rfl, SqT.of hs, ev, h v H (.refl H) rv⟩
  · cases r1; cases r2
    rename_i hs hr
    obtain ⟨v, ev, rv⟩ := hr.atI e
    exact ⟨_, _, _, v, rfl, rfl, .inr hs, ev, h v H (.refl H) rv⟩
  · cases e
theorem v_list : COpF K mg (fun xs H Q => ∃ p ys, xs = [V.ref p] ∧ (SqL K H p ys ∨ SqT K H p ys) ∧ ∀ l, H l = none → Q (.ref l) (upd H l (.lst ys))) gList := fun H xs ps z Q r e h => by
  unfold gList at e
  split at e
  · cases e
    cases r with
    | cons r1 r2 => cases r1; cases r2; rename_i hs hr; exact ⟨_, _, rfl, .inl hs.sq, fun l hl => h _ l hr hl⟩
  · cases e
    cases r with
    | cons r1 r2 => cases r1; cases r2; rename_i hs hr; exact ⟨_, _, rfl, .inr (SqT.of hs), fun l hl => h _ l hr hl⟩
  · cases e
    cases r with
    | cons r1 r2 => cases r1; cases r2; rename_i hs hr; exact ⟨_, _, rfl, .inr (.inr hs), fun l hl => h _ l hr hl⟩
  · cases e
end

/-! ### list + list, of lists of any kind -/
def rCat' (K : PySem.W.Frag) : R2 := fun x y H Q => ∃ l b xs zs, x = .ref l ∧ y = .ref b ∧ LL K H l xs ∧ LL K H b zs ∧ xs.length + zs.length ≤ sizeLine ∧ ∀ p, H p = none → Q (.ref p) (upd H p (.lst (xs ++ zs)))
theorem op_cat' {X : Cx} : OpR X (binaryOp .Add) (rCat' X.K) := fun pins s σ H x y v u Q I rx ry h => by
  obtain ⟨a, b, xs, ys, ex, ey, ha, hb, hz, q⟩ := h
  subst ex; subst ey
  cases rx; cases ry
  obtain ⟨_, i1, n1, r1, e1⟩ := ha.obj I
  obtain ⟨_, i2, n2, r2, e2⟩ := hb.obj I
  have hsz : i1.toArray.size + i2.toArray.size ≤ sizeLine := by
    have h1 := r1.length; have h2 := r2.length
    simp only [List.size_toArray]; omega
  have q' := q s.heap.objs.size I.fresh
  have hl : (xs ++ ys).length ≤ sizeLine := by rw [List.length_append]; exact hz
  have J := I.lnew (t' := s.toks) (r1.append r2) hl
  rw [show (i1 ++ i2).toArray = i1.toArray ++ i2.toArray by simp] at J
  exact PySem.P.add_list e1 e2 ⟨.ref _, _, J, rfl, q'⟩ hsz
theorem v_cat {K : PySem.W.Frag} {mg : Str → Option Value} : VOpF K mg (rCat' K) gCat := fun H x y p q z Q r1 r2 e h => by
  unfold gCat at e
  split at e
  · split at e
    · rename_i hz
      cases e
      cases r1; cases r2
      rename_i h1 q1 _ _ h2 q2
      exact ⟨_, _, _, _, rfl, rfl, h1, h2, by rw [q1.length, q2.length]; exact sizeOk_le hz, fun l hl => h _ l (q1.append q2) hl⟩
    · cases e
  · cases e
def gRepK (ps : List PV) : PV → Option (List PV)
  | .int k => if decide (k.natAbs < 9223372036854775808) && sizeOk (ps.length * k.toNat) then some (List.replicate k.toNat ps).flatten else none
  | _ => none
def mRep (ma : MP (List PV)) (mb : MP PV) : MP (List PV) := fun env => (ma env).bind fun ps => (mb env).bind fun q => ofO (gRepK ps q)
section
variable {X : Cx} {W : WX} {a b c e tg : Expr} {es tgs : List Expr} {pos p p2 : Pos} {m mb : MP PV} {ms : MP (List PV)} {me : ME (Nat × PV)}
theorem sp_rep (ha : SPF X W a ms) (hb : SP X W b mb) : SPF X W (.BinOp a .Mult b pos) (mRep ms mb) := (pe_op op_rep ha hb).weak fun σ H Q ⟨env, s, w⟩ => ⟨env, s, wpP_mono (wpP_bind w) fun ps H1 g w1 xs l r na => by
  have g1 := Grow.upd (o := .lst xs) na
  refine tsp_bind (k := fun env q => ofO (gRepK ps q)) (s.grow (g.trans g1)) (wpP_mono' w1 g1) fun q y H2 g2 ry s2 w2 => ?_
  obtain ⟨z, ez, q2⟩ := wpP_ofO w2
  unfold gRepK at ez
  split at ez
  · rename_i k
    split at ez
    · rename_i hz
      cases ez
      rw [Bool.and_eq_true] at hz
      cases ry
      exact ⟨l, k, xs, rfl, rfl, g2 _ _ upd_same, by have := of_decide_eq_true hz.1; omega, by have := of_decide_eq_true hz.1; omega, by rw [r.length]; exact sizeOk_le hz.2, fun p hp => q2 H2 (.refl _) _ p ((r.grow (g1.trans g2)).rep _) hp⟩
    · cases ez
  · cases ez⟩
theorem sp_ixL (ha : SP X W a m) (hb : SP X W b mb) (hs : PlainIx b := by exact fun _ _ => rfl) : SP X W (.Subscript a b pos) (mBin gIxL m mb) := op_sp v_ixL (pe_ix ix_list ha hb hs)
theorem sp_ixT (ha : SP X W a m) (hb : SP X W b mb) (hs : PlainIx b := by exact fun _ _ => rfl) : SP X W (.Subscript a b pos) (mBin gIxT m mb) := op_sp v_ixT (pe_ix ix_tup ha hb hs)
/-- xs[::-1] -/
def mRevL (m : MP PV) : MP (List PV) := fun env => (m env).bind fun p => ofO ((lstOf p).map List.reverse)
theorem sp_revL {k : Nat} {p1 p2 p3 : Pos} (ha : SP X W a m) : SPF X W (.Subscript a (.Slice none none (some (.UnaryOp .USub (.Constant (.int 1) k p1) p2)) p3) pos) (mRevL m) := (pe_revL ha).weak fun σ H Q ⟨env, s, w⟩ =>
  tsp_bind (k := fun env p => ofO ((lstOf p).map List.reverse)) s w fun p x H1 g r s1 w1 => by
    obtain ⟨z, ez, q⟩ := wpP_ofO w1
    cases r with
    | lst hs hr => cases ez; exact ⟨_, _, rfl, hs.sq, fun l hl => q H1 (.refl _) _ l hr.reverse hl⟩
    | _ => cases ez
/-- x op= e, x a name that holds a flat value -/
def mAug (i : Nat) (g : PV → PV → Option PV) (m : MP PV) : MS := fun env => match env[i]? with
  | some (some s) => (match m env with
    | .stuck => .stuck
    | .exc x => .exc (x, env)
    | .ok q => match g s.v q with
      | none => .stuck
      | some z => if hgt z = 0 then ofNx (setS env i 8 z) else .stuck)
  | _ => .stuck
theorem ss_aug {i : Nat} {x : Str} {op : Operator} {ti : TIp} {g : PV → PV → Option PV} {pos' : Pos} (ho : PIp X op ti) (hg : VOp X.K X.mg ti g) (hN : X.N.Nodup) (hi : X.N[i]? = some x) (hx : Loc X.env.scope x) (he : SP X W e m)
    (hf : X.fn x = true ∨ X.env.scope.names.lookup x = some .local := by first | exact .inl rfl | exact .inr rfl | assumption) : SS X W (.AugAssign (.Name x pos') op e pos) (mAug i g m) := (ps_aug hN hi hx he ho hf).weak fun D σ H ⟨env, σ0, τ, T, F, n, w⟩ => by
  unfold mAug at w
  split at w
  · rename_i s es
    obtain ⟨v, ev, rv⟩ := n.sees.1 i s es
    refine ⟨v, ev, env, n.sees, ?_⟩
    cases hm : m env with
    | stuck => rw [hm] at w; exact w
    | exc x => rw [hm] at w; exact fun C dd H' g c => w σ C dd H' T F (n.grow g) (.grow g fun _ _ _ => Nat.le_refl _) c
    | ok q =>
      rw [hm] at w
      intro H1 g1 y ry
      dsimp only at w
      split at w
      · exact w.elim
      · rename_i z ez
        refine hg H1 v y s.v q z _ (rv.grow g1) ry ez fun u H2 g2 ru => ?_
        split at w
        · rename_i hz
          have g12 := g1.trans g2
          have k : tTG X.K X.mg (.nm i) u σ H2 D.nx := asg_wp (r := (8, z)) (f := fun _ => 0) n (n.grow g12).sl n.sum n.one (.grow g12 fun _ _ _ => Nat.le_refl _) (ru.own hz 8) (by rw [setT]; exact w)
          exact tg_name k
        · exact w.elim
  · exact w.elim
end
end M

set_option Elab.async false
set_option linter.all false
set_option maxRecDepth 100000
set_option maxHeartbeats 4000000
namespace M
open PySem PySem.Spec PyProof.Rows L2

/-! ### list comprehensions of flat things -/
mutual
def tgN : Tg → List Nat
  | .nm i => [i]
  | .tup ts => tgNs ts
def tgNs : List Tg → List Nat
  | [] => []
  | t :: ts => tgN t ++ tgNs ts
end
def tPG (K : PySem.W.Frag) (mg : Str → Option Value) (t : Tg) : TG := fun v σ H Q => ∃ (G : Hp) (env : LEnv) (p : PV) (env' : LEnv), Grow G H ∧ Sees K mg G env σ ∧ Rep K mg G v p ∧ setT t 0 p env = some env' ∧
  ∀ σ', Sees K mg G env' σ' → σ'.length = σ.length → (∀ j, j ∉ tgN t → σ'[j]? = σ[j]?) → Q σ' H
def tPGs (K : PySem.W.Frag) (mg : Str → Option Value) (t : List Tg) : TGs := fun v σ H Q => ∃ (G : Hp) (env : LEnv) (p : List PV) (env' : LEnv), Grow G H ∧ Sees K mg G env σ ∧ Reps K mg G v p ∧ setTs t 0 p env = some env' ∧
  ∀ σ', Sees K mg G env' σ' → σ'.length = σ.length → (∀ j, j ∉ tgNs t → σ'[j]? = σ[j]?) → Q σ' H
def PGm (X : Cx) (tg : Expr) (t : Tg) : Prop := PG X tg (tPG X.K X.mg t)
def PGms (X : Cx) (tg : List Expr) (t : List Tg) : Prop := PGs X tg (tPGs X.K X.mg t)
section
variable {X : Cx} {W : WX} {a b c tg : Expr} {es tgs : List Expr} {pos p p2 : Pos} {t : Tg} {ts : List Tg}
theorem setS_some {env env' : LEnv} {i d : Nat} {p : PV} (e : setS env i d p = some env') : i < env.length ∧ env' = env.set i (some ⟨d, false, p⟩) := by
  unfold setS at e
  split at e
  · rename_i h; exact ⟨(List.getElem?_eq_some_iff.mp h).1, (Option.some.inj e).symm⟩
  · rename_i s h
    split at e
    · cases e
    · exact ⟨(List.getElem?_eq_some_iff.mp h).1, (Option.some.inj e).symm⟩
  · cases e
theorem pgm_name {i : Nat} (h : PG X tg (gName i)) : PGm X tg (.nm i) := h.weak fun v σ H Q ⟨G, env, p, env', gG, s, r, e, q⟩ => by
  have e' : setS env i 0 p = some env' := by rw [setT] at e; exact e
  obtain ⟨hl, rfl⟩ := setS_some e'
  refine q (σ.set i (some v)) ⟨fun j sl hj => ?_, by simp [s.2]⟩ (by simp) fun j hj => ?_
  · by_cases ij : i = j
    · subst ij
      rw [List.getElem?_set_self hl] at hj
      cases hj
      exact ⟨v, by rw [List.getElem?_set_self (by rw [← s.2]; exact hl)], r⟩
    · rw [List.getElem?_set_ne ij] at hj
      obtain ⟨u, eu, ru⟩ := s.1 j sl hj
      exact ⟨u, by rw [List.getElem?_set_ne ij]; exact eu, ru⟩
  · have ij : i ≠ j := fun z => hj (by rw [tgN, z]; simp)
    rw [List.getElem?_set_ne ij]
theorem pgms_nil : PGms X [] [] := pgs_nil.weak fun v σ H Q ⟨G, env, p, env', gG, s, r, e, q⟩ => by
  cases r with
  | nil => rw [setTs] at e; cases e; exact ⟨rfl, q σ s rfl fun _ _ => rfl⟩
  | cons _ _ => rw [setTs] at e; cases e; all_goals simp
theorem pgms_cons (h1 : PGm X tg t) (h2 : PGms X tgs ts) (hs : (assignEach (tg :: tgs) X.env).map (·.2) = assign tg X.env :: (assignEach tgs X.env).map (·.2) := by rfl) : PGms X (tg :: tgs) (t :: ts) := (pgs_cons h1 h2 hs).weak fun v σ H Q ⟨G, env, p, env', gG, s, r, e, q⟩ => by
  cases r with
  | nil => rw [setTs] at e; cases e; all_goals simp
  | @cons v vs p ps r1 r2 =>
    rw [setTs, Option.bind_eq_some_iff] at e
    obtain ⟨e1, ea, eb⟩ := e
    exact ⟨v, vs, rfl, G, env, p, e1, gG, s, r1, ea, fun σ1 s1 n1 k1 => ⟨G, e1, ps, env', gG, s1, r2, eb, fun σ' s' n' k' => q σ' s' (n'.trans n1) fun j hj => by
      rw [tgNs, List.mem_append] at hj
      rw [k' j fun z => hj (.inr z), k1 j fun z => hj (.inl z)]⟩⟩
theorem pgm_tup {n k : Nat} (hc : X.calm = true) (h : PGms X es ts) (hl : ts.length = n) (hn : (assignEach es X.env).length = n := by rfl) (hst : (assignEach es X.env).findIdx? (·.1) = none := by rfl) : PGm X (.Tuple es k pos) (.tup ts) :=
  (pg_tup (k := k) (n := n) hc h hn hst).weak fun v σ H Q ⟨G, env, p, env', gG, s, r, e, q⟩ => by
    have len : ∀ (ts : List Tg) (ps : List PV) (env : LEnv), setTs ts 0 ps env = some env' → ps.length = ts.length := by
      intro ts
      induction ts with
      | nil => intro ps env e; cases ps with
        | nil => rfl
        | cons => rw [setTs] at e; cases e; all_goals simp
      | cons t ts ih => intro ps env e; cases ps with
        | nil => rw [setTs] at e; cases e; all_goals simp
        | cons p ps =>
          rw [setTs, Option.bind_eq_some_iff] at e
          obtain ⟨e1, _, eb⟩ := e
          rw [List.length_cons, List.length_cons, ih ps e1 eb]
    cases r with
    | @tup a vs ps hs r =>
      rw [setT] at e
      exact ⟨a, vs, rfl, SqT.of (gG _ _ hs), by rw [r.length, len ts ps env e, hl], G, env, ps, env', gG, s, r, e, fun σ' s' n' k' => q σ' s' n' fun j hj => k' j (by rw [tgN] at hj; exact hj)⟩
    | @ktp a vs ps hs r =>
      rw [setT] at e
      exact ⟨a, vs, rfl, .inr hs, by rw [r.length, len ts ps env e, hl], G, env, ps, env', gG, s, r, e, fun σ' s' n' k' => q σ' s' n' fun j hj => k' j (by rw [tgN] at hj; exact hj)⟩
    | _ => rw [setT] at e; cases e; all_goals simp
end

def wipeE (env : LEnv) : List Nat → LEnv
  | [] => env
  | v :: vs => (wipeE env vs).set v none
theorem wipeE_len (env : LEnv) : ∀ vs, (wipeE env vs).length = env.length
  | [] => rfl
  | v :: vs => by rw [wipeE, List.length_set, wipeE_len env vs]
theorem wipe_sees {K : PySem.W.Frag} {mg : Str → Option Value} {H : Hp} {env : LEnv} {σ : L2.St} (s : Sees K mg H env σ) : ∀ vs, Sees K mg H (wipeE env vs) (wipe σ vs)
  | [] => s
  | v :: vs => ⟨fun i sl e => by
    rw [wipeE] at e
    by_cases h : v = i
    · subst h
      rw [List.getElem?_set] at e
      simp at e
    · rw [List.getElem?_set_ne h] at e
      obtain ⟨u, eu, ru⟩ := (wipe_sees s vs).1 i sl e
      exact ⟨u, by unfold wipe; rw [List.getElem?_set_ne h]; exact eu, ru⟩, by rw [wipeE_len, wipe_length]; exact s.2⟩
theorem wipe_get (σ : L2.St) : ∀ (vs : List Nat) (j : Nat), (wipe σ vs)[j]? = if j ∈ vs then (if j < σ.length then some none else none) else σ[j]?
  | [], j => by simp [wipe]
  | v :: vs, j => by
    unfold wipe
    by_cases h : v = j
    · subst h
      rw [List.getElem?_set]
      simp [wipe_length]
    · rw [List.getElem?_set_ne h, wipe_get σ vs j]
      by_cases h2 : j ∈ vs
      · simp [h2]
      · have : j ≠ v := fun z => h z.symm
        simp [h2, this]
theorem wipe_eq {σ σ' : L2.St} {vs : List Nat} (l : σ'.length = σ.length) (k : ∀ j, j ∉ vs → σ'[j]? = σ[j]?) : wipe σ' vs = wipe σ vs := by
  refine List.ext_getElem? fun j => ?_
  rw [wipe_get, wipe_get, l]
  by_cases h : j ∈ vs
  · simp [h]
  · simp [h, k j h]

def noX {α : Type} : Rs Xn α → Option α
  | .ok a => some a
  | _ => none
def compF (t : Tg) (mt : MP Bool) (me : MP PV) (env : LEnv) : List PV → Option (List PV)
  | [] => some []
  | p :: r => (setT t 0 p env).bind fun e => (noX (mt e)).bind fun b => if b = true then (noX (me e)).bind fun y => if hgt y = 0 then (compF t mt me env r).map (y :: ·) else none else compF t mt me env r
def mYes : MP Bool := fun _ => .ok true
/-- the items of what is walked -/
def itL : PV → Option (List PV) := lstOf
def itT : PV → Option (List PV) := tupOf
def szL (ps : List PV) : Option (List PV) := if sizeOk ps.length then some ps else none
def mComp (vs : List Nat) (t : Tg) (mi : MP (List PV)) (mt : MP Bool) (me : MP PV) : MP (List PV) := fun env => (mi env).bind fun ps => ofO ((compF t mt me (wipeE env vs) ps).bind szL)
def mIt (g : PV → Option (List PV)) (m : MP PV) : MP (List PV) := fun env => (m env).bind fun p => ofO (g p)
def mRng1 (m : MP (List PV)) : MP (List PV) := fun env => (m env).bind fun ps => match ps with
  | [.int j] => if rngOk j then .ok (rngs 0 j.toNat) else .stuck
  | _ => .stuck
def mRng2 (m : MP (List PV)) : MP (List PV) := fun env => (m env).bind fun ps => match ps with
  | [.int i, .int j] => if rngOk i && rngOk j then .ok (rngs i (j - i).toNat) else .stuck
  | _ => .stuck
/-- an iterator over things that stand as long as the heap grows -/
def ItOk (K : PySem.W.Frag) (mg : Str → Option Value) (J : It) (H : Hp) (ps : List PV) : Prop := ∃ vs, Reps K mg H vs ps ∧ ∃ there : Hp → Prop, there H ∧ (∀ H H', there H → Grow H H' → there H') ∧ (∀ H D xs ys, there (upd H D (.lst xs)) → H D = none → there H → there (upd H D (.lst ys))) ∧
  (∀ i H v, there H → vs[i]? = some v → J.go i H) ∧ (∀ i H, there H → vs.length ≤ i → J.stop i H) ∧ (∀ i H x H', i < vs.length → there H → J.yld i H x H' → H' = H ∧ vs[i]? = some x)
def tSI (K : PySem.W.Frag) (mg : Str → Option Value) (W : WX) (m : MP (List PV)) : TI := fun σ H R => ∃ env, Sees K mg H env σ ∧ wpP W K mg σ H (m env) fun ps H' => ∀ J, ItOk K mg J H' ps → R J H'
def SI (X : Cx) (W : WX) (tg it : Expr) (m : MP (List PV)) : Prop := PI X tg it (tSI X.K X.mg W m)
theorem _root_.L2.PI.weak {X : Cx} {tg it : Expr} {t t' : TI} (h : PI X tg it t) (w : ∀ σ H R, t' σ H R → t σ H R) : PI X tg it t' := ⟨fun pins s σ H R I q => h.run pins s σ H R I (w σ H R q)⟩
theorem _root_.L2.PTs.weak {X : Cx} {e : List Expr} {t t' : TT} (h : PTs X e t) (w : ∀ σ H R, t' σ H R → t σ H R) : PTs X e t' := ⟨fun pins s σ H R I q => h.run pins s σ H R I (w σ H R q)⟩
section
variable {X : Cx} {W : WX} {a b c e tg : Expr} {es tgs : List Expr} {pos p p2 : Pos} {m : MP PV} {mi ml : MP (List PV)} {mt : MP Bool} {me : MP PV} {t : Tg}
theorem si_list (h : SP X W a m) : SI X W tg a (mIt itL m) := (pi_list h).weak fun σ H R ⟨env, s, w⟩ => tsp_bind (k := fun env p => ofO (itL p)) s w fun p x H1 g r s1 w1 => by
  obtain ⟨ps, ez, q⟩ := wpP_ofO w1
  cases r with
  | @lst a vs _ hs hr =>
    cases ez
    refine ⟨a, rfl, ⟨vs, hs.sq⟩, q H1 (.refl _) _ ⟨vs, hr, fun H => SqL X.K H a vs, hs.sq, fun H H' h g => ?_, fun H D xs ys h hD h0 => ?_, fun i H v h e => ⟨vs, v, h, e⟩, fun i H h e => ⟨vs, h, e⟩, fun i H x H' _ h y => ⟨y.1, y.2 vs h⟩⟩⟩
    · rcases h with h | h
      · exact .inl (Rd.grow h g)
      · exact .inr h
    · rcases h0 with h0 | h0
      · exact .inl (Rd.grow h0 (Grow.upd hD))
      · exact .inr h0
  | _ => cases ez
theorem si_tup (h : SP X W a m) : SI X W tg a (mIt itT m) := (pi_tup h).weak fun σ H R ⟨env, s, w⟩ => tsp_bind (k := fun env p => ofO (itT p)) s w fun p x H1 g r s1 w1 => by
  obtain ⟨ps, ez, q⟩ := wpP_ofO w1
  cases r with
  | @tup a vs _ hs hr =>
    cases ez
    exact ⟨a, rfl, ⟨vs, SqT.of hs⟩, q H1 (.refl _) _ ⟨vs, hr, fun H => SqT X.K H a vs, SqT.of hs, fun H H' h g => sqT_grow h g, fun H D xs ys h hD h0 => sqT_grow h0 (Grow.upd hD), fun i H v h e => ⟨vs, v, h, e⟩, fun i H h e => ⟨vs, h, e⟩, fun i H x H' _ h y => ⟨y.1, y.2 vs h⟩⟩⟩
  | @ktp a vs _ hs hr =>
    cases ez
    exact ⟨a, rfl, ⟨vs, .inr hs⟩, q H1 (.refl _) _ ⟨vs, hr, fun H => SqT X.K H a vs, .inr hs, fun H H' h g => sqT_grow h g, fun H D xs ys h hD h0 => sqT_grow h0 (Grow.upd hD), fun i H v h e => ⟨vs, v, h, e⟩, fun i H h e => ⟨vs, h, e⟩, fun i H x H' _ h y => ⟨y.1, y.2 vs h⟩⟩⟩
  | _ => cases ez
theorem rng_it {K : PySem.W.Frag} {mg : Str → Option Value} {H : Hp} (lo : Int) (k : Nat) : ItOk K mg (Itr lo k) H (rngs lo k) := by
  obtain ⟨vs, o, ev⟩ := rngs_own (K := K) (mg := mg) (H := H) (T := fun _ => 0) lo k
  have ln : vs.length = k := by rw [ev, List.length_map, List.length_range]
  refine ⟨vs, o.rep, fun _ => True, trivial, fun _ _ _ _ => trivial, fun _ _ _ _ _ _ _ => trivial, fun i H v _ e => ?_, fun i H _ l => by rw [ln] at l; exact l, fun i H x H' hl _ y => ⟨y.1, ?_⟩⟩
  · have := (List.getElem?_eq_some_iff.mp e).1
    show i < k; omega
  · rw [y.2, ev, List.getElem?_map, List.getElem?_range (by omega)]; rfl
theorem si_rng1 {pf pc : Pos} (hgl : Gl X "range") (hm : X.mg "range" = none) (ha : SPs X W [a] ml) (hst : starEach [a] X.env = [(false, eval a X.env)] := by rfl) : SI X W tg (.Call (.Name "range" pf) [a] [] pc) (mRng1 ml) := (pi_range1 hgl hm ha hst).weak fun σ H R ⟨env, s, w⟩ =>
  tsps_bind (k := fun env ps => match ps with | [.int j] => if rngOk j then .ok (rngs 0 j.toNat) else .stuck | _ => .stuck) s w fun ps xs H1 g r s1 w1 => by
    split at w1
    · rename_i j
      split at w1
      · rename_i hj
        obtain ⟨h1, h2⟩ : -4611686018427387904 ≤ j ∧ j < 4611686018427387904 := rngOk_lt hj
        cases r with
        | cons r1 r2 => cases r2; cases r1; exact ⟨j, rfl, by omega, by omega, w1 H1 (.refl _) _ (rng_it _ _)⟩
      · exact w1.elim
    · exact w1.elim
theorem si_rng2 {pf pc : Pos} (hgl : Gl X "range") (hm : X.mg "range" = none) (ha : SPs X W [a, b] ml) (hst : starEach [a, b] X.env = [(false, eval a X.env), (false, eval b X.env)] := by rfl) (hst2 : starEach [b] X.env = [(false, eval b X.env)] := by rfl) : SI X W tg (.Call (.Name "range" pf) [a, b] [] pc) (mRng2 ml) := (pi_range2 hgl hm ha hst hst2).weak fun σ H R ⟨env, s, w⟩ =>
  tsps_bind (k := fun env ps => match ps with | [.int i, .int j] => if rngOk i && rngOk j then .ok (rngs i (j - i).toNat) else .stuck | _ => .stuck) s w fun ps xs H1 g r s1 w1 => by
    split at w1
    · rename_i i j
      split at w1
      · rename_i hj
        rw [Bool.and_eq_true] at hj
        obtain ⟨h1, h2⟩ : -4611686018427387904 ≤ i ∧ i < 4611686018427387904 := rngOk_lt hj.1
        obtain ⟨h3, h4⟩ : -4611686018427387904 ≤ j ∧ j < 4611686018427387904 := rngOk_lt hj.2
        cases r with
        | cons r1 r2 => cases r2 with
          | cons r2 r3 => cases r3; cases r1; cases r2; exact ⟨i, j, rfl, ⟨by omega, by omega, by omega, by omega⟩, w1 H1 (.refl _) _ (rng_it _ _)⟩
      · exact w1.elim
    · exact w1.elim
abbrev W0 : WX := fun _ _ _ _ => False
theorem noX_wp {α : Type} {K : PySem.W.Frag} {mg : Str → Option Value} {σ : L2.St} {H : Hp} {r : Rs Xn α} {y : α} {Q : α → Hp → Prop} (e : noX r = some y) (q : ∀ H', Grow H H' → Q y H') : wpP W0 K mg σ H r Q := by
  cases r with
  | ok a => cases e; exact q
  | stuck => cases e
  | exc x => cases e
def SPTs (X : Cx) (W : WX) (es : List Expr) (m : MP Bool) : Prop := PTs X es (tSPT X.K X.mg W m)
theorem spts_nil : SPTs X W [] mYes := pts_nil.weak fun σ H R ⟨env, s, w⟩ => w H (.refl H)
theorem spts_one (h : SPT X W c mt) : SPTs X W [c] mt := pts_one h
theorem Rep.still {K : PySem.W.Frag} {mg : Str → Option Value} {H H' : Hp} (k : ∀ a vs, H a = some (.tup vs) → H' a = some (.tup vs)) {v : V} {p : PV} (r : Rep K mg H v p) (hz : hgt p = 0) : Rep K mg H' v p := by
  have key : ∀ {d f}, Own K mg H (fun _ => 0) d v p f → Own K mg H (fun _ => 0) d v p f := fun h => h
  have : (∀ {v : V} {p : PV}, Rep K mg H v p → hgt p = 0 → Rep K mg H' v p) := by
    intro v p r
    exact Rep.rec (motive_1 := fun v p _ => hgt p = 0 → Rep K mg H' v p) (motive_2 := fun vs ps _ => hgts ps = 0 → Reps K mg H' vs ps) (fun _ => .non) (fun b _ => .bl b) (fun i _ => .int i) (fun x _ => .str x) (fun h r ih z => .tup (k _ _ h) (ih (by rw [hgt] at z; exact z))) (fun h r ih z => .ktp h (ih (by rw [hgt] at z; exact z))) (fun h z => by rw [hgt] at z; omega)
      (fun h r ih z => by rw [hgt] at z; omega) (fun h r ih z => by rw [hgt] at z; omega) (fun h e1 e2 r ih z => by rw [hgt] at z; omega) (fun h e1 e2 r ih z => by rw [hgt] at z; omega) (fun h m e1 e2 r ih z => by rw [hgt] at z; omega) (fun _ => .nil)
      (fun r1 r2 i1 i2 z => .cons (i1 (by rw [hgts] at z; omega)) (i2 (by rw [hgts] at z; omega))) r
  exact this r hz
/-- [e for t in it if c], read -/
theorem lc_read {K : PySem.W.Frag} {mg : Str → Option Value} {vs' : List Nat} {σ : L2.St} {H : Hp} {Q : VK} (hl : (tgN t).all (fun j => vs'.contains j) = true) : tSPF K mg W (mComp vs' t mi mt me) σ H Q → tLc (tSI K mg W mi) (tPG K mg t) (tSPT K mg W0 mt) (tSP K mg W0 me) vs' σ H Q := fun ⟨env, s, w⟩ => ⟨env, s, by
  refine wpP_mono (wpP_bind w) fun ps H1 g w1 J hJ D hD => ?_
  obtain ⟨zs, ez, q⟩ := wpP_ofO w1
  obtain ⟨vs, rv, there, th, t1, t2, go, stop, yld⟩ := hJ
  rw [Option.bind_eq_some_iff] at ez
  obtain ⟨zs', ec, ez⟩ := ez
  unfold szL at ez
  split at ez
  case isFalse => cases ez
  rename_i hz
  cases ez
  have len := rv.length
  have s1 := s.grow g
  -- the invariant: the heap without the new list, what is made, what is still to be made
  refine ⟨fun i n H => n = ps.length - i ∧ i ≤ ps.length ∧ ∃ G acc ys rest, H = upd G D (.lst acc) ∧ G D = none ∧ Grow H1 G ∧ there G ∧ Reps K mg G acc ys ∧ compF t mt me (wipeE env vs') (ps.drop i) = some rest ∧ zs = ys ++ rest,
    ⟨ps.length, rfl, Nat.zero_le _, H1, [], [], zs, rfl, hD, .refl _, th, .nil, ec, rfl⟩, ?_⟩
  rintro i n H ⟨rfl, hi, G, acc, ys, rest, rfl, hG, gg, th, ra, ecr, ez⟩
  have gD : Grow G (upd G D (.lst acc)) := Grow.upd hG
  have thD := t1 _ _ th gD
  by_cases hlt : i < ps.length
  · have hv : i < vs.length := by rw [len]; exact hlt
    refine .inr ⟨go i _ vs[i] thD (by simp [hv]), fun H' => i + 1 ≤ ps.length ∧ ∃ G acc ys rest, H' = upd G D (.lst acc) ∧ G D = none ∧ Grow H1 G ∧ there G ∧ Reps K mg G acc ys ∧ compF t mt me (wipeE env vs') (ps.drop (i + 1)) = some rest ∧ zs = ys ++ rest,
      fun H' ⟨a, b⟩ => ⟨ps.length - (i + 1), by omega, rfl, a, b⟩, fun x H' y => ?_⟩
    obtain ⟨rfl, hx⟩ := yld i _ x H' hv thD y
    have hd : ps.drop i = ps[i] :: ps.drop (i + 1) := List.drop_eq_getElem_cons hlt
    rw [hd, compF, Option.bind_eq_some_iff] at ecr
    obtain ⟨e2, es2, ecr⟩ := ecr
    rw [Option.bind_eq_some_iff] at ecr
    obtain ⟨b, eb, ecr⟩ := ecr
    obtain ⟨v, ev, rx⟩ := rv.get (i := i) (p := ps[i]) (by simp [hlt])
    rw [hx] at ev; cases ev
    have g2 : Grow H1 (upd G D (.lst acc)) := gg.trans gD
    have sw := wipe_sees (s1.grow g2) vs'
    refine ⟨_, _, _, e2, .refl _, sw, rx.grow g2, es2, fun σ2 s2 l2 k2 => ⟨?_, e2, s2, noX_wp eb fun H3 g3 => ?_⟩⟩
    · refine (wipe_eq (σ := wipe σ vs') l2 fun j hj => k2 j fun z => hj ?_).trans ?_
      · have := List.all_eq_true.mp hl j z
        simpa using this
      · refine List.ext_getElem? fun j => ?_
        rw [wipe_get, wipe_get, wipe_length]
        by_cases h : j ∈ vs'
        · simp [h]
        · simp [h]
    · have eD : H3 D = some (.lst acc) := g3 _ _ upd_same
      -- the heap without the new list
      let G3 : Hp := fun b => if b = D then none else H3 b
      have g3D : G3 D = none := if_pos rfl
      have gG : Grow G G3 := fun c o e => by
        have ne : c ≠ D := fun z => by rw [z, hG] at e; cases e
        show (if c = D then none else H3 c) = some o
        rw [if_neg ne]; exact g3 c o (by rw [upd_ne ne]; exact e)
      cases b with
      | false =>
        refine ⟨hlt, G3, acc, ys, rest, ?_, g3D, gg.trans gG, t1 _ _ th gG, ra.grow gG, by simpa using ecr, ez⟩
        funext c
        by_cases hc : c = D
        · subst hc; rw [upd_same]; exact eD
        · rw [upd_ne hc]; exact (if_neg hc).symm
      | true =>
        rw [if_pos rfl, Option.bind_eq_some_iff] at ecr
        obtain ⟨y, ey, ecr⟩ := ecr
        split at ecr
        case isFalse => cases ecr
        rename_i hy
        rw [Option.map_eq_some_iff] at ecr
        obtain ⟨rest', ecr, rfl⟩ := ecr
        refine ⟨e2, s2.grow g3, noX_wp ey fun H4 g4 v rv => ?_⟩
        have eD4 : H4 D = some (.lst acc) := g4 _ _ eD
        let G4 : Hp := fun b => if b = D then none else H4 b
        have g4D : G4 D = none := if_pos rfl
        have gG4 : Grow G G4 := fun c o e => by
          have ne : c ≠ D := fun z => by rw [z, hG] at e; cases e
          show (if c = D then none else H4 c) = some o
          rw [if_neg ne]; exact g4 c o (g3 c o (by rw [upd_ne ne]; exact e))
        have la := ra.length
        have hz' := of_decide_eq_true hz
        refine ⟨acc, eD4, ?_, hlt, G4, acc ++ [v], ys ++ [y], rest', ?_, g4D, gg.trans gG4, t1 _ _ th gG4, (ra.grow gG4).append (.cons ?_ .nil), ecr, by rw [ez, List.append_assoc]; rfl⟩
        · rw [la, sizeLine_eq]
          rw [ez, List.length_append, List.length_cons] at hz'
          omega
        · funext c
          by_cases hc : c = D
          · subst hc; rw [upd_same, upd_same]
          · rw [upd_ne hc, upd_ne hc]; exact (if_neg hc).symm
        · refine Rep.still (fun c us h => ?_) rv hy
          have ne : c ≠ D := fun z => by rw [z, eD4] at h; cases h
          exact (if_neg ne).trans h
  · have e : i = ps.length := by omega
    subst e
    rw [List.drop_length, compF] at ecr
    cases ecr
    rw [List.append_nil] at ez
    subst ez
    exact .inl ⟨stop _ _ thD (by rw [len]; exact Nat.le_refl _), q G gg acc D ra hG⟩⟩
/-- [e for t in it if c] -/
theorem sp_lc {scope : Scope} {own : List (Str × Nat)} (hc : X.calm = true) (hN : X.N.Nodup) (hi : SI X W tg a mi) (ok : BlkOk X.N X.env.scope scope own) (hl : (tgN t).all (fun j => (own.map (·.2)).contains j) = true)
    (hg : ∀ (s : Shared) (H : Hp) (C : Addr) (cl : List (Str × Addr)) (fp : List Addr), PGm (X.blk s H scope (compEnvC scope cl C X.env) fp) tg t) (ht : ∀ (s : Shared) (H : Hp) (C : Addr) (cl : List (Str × Addr)) (fp : List Addr), SPTs (X.blk s H scope (compEnvC scope cl C X.env) fp) W0 es mt)
    (he : ∀ (s : Shared) (H : Hp) (C : Addr) (cl : List (Str × Addr)) (fp : List Addr), SP (X.blk s H scope (compEnvC scope cl C X.env) fp) W0 e me) (hs : ∀ x, foldedSetIterable a X.env x = pure x := by intro _; rfl) :
    SPF X W (.ListComp e [⟨tg, a, es, 0⟩] scope pos) (mComp (own.map (·.2)) t mi mt me) :=
  PE.weak (pe_lc (g := tPG X.K X.mg t) (tt := tSPT X.K X.mg W0 mt) (te := tSP X.K X.mg W0 me) hc hN hi ok hg ht he hs) fun σ H Q => lc_read hl
end
end M

set_option Elab.async false
set_option linter.all false
set_option maxRecDepth 100000
set_option maxHeartbeats 4000000
/-! an own exception whose maker says super().__init__(text) and then lays its fields -/
namespace PySem
namespace MX
open PySem.W PySem.Calls PyProof.Rows PySem.HandSPX

/-- what a field is given: a written text, the i-th argument -/
inductive FV where
  | c (x : Str) | a (i : Nat)
/-- the statements self.f = .. -/
inductive Sets (ps : List Str) : List Stmt → List (Str × FV) → Prop
  | nil : Sets ps [] []
  | c {f x : Str} {j : Nat} {q1 q2 q3 q4 : Pos} {r : List Stmt} {l : List (Str × FV)} : Sets ps r l → Sets ps (.Assign [.Attribute (.Name "self" q1) f q2] (.Constant (.str x) j q3) q4 :: r) ((f, .c x) :: l)
  | a {f y : Str} {i : Nat} {q1 q2 q3 q4 : Pos} {r : List Stmt} {l : List (Str × FV)} : ps[i]? = some y → Sets ps r l → Sets ps (.Assign [.Attribute (.Name "self" q1) f q2] (.Name y q3) q4 :: r) ((f, .a i) :: l)
def FVal (us : List Value) : FV → Value → Prop
  | .c x, v => ∃ t, v = .str x t
  | .a i, v => us[i]? = some v
/-- what the text says to super().__init__ -/
inductive Said (ps : List Str) : Expr → Prop
  | c {x : Str} {j : Nat} {p : Pos} : Said ps (.Constant (.str x) j p)
  | a {y : Str} {i : Nat} {p : Pos} : ps[i]? = some y → Said ps (.Name y p)
/-- how super().__init__(e) is evaluated -/
def SupEq (qual : Str) (scope : Scope) (fI cda cc : Addr) (p0 p1 p2 p3 : Pos) (e : Expr) : Prop := ∃ pl : Sem Bool, ∀ L, eval (.Call (.Attribute (.Call (.Name "super" p0) [] [] p1) "__init__" p2) [e] [] p3) (ksEnv qual scope L fI (.ref cda) cc) = (do
  let ov ← attributeBase (.Call (.Name "super" p0) [] [] p1) "__init__" (ksEnv qual scope L fI (.ref cda) cc) (eval (.Call (.Name "super" p0) [] [] p1) (ksEnv qual scope L fI (.ref cda) cc))
  standAt p2.atName
  let (f, first) ← holding [ov] (getMethod ov "__init__" pl)
  callWith p3 f first (backTo p3 (starEach [e] (ksEnv qual scope L fI (.ref cda) cc))) [])
/-- what the written part says of the class at C, of its maker at fI, with these parameters and fields -/
structure ExcT (prog : Program) (K : Frag) (mg : Str → Option Value) (nm : Str) (C fI : Addr) (ps : List Str) (fs : List (Str × FV)) : Prop where
  gC : mg nm = some (.ref C)
  cls : ∃ nm q N bs bm sn sub ab col dd k0 k1 k2 k3 k5, K.lookup C = some (excClassObj nm q C N bs bm true sn sub ab col dd k0 k1 k2 k3 k5 "ValueError.__new__") ∧ refsVE bm = true
  sa : findIn K (.ref C) "__setattr__" = some (some (.builtin "object.__setattr__"))
  ga : findIn K (.ref C) "__getattribute__" = some (some (.builtin "BaseException.__getattribute__"))
  gg : findIn K (.ref C) "__getattr__" = some none
  noN : ∀ p ∈ fs, findIn K (.ref C) p.1 = some none
  iC : findIn K (.ref C) "__init__" = some (some (.ref fI))
  tC : typeIn K (.ref fI) = some (.type "function")
  kC : keepIn K (.ref C) = true
  exC : subIn K (.ref C) (.type "BaseException") = some true
  veC : subIn K (.ref C) (.type "ValueError") = some true
  suC : ks_superIn K C C "__init__" = some (some (.builtin "ValueError.__init__"))
  tp : nsIn K cStatics "thirdparty.any" = some none
  tyC : typeIn K (.ref C) = some (.type "type")
  hdC : hasDictIn K C = true
  sup : nsIn K mainGlobals "super" = some none
  top : (prog.main.scope.names.lookup ("super" : Str)).isSome = false
  few : fs.length ≤ 100
  fn : ∃ (oc doc pm ct : Value) (od an : Option Addr) (osl : Array (Option Value)) (qual : Str) (params : Arguments) (scope : Scope) (cc cda : Addr) (e : Expr) (r : List Stmt) (p0 p1 p2 p3 p4 : Pos) (a0 : Arg) (cl ccl : Value) (cld cdd : Option Addr) (csl ccs : Array (Option Value)) (vs : Array Value) (file : Str) (tf : Tok),
    K.lookup fI = some ⟨oc, od, .func (ksFn "__init__" qual params (.Expr (.Call (.Attribute (.Call (.Name "super" p0) [] [] p1) "__init__" p2) [e] [] p3) p4 :: r) scope .none .none doc pm an (.ref cda) ct cc), osl⟩ ∧
    codeIn K (.ref cda) qual = true ∧ Said ps e ∧ Sets ps r fs ∧ (params.posonlyargs ++ params.args).head? = some a0 ∧ a0.arg = "self" ∧
    K.lookup cc = some ⟨cl, cld, .cell (some (.ref C)), csl⟩ ∧ K.lookup cda = some ⟨ccl, cdd, .fields vs, ccs⟩ ∧ vs[2]? = some (.str file tf) ∧ ((prog.main.file : Str) == file) = true ∧
    (∀ s us, us.length = ps.length + 1 → BindsTo s (ksFn "__init__" qual params (.Expr (.Call (.Attribute (.Call (.Name "super" p0) [] [] p1) "__init__" p2) [e] [] p3) p4 :: r) scope .none .none doc pm an (.ref cda) ct cc) ⟨us, []⟩ ((("self" : Str) :: ps).zip us)) ∧
    scope.kind = .function ∧ scope.isCoroutine = false ∧ scope.isGenerator = false ∧ (∀ x ∈ scope.names, x.2 ≠ .cell) ∧ scope.names.lookup ("super" : Str) = some .globalImplicit ∧ scope.names.lookup ("__class__" : Str) = some .free ∧
    (∀ y ∈ (("self" : Str) :: ps), scope.names.lookup y = some .local ∧ (y == ("__debug__" : Str)) = false) ∧ (("self" : Str) :: ps).Nodup ∧ SupEq qual scope fI cda cc p0 p1 p2 p3 e

section
variable {prog : Program} {w : World} {A : Around} {E : Value → Shared → Prop} {h : Heap} {g : Array GenState} {d : Drawn} {t : Nat} {os : OsState} {K : Frag} {C x dx L : Addr} {env : Env} {m : Str → Option Value} {ps : List Str} {us : List Value}
/-- one value -/
theorem ev_val {M : Model} {Q : Value → Shared → Prop} {f : FV} {e : Expr} (hk : env.scope.kind = .function) (hL : env.locals = L) (hn : h.Ns L m) (hm : ∀ (i : Nat) y, ps[i]? = some y → ∃ v, us[i]? = some v ∧ m y = some v) (hl : ∀ y ∈ ps, env.kindOf y = some .local ∧ (y == ("__debug__" : Str)) = false)
    (he : (∃ x j q, f = .c x ∧ e = .Constant (.str x) j q) ∨ (∃ i y q, f = .a i ∧ ps[i]? = some y ∧ e = .Name y q)) (hq : ∀ v t', FVal us f v → Q v ⟨h, g, d, t', os⟩) : wpAny M A (eval e env) Q E ⟨h, g, d, t, os⟩ := by
  rcases he with ⟨x, j, q, rfl, rfl⟩ | ⟨i, y, q, rfl, hy, rfl⟩
  · exact Calls.Constant_str (hq _ _ ⟨_, rfl⟩)
  · obtain ⟨v, hv, mv⟩ := hm i y hy
    obtain ⟨h1, h2⟩ := hl y (List.mem_of_getElem? hy)
    exact wpAny_Name (wpAny_loadName_local hk h1 (by rw [hL]; exact hn) mv (hq v t hv)) h2
/-- the further fields -/
theorem sets_old {cd : ClassData} (hk : env.scope.kind = .function) (hL : env.locals = L) (hm : ∀ (i : Nat) y, ps[i]? = some y → ∃ v, us[i]? = some v ∧ m y = some v) (hl : ∀ y ∈ ps, env.kindOf y = some .local ∧ (y == ("__debug__" : Str)) = false) (hself : m "self" = some (.ref x)) (hls : env.kindOf "self" = some .local) {fv : Array Value}
    (hcd : clsIn K C = some cd) (hmr : refsVE cd.mro = true) (hh : cd.hasDict = true) (hsa : findIn K (.ref C) "__setattr__" = some (some (.builtin "object.__setattr__"))) (hKd : K.lookup dx = none) (hLd : L ≠ dx) (hxd : x ≠ dx) {Q : Flow → Shared → Prop} :
    ∀ {r : List Stmt} {fs : List (Str × FV)} {h : Heap} {t : Nat} {vals : List (Str × Value)}, Sets ps r fs → K.In h → h.Ns L m → (∀ p ∈ fs, findIn K (.ref C) p.1 = some none) → h.get? x = some { cls := .ref C, dict := some dx, data := .fields fv } → h.Ns1 dx (fun y => vals.lookup y) → vals.length + fs.length ≤ 1000 →
      (∀ h' t' vals', (∀ b o, b ≠ dx → h.get? b = some o → h'.get? b = some o) → (∃ new, vals' = new ++ vals ∧ Paired (fun (p : Str × FV) (q : Str × Value) => p.1 = q.1 ∧ FVal us p.2 q.2) fs.reverse new) → h'.Ns1 dx (fun y => vals'.lookup y) → Q .next ⟨h', g, d, t', os⟩) →
      wpAny (model prog w) A (execs r env) Q E ⟨h, g, d, t, os⟩ := by
  intro r
  induction r with
  | nil =>
    intro fs h t vals hs X hn ha hx hns hz hq
    cases hs
    exact wpAny_execs_nil (hq h t vals (fun _ _ _ e => e) ⟨[], rfl, .nil⟩ hns)
  | cons st r ih =>
    intro fs h t vals hs X hn ha hx hns hz hq
    have go : ∀ {f : Str} {fvv : FV} {l : List (Str × FV)} {q1 q2 q4 : Pos} {e : Expr}, fs = (f, fvv) :: l → st = .Assign [.Attribute (.Name "self" q1) f q2] e q4 → Sets ps r l → ((∃ x j q, fvv = .c x ∧ e = .Constant (.str x) j q) ∨ (∃ i y q, fvv = .a i ∧ ps[i]? = some y ∧ e = .Name y q)) →
        swapsWith e (some (.Attribute (.Name "self" q1) f q2)) q4.line env = pure false → wpAny (model prog w) A (execs (st :: r) env) Q E ⟨h, g, d, t, os⟩ := by
      intro f fvv l q1 q2 q4 e efs est hs2 he hsw
      subst efs; subst est
      refine wpAny_execs_cons (plainObj_wpAny_Assign_Attribute (ev_val hk hL hn hm hl he fun v t' hv => ?_) hsw)
      refine wpAny_Name (wpAny_loadName_local hk hls (by rw [hL]; exact hn) hself ?_) (by decide)
      have hw : Within (fun y => vals.lookup y) (vals.map (·.1)) := fun y hy => by
        have z : ∀ {l : List (Str × Value)}, l.lookup y ≠ none → y ∈ l.map (·.1) := by
          intro l
          induction l with
          | nil => intro h; simp at h
          | cons p l ih =>
            intro h
            by_cases e : y = p.1
            · exact e ▸ List.mem_cons_self
            · have e' : (y == p.1) = false := by simpa using e
              rw [List.lookup_cons, e'] at h
              exact List.mem_cons_of_mem _ (ih h)
        exact z hy
      obtain ⟨oD, _, _, hoD, _⟩ := hns.count hw
      refine set_plain X (ox := { cls := .ref C, dict := some dx, data := .fields fv }) (od := some oD) ⟨hx, rfl, rfl, hoD⟩ hsa ?_
      refine OEX.osa_old X hx hns hw (by rw [List.length_map]; omega) hcd hmr hh (ha (f, fvv) List.mem_cons_self) fun h' tk' kp hn' => ?_
      refine ih (vals := (f, v) :: vals) hs2 (fun a o ea => kp a o (fun z => by rw [z, hKd] at ea; cases ea) (X a o ea)) ?_ (fun p hp => ha p (List.mem_cons_of_mem _ hp)) (kp _ _ hxd hx) ?_ (by simp only [List.length_cons] at hz ⊢; omega) fun h2 t2 vals' k2 hv2 hn2 => ?_
      · obtain ⟨oL, es, ep, e1, e2⟩ := hn
        exact ⟨oL, es, ep, kp _ _ hLd e1, e2⟩
      · have ee : (fun y => if y = f then some v else vals.lookup y) = fun y => ((f, v) :: vals).lookup y := funext fun y => by
          by_cases ey : y = f
          · subst ey; simp
          · have ey' : (y == f) = false := by simpa using ey
            simp [List.lookup_cons, ey, ey']
        rw [← ee]; exact hn'
      · obtain ⟨new, rfl, pn⟩ := hv2
        refine hq h2 t2 _ (fun b o hb e => k2 b o hb (kp b o hb e)) ⟨new ++ [(f, v)], by simp, ?_⟩ hn2
        rw [List.reverse_cons]
        have ap : ∀ {a b : List (Str × FV)} {c e : List (Str × Value)} {R : Str × FV → Str × Value → Prop}, Paired R a c → Paired R b e → Paired R (a ++ b) (c ++ e) := by
          intro a b c e R p q
          induction p with
          | nil => exact q
          | cons h _ ih => exact .cons h ih
        exact ap pn (.cons ⟨rfl, hv⟩ .nil)
    cases hs with
    | c hs => exact go rfl rfl hs (.inl ⟨_, _, _, rfl, rfl⟩) rfl
    | a hy hs => exact go rfl rfl hs (.inr ⟨_, _, _, rfl, hy, rfl⟩) rfl
/-- what __init__ leaves of a fresh exception at x -/
structure Left (h h' : Heap) (x C dx t1 : Addr) (us : List Value) (fs : List (Str × FV)) : Prop where
  keep : ∀ b o, b ≠ x → h.get? b = some o → h'.get? b = some o
  obj : h'.get? x = some { cls := .ref C, dict := some dx, data := .fields #[.ref t1, .none, .none, .none, .bool false, .none] }
  dbig : h.objs.size ≤ dx
  dne : dx ≠ x
  ns : ∃ vals, h'.Ns1 dx (fun y => vals.lookup y) ∧ Paired (fun (p : Str × FV) (q : Str × Value) => p.1 = q.1 ∧ FVal us p.2 q.2) fs.reverse vals
theorem lk_mem {y : Str} {v : Value} : ∀ {l : List (Str × Value)}, (l.map (·.1)).Nodup → (y, v) ∈ l → l.lookup y = some v
  | [], _, h => by cases h
  | (k, u) :: l, hn, h => by
    rw [List.map_cons, List.nodup_cons] at hn
    rcases List.mem_cons.mp h with e | h
    · cases e; simp
    · have ne : y ≠ k := fun z => hn.1 (by rw [← z]; exact List.mem_map_of_mem (f := (·.1)) h)
      have ne' : (y == k) = false := by simpa using ne
      rw [List.lookup_cons, ne']
      exact lk_mem hn.2 h
theorem lk_zip {ks : List Str} {vs : List Value} (hn : ks.Nodup) (hl : ks.length = vs.length) {i : Nat} {y : Str} {v : Value} (h1 : ks[i]? = some y) (h2 : vs[i]? = some v) : (ks.zip vs).reverse.lookup y = some v := by
  refine lk_mem ?_ (List.mem_reverse.mpr ?_)
  · rw [List.map_reverse, List.map_fst_zip (by omega)]
    exact List.pairwise_reverse.mpr (hn.imp fun h => Ne.symm h)
  · have : (ks.zip vs)[i]? = some (y, v) := by rw [List.getElem?_zip_eq_some]; exact ⟨h1, h2⟩
    exact List.mem_of_getElem? this
theorem ne_nil_of {α : Type} {l : List α} (h : l ≠ []) : ∃ a r, l = a :: r := by
  cases l with
  | nil => exact absurd rfl h
  | cons a r => exact ⟨a, r, rfl⟩
theorem init_ok {s : Shared} {mg : Str → Option Value} {nm : Str} {fI t0 : Addr} {fs : List (Str × FV)} {R : Result → Shared → Prop} {mgG mb : Str → Option Value} (T : ExcT prog K mg nm C fI ps fs) (hne : fs ≠ []) (X : K.In s.heap) (hlim : s.heap.NoLimit) (hgl : s.heap.Ns mainGlobals mgG) (hblt : s.heap.Ns builtinsNs mb) (hbs : mb "super" = some (.type "super"))
    (hx : s.heap.get? x = some (excO C t0)) (hnx : K.lookup x = none) (hroom : A.depth < recursionLimit) (hus : us.length = ps.length)
    (hq : ∀ h' tk dx t1, Left s.heap h' x C dx t1 us fs → R (.ok (.ret .none)) { s with heap := h', toks := tk }) : codeAny (model prog w) A (.call (.ref fI) ⟨.ref x :: us, []⟩) R s := by
  obtain ⟨oc, doc, pm, ct, od, an, osl, qual, params, scope, cc, cda, e, r, p0, p1, p2, p3, p4, a0, cl, ccl, cld, cdd, csl, ccs, vs, file, tf, lk, hcd, said, sets, hp0, ha0, hcc, hco, hvs, hfile, hbind, k1, k2, k3, k4, k5, k6, k7, k8, k9⟩ := T.fn
  obtain ⟨nm', q, N, bs, bm, sn, sub, ab, col, dd, m0, m1, m2, m3, m5, hC, hbm⟩ := T.cls
  have hcl : clsIn K C = some { name := nm', bases := bs, mro := .ref C :: bm, ns := N, qualname := q, hasDict := true, slotNames := sn, subclasses := sub, abstract := ab, collection := col, hasDel := false } := by unfold clsIn; rw [hC] <;> rfl
  have hmr : refsVE (.ref C :: bm) = true := hbm
  obtain ⟨⟨f0, v0⟩, fr, rfl⟩ := ne_nil_of hne
  refine ks_codeAny_call_defAt (fd := ksFn "__init__" qual params _ scope .none .none doc pm an (.ref cda) ct cc) hroom (X _ _ lk) rfl hlim (codeRec_of X hcd) rfl (hbind s (.ref x :: us) (by simp [hus])) k4 (fun y hy => ?_) (fun h₀ hns kp => ?_) k2 k3 k1
  · exact (k7 y.1 (List.of_mem_zip hy).1).1
  have hL : (callEnv (ksFn "__init__" qual params (.Expr (.Call (.Attribute (.Call (.Name "super" p0) [] [] p1) "__init__" p2) [e] [] p3) p4 :: r) scope .none .none doc pm an (.ref cda) ct cc) s.heap.objs.size fI) = ksEnv qual scope s.heap.objs.size fI (.ref cda) cc := rfl
  rw [hL]
  have X0 : K.In h₀ := fun a o ea => kp a o (X a o ea)
  have x0 := kp _ _ hx
  have kind : ∀ y k, scope.names.lookup y = some k → (ksEnv qual scope s.heap.objs.size fI (.ref cda) cc).kindOf y = some k := fun y k hy => hy
  have bl : ∀ (i : Nat) (y : Str), ps[i]? = some y → ∃ v, us[i]? = some v ∧ ((("self" : Str) :: ps).zip (.ref x :: us)).reverse.lookup y = some v := fun i y hy => by
    have hlt := (List.getElem?_eq_some_iff.mp hy).1
    have hlu : i < us.length := by omega
    refine ⟨us[i], by simp [hlu], lk_zip k8 (by simp [hus]) (i := i + 1) (by simpa using hy) (by simp [hlu])⟩
  have bs' : ((("self" : Str) :: ps).zip (.ref x :: us)).reverse.lookup ("self" : Str) = some (.ref x) := lk_zip k8 (by simp [hus]) (i := 0) rfl rfl
  have lps : ∀ y ∈ ps, (ksEnv qual scope s.heap.objs.size fI (.ref cda) cc).kindOf y = some .local ∧ (y == ("__debug__" : Str)) = false := fun y hy => ⟨kind y _ (k7 y (List.mem_cons_of_mem _ hy)).1, (k7 y (List.mem_cons_of_mem _ hy)).2⟩
  have lself : (ksEnv qual scope s.heap.objs.size fI (.ref cda) cc).kindOf "self" = some .local := kind _ _ (k7 _ List.mem_cons_self).1
  have hCh : h₀.get? C = some (excClassObj nm' q C N bs bm true sn sub ab col dd m0 m1 m2 m3 m5 "ValueError.__new__") := X0 _ _ hC
  have xC : x ≠ C := fun z => by rw [z, hC] at hnx; cases hnx
  have G0 : h₀.Ns mainGlobals mgG := hgl.keeps kp
  have B0 : h₀.Ns builtinsNs mb := hblt.keeps kp
  have xL : x ≠ s.heap.objs.size := Nat.ne_of_lt (Heap.lt_size hx)
  obtain ⟨s0, g, d, tk, os⟩ := s
  obtain ⟨pl, hpl⟩ := k9
  -- super()
  refine ks_wpAt_execs_cons (ks_wpAt_Expr_any (ks_wpAt_MethodCall (pl := pl) (ks_wpAt_super_base (kind _ _ k5) (kind _ _ k6) (by decide) rfl (X0 _ _ lk) rfl hp0 rfl (X0 _ _ hco) rfl hvs hfile T.top ?_) ?_) ?_ ?_)
  · refine ks_loadName_global k1 (kind _ _ k5) (Calls.loadGlobal_builtin G0 (mg_none_of X0 G0 T.sup) B0 hbs ⟨rfl, ?_⟩)
    refine wpAny_loadName_free k1 (kind _ _ k6) rfl ⟨_, X0 _ _ hcc, rfl⟩ ?_
    rw [ha0]
    refine wpAny_loadName_local k1 lself hns bs' ?_
    refine ks_wpAny_isType_cls hCh rfl ⟨rfl, ?_⟩
    have hI0 : InstAt h₀ x (excO C t0) C none := ⟨x0, rfl, rfl, trivial⟩
    refine ks_wpAny_call_super hCh rfl x0 rfl (fun c z => by cases z) (looks_mroIn X0 (by unfold mroIn; rw [hcl, Option.bind_some, if_neg (by simp)]; simp)) fun h1 e1 kp1 => ?_
    -- .__init__
    have X1 : K.In h1 := fun a o ea => kp1 a o (X0 a o ea)
    have x1 := kp1 _ _ x0
    have hI1 : InstAt h1 x (excO C t0) C none := ⟨x1, rfl, rfl, trivial⟩
    have hI : Looks (model prog w) h1 (isInstance (.ref x) (.type "ValueError")) true := hI1.type.andThen (looks_subIn X1 T.veC)
    refine kxs_getMethod (i := "ValueError.__init__") kxs_ValueError e1 (looks_opaque X1 T.tp) (l₀ := .ref C :: bm) (fun A Q E s k q => wpAny_bind ((looks_clsIn X1 hcl) A _ E s k (wpAny_pure q))) rfl X1 ?_ hI xC (by decide) ?_
    · have := T.suC
      unfold ks_superIn at this
      rw [hcl] at this
      exact this
    · have hst : starEach [e] (ksEnv qual scope s0.objs.size fI (.ref cda) cc) = (false, eval e (ksEnv qual scope s0.objs.size fI (.ref cda) cc)) :: starEach [] (ksEnv qual scope s0.objs.size fI (.ref cda) cc) := by cases said <;> rfl
      have hns1 : (h1.push (kxs_mw "ValueError.__init__" x)).Ns s0.objs.size (fun y => ((("self" : Str) :: ps).zip (.ref x :: us)).reverse.lookup y) := by
        obtain ⟨oL, es, ep, q1, q2⟩ := hns
        exact ⟨oL, es, ep, Heap.get?_push_of_some _ (kp1 _ _ q1), q2⟩
      have kp2 : ∀ b o, s0.get? b = some o → (h1.push (kxs_mw "ValueError.__init__" x)).get? b = some o := fun b o z => Heap.get?_push_of_some _ (kp1 _ _ (kp _ _ z))
      have x2 : (h1.push (kxs_mw "ValueError.__init__" x)).get? x = some (excO C t0) := Heap.get?_push_of_some _ x1
      have X2 : K.In (h1.push (kxs_mw "ValueError.__init__" x)) := fun a o ea => kp2 a o (X a o ea)
      have u2 : (h1.push (kxs_mw "ValueError.__init__" x)).get? h1.objs.size = some (kxs_mw "ValueError.__init__" x) := Heap.get?_push_at rfl rfl
      generalize hh2 : h1.push (kxs_mw "ValueError.__init__" x) = h2 at hns1 kp2 x2 X2 u2 ⊢
      generalize hu : h1.objs.size = u at u2 ⊢
      show wpAny _ _ (callWith p3 (.ref u) [] (backTo p3 (starEach [e] _)) []) _ _ _
      have ev : ∀ {Q : Value → Shared → Prop} {E : Value → Shared → Prop} {t : Nat}, (∀ v t', Q v ⟨h2, g, d, t', os⟩) → wpAny (model prog w) (A.deeper (ksEnv qual scope s0.objs.size fI (.ref cda) cc)) (eval e (ksEnv qual scope s0.objs.size fI (.ref cda) cc)) Q E ⟨h2, g, d, t, os⟩ := by
        intro Q E t hq
        cases said with
        | c => exact ev_val (f := .c _) (ps := ps) (us := us) k1 rfl hns1 bl lps (.inl ⟨_, _, _, rfl, rfl⟩) fun v t' _ => hq v t'
        | a hy => exact ev_val (f := .a _) (ps := ps) (us := us) k1 rfl hns1 bl lps (.inr ⟨_, _, _, rfl, hy, rfl⟩) fun v t' _ => hq v t'
      rw [hst]
      refine kxs_callWith (i := "ValueError.__init__") (x := x) rfl (Calls.evalArgs_plain (Calls.spliced_cons (ev fun v t' => Calls.spliced_nil ⟨u2, ?_⟩)))
      -- the call of the bound built-in
      have FB := PySem.F.excBase_ValueError
      have hC2 : h2.get? C = some (excClassObj nm' q C N bs bm true sn sub ab col dd m0 m1 m2 m3 m5 "ValueError.__new__") := X2 _ _ hC
      refine wpAny_call (codeAny_of_tree ?_)
      show wpAny _ _ (callAny (.ref u) ⟨[v], []⟩) _ _ _
      unfold callAny
      refine wpAny_bind (wpAny_load u2 (KFB.if_so (by first | rfl | decide) ?_))
      refine wpAny_bind (check_bound_init FB.toExcCallFacts hC2 x2 rfl (wpAny_bind (wpAny_pure (wpAny_pure ⟨plainId_quiet FB.init.plain _, codeAny_builtin FB.initEntry ?_⟩))))
      refine exc_init_tree (cls := .ref C) (t0 := t0) (dv := none) (c2 := .none) (c3 := .none) (b4 := .bool false) x2 (by show 1 ≤ sizeLine; rw [sizeLine_eq]; omega) fun h3 kp3 x3 _ => ?_
      -- the fields
      refine wpAt_of_wpAny ?_
      have kp4 : ∀ b o, b ≠ x → s0.get? b = some o → h3.get? b = some o := fun b o hb z => kp3 b o hb (kp2 b o z)
      have X3 : K.In h3 := fun a o ea => kp4 a o (fun z => by rw [z, hnx] at ea; cases ea) (X a o ea)
      have hns3 : h3.Ns s0.objs.size (fun y => ((("self" : Str) :: ps).zip (.ref x :: us)).reverse.lookup y) := by
        obtain ⟨oL, es, ep, q1, q2⟩ := hns1
        exact ⟨oL, es, ep, kp3 _ _ (Ne.symm xL) q1, q2⟩
      have hset : wpAny (model prog w) (A.deeper (ksEnv qual scope s0.objs.size fI (.ref cda) cc)) (execs r (ksEnv qual scope s0.objs.size fI (.ref cda) cc)) (fun f s' => R (.ok (.ret (match f with | .ret v => v | _ => .none))) s')
          (fun e s' => wpAny (model prog w) (A.deeper (ksEnv qual scope s0.objs.size fI (.ref cda) cc)) (leaving (ksEnv qual scope s0.objs.size fI (.ref cda) cc) e) (fun _ s'' => R (.error e) s'') (fun e' s'' => R (.error e') s'') s') ⟨h3, g, d, t', os⟩ := by
        have first : ∀ {f : Str} {fvv : FV} {l : List (Str × FV)} {q1 q2 q4 : Pos} {e : Expr} {r' : List Stmt}, (f0, v0) :: fr = (f, fvv) :: l → r = .Assign [.Attribute (.Name "self" q1) f q2] e q4 :: r' → Sets ps r' l → ((∃ x j q, fvv = .c x ∧ e = .Constant (.str x) j q) ∨ (∃ i y q, fvv = .a i ∧ ps[i]? = some y ∧ e = .Name y q)) →
            swapsWith e (some (.Attribute (.Name "self" q1) f q2)) q4.line (ksEnv qual scope s0.objs.size fI (.ref cda) cc) = pure false → wpAny (model prog w) (A.deeper (ksEnv qual scope s0.objs.size fI (.ref cda) cc)) (execs r (ksEnv qual scope s0.objs.size fI (.ref cda) cc)) (fun f s' => R (.ok (.ret (match f with | .ret v => v | _ => .none))) s')
              (fun e s' => wpAny (model prog w) (A.deeper (ksEnv qual scope s0.objs.size fI (.ref cda) cc)) (leaving (ksEnv qual scope s0.objs.size fI (.ref cda) cc) e) (fun _ s'' => R (.error e) s'') (fun e' s'' => R (.error e') s'') s') ⟨h3, g, d, t', os⟩ := by
          intro f fvv l q1 q2 q4 e r' ef er hs he hsw
          cases ef
          subst er
          refine wpAny_execs_cons (plainObj_wpAny_Assign_Attribute (ev_val (ps := ps) (us := us) k1 rfl hns3 bl lps he fun v t4 hv => ?_) hsw)
          refine wpAny_Name (wpAny_loadName_local k1 lself hns3 bs' ?_) (by decide)
          refine set_plain X3 (ox := { cls := .ref C, data := .fields #[.ref h2.objs.size, .none, .none, .none, .bool false, .none] }) (od := none) ⟨x3, rfl, rfl, trivial⟩ T.sa ?_
          refine exc_osa X3 x3 hcl hmr rfl (T.noN (f0, v0) List.mem_cons_self) fun h5 t5 dx kp5 dbig dne x5 hn5 => ?_
          have d0 : s0.objs.size < dx := Nat.lt_of_lt_of_le hns3.lt dbig
          have dK : K.lookup dx = none := by
            cases e : K.lookup dx with
            | none => rfl
            | some o => exact absurd (Heap.lt_size (X3 _ _ e)) (Nat.not_lt.mpr dbig)
          have X5 : K.In h5 := fun a o ea => kp5 a o (fun z => by rw [z, hnx] at ea; cases ea) (X3 a o ea)
          have hns5 : h5.Ns s0.objs.size (fun y => ((("self" : Str) :: ps).zip (.ref x :: us)).reverse.lookup y) := by
            obtain ⟨oL, es, ep, q1, q2⟩ := hns3
            exact ⟨oL, es, ep, kp5 _ _ (Ne.symm xL) q1, q2⟩
          have hn5' : h5.Ns1 dx (fun y => [(f0, v)].lookup y) := by
            have ee : (fun y => if y = f0 then some v else none) = fun y => [(f0, v)].lookup y := funext fun y => by
              by_cases ey : y = f0
              · subst ey; simp
              · have ey' : (y == f0) = false := by simpa using ey
                simp [List.lookup_cons, ey, ey']
            rw [← ee]; exact hn5
          refine sets_old (ps := ps) (us := us) k1 rfl bl lps bs' lself hcl hmr rfl T.sa dK (Nat.ne_of_lt d0) (Ne.symm dne) hs X5 hns5 (fun p hp => T.noN p (List.mem_cons_of_mem _ hp)) x5 hn5' (by have := T.few; simp only [List.length_cons, List.length_nil] at this ⊢; omega) fun h6 t6 vals kp6 hv6 hn6 => ?_
          obtain ⟨new, rfl, pn⟩ := hv6
          have ap : ∀ {a b : List (Str × FV)} {c e : List (Str × Value)} {R : Str × FV → Str × Value → Prop}, Paired R a c → Paired R b e → Paired R (a ++ b) (c ++ e) := by
            intro a b c e R p q
            induction p with
            | nil => exact q
            | cons h _ ih => exact .cons h ih
          have old : ∀ b o, s0.get? b = some o → b ≠ dx := fun b o e => Nat.ne_of_lt (Nat.lt_trans (Heap.lt_size e) d0)
          exact hq h6 t6 dx h2.objs.size ⟨fun b o hb e => kp6 b o (old b o e) (kp5 b o hb (kp4 b o hb e)), kp6 _ _ (Ne.symm dne) x5, Nat.le_of_lt d0, dne, _, hn6, by rw [List.reverse_cons]; exact ap pn (.cons ⟨rfl, hv⟩ .nil)⟩
        cases sets with
        | c hs => exact first rfl rfl hs (.inl ⟨_, _, _, rfl, rfl⟩) rfl
        | a hy hs => exact first rfl rfl hs (.inr ⟨_, _, _, rfl, hy, rfl⟩) rfl
      exact hset
  · exact hpl _
  · show interactive _ = false
    simp [interactive, k1]
  · rfl
/-- such an exception made -/
structure MadeX (h h' : Heap) (e C d : Addr) (us : List Value) (fs : List (Str × FV)) : Prop where
  keep : ∀ b o, h.get? b = some o → h'.get? b = some o
  enew : h.objs.size ≤ e
  obj : ∃ oe vs, h'.get? e = some oe ∧ oe.cls = .ref C ∧ oe.dict = some d ∧ oe.data = .fields vs ∧ vs[1]? = some .none
  dbig : h.objs.size ≤ d
  dne : d ≠ e
  ns : ∃ vals, h'.Ns1 d (fun y => vals.lookup y) ∧ Paired (fun (p : Str × FV) (q : Str × Value) => p.1 = q.1 ∧ FVal us p.2 q.2) fs.reverse vals
theorem made_ok {s : Shared} {mg : Str → Option Value} {nm : Str} {fI : Addr} {fs : List (Str × FV)} {R : Result → Shared → Prop} {mgG mb : Str → Option Value} (T : ExcT prog K mg nm C fI ps fs) (hne : fs ≠ []) (X : K.In s.heap) (hlim : s.heap.NoLimit) (hgl : s.heap.Ns mainGlobals mgG) (hblt : s.heap.Ns builtinsNs mb) (hbs : mb "super" = some (.type "super"))
    (hroom : A.depth + 1 < recursionLimit) (hus : us.length = ps.length) (hz : us.length ≤ 1000) (hq : ∀ h' tk e d, MadeX s.heap h' e C d us fs → R (.ok (.ret (.ref e))) { s with heap := h', toks := tk }) : codeAny (model prog w) A (.call (.ref C) ⟨us, []⟩) R s := by
  obtain ⟨nm', q, N, bs, bm, sn, sub, ab, col, dd, m0, m1, m2, m3, m5, hC, hbm⟩ := T.cls
  obtain ⟨hp, g, dr, tk, os⟩ := s
  let h2 : Heap := (hp.push (kdv_tup us)).push (excO C hp.objs.size)
  have kp : ∀ b o, hp.get? b = some o → h2.get? b = some o := fun b o z => Heap.get?_push_of_some _ (Heap.get?_push_of_some _ z)
  have ge : h2.get? (hp.objs.size + 1) = some (excO C hp.objs.size) := by
    have := Heap.get?_push_size (h := hp.push (kdv_tup us)) (o := excO C hp.objs.size) rfl
    rw [Heap.size_push] at this
    exact this
  have nK : K.lookup (hp.objs.size + 1) = none := by
    cases z : K.lookup (hp.objs.size + 1) with
    | none => rfl
    | some o => exact absurd (Heap.lt_size (X _ _ z)) (Nat.not_lt.mpr (Nat.le_succ _))
  have line : us.length ≤ sizeLine := by rw [sizeLine_eq]; omega
  refine call_own PySem.F.excBase_ValueError (fun y => refsVE_contains y bm hbm) (X _ _ hC) (looks_findIn X T.iC) (fun self => bind_fn X self T.tC) line ?_
  refine init_ok (s := ⟨h2, g, dr, tk, os⟩) T hne (X.keeps kp) (hlim.keeps kp) (hgl.keeps kp) (hblt.keeps kp) hbs ge nK (show A.depth + 1 < recursionLimit from hroom) hus fun h' tk' dx t1 M => ?_
  have sz : h2.objs.size = hp.objs.size + 1 + 1 := by
    show ((hp.push (kdv_tup us)).push (excO C hp.objs.size)).objs.size = _
    rw [Heap.size_push, Heap.size_push]
  have big := M.dbig
  exact ⟨rfl, hq h' tk' (hp.objs.size + 1) dx ⟨fun b o z => M.keep b o (Nat.ne_of_lt (Nat.lt_succ_of_lt (Heap.lt_size z))) (kp b o z), Nat.le_succ _, ⟨_, _, M.obj, rfl, rfl, rfl, rfl⟩, by
    have b2 : h2.objs.size ≤ dx := big
    rw [sz] at b2; exact Nat.le_trans (Nat.le_trans (Nat.le_succ _) (Nat.le_succ _)) b2, M.dne, M.ns⟩⟩
end
end MX
end PySem

namespace M
open PySem PySem.Spec PyProof.Rows L2
/-! ### raise -/
def fvV (vs : List V) : PySem.MX.FV → V
  | .c x => .str x
  | .a i => vs.getD i .non
def fvs (vs : List V) (fs : List (Str × PySem.MX.FV)) : List (Str × V) := fs.reverse.map fun p => (p.1, fvV vs p.2)
def fvP (ps : List PV) : PySem.MX.FV → PV
  | .c x => .str x
  | .a i => ps.getD i .non
def fps (ps : List PV) (fs : List (Str × PySem.MX.FV)) : List (Str × PV) := fs.reverse.map fun p => (p.1, fvP ps p.2)
theorem fvs_rel {vs : List V} {us : List Value} (r : Vals vs us) : ∀ {l : List (Str × PySem.MX.FV)} {vals : List (Str × Value)}, Paired (fun (p : Str × PySem.MX.FV) (q : Str × Value) => p.1 = q.1 ∧ PySem.MX.FVal us p.2 q.2) l vals → ∀ f, RelO ((l.map fun p => (p.1, fvV vs p.2)).lookup f) (vals.lookup f)
  | _, _, .nil, f => trivial
  | (k, fv) :: l, (k', v) :: vals, .cons ⟨e, h⟩ t, f => by
    obtain rfl : k = k' := e
    rw [List.map_cons, List.lookup_cons, List.lookup_cons]
    cases hb : f == k with
    | true =>
      show RelV (fvV vs fv) v
      cases fv with
      | c x => exact h
      | a i =>
        have h' : us[i]? = some v := h
        cases e : vs[i]? with
        | none => rw [r.none_of e] at h'; cases h'
        | some z =>
          obtain ⟨u, hu, ru⟩ := r.get e
          rw [h'] at hu; cases hu
          show RelV (vs.getD i .non) v
          rw [List.getD_eq_getElem?_getD, e]
          exact ru
    | false => exact fvs_rel r t f
def tMkX (C : Addr) (n : Nat) (fs : List (Str × PySem.MX.FV)) (ta : TA) : L2.St → Hp → XK → Prop := fun σ H Q => ta σ H fun vs H1 => vs.length = n ∧ n ≤ 1000 ∧ ∀ d, H1 d = none → Q (.ref C) (some d) (upd H1 d (.xd (fvs vs fs)))
section
variable {X : Cx} {W : WX} {C fI : Addr} {nm x : Str} {ps : List Str} {fs : List (Str × PySem.MX.FV)} {es : List Expr} {e : Expr} {p pos p2 : Pos} {k : Nat}
/-- behind the arguments -/
theorem mk_x {pins : List (Addr × Obj)} {σ : L2.St} {H1 : Hp} {s1 : Shared} {Q : XK} {vs : List V} {us : List Value} (T : PySem.MX.ExcT X.prog X.K X.mg nm C fI ps fs) (hne : fs ≠ []) (hr : Room k X.A) (I1 : L2.Inv X pins σ H1 s1) (r1 : Vals vs us) (hn : vs.length = ps.length) (hz : ps.length ≤ 1000)
    (q : ∀ d, H1 d = none → Q (.ref C) (some d) (upd H1 d (.xd (fvs vs fs)))) : wpAny (model X.prog X.w) X.A (call (.ref C) us) (MkP X pins σ Q) X.xe s1 := by
  have hu : us.length = ps.length := by rw [← r1.length]; exact hn
  obtain ⟨mb, hb1, hb2⟩ := I1.mod.blt
  have room := hr.dp
  refine wpAny_call (PySem.MX.made_ok T hne I1.kIn I1.nolimit (I1.mod.glob.keeps I1.bk) (hb1.keeps I1.bk) ((hb2 _ (by decide)).trans rfl) (by omega) hu (by omega) fun h' tk' a d M => ?_)
  obtain ⟨oe, fv, hoe, hc, hd, hdat, h1⟩ := M.obj
  obtain ⟨vals, hns, pv⟩ := M.ns
  have sz := M.enew
  obtain ⟨hp, g, dr, tk, os⟩ := s1
  -- the heap without the exception
  obtain ⟨G, g1, g2⟩ := restrict h' fun b => decide (b ≠ a)
  have off : ∀ b, b ≠ a → G.get? b = h'.get? b := fun b hb => g1 b (decide_eq_true hb)
  have gone : G.get? a = none := g2 a (by simp)
  have keep : ∀ b o, hp.get? b = some o → G.get? b = some o := fun b o z => (off b (fun w => absurd (Heap.lt_size z) (Nat.not_lt.mpr (by rw [w]; exact sz)))).trans (M.keep b o z)
  have od : ObjOk X.prog X.w (upd H1 d (.xd (fvs vs fs))) G d (.xd (fvs vs fs)) := ⟨_, hns.at fun o z => (off d M.dne).trans z, fvs_rel r1 pv⟩
  have J : L2.Inv X pins σ (upd H1 d (.xd (fvs vs fs))) ⟨G, g, dr, tk', os⟩ := I1.laid (t' := tk') keep M.dbig od
  have fr : H1 d = none := I1.hok.fresh M.dbig
  refine ⟨a, oe, fv, ⟨G, g, dr, tk', os⟩, _, .ref C, some d, rfl, J, fun b o z => ?_, gone, hoe, ⟨hc, hd⟩, hdat, h1, ?_, rfl, I1.bare, raises_own T.exC T.tyC, q d fr⟩
  · have ne : b ≠ a := fun w => by
      have z' : G.get? b = some o := z
      rw [w, gone] at z'; cases z'
    exact (off b ne).symm.trans z
  · rw [upd_ne (Ne.symm M.dne)]
    exact I1.hok.fresh sz
theorem pmk_x {t : TA} (T : PySem.MX.ExcT X.prog X.K X.mg nm C fI ps fs) (hne : fs ≠ []) (hr : Room k X.A) (ha : PA X (e :: es) t) (hg : Gl X nm) (hdb : (nm == ("__debug__" : Str)) = false := by decide)
    (he : starEach (e :: es) X.env = (false, eval e X.env) :: starEach es X.env := by rfl) (hpl : (backTo pos (starEach es X.env)).any (·.1) = false := by rfl) : PMk X (.Call (.Name nm p) (e :: es) [] pos) (tMkX C ps.length fs t) := fun pins s σ H Q I h => by
  refine wpAny_Call_Name_kw (ld_glob I hg T.gC ?_ hdb)
  refine PySem.W.callWith_K (h₀ := X.base) I.ok.mod.kin T.kC (thn (ha.run pos pins s σ H _ I h) fun us s1 ⟨vs, H1, I1, r1, hn, hz, q⟩ => ⟨I1.kIn, mk_x T hne hr I1 r1 hn hz q⟩) he hpl
theorem pmk_x0 (T : PySem.MX.ExcT X.prog X.K X.mg nm C fI [] fs) (hne : fs ≠ []) (hr : Room k X.A) (hg : Gl X nm) (hdb : (nm == ("__debug__" : Str)) = false := by decide) : PMk X (.Call (.Name nm p) [] [] pos) (tMkX C 0 fs tNil) := fun pins s σ H Q I h => by
  obtain ⟨hn, hz, q⟩ := h
  refine wpAny_Call_Name_kw (ld_glob I hg T.gC ?_ hdb)
  exact PySem.W.callWith_K0 I.kIn T.kC (mk_x (us := []) T hne hr I .nil rfl (by decide) q)
def mRaise (nm : Str) (n : Nat) (fs : List (Str × PySem.MX.FV)) (m : MP (List PV)) : MS := fun env => match m env with
  | .stuck => .stuck
  | .exc x => .exc (x, env)
  | .ok ps => if ps.length = n ∧ n ≤ 1000 then .exc (⟨nm, fps ps fs⟩, env) else .stuck
theorem fvP_rep {K : PySem.W.Frag} {mg : Str → Option Value} {H : Hp} {vs : List V} {ps : List PV} (r : Reps K mg H vs ps) (c : PySem.MX.FV) : Rep K mg H (fvV vs c) (fvP ps c) := by
  cases c with
  | c x => exact .str x
  | a i =>
    show Rep K mg H (vs.getD i .non) (ps.getD i .non)
    rw [List.getD_eq_getElem?_getD, List.getD_eq_getElem?_getD]
    cases e : ps[i]? with
    | none =>
      have l : ps.length ≤ i := List.getElem?_eq_none_iff.mp e
      rw [List.getElem?_eq_none (by rw [r.length]; exact l)]
      exact .non
    | some q => obtain ⟨v, ev, rv⟩ := r.get e; rw [ev]; exact rv
theorem fps_rep {K : PySem.W.Frag} {mg : Str → Option Value} {H : Hp} {vs : List V} {ps : List PV} (r : Reps K mg H vs ps) (fs : List (Str × PySem.MX.FV)) : (fvs vs fs).map (·.1) = (fps ps fs).map (·.1) ∧ Reps K mg H ((fvs vs fs).map (·.2)) ((fps ps fs).map (·.2)) := by
  unfold fvs fps
  generalize fs.reverse = l
  rw [List.map_map, List.map_map, List.map_map, List.map_map]
  refine ⟨rfl, ?_⟩
  induction l with
  | nil => exact .nil
  | cons c l ih => exact .cons (fvP_rep r c.2) ih
theorem raise_wp {K : PySem.W.Frag} {mg : Str → Option Value} {σ σ0 : L2.St} {τ T F : Cnt} {H H1 : Hp} {env : LEnv} {ps : List PV} {vs : List V} (n : Now K mg H env σ σ0 τ T F) (g : Grow H H1) (r : Reps K mg H1 vs ps) (hC : mg nm = some (.ref C)) (w : ∀ σ', wpX W K mg σ' σ0 τ H F ⟨nm, fps ps fs⟩ env) (d : Addr) (hd : H1 d = none) : W (.ref C) (some d) σ (upd H1 d (.xd (fvs vs fs))) := by
  have g1 := Grow.upd (o := .xd (fvs vs fs)) hd
  obtain ⟨e1, e2⟩ := fps_rep (r.grow g1) fs
  exact w σ C d _ T F (n.grow (g.trans g1)) (.grow (g.trans g1) fun _ _ _ => Nat.le_refl _) ⟨hC, _, _, upd_same, e1, rfl, e2⟩
theorem ss_raise {m : MP (List PV)} (hc : X.calm = true) (tk : Takes X W) (T : PySem.MX.ExcT X.prog X.K X.mg nm C fI ps fs) (hne : fs ≠ []) (hr : Room k X.A) (ha : SPs X W (e :: es) m) (hg : Gl X nm := by rfl) (hdb : (nm == ("__debug__" : Str)) = false := by decide)
    (he : starEach (e :: es) X.env = (false, eval e X.env) :: starEach es X.env := by rfl) (hpl : (backTo pos (starEach es X.env)).any (·.1) = false := by rfl) : SS X W (.Raise (some (.Call (.Name nm p) (e :: es) [] pos)) none p2) (mRaise nm ps.length fs m) :=
  (ps_raise hc tk (pmk_x T hne hr ha hg hdb he hpl)).weak fun D σ H ⟨env, σ0, τ, T', F, n, w⟩ => ⟨env, n.sees, by
    unfold mRaise at w
    cases hm : m env with
    | stuck => rw [hm] at w; exact w
    | exc x => rw [hm] at w; exact fun C dd H' g c => w σ C dd H' T' F (n.grow g) (.grow g fun _ _ _ => Nat.le_refl _) c
    | ok qs =>
      rw [hm] at w
      dsimp only at w
      split at w
      · rename_i hl
        exact fun H1 g vs r => ⟨by rw [r.length]; exact hl.1, hl.2, raise_wp n g r T.gC w⟩
      · exact w.elim⟩
theorem ss_raise0 (hc : X.calm = true) (tk : Takes X W) (T : PySem.MX.ExcT X.prog X.K X.mg nm C fI [] fs) (hne : fs ≠ []) (hr : Room k X.A) (hg : Gl X nm := by rfl) (hdb : (nm == ("__debug__" : Str)) = false := by decide) : SS X W (.Raise (some (.Call (.Name nm p) [] [] pos)) none p2) (mRaise nm 0 fs mNil) :=
  (ps_raise hc tk (pmk_x0 T hne hr hg hdb)).weak fun D σ H ⟨env, σ0, τ, T', F, n, w⟩ => ⟨rfl, by omega, raise_wp n (.refl H) .nil T.gC (by
    unfold mRaise mNil at w
    dsimp only at w
    rw [if_pos (by decide)] at w
    exact w)⟩
end
end M

set_option Elab.async false
set_option linter.all false
set_option maxRecDepth 100000
set_option maxHeartbeats 4000000
namespace M
open PySem PySem.Spec PyProof.Rows L2

/-! ### try: body, clauses with and without a name -/
abbrev Su := Addr → Value → Option Addr → TS
/-- behind a named clause its slot is empty -/
def offN (i : Nat) (D : Ends) : Ends := { nx := fun σ H => D.nx (σ.set i none) H, rt := D.rt, bk := fun σ H => D.bk (σ.set i none) H, ct := fun σ H => D.ct (σ.set i none) H }
/-- one clause: the class that it names, what its suite does -/
inductive Clause (X : Cx) : ExceptHandler → Value → Su → Prop
  | bare {x : Str} {c : Value} {t : Su} {b₀ : Stmt} {su : List Stmt} {p q : Pos} : Names X x c → (∀ (a : Addr) (oe : Obj) (cls : Value) (d : Option Addr) (pn : List (Addr × Obj)), Zc cls d oe → (∃ v, oe.data = .fields v) → PSs (X.suite a ((a, oe) :: pn)) (b₀ :: su) (t a cls d)) →
      Clause X (.ExceptHandler (some (.Name x p)) none (b₀ :: su) q) c t
  | named {x n : Str} {i : Nat} {c : Value} {t : Su} {b₀ : Stmt} {su : List Stmt} {p q : Pos} : Names X x c → X.N.Nodup → X.N[i]? = some n → X.env.kindOf n = some .local → (∀ (a : Addr) (oe : Obj) (cls : Value) (d : Option Addr) (pn : List (Addr × Obj)), Zc cls d oe → (∃ v, oe.data = .fields v) → PSs (X.suite a ((a, oe) :: pn)) (b₀ :: su) (t a cls d)) →
      Clause X (.ExceptHandler (some (.Name x p)) (some n) (b₀ :: su) q) c (fun a cls d D σ H => t a cls d (offN i D) (σ.set i (some (.ref a))) H)
inductive Clauses (X : Cx) : List ExceptHandler → List (Value × Su) → Prop
  | nil : Clauses X [] []
  | cons {hd : ExceptHandler} {c : Value} {t : Su} {hds : List ExceptHandler} {l : List (Value × Su)} : Clause X hd c t → Clauses X hds l → Clauses X (hd :: hds) ((c, t) :: l)
/-- what they wish of an exception of the body -/
def wCl (K : PySem.W.Frag) (Wout : WX) (D : Ends) : List (Value × Su) → WX
  | [] => Wout
  | (c, t) :: r => fun cls d σ H => ∃ b, PySem.W.exmOne K cls c = some b ∧ (b = true → ∀ a, H a = none → t a cls d D σ H) ∧ (b = false → wCl K Wout D r cls d σ H)

section
variable {X : Cx} {Wout : WX}
/-- the exception has come to the clauses -/
structure Caught (X : Cx) (pins : List (Addr × Obj)) (σ : L2.St) (H : Hp) (cls : Value) (d : Option Addr) (a : Addr) (B : Heap) (sI s : Shared) : Prop where
  inv : L2.Inv X pins σ H sI
  nb : ∀ b o, sI.heap.get? b = some o → b ∉ frs X.stack → B.get? b = some o
  up : sI.heap.UpToSlots s.heap
  fl : HandSPX.FlyingZ B (X.env :: X.outer) a (Zc cls d) s.heap
  na : H a = none
  os : s.os = sI.os
  ag : AllBare s.gens
theorem frames_off {B h : Heap} {l : List PySem.Env} {a : Addr} {o : Obj} {v : Array Value} (ff : h.FunFrames B l) (e : h.get? a = some o) (hd : o.data = .fields v) : a ∉ frs l := fun hm => by
  obtain ⟨_, o2, e2, q⟩ := ff.mem hm
  rw [e] at e2
  cases e2
  exact q _ hd
theorem clauses_run (hs : X.stack = X.env :: X.outer) (hf : X.env.frame = some X.env.locals) (tk : Takes X Wout) (ok : X.Ok) {D : Ends} {pins : List (Addr × Obj)} {σ : L2.St} {H : Hp} {cls : Value} {d : Option Addr} {a : Addr} {B : Heap} {sI s : Shared}
    : ∀ {hds : List ExceptHandler} {l : List (Value × Su)}, Clauses X hds l → Caught X pins σ H cls d a B sI s → wCl X.K Wout D l cls d σ H →
    wpAny (model X.prog X.w) X.A (handleBy (.ref a) X.env hds) (L2.SP X pins D) X.xe s := by
  intro hds l hk
  induction hk with
  | nil =>
    intro C w
    refine wpAny_handleBy_nil ?_
    obtain ⟨_, _, _, oe, vs, T, oT, _, he, _, hd, h1, _⟩ := id C.fl
    unfold PySem.passOn
    refine wpAny_bind (wpAny_field he hd h1 ?_)
    have nn : ¬ ((Value.ref T == Value.none) = true) := by simp
    rw [if_neg nn]
    have out : wpAny (model X.prog X.w) X.A (setFlight (.ref a) X.env.frame) (fun _ s' => wpAny (model X.prog X.w) X.A (throw (.ref a) : Sem Flow) (L2.SP X pins D) X.xe s') X.xe s := by
      rw [hf]
      refine HandSPX.setFlight_upZ C.fl fun h' hh up => wpAny_throw (tk _ _ ⟨a, B, sI, pins, σ, H, cls, d, rfl, C.inv, C.nb, C.up.trans up, ?_, C.na, C.os, C.ag, w⟩)
      rw [hs]
      exact .inr (.inr hh)
    first
      | exact wpAny_bind (wpAny_pure (wpAny_bind out))
      | exact wpAny_bind out
  | @cons hd c t hds l hc _ ih =>
    intro C w
    obtain ⟨b, hb, yes, no⟩ := w
    have J : L2.Inv X pins σ H s := C.inv.landed C.nb C.fl.1 C.up C.os C.ag
    obtain ⟨oe, vs, he, hz, hdat⟩ := C.fl.there
    have off := frames_off C.fl.2.2.1 he hdat
    have nL : a ≠ X.env.locals := fun z => off (List.mem_filterMap.mpr ⟨X.env, List.mem_cons_self, by rw [hf, z]⟩)
    have nF : a ∉ X.fs := fun hm => by
      obtain ⟨e, q1, q2⟩ := List.mem_filterMap.mp hm
      exact off (List.mem_filterMap.mpr ⟨e, List.mem_cons_of_mem _ q1, q2⟩)
    have S := J.suite he hdat C.na nL nF
    have LT : PySem.W.Looks (model X.prog X.w) s.heap (typeOf (.ref a)) cls := fun A Q E s' k q => wpAny_typeOf_ref (k _ _ he) (by rw [hz.1]; exact q)
    have LM := PySem.W.exm_one (M := model X.prog X.w) J.kIn LT hb
    have test : ∀ {x : Str} {np : Pos} {Q E : Value → Shared → Prop}, Names X x c → Q c s → wpAny (model X.prog X.w) (X.A.mark (some (.ref a))) (eval (.Name x np) X.env) Q E s := fun {x np Q E} hn q => by
      obtain ⟨hg, hdb, hm | ⟨hm, hv, hnn⟩⟩ := hn
      · exact ld_glob (X := X.suite a ((a, oe) :: (X.pn ++ pins))) S hg hm q hdb
      · exact ld_blt (X := X.suite a ((a, oe) :: (X.pn ++ pins))) S hg hm hv q hnn hdb
    -- the suite's context, once it is entered
    have enter : ∀ {h4 : Heap}, HandSPX.FlyingZ B (X.env :: X.outer) a (Zc cls d) h4 → s.heap.UpToSlots h4 → ∃ oe4, Zc cls d oe4 ∧ (∃ v, oe4.data = .fields v) ∧ L2.Inv (X.suite a ((a, oe4) :: (X.pn ++ pins))) [] σ H { s with heap := h4 } := fun {h4} fl4 up4 => by
      obtain ⟨oe4, vs4, he4, hz4, hd4⟩ := fl4.there
      have J4 : L2.Inv X pins σ H { s with heap := h4 } := C.inv.landed C.nb fl4.1 (C.up.trans up4) C.os C.ag
      exact ⟨oe4, hz4, ⟨_, hd4⟩, J4.suite he4 hd4 C.na nL nF⟩
    cases hc with
    | bare hn hsu =>
      refine wpAny_handleBy_cons (codeAny_handlers_test ?_) (by intro q; cases q)
      refine test hn (LM.here ?_)
      cases b with
      | false => exact ih C (no rfl)
      | true =>
        refine codeAny_handlers_suite (HandSPX.lands_againZ C.fl fun h4 fl4 up4 => ?_)
        obtain ⟨oe4, hz4, hd4, S4⟩ := enter fl4 up4
        refine wpAny_mono ((hsu a oe4 cls d (X.pn ++ pins) hz4 hd4).run [] _ _ H _ S4 (yes rfl a C.na)) (fun f s6 q => ?_) (fun _ _ z => z.elim)
        cases f with
        | next => obtain ⟨_, _, S6, q6⟩ := q; exact ⟨_, _, S6.unsuite ok, q6⟩
        | brk => obtain ⟨_, _, S6, q6⟩ := q; exact ⟨_, _, S6.unsuite ok, q6⟩
        | cont => obtain ⟨_, _, S6, q6⟩ := q; exact ⟨_, _, S6.unsuite ok, q6⟩
        | ret u => obtain ⟨_, _, _, S6, r6, q6⟩ := q; exact ⟨_, _, _, S6.unsuite ok, r6, q6⟩
    | @named x n i _ t b₀ su np qp hn hN hi hln hsu =>
      refine wpAny_handleBy_cons (codeAny_handlers_test ?_) (by intro q; cases q)
      refine test hn (LM.here ?_)
      cases b with
      | false => exact ih C (no rfl)
      | true =>
        refine codeAny_handlers_suite_as (HandSPX.lands_againZ C.fl fun h4 fl4 up4 => ?_)
        obtain ⟨oe4, hz4, hd4, S4⟩ := enter fl4 up4
        refine store_ok (X := X.suite a ((a, oe4) :: (X.pn ++ pins))) (v := .ref a) S4 hN hi (.inl hln) rfl (fun s5 S5 => ?_) (.inr hln)
        refine wpAny_mono ((hsu a oe4 cls d (X.pn ++ pins) hz4 hd4).run [] s5 _ H _ S5 (yes rfl a C.na)) (fun f s6 q => ?_) (fun _ _ z => z.elim)
        have clear : ∀ {σ6 : L2.St} {H6 : Hp} {Q : Shared → Prop}, L2.Inv (X.suite a ((a, oe4) :: (X.pn ++ pins))) [] σ6 H6 s6 → (∀ s7, L2.Inv X pins (σ6.set i none) H6 s7 → Q s7) →
            wpAny (model X.prog X.w) X.A (do bindName X.env n .none; unbindBehindTheSuite X.env n qp) (fun _ s7 => Q s7) X.xe s6 := fun {_ _ _} S6 k => gone_ok (S6.unsuite ok) hN hi hln k
        cases f with
        | next => obtain ⟨_, _, S6, q6⟩ := q; exact clear S6 fun s7 J7 => ⟨_, _, J7, q6⟩
        | brk => obtain ⟨_, _, S6, q6⟩ := q; exact clear S6 fun s7 J7 => ⟨_, _, J7, q6⟩
        | cont => obtain ⟨_, _, S6, q6⟩ := q; exact clear S6 fun s7 J7 => ⟨_, _, J7, q6⟩
        | ret u => obtain ⟨_, _, _, S6, r6, q6⟩ := q; exact clear S6 fun s7 J7 => ⟨_, _, _, J7, r6, q6⟩
theorem ps_try_cl {body : List Stmt} {h₀ : ExceptHandler} {hds : List ExceptHandler} {l : List (Value × Su)} {pos : Pos} {tb : WX → TS} (hs : X.stack = X.env :: X.outer) (hf : X.env.frame = some X.env.locals) (tk : Takes X Wout)
    (hb : ∀ (W : WX) (pn : List (Addr × Obj)) (xe : Value → Shared → Prop), Takes (X.tr pn xe) W → PassesOwn (model X.prog X.w) X.A X.env xe → PSs (X.tr pn xe) body (tb W)) (hh : Clauses X (h₀ :: hds) l) :
    PS X (.Try body (h₀ :: hds) [] [] pos) (fun D σ H => tb (wCl X.K Wout D l) D σ H) := ⟨fun pins s σ H D I h => by
  have ok := I.ok
  have hfr : X.A.frames = some (X.env :: X.outer) := by rw [ok.frames, hs]
  refine wpAny_Try_except (wpAny_mono ((hb (wCl X.K Wout D l) (X.pn ++ pins) _ (fun u s' xx => ?_) PassesOwn.looking).run [] s σ H D (I.toTry _) h) (fun f s1 q => ?_) fun e s1 z => z)
  · obtain ⟨a, B, sI, pins', σ', H', cls, d, rfl, J, nb, up, sky, na, os, ag, w⟩ := xx
    have sky' : Sky B (X.env :: X.outer) a (Zc cls d) X.env.locals s'.heap := by rw [← hs]; exact sky
    refine Sky.land Zc.steady hfr hf sky' fun h3 fl3 up3 => ?_
    exact clauses_run (s := { s' with heap := h3 }) hs hf tk ok hh ⟨J.ofTry ok, nb, up.trans up3, fl3, na, os, ag⟩ w
  · cases f with
    | next => obtain ⟨_, _, J, q⟩ := q; exact wpAny_execs_nil ⟨_, _, J.ofTry ok, q⟩
    | brk => obtain ⟨_, _, J, q⟩ := q; exact ⟨_, _, J.ofTry ok, q⟩
    | cont => obtain ⟨_, _, J, q⟩ := q; exact ⟨_, _, J.ofTry ok, q⟩
    | ret u => obtain ⟨_, _, _, J, r, q⟩ := q; exact ⟨_, _, _, J.ofTry ok, r, q⟩⟩

/-! ### the clauses as plain functions -/
/-- what is known of a class, so that a field of its exceptions can be read -/
structure FldOk (K : PySem.W.Frag) (C : Addr) (f : Str) : Prop where
  ga : PySem.W.findIn K (.ref C) "__getattribute__" = some (some (.builtin "BaseException.__getattribute__"))
  gg : PySem.W.findIn K (.ref C) "__getattr__" = some none
  noN : PySem.W.findIn K (.ref C) f = some none
  exC : PySem.W.subIn K (.ref C) (.type "BaseException") = some true
  hdC : PySem.W.hasDictIn K C = true
/-- the exception's field -/
def tExf (K : PySem.W.Frag) (i : Nat) (a : Addr) (cls : Value) (d : Option Addr) (f : Str) : TE := fun σ H Q => σ[i]? = some (some (.ref a)) ∧ ∃ (C dd : Addr) (fv : List (Str × V)) (v : V), cls = .ref C ∧ d = some dd ∧ H dd = some (.xd fv) ∧ fv.lookup f = some v ∧ FldOk K C f ∧ Q v H
theorem pe_exf {i : Nat} {a : Addr} {oe : Obj} {cls : Value} {d : Option Addr} {pn : List (Addr × Obj)} {n f : Str} {p pos : Pos} (hz : Zc cls d oe) (hdat : ∃ v, oe.data = .fields v) (hv : PE (X.suite a ((a, oe) :: pn)) (.Name n p) (tVar i))
    (hb : attributeBase (.Name n p) f X.env (eval (.Name n p) X.env) = eval (.Name n p) X.env := by rfl) : PE (X.suite a ((a, oe) :: pn)) (.Attribute (.Name n p) f pos) (tExf X.K i a cls d f) := ⟨fun pins s σ H Q I h => by
  obtain ⟨hi, C, dd, fv, v, rfl, rfl, hd, hl, T, q⟩ := h
  refine attr_of hb (thn (hv.run pins s σ H (fun x H1 => x = .ref a ∧ H1 = H) I ⟨_, hi, rfl, rfl⟩) fun u s1 hh => ?_)
  obtain ⟨x, H1, I1, rx, rfl, rfl⟩ := hh
  obtain rfl : u = Value.ref a := rx
  obtain ⟨ha, _⟩ := I1.pin (a, oe) (List.mem_append_left _ List.mem_cons_self)
  obtain ⟨vs, hdt⟩ := hdat
  obtain ⟨mA, hns, hr⟩ : ObjOk X.prog X.w H1 s1.heap dd (.xd fv) := I1.hok dd _ hd
  obtain ⟨od, ho, hlk⟩ := lookIn_ns hns
  obtain ⟨u, hu, ru⟩ := RelO.some_of (v := v) (o := mA f) (by rw [← hl]; exact hr f)
  have J : PySem.W.InstAt s1.heap a oe C (some od) := ⟨ha, hz.1, by unfold PySem.W.notCls; rw [hdt] <;> rfl, by rw [hz.2]; exact ho⟩
  exact HandSPX.exc_get I1.kIn J T.ga T.gg T.exC (PySem.W.findObj_own T.hdC T.noN rfl (by rw [hlk, hu])) (handed_of ru) ⟨v, H1, I1.tok _, ru, q⟩⟩

def tXE (K : PySem.W.Frag) (mg : Str → Option Value) (i : Nat) (a : Addr) (cls : Value) (d : Option Addr) (m : Xn → MP PV) : TE := fun σ H Q => ∃ env xn C dd, Sees K mg H env σ ∧ σ[i]? = some (some (.ref a)) ∧ cls = .ref C ∧ d = some dd ∧ XcAt K mg H xn C dd ∧
  wpP W0 K mg σ H (m xn env) fun p H' => ∀ x, Rep K mg H' x p → Q x H'
def tXEs (K : PySem.W.Frag) (mg : Str → Option Value) (i : Nat) (a : Addr) (cls : Value) (d : Option Addr) (m : Xn → MP (List PV)) : TA := fun σ H Q => ∃ env xn C dd, Sees K mg H env σ ∧ σ[i]? = some (some (.ref a)) ∧ cls = .ref C ∧ d = some dd ∧ XcAt K mg H xn C dd ∧
  wpP W0 K mg σ H (m xn env) fun p H' => ∀ x, Reps K mg H' x p → Q x H'
/-- an expression of a named clause's suite -/
def SX (X : Cx) (i : Nat) (e : Expr) (m : Xn → MP PV) : Prop := ∀ (a : Addr) (oe : Obj) (cls : Value) (d : Option Addr) (pn : List (Addr × Obj)), Zc cls d oe → (∃ v, oe.data = .fields v) → PE (X.suite a ((a, oe) :: pn)) e (tXE X.K X.mg i a cls d m)
def SXs (X : Cx) (i : Nat) (e : List Expr) (m : Xn → MP (List PV)) : Prop := ∀ (a : Addr) (oe : Obj) (cls : Value) (d : Option Addr) (pn : List (Addr × Obj)), Zc cls d oe → (∃ v, oe.data = .fields v) → PA (X.suite a ((a, oe) :: pn)) e (tXEs X.K X.mg i a cls d m)
def mExf (nms : List Str) (f : Str) : Xn → MP PV := fun x _ => if x.nm ∈ nms then ofO (x.fl.lookup f) else .stuck
def FldAll (K : PySem.W.Frag) (mg : Str → Option Value) (nms : List Str) (f : Str) : Prop := ∀ nm ∈ nms, ∀ C, mg nm = some (.ref C) → FldOk K C f
section
variable {e : Expr} {es : List Expr} {i : Nat} {m : MP PV} {mx : Xn → MP PV} {ms : Xn → MP (List PV)} {pos : Pos}
theorem sx_of (h : ∀ (a : Addr) (oe : Obj) (pn : List (Addr × Obj)), SP (X.suite a ((a, oe) :: pn)) W0 e m) : SX X i e (fun _ => m) := fun a oe cls d pn hz hd => (h a oe pn).weak fun σ H Q ⟨env, xn, C, dd, s, _, _, _, _, w⟩ => ⟨env, s, w⟩
theorem lookup_reps {K : PySem.W.Frag} {mg : Str → Option Value} {H : Hp} {f : Str} {p : PV} : ∀ {fv : List (Str × V)} {fl : List (Str × PV)}, fv.map (·.1) = fl.map (·.1) → Reps K mg H (fv.map (·.2)) (fl.map (·.2)) → fl.lookup f = some p → ∃ v, fv.lookup f = some v ∧ Rep K mg H v p
  | [], [], _, _, e => by simp at e
  | (k, v) :: fv, (k', q) :: fl, e1, r, e => by
    rw [List.map_cons, List.map_cons] at e1
    obtain ⟨ek, e2⟩ := List.cons.inj e1
    obtain rfl : k = k' := ek
    rw [List.map_cons, List.map_cons] at r
    cases r with
    | cons r1 r2 =>
      rw [List.lookup_cons] at e ⊢
      cases hb : f == k with
      | true => rw [hb] at e; cases e; exact ⟨v, rfl, r1⟩
      | false => rw [hb] at e; exact lookup_reps e2 r2 e
  | [], _ :: _, e1, _, _ => by simp at e1
  | _ :: _, [], e1, _, _ => by simp at e1
theorem sx_fld {n f : Str} {p : Pos} (hv : ∀ (a : Addr) (oe : Obj) (pn : List (Addr × Obj)), PE (X.suite a ((a, oe) :: pn)) (.Name n p) (tVar i)) {nms : List Str} (hT : FldAll X.K X.mg nms f)
    (hb : attributeBase (.Name n p) f X.env (eval (.Name n p) X.env) = eval (.Name n p) X.env := by rfl) : SX X i (.Attribute (.Name n p) f pos) (mExf nms f) := fun a oe cls d pn hz hd => (pe_exf hz hd (hv a oe pn) hb).weak fun σ H Q ⟨env, xn, C, dd, s, hi, ec, ed, hx, w⟩ => by
  unfold mExf at w
  split at w
  case isFalse => exact w.elim
  rename_i hin
  obtain ⟨p, ep, q⟩ := wpP_ofO w
  obtain ⟨hC, fv, vs, h1, h2, h3, h4⟩ := hx
  subst h3
  obtain ⟨v, ev, rv⟩ := lookup_reps h2 h4 ep
  exact ⟨hi, C, dd, fv, v, ec, ed, h1, ev, hT _ hin C hC, q H (.refl H) v rv⟩
theorem sxs_nil : SXs X i [] (fun _ => mNil) := fun a oe cls d pn hz hd => pa_nil.weak fun σ H Q ⟨env, xn, C, dd, s, hi, ec, ed, hx, w⟩ => w H (.refl H) [] .nil
theorem sxs_cons (ha : SX X i e mx) (hr : SXs X i es ms) (hs : starEach (e :: es) X.env = (false, eval e X.env) :: starEach es X.env := by rfl) : SXs X i (e :: es) (fun x => mCons (mx x) (ms x)) := fun a oe cls d pn hz hd =>
  (pa_cons (ha a oe cls d pn hz hd) (hr a oe cls d pn hz hd) hs).weak fun σ H Q ⟨env, xn, C, dd, s, hi, ec, ed, hx, w⟩ => ⟨env, xn, C, dd, s, hi, ec, ed, hx, wpP_mono (wpP_bind w) fun p H1 g w1 v rv =>
    ⟨env, xn, C, dd, s.grow g, hi, ec, ed, hx.grow g, wpP_mono (wpP_bind w1) fun ps H2 g2 w2 vs rvs => w2 H2 (.refl _) (v :: vs) (.cons (rv.grow g2) rvs)⟩⟩
theorem sx_tup {x1} (h : SXs X i es ms) : SX X i (.Tuple es x1 pos) (fun x => mTup (ms x)) := fun a oe cls d pn hz hd => (pe_tup (h a oe cls d pn hz hd)).weak fun σ H Q ⟨env, xn, C, dd, s, hi, ec, ed, hx, w⟩ =>
  ⟨env, xn, C, dd, s, hi, ec, ed, hx, wpP_mono (wpP_bind w) fun ps H1 g w1 vs rv => by
    split at w1
    · rename_i hz
      exact ⟨by rw [rv.length]; exact sizeOk_le hz, fun q hq => w1 _ (Grow.upd hq) _ (.tup upd_same (rv.grow (Grow.upd hq)))⟩
    · exact w1.elim⟩
end

abbrev Cl := (Str → Option Bool) × (Xn → MS)
def noXS (r : RF) : RF := match r with
  | .exc _ => .stuck
  | z => z
def handle : List Cl → Xn → MS
  | [], x => fun env => .exc (x, env)
  | (m, su) :: r, x => fun env => match m x.nm with
    | none => .stuck
    | some true => noXS (su x env)
    | some false => handle r x env
def tryR (r : RF) (cl : List Cl) : RF := match r with
  | .exc (x, e) => handle cl x e
  | z => z
def mTry (b : MS) (cl : List Cl) : MS := fun env => tryR (b env) cl
def mRetX (i : Nat) (m : Xn → MP PV) : Xn → MS := fun x env => match m x env with
  | .ok p => if hgt p = 0 then .ok (.rt 8 p env) else .stuck
  | _ => .stuck
/-- one clause: the class's value; which raised classes it names; its suite -/
structure SCl (X : Cx) (hd : ExceptHandler) (c : Value) (cl : Cl) (t : Su) : Prop where
  cls : Clause X hd c t
  mt : ∀ (nm : Str) (C : Addr) (b : Bool), X.mg nm = some (.ref C) → cl.1 nm = some b → PySem.W.exmOne X.K (.ref C) c = some b
  su : ∀ D σ H a xn C dd env σ0 τ T F, XcAt X.K X.mg H xn C dd → Now X.K X.mg H env σ σ0 τ T F → H a = none → wpS W0 X.K X.mg σ0 τ H F (noXS (cl.2 xn env)) D → t a (.ref C) (some dd) D σ H
inductive SCls (X : Cx) : List ExceptHandler → List Cl → List (Value × Su) → Prop
  | nil : SCls X [] [] []
  | cons {hd : ExceptHandler} {c : Value} {t : Su} {cl : Cl} {hds : List ExceptHandler} {cls : List Cl} {l : List (Value × Su)} : SCl X hd c cl t → SCls X hds cls l → SCls X (hd :: hds) (cl :: cls) ((c, t) :: l)
theorem SCls.clauses {hds : List ExceptHandler} {cls : List Cl} {l : List (Value × Su)} (h : SCls X hds cls l) : Clauses X hds l := by
  induction h with
  | nil => exact .nil
  | cons a _ ih => exact .cons a.cls ih
theorem noXS_wp {K : PySem.W.Frag} {mg : Str → Option Value} {W : WX} {σ0 : L2.St} {τ F : Cnt} {H : Hp} {r : RF} {D : Ends} (h : wpS W K mg σ0 τ H F (noXS r) D) : wpS W0 K mg σ0 τ H F (noXS r) D := by
  cases r with
  | stuck => exact h
  | exc x => exact h
  | ok a => cases a <;> exact h
theorem handle_wp {σ0 : L2.St} {τ F : Cnt} {H : Hp} {D : Ends} {xn : Xn} {env : LEnv} {hds : List ExceptHandler} {cls : List Cl} {l : List (Value × Su)} (h : SCls X hds cls l) : (∀ σ', wpS Wout X.K X.mg σ0 τ H F (handle cls xn env) D → wpX (wCl X.K Wout D l) X.K X.mg σ' σ0 τ H F xn env) := by
  induction h with
  | nil => exact fun σ' w => w σ'
  | @cons hd c t cl hds cls l a _ ih =>
    intro σ' w C dd H' T' F' n fr hx
    obtain ⟨m, su⟩ := cl
    simp only [handle] at w
    cases hm : m xn.nm with
    | none => rw [hm] at w; exact w.elim
    | some b =>
      rw [hm] at w
      refine ⟨b, a.mt xn.nm C b hx.1 hm, fun e a' na => ?_, fun e => ?_⟩
      · subst e
        exact a.su D σ' H' a' xn C dd env σ0 τ T' F' hx n na (noXS_wp (wpS_frm w fr))
      · subst e
        exact ih σ' w C dd H' T' F' n fr hx
theorem ss_try {body : List Stmt} {h₀ : ExceptHandler} {hds : List ExceptHandler} {cls : List Cl} {l : List (Value × Su)} {pos : Pos} {b : MS} (hs : X.stack = X.env :: X.outer) (hf : X.env.frame = some X.env.locals) (tk : Takes X Wout)
    (hb : ∀ (W : WX) (pn : List (Addr × Obj)) (xe : Value → Shared → Prop), Takes (X.tr pn xe) W → PassesOwn (model X.prog X.w) X.A X.env xe → SSs (X.tr pn xe) W body b) (hh : SCls X (h₀ :: hds) cls l) : SS X Wout (.Try body (h₀ :: hds) [] [] pos) (mTry b cls) :=
  (ps_try_cl (tb := fun W => tSS X.K X.mg W b) hs hf tk hb hh.clauses).weak fun D σ H ⟨env, σ0, τ, T, F, n, w⟩ => ⟨env, σ0, τ, T, F, n, by
    unfold mTry at w
    generalize b env = r at w ⊢
    cases r with
    | stuck => exact w
    | ok a => cases a <;> exact w
    | exc x =>
      obtain ⟨x, e⟩ := x
      exact fun σ' => handle_wp hh σ' w⟩
/-- a clause without a name -/
theorem scl_bare {x : Str} {c : Value} {b₀ : Stmt} {su : List Stmt} {p q : Pos} {m : Str → Option Bool} {ms : MS} (hn : Names X x c) (hm : ∀ (nm : Str) (C : Addr) (b : Bool), X.mg nm = some (.ref C) → m nm = some b → PySem.W.exmOne X.K (.ref C) c = some b)
    (hs : ∀ (a : Addr) (oe : Obj) (pn : List (Addr × Obj)), SSs (X.suite a ((a, oe) :: pn)) W0 (b₀ :: su) ms) : SCl X (.ExceptHandler (some (.Name x p)) none (b₀ :: su) q) c (m, fun _ => ms) (fun _ _ _ => tSS X.K X.mg W0 ms) :=
  ⟨.bare hn fun a oe cls d pn _ _ => hs a oe pn, hm, fun D σ H a xn C dd env σ0 τ T F _ n _ w => ⟨env, σ0, τ, T, F, n, by
    have w' : wpS W0 X.K X.mg σ0 τ H F (noXS (ms env)) D := w
    generalize ms env = r at w' ⊢
    cases r with
    | stuck => exact w'
    | ok a => exact w'
    | exc x => exact w'.elim⟩⟩
/-- a named clause: return e -/
theorem scl_ret {x n : Str} {i : Nat} {c : Value} {e : Expr} {p q p2 : Pos} {m : Str → Option Bool} {mx : Xn → MP PV} (hn : Names X x c) (hN : X.N.Nodup) (hi : X.N[i]? = some n) (hln : X.env.kindOf n = some .local) (hm : ∀ (nm : Str) (C : Addr) (b : Bool), X.mg nm = some (.ref C) → m nm = some b → PySem.W.exmOne X.K (.ref C) c = some b)
    (hs : SX X i e mx) : SCl X (.ExceptHandler (some (.Name x p)) (some n) [.Return (some e) p2] q) c (m, fun z env => if i < env.length then mRetX i mx z (env.set i none) else .stuck) (fun a cls d D σ H => tRet (tXE X.K X.mg i a cls d mx) (offN i D) (σ.set i (some (.ref a))) H) :=
  ⟨.named (t := fun a cls d => tRet (tXE X.K X.mg i a cls d mx)) hn hN hi hln fun a oe cls d pn hz hd => pss_one (ps_ret (hs a oe cls d pn hz hd)), hm, fun D σ H a xn C dd env σ0 τ T F hx n _ w => by
    obtain ⟨g, lg, sl⟩ := n.sl.clear i
    by_cases hl : i < env.length
    case neg =>
      have w' : wpS W0 X.K X.mg σ0 τ H F (noXS (if i < env.length then mRetX i mx xn (env.set i none) else .stuck)) D := w
      rw [if_neg hl] at w'
      exact w'.elim
    have w : wpS W0 X.K X.mg σ0 τ H F (noXS (mRetX i mx xn (env.set i none))) D := by
      have w' : wpS W0 X.K X.mg σ0 τ H F (noXS (if i < env.length then mRetX i mx xn (env.set i none) else .stuck)) D := w
      rw [if_pos hl] at w'
      exact w'
    have sl2 : Slots X.K X.mg H T (env.set i none) (σ.set i (some (.ref a))) σ0 g := sl.any (by simp [hl])
    have sees := sl2.sees
    have w' : wpS W0 X.K X.mg σ0 τ H F (noXS (mRetX i mx xn (env.set i none))) D := w
    unfold mRetX at w'
    cases hmx : mx xn (env.set i none) with
    | stuck => rw [hmx] at w'; exact w'.elim
    | exc z => rw [hmx] at w'; exact w'.elim
    | ok z =>
      rw [hmx] at w'
      dsimp only at w'
      split at w'
      · rename_i hz
        refine ⟨env.set i none, xn, C, dd, sees, ?_, rfl, rfl, hx, ?_⟩
        · rw [List.getElem?_set_self (by rw [← n.sl.len]; exact hl)]
        · rw [hmx]
          intro H' g' v rv
          have w2 : wpS W0 X.K X.mg σ0 τ H F (.ok (.rt 8 z (env.set i none))) D := w'
          exact w2 v _ H' (fun b => g b + τ b) g (fun _ => 0) ((sl2.keep (T' := fun b => g b + τ b) (fun a o e t => by have := lg a; have := n.sum a; show g a + τ a = 0; omega) fun a o e _ => e).grow g') (fun b => by show g b + τ b = g b + 0 + τ b; omega) (fun b => by have := lg b; have := n.sum b; have := n.one b; show g b + τ b ≤ 1; omega) (rv.own hz 8)
            (.grow g' fun b _ _ => by have := lg b; show g b + 0 ≤ F b; omega)
      · exact w'.elim⟩
end
end M

set_option Elab.async false
set_option linter.all false
set_option maxRecDepth 100000
set_option maxHeartbeats 4000000
namespace M
open PySem PySem.Spec PyProof.Rows L2

/-! ### == of whole numbers, of texts -/
def gEqI := gI cT fun i j => .bl (decide (i = j))
def gNeI := gI cT fun i j => .bl (!decide (i = j))
def gEqT : PV → PV → Option PV
  | .str x, .str y => some (.bl (decide (x = y)))
  | _, _ => none
def gNeT : PV → PV → Option PV
  | .str x, .str y => some (.bl (!decide (x = y)))
  | _, _ => none
def gNotV : PV → Option PV
  | .bl b => some (.bl (!b))
  | _ => none
def mAndV (ma mb : MP PV) : MP PV := fun env => (ma env).bind fun p => match p with
  | .bl b => if b = true then mb env else .ok (.bl false)
  | _ => .stuck
def mOrV (ma mb : MP PV) : MP PV := fun env => (ma env).bind fun p => match p with
  | .bl b => if b = true then .ok (.bl true) else mb env
  | _ => .stuck
section
variable {K : PySem.W.Frag} {mg : Str → Option Value}
theorem dec_vi (i j : Int) : decide (V.int i = V.int j) = decide (i = j) := decide_eq_decide.mpr ⟨V.int.inj, fun h => by rw [h]⟩
theorem dec_vs (i j : Str) : decide (V.str i = V.str j) = decide (i = j) := decide_eq_decide.mpr ⟨V.str.inj, fun h => by rw [h]⟩
theorem v_eqI : VOp K mg rEq gEqI := fun H x y p q z Q r1 r2 e h => by
  obtain ⟨i, j, rfl, rfl, _, rfl⟩ := gI_some e
  cases r1; cases r2
  exact ⟨rfl, by rw [dec_vi]; exact h _ H (.refl H) (.bl _)⟩
theorem v_neI : VOp K mg rNe gNeI := fun H x y p q z Q r1 r2 e h => by
  obtain ⟨i, j, rfl, rfl, _, rfl⟩ := gI_some e
  cases r1; cases r2
  exact ⟨rfl, by rw [dec_vi]; exact h _ H (.refl H) (.bl _)⟩
theorem v_eqT : VOp K mg rEq gEqT := fun H x y p q z Q r1 r2 e h => by
  unfold gEqT at e
  split at e
  · cases e; cases r1; cases r2
    exact ⟨rfl, by rw [dec_vs]; exact h _ H (.refl H) (.bl _)⟩
  · cases e
theorem v_neT : VOp K mg rNe gNeT := fun H x y p q z Q r1 r2 e h => by
  unfold gNeT at e
  split at e
  · cases e; cases r1; cases r2
    exact ⟨rfl, by rw [dec_vs]; exact h _ H (.refl H) (.bl _)⟩
  · cases e
end
section
variable {X : Cx} {W : WX} {a b c e tg : Expr} {es tgs rest : List Expr} {pos p p2 : Pos} {m mb : MP PV} {ms mi : MP (List PV)} {me : ME (Nat × PV)} {t : Tg} {mt : MP Bool}
theorem sp_one {op : BoolOp} (h : SP X W a m) : SP X W (.BoolOp op [a] pos) m := pe_one h
theorem sp_and (ha : SP X W a m) (hb : SP X W (.BoolOp .And (b :: rest) pos) mb) : SP X W (.BoolOp .And (a :: b :: rest) pos) (mAndV m mb) := (pe_and ha hb).weak fun σ H Q ⟨env, s, w⟩ =>
  tsp_bind (k := fun env p => match p with | .bl b => if b = true then mb env else .ok (.bl false) | _ => .stuck) s w fun p x H1 g r s1 w1 => by
    cases r with
    | bl k =>
      refine ⟨k, rfl, ?_⟩
      cases k with
      | true => exact ⟨env, s1, w1⟩
      | false => exact w1 H1 (.refl _) _ (.bl _)
    | _ => exact w1.elim
theorem sp_or (ha : SP X W a m) (hb : SP X W (.BoolOp .Or (b :: rest) pos) mb) : SP X W (.BoolOp .Or (a :: b :: rest) pos) (mOrV m mb) := (pe_or ha hb).weak fun σ H Q ⟨env, s, w⟩ =>
  tsp_bind (k := fun env p => match p with | .bl b => if b = true then .ok (.bl true) else mb env | _ => .stuck) s w fun p x H1 g r s1 w1 => by
    cases r with
    | bl k =>
      refine ⟨k, rfl, ?_⟩
      cases k with
      | true => exact w1 H1 (.refl _) _ (.bl _)
      | false => exact ⟨env, s1, w1⟩
    | _ => exact w1.elim
theorem sp_not (ha : SP X W a m) : SP X W (.UnaryOp .Not a pos) (mUn gNotV m) := (pe_not ha).weak fun σ H Q ⟨env, s, w⟩ =>
  tsp_bind (k := fun env p => ofO (gNotV p)) s w fun p x H1 g r s1 w1 => by
    obtain ⟨z, ez, q⟩ := wpP_ofO w1
    cases r with
    | bl k => cases ez; exact ⟨k, rfl, q H1 (.refl _) _ (.bl _)⟩
    | _ => cases ez
/-- y = [e for t in it if c], on one line -/
theorem ss_setLc {i : Nat} {y : Str} {py spos : Pos} {scope : Scope} {own : List (Str × Nat)} {me : MP PV} (hc : X.calm = true) (hN : X.N.Nodup) (hy : X.N[i]? = some y) (hyl : X.env.scope.names.lookup y = some .local)
    (hsw : swapsWith (.ListComp e [⟨tg, a, es, 0⟩] scope pos) (some (.Name y py)) spos.line X.env = pure true) (hi : SI X W tg a mi) (ok : BlkOk X.N X.env.scope scope own) (hl : (tgN t).all (fun j => (own.map (·.2)).contains j) = true)
    (hg : ∀ (s : Shared) (H : Hp) (C : Addr) (cl : List (Str × Addr)) (fp : List Addr), PGm (X.blk s H scope (compEnvC scope cl C X.env) fp) tg t) (ht : ∀ (s : Shared) (H : Hp) (C : Addr) (cl : List (Str × Addr)) (fp : List Addr), SPTs (X.blk s H scope (compEnvC scope cl C X.env) fp) W0 es mt)
    (he : ∀ (s : Shared) (H : Hp) (C : Addr) (cl : List (Str × Addr)) (fp : List Addr), SP (X.blk s H scope (compEnvC scope cl C X.env) fp) W0 e me) (hs : ∀ x, foldedSetIterable a X.env x = pure x := by intro _; rfl) :
    SS X W (.Assign [.Name y py] (.ListComp e [⟨tg, a, es, 0⟩] scope pos) spos) (mAsg (.nm i) (mNew (mComp (own.map (·.2)) t mi mt me))) :=
  (ps_setLc (g := tPG X.K X.mg t) (tt := tSPT X.K X.mg W0 mt) (te := tSP X.K X.mg W0 me) hc hN hy hyl hsw hi ok hg ht he hs).weak fun D σ H ⟨env, σ0, τ, T, F, n, w⟩ =>
    lc_read hl ⟨env, n.sees, wpP_mono (wpE_lift n (wpE_mono (wpE_S w) fun r e H' T' F' f sl su on fr w' => (fun x o => tg_name (asg_wp (t := .nm i) n sl su on fr o w') : ∀ x, Own X.K X.mg H' T' r.1 x r.2 f → gName i x σ H' D.nx))) fun ps H' g ⟨q, e, k⟩ xs l r na => by
      split at e
      · rename_i hz
        cases e
        refine k (upd H' l (.lst xs)) (fun b => if b = l then 1 else 0) (g.trans (Grow.upd na)) (fun a o e => if_neg ?_) (fun b => ?_) (.ref l) (.lst1 upd_same ((r.grow (Grow.upd na)).own hz 8) fun b => (Nat.zero_add _).symm)
        · rintro rfl
          rw [g _ _ e] at na; cases na
        · show (if b = l then 1 else 0) ≤ 1
          split <;> omega
      · cases e⟩
end

/-! ### what the text has written, in bundles -/
structure CalM (P : Program) (w : World) (K : PySem.W.Frag) (mg : Str → Option Value) (base : Heap) (k : Nat) (x : Str) (ps : List Str) (n : Nat) (G : Fn) : Prop where
  ex : ∃ (f : Addr) (fd : FuncData), FnOk P w K mg base (L2.CX P w) k f fd ps (spM K mg n G) ∧ mg x = some (.ref f) ∧ PySem.W.keepIn K (.ref f) = true ∧ Binds K fd ps [] ∧ ∃ o : Obj, K.lookup f = some o ∧ o.data = .func fd
structure DefM (K : PySem.W.Frag) (mg : Str → Option Value) (x : Str) (st : Stmt) (ps : List Str) : Prop where
  ex : ∃ (f : Addr) (fd : FuncData), Fun K x x st f fd ∧ mg x = some (.ref f) ∧ Binds K fd ps []
structure GlM (K : PySem.W.Frag) (mg : Str → Option Value) (x : Str) (p : PV) : Prop where
  ex : ∃ (v : V) (u : Value), mg x = some u ∧ RelV v u ∧ ∀ H, Rep K mg H v p
structure ExM (P : Program) (K : PySem.W.Frag) (mg : Str → Option Value) (nm : Str) (ps : List Str) (fs : List (Str × PySem.MX.FV)) : Prop where
  ex : ∃ C fI, PySem.MX.ExcT P K mg nm C fI ps fs
section
variable {X : Cx} {W : WX} {a b c e tg : Expr} {es tgs : List Expr} {pos p p2 : Pos} {ms : MP (List PV)}
theorem sp_cal {x : Str} {ps : List Str} {j k n : Nat} {G : Fn} (c : CalM X.prog X.w X.K X.mg X.base k x ps n G) (tk : Takes X W) (hr : Room j X.A) (hk : k ≤ j) (ha : SPs X W (e :: es) ms) (hg : Gl X x := by rfl) (hdb : (x == ("__debug__" : Str)) = false := by decide)
    (he : starEach (e :: es) X.env = (false, eval e X.env) :: starEach es X.env := by rfl) (hpl : (backTo pos (starEach es X.env)).any (·.1) = false := by rfl) : SP X W (.Call (.Name x p) (e :: es) [] pos) (mCall n G ms) := by
  obtain ⟨f, fd, F, hm, kp, hb, _⟩ := c.ex
  exact sp_call F tk (hr.mono hk) hm kp hb ha hg hdb he hpl
theorem se_cal {x : Str} {ps : List Str} {j k n : Nat} {G : Fn} (c : CalM X.prog X.w X.K X.mg X.base k x ps n G) (tk : Takes X W) (hr : Room j X.A) (hk : k ≤ j) (ha : SPs X W (e :: es) ms) (hg : Gl X x := by rfl) (hdb : (x == ("__debug__" : Str)) = false := by decide)
    (he : starEach (e :: es) X.env = (false, eval e X.env) :: starEach es X.env := by rfl) (hpl : (backTo pos (starEach es X.env)).any (·.1) = false := by rfl) : SE X W (.Call (.Name x p) (e :: es) [] pos) (mCallE n G ms) := by
  obtain ⟨f, fd, F, hm, kp, hb, _⟩ := c.ex
  exact se_call F tk (hr.mono hk) hm kp hb ha hg hdb he hpl
theorem sp_gl {x : Str} {z : PV} (h : GlM X.K X.mg x z) (hg : Gl X x := by rfl) (hd : (x == ("__debug__" : Str)) = false := by decide) : SP X W (.Name x pos) (mC z) := by
  obtain ⟨v, u, hm, r, k⟩ := h.ex
  exact sp_c (pe_glob hg hm r hd) k
theorem ss_raiseM {nm : Str} {ps : List Str} {fs : List (Str × PySem.MX.FV)} {j : Nat} {m : MP (List PV)} (h : ExM X.prog X.K X.mg nm ps fs) (hne : fs ≠ []) (hc : X.calm = true) (tk : Takes X W) (hr : Room j X.A) (ha : SPs X W (e :: es) m) (hg : Gl X nm := by rfl) (hdb : (nm == ("__debug__" : Str)) = false := by decide)
    (he : starEach (e :: es) X.env = (false, eval e X.env) :: starEach es X.env := by rfl) (hpl : (backTo pos (starEach es X.env)).any (·.1) = false := by rfl) : SS X W (.Raise (some (.Call (.Name nm p) (e :: es) [] pos)) none p2) (mRaise nm ps.length fs m) := by
  obtain ⟨C, fI, T⟩ := h.ex
  exact ss_raise hc tk T hne hr ha hg hdb he hpl
theorem ss_raiseM0 {nm : Str} {fs : List (Str × PySem.MX.FV)} {j : Nat} (h : ExM X.prog X.K X.mg nm [] fs) (hne : fs ≠ []) (hc : X.calm = true) (tk : Takes X W) (hr : Room j X.A) (hg : Gl X nm := by rfl) (hdb : (nm == ("__debug__" : Str)) = false := by decide) :
    SS X W (.Raise (some (.Call (.Name nm p) [] [] pos)) none p2) (mRaise nm 0 fs mNil) := by
  obtain ⟨C, fI, T⟩ := h.ex
  exact ss_raise0 hc tk T hne hr hg hdb
end
section
variable {P : Program} {w : World} {K : PySem.W.Frag} {mg : Str → Option Value} {base : Heap}
theorem cal_ok {x : Str} {st : Stmt} {N ps : List Str} {k : Nat} {b : MS} (D : DefM K mg x st ps) (S : FnScope N ps (defScope st)) (n : Nat) (hn : n = ps.length)
    (hb : ∀ (f : Addr) (cdv : Value) (A : Around) (outer : List PySem.Env) (s : Shared) (H : Hp) (E : XK), Room k (A.deeper (envOfC x (defScope st) s.heap.objs.size f cdv)) →
      SSs (cxOf (L2.CX P w) P w K mg base N x (defScope st) f cdv A outer s H E) (fun cls d _ H' => E cls d H') (defBody st) b) : CalM P w K mg base (k + 1) x ps n (runM N.length b) := by
  obtain ⟨f, fd, F, hm, hbd⟩ := D.ex
  refine ⟨f, fd, fn_ok F S n hn fun cdv A outer s H E hr => hb f cdv A outer s H E hr, hm, F.kp, hbd, ?_⟩
  obtain ⟨oc, od, kV, doc, pm, an, cdv, ct, osl, e, lk, _⟩ := F.ex
  exact ⟨_, lk, rfl⟩
/-- a law's own promise -/
def spLaw (K : PySem.W.Frag) (n : Nat) : Sp := fun vs H Q _ => ∃ (a : Addr) (ns : List Int), vs = [.ref a] ∧ SqL K H a (ns.map V.int) ∧ ns.length ≤ n ∧ ∀ H', Q (.bl true) H'
theorem ints_rep {H : Hp} : ∀ ns : List Int, Reps K mg H (ns.map V.int) (ns.map PV.int)
  | [] => .nil
  | n :: ns => .cons (.int n) (ints_rep ns)
theorem law_ok {f : Addr} {fd : FuncData} {ps : List Str} {k n : Nat} {G : Fn} (F : FnOk P w K mg base (L2.CX P w) k f fd ps (spM K mg 1 G)) (h : ∀ ns : List Int, ns.length ≤ n → ∃ d, G [.scr (ns.map .int)] = .ok (d, .bl true)) : FnOk P w K mg base (L2.CX P w) k f fd ps (spLaw K n) :=
  F.imp fun vs H Q E ⟨a, ns, ev, hs, hl, q⟩ => by
    subst ev
    obtain ⟨d, e⟩ := h ns hl
    have r : Rep K mg H (.ref a) (.scr (ns.map PV.int)) := .scr hs (ints_rep ns)
    refine ⟨_, fun _ => 0, rfl, Reps.own0 (.cons r .nil), fun _ => Nat.zero_le _, fun b z => absurd rfl z, ?_⟩
    rw [e]
    intro x H' T' f _ o _ _ _
    cases o
    exact q H'
theorem no_cx {outer : List PySem.Env} {H : Hp} {s : Shared} {e : Value} {s' : Shared} (h : L2.CX P w outer H s (fun _ _ _ => False) e s') : False := by
  obtain ⟨_, _, _, _, _, _, _, _, _, _, _, _, z⟩ := h
  exact z
/-- which exceptions a clause names -/
theorem exm_of {A B : Addr} {b : Bool} (h1 : PySem.W.subIn K (.ref B) (.type "BaseException") = some true) (h2 : PySem.W.isClsIn K B = true) (h3 : PySem.W.typeIn K (.ref B) = some (.type "type")) (h4 : PySem.W.subIn K (.ref A) (.ref B) = some b) : PySem.W.exmOne K (.ref A) (.ref B) = some b := by
  have e1 : (PySem.W.subIn K (.ref B) (.type "BaseException") == some true) = true := by rw [h1]; rfl
  have e2 : ((PySem.W.clsIn K B).isSome && PySem.W.typeIn K (.ref B) == some (.type "type")) = true := by
    rw [show (PySem.W.clsIn K B).isSome = true from h2, h3]; rfl
  show (if (PySem.W.subIn K (.ref B) (.type "BaseException") == some true) = true then (if ((PySem.W.clsIn K B).isSome && PySem.W.typeIn K (.ref B) == some (.type "type")) = true then PySem.W.subIn K (.ref A) (.ref B) else none) else none) = some b
  rw [if_pos e1, if_pos e2]
  exact h4
end
end M

set_option Elab.async false
set_option linter.all false
set_option maxRecDepth 100000
set_option maxHeartbeats 4000000
namespace M
open PySem PySem.Spec PyProof.Rows L2

/-! ### what a value of the written part stands for -/
def rdAll (f : Value → Option PV) : List Value → Option (List PV)
  | [] => some []
  | v :: r => match f v with
    | none => none
    | some p => match rdAll f r with
      | none => none
      | some ps => some (p :: ps)
def rdO (f : Value → Option PV) : Obj → Option PV
  | ⟨c, d, .seq its _, sl⟩ => if its.size ≤ 100000 then (if c = .type "tuple" then (match rdAll f its.toList with
      | none => none
      | some ps => some (.ktp ps)) else if c = .type "list" then (match d with
        | none => if sl.size = 0 then (match rdAll f its.toList with
          | none => none
          | some ps => some (.lst ps)) else none
        | some _ => none) else none) else none
  | _ => none
def readK (K : PySem.W.Frag) : Nat → Value → Option PV
  | 0, _ => none
  | n + 1, v => match v with
    | .none => some .non
    | .bool b => some (.bl b)
    | .int i _ => some (.int i)
    | .str x _ => some (.str x)
    | .ref a => match K.lookup a with
      | none => none
      | some o => rdO (readK K n) o
    | _ => none
section
variable {K : PySem.W.Frag} {mg : Str → Option Value}
theorem rdAll_ok {f : Value → Option PV} (hf : ∀ v p, f v = some p → ∃ x, RelV x v ∧ ∀ H, Rep K mg H x p) : ∀ {vs : List Value} {ps : List PV}, rdAll f vs = some ps → ∃ xs, Vals xs vs ∧ ∀ H, Reps K mg H xs ps
  | [], _, e => by cases e; exact ⟨[], .nil, fun _ => .nil⟩
  | v :: r, ps, e => by
    rw [rdAll] at e
    split at e
    · cases e
    · rename_i p hp
      split at e
      · cases e
      · rename_i ps' hps
        cases e
        obtain ⟨x, r1, q1⟩ := hf v p hp
        obtain ⟨xs, r2, q2⟩ := rdAll_ok hf hps
        exact ⟨x :: xs, .cons r1 r2, fun H => .cons (q1 H) (q2 H)⟩
theorem readK_ok : ∀ {n : Nat} {v : Value} {p : PV}, readK K n v = some p → ∃ x, RelV x v ∧ ∀ H, Rep K mg H x p
  | 0, _, _, e => by cases e
  | n + 1, v, p, e => by
    cases v
    case none => cases e; exact ⟨.non, rfl, fun _ => .non⟩
    case bool b => cases e; exact ⟨.bl _, rfl, fun _ => .bl _⟩
    case int i _ => cases e; exact ⟨.int _, ⟨_, rfl⟩, fun _ => .int _⟩
    case str x _ => cases e; exact ⟨.str _, ⟨_, rfl⟩, fun _ => .str _⟩
    case ref a =>
      rw [readK] at e
      split at e
      · cases e
      · rename_i o ho
        unfold rdO at e
        split at e
        · rename_i c d its k sl
          split at e
          · rename_i hz
            have hz' : its.size ≤ sizeLine := Nat.le_trans hz (by decide)
            split at e
            · rename_i hc
              split at e
              · cases e
              · rename_i ps hps
                cases e
                obtain ⟨xs, r, q⟩ := rdAll_ok (fun v p h => readK_ok (n := n) h) hps
                exact ⟨.ref a, rfl, fun H => .ktp ⟨_, its, k, ho, hc, rfl, hz', r⟩ (q H)⟩
            · split at e
              · rename_i hc
                split at e
                · split at e
                  · rename_i hs
                    split at e
                    · cases e
                    · rename_i ps hps
                      cases e
                      obtain ⟨xs, r, q⟩ := rdAll_ok (fun v p h => readK_ok (n := n) h) hps
                      obtain rfl : sl = #[] := Array.eq_empty_of_size_eq_zero hs
                      subst hc
                      exact ⟨.ref a, rfl, fun H => .lst (.inr ⟨its, k, ho, hz', r⟩) (q H)⟩
                  · cases e
                · cases e
              · cases e
          · cases e
        · cases e
    all_goals cases e
theorem glM_mk {h : Heap} {x : Str} {v : Value} {p : PV} (X : K.In h) (G : h.Ns mainGlobals mg) (a : PySem.W.nsIn K mainGlobals x = some (some v)) (r : readK K 9 v = some p) : GlM K mg x p :=
  ⟨(readK_ok r).elim fun y hy => ⟨y, v, PySem.W.mg_of X G a, hy.1, hy.2⟩⟩
theorem defM_mk {h : Heap} {x : Str} {st : Stmt} {ps : List Str} {f : Addr} {oc : Value} {od an : Option Addr} {sl : Array (Option Value)} {kV doc pm cd ct : Value} (X : K.In h) (G : h.Ns mainGlobals mg)
    (b : ∀ (kV doc pm : Value) (an : Option Addr) (cdv ct : Value) (us : List Value), us.length = ps.length → bindArgs (PySem.W.fnOf x x (defArgs st) (defBody st) (defScope st) .none kV doc pm an cdv ct) ⟨us, []⟩ = pure (ps.zip us))
    (a : PySem.W.nsIn K mainGlobals x = some (some (.ref f))) (l : K.lookup f = some ⟨oc, od, .func (PySem.W.fnOf x x (defArgs st) (defBody st) (defScope st) .none kV doc pm an cd ct), sl⟩)
    (c : PySem.W.codeIn K cd x = true) (k : PySem.W.keepIn K (.ref f) = true) : DefM K mg x st ps :=
  ⟨f, _, fun_mk l c k, PySem.W.mg_of X G a, (fun_mk l c k).binds b⟩
theorem mkExm {C D : Addr} {b : Bool} (h1 : PySem.W.subIn K (.ref D) (.type "BaseException") = some true) (h2 : PySem.W.isClsIn K D = true) (h3 : PySem.W.typeIn K (.ref D) = some (.type "type")) (h4 : PySem.W.subIn K (.ref C) (.ref D) = some b) : PySem.W.exmOne K (.ref C) (.ref D) = some b := exm_of h1 h2 h3 h4
theorem exM_mk {P : Program} {h : Heap} {nm nm' q : Str} {C fI N cc cda : Addr} {ps : List Str} {fs : List (Str × PySem.MX.FV)} {bs bm : List Value} {sn : List Str} {sub : List Value} {ab : Bool} {col : Option Bool} {dd : Option Addr} {k0 k1 k2 k3 k5 : Option Value}
    {oc doc pm ct : Value} {od an : Option Addr} {osl : Array (Option Value)} {qual : Str} {params : Arguments} {scope : Scope} {e : Expr} {r : List Stmt} {p0 p1 p2 p3 p4 : Pos} {a0 : Arg} {cl ccl : Value} {cld cdd : Option Addr} {csl ccs : Array (Option Value)} {vs : Array Value} {file : Str} {tf : Tok}
    (X : K.In h) (G : h.Ns mainGlobals mg) (aC : PySem.W.nsIn K mainGlobals nm = some (some (.ref C)))
    (xL : K.lookup C = some (excClassObj nm' q C N bs bm true sn sub ab col dd k0 k1 k2 k3 k5 "ValueError.__new__")) (hbm : PySem.HandSPX.refsVE bm = true)
    (sa : PySem.W.findIn K (.ref C) "__setattr__" = some (some (.builtin "object.__setattr__"))) (ga : PySem.W.findIn K (.ref C) "__getattribute__" = some (some (.builtin "BaseException.__getattribute__"))) (gg : PySem.W.findIn K (.ref C) "__getattr__" = some none)
    (noN : ∀ p ∈ fs, PySem.W.findIn K (.ref C) p.1 = some none) (iC : PySem.W.findIn K (.ref C) "__init__" = some (some (.ref fI))) (tC : PySem.W.typeIn K (.ref fI) = some (.type "function")) (kC : PySem.W.keepIn K (.ref C) = true)
    (exC : PySem.W.subIn K (.ref C) (.type "BaseException") = some true) (veC : PySem.W.subIn K (.ref C) (.type "ValueError") = some true) (suC : PySem.W.ks_superIn K C C "__init__" = some (some (.builtin "ValueError.__init__")))
    (tp : PySem.W.nsIn K cStatics "thirdparty.any" = some none) (tyC : PySem.W.typeIn K (.ref C) = some (.type "type")) (hdC : PySem.W.hasDictIn K C = true) (sup : PySem.W.nsIn K mainGlobals "super" = some none)
    (top : (P.main.scope.names.lookup ("super" : Str)).isSome = false) (few : fs.length ≤ 100)
    (l : K.lookup fI = some ⟨oc, od, .func (PySem.W.ksFn "__init__" qual params (.Expr (.Call (.Attribute (.Call (.Name "super" p0) [] [] p1) "__init__" p2) [e] [] p3) p4 :: r) scope .none .none doc pm an (.ref cda) ct cc), osl⟩)
    (cd : PySem.W.codeIn K (.ref cda) qual = true) (lc : K.lookup cc = some ⟨cl, cld, .cell (some (.ref C)), csl⟩) (ld : K.lookup cda = some ⟨ccl, cdd, .fields vs, ccs⟩)
    (sd : PySem.MX.Said ps e) (st : PySem.MX.Sets ps r fs) (ha : (params.posonlyargs ++ params.args).head? = some a0) (ha0 : a0.arg = "self") (hv : vs[2]? = some (.str file tf)) (hf : ((P.main.file : Str) == file) = true)
    (hb : ∀ s us, us.length = ps.length + 1 → BindsTo s (PySem.W.ksFn "__init__" qual params (.Expr (.Call (.Attribute (.Call (.Name "super" p0) [] [] p1) "__init__" p2) [e] [] p3) p4 :: r) scope .none .none doc pm an (.ref cda) ct cc) ⟨us, []⟩ ((("self" : Str) :: ps).zip us))
    (s1 : scope.kind = .function) (s2 : scope.isCoroutine = false) (s3 : scope.isGenerator = false) (s4 : ∀ x ∈ scope.names, x.2 ≠ .cell) (s5 : scope.names.lookup ("super" : Str) = some .globalImplicit) (s6 : scope.names.lookup ("__class__" : Str) = some .free)
    (s7 : ∀ y ∈ (("self" : Str) :: ps), scope.names.lookup y = some .local ∧ (y == ("__debug__" : Str)) = false) (s8 : (("self" : Str) :: ps).Nodup) (s9 : PySem.MX.SupEq qual scope fI cda cc p0 p1 p2 p3 e) : ExM P K mg nm ps fs :=
  ⟨C, fI, ⟨PySem.W.mg_of X G aC, ⟨nm', q, N, bs, bm, sn, sub, ab, col, dd, k0, k1, k2, k3, k5, xL, hbm⟩, sa, ga, gg, noN, iC, tC, kC, exC, veC, suC, tp, tyC, hdC, sup, top, few,
    ⟨oc, doc, pm, ct, od, an, osl, qual, params, scope, cc, cda, e, r, p0, p1, p2, p3, p4, a0, cl, ccl, cld, cdd, csl, ccs, vs, file, tf, l, cd, sd, st, ha, ha0, lc, ld, hv, hf, hb, s1, s2, s3, s4, s5, s6, s7, s8, s9⟩⟩⟩
theorem fldOk_mk {C : Addr} {f : Str} (ga : PySem.W.findIn K (.ref C) "__getattribute__" = some (some (.builtin "BaseException.__getattribute__"))) (gg : PySem.W.findIn K (.ref C) "__getattr__" = some none) (noN : PySem.W.findIn K (.ref C) f = some none)
    (exC : PySem.W.subIn K (.ref C) (.type "BaseException") = some true) (hdC : PySem.W.hasDictIn K C = true) : FldOk K C f := ⟨ga, gg, noN, exC, hdC⟩
theorem mgC_mk {h : Heap} {nm : Str} {C : Addr} (X : K.In h) (G : h.Ns mainGlobals mg) (aC : PySem.W.nsIn K mainGlobals nm = some (some (.ref C))) : mg nm = some (.ref C) := PySem.W.mg_of X G aC
theorem vC_mk {h : Heap} {nm : Str} {C : Addr} (X : K.In h) (G : h.Ns mainGlobals mg) (aC : PySem.W.nsIn K mainGlobals nm = some (some (.ref C))) : ∃ C, mg nm = some (.ref C) := ⟨C, PySem.W.mg_of X G aC⟩
theorem ref_eq {o : Option Value} {A B : Addr} (h1 : o = some (.ref A)) (h2 : o = some (.ref B)) : A = B := by
  rw [h1] at h2
  cases h2
  rfl
/-- the law's def, for the end -/
theorem law_end {P : Program} {w : World} {x : Str} {st : Stmt} {ps : List Str} {k n : Nat} {G : Fn} {fa : Addr} {y : Str} (hb : ∀ (kV doc pm : Value) (an : Option Addr) (cdv ct : Value) (us : List Value), us.length = ps.length → bindArgs (PySem.W.fnOf x x (defArgs st) (defBody st) (defScope st) .none kV doc pm an cdv ct) ⟨us, []⟩ = pure (ps.zip us)) (hy : ps = [y]) (hmg : mg x = some (.ref fa)) (d : DefM K mg x st ps) (c : ∀ base : Heap, CalM P w K mg base k x ps 1 G)
    (h : ∀ ns : List Int, ns.length ≤ n → ∃ d, G [.scr (ns.map .int)] = .ok (d, .bl true)) :
    ∃ fd : FuncData, (∀ (s : Shared) (u : Value), BindsTo s fd ⟨[u], []⟩ [(y, u)]) ∧ ∀ base : Heap, K.In base → base.Ns mainGlobals mg → FnOk P w K mg base (L2.CX P w) k fa fd [y] (spLaw K n) := by
  subst hy
  obtain ⟨f, fd, F, hm, _⟩ := d.ex
  obtain rfl := ref_eq hm hmg
  obtain ⟨oc, od, kV, doc, pm, an, cdv, ct, osl, e, lk, _⟩ := F.ex
  refine ⟨fd, fun s u => .of_eq (by rw [e]; exact hb kV doc pm an cdv ct [u] rfl), fun base _ _ => ?_⟩
  obtain ⟨f2, fd2, F2, hm2, _, _, o, lo, ho⟩ := (c base).ex
  obtain rfl := ref_eq hm hm2
  rw [lk] at lo
  cases lo
  cases ho
  exact law_ok F2 h
end
end M

set_option Elab.async false
set_option linter.all false
set_option maxRecDepth 100000
set_option maxHeartbeats 4000000
/-! the mirror, worked out: plain lemmas -/
namespace M
open PySem PySem.Spec PyProof.Rows L2

section
variable {a b : MS} {env e : LEnv}
theorem seq_nx (h : a env = .ok (.nx e)) : mSeq a b env = b e := by unfold mSeq; rw [h]; rfl
theorem seq_rt {d : Nat} {p : PV} (h : a env = .ok (.rt d p e)) : mSeq a b env = .ok (.rt d p e) := by unfold mSeq; rw [h]; rfl
theorem seq_ex {x : Xn × LEnv} (h : a env = .exc x) : mSeq a b env = .exc x := by unfold mSeq; rw [h]; rfl
end
@[simp] theorem ev_seq (a b : MS) (env : LEnv) : mSeq a b env = seqR (a env) b := rfl
@[simp] theorem ev_seqR (e : LEnv) (b : MS) : seqR (.ok (.nx e)) b = b e := rfl
@[simp] theorem ev_seqRr (d : Nat) (p : PV) (e : LEnv) (b : MS) : seqR (.ok (.rt d p e)) b = .ok (.rt d p e) := rfl
@[simp] theorem ev_seqRb (e : LEnv) (b : MS) : seqR (.ok (.bk e)) b = .ok (.bk e) := rfl
@[simp] theorem ev_seqRc (e : LEnv) (b : MS) : seqR (.ok (.ct e)) b = .ok (.ct e) := rfl
@[simp] theorem ev_seqRx (x : Xn × LEnv) (b : MS) : seqR (.exc x) b = .exc x := rfl
@[simp] theorem ev_bind {ε α β : Type} (a : α) (k : α → Rs ε β) : Rs.bind (.ok a) k = k a := rfl
@[simp] theorem ev_bindx {ε α β : Type} (x : ε) (k : α → Rs ε β) : Rs.bind (.exc x) k = .exc x := rfl
@[simp] theorem ev_ofO {ε α : Type} (a : α) : ofO (ε := ε) (some a) = .ok a := rfl
@[simp] theorem ev_lift {α β : Type} (env : LEnv) (a : α) (k : α → Option β) : liftP env (.ok a) k = (match k a with | none => .stuck | some b => .ok (b, env)) := rfl
@[simp] theorem ev_liftx {α β : Type} (env : LEnv) (x : Xn) (k : α → Option β) : liftP env (.exc x) k = .exc (x, env) := rfl
@[simp] theorem ev_liftT (env : LEnv) (t : Bool) (k : Bool → RF) : liftT env (.ok t) k = k t := rfl
@[simp] theorem ev_liftTx (env : LEnv) (x : Xn) (k : Bool → RF) : liftT env (.exc x) k = .exc (x, env) := rfl
@[simp] theorem ev_ofNx (e : LEnv) : ofNx (some e) = .ok (.nx e) := rfl
@[simp] theorem ev_contN (e : LEnv) (k : MS) : contR (.ok (.nx e)) k = k e := rfl
@[simp] theorem ev_contC (e : LEnv) (k : MS) : contR (.ok (.ct e)) k = k e := rfl
@[simp] theorem ev_contB (e : LEnv) (k : MS) : contR (.ok (.bk e)) k = .ok (.nx e) := rfl
@[simp] theorem ev_contR (d : Nat) (p : PV) (e : LEnv) (k : MS) : contR (.ok (.rt d p e)) k = .ok (.rt d p e) := rfl
@[simp] theorem ev_contX (x : Xn × LEnv) (k : MS) : contR (.exc x) k = .exc x := rfl
/-- a place that may be filled -/
def frB : Option Slot → Bool
  | none => true
  | some s => !s.pin
abbrev sl (d : Nat) (p : PV) : Option Slot := some ⟨d, false, p⟩
@[simp] theorem frB_none : frB none = true := rfl
@[simp] theorem frB_some (d : Nat) (b : Bool) (p : PV) : frB (some ⟨d, b, p⟩) = !b := rfl
theorem fr_sl {d : Nat} {p : PV} : frB (sl d p) = true := rfl
section
variable (ma mb : MP PV) (mt mu : MP Bool) (ms : MP (List PV)) (me : ME (Nat × PV)) (mes : ME (Nat × List PV)) (sa sb : MS) (env : LEnv) (i j n : Nat) (G : Fn) (t : Tg)
@[simp] theorem ev_mSkip : mSkip env = .ok (.nx env) := rfl
@[simp] theorem ev_mBrk : mBrk env = .ok (.bk env) := rfl
@[simp] theorem ev_mCnt : mCnt env = .ok (.ct env) := rfl
@[simp] theorem ev_mRet : mRet me env = (me env).bind fun z => .ok (.rt z.1.1 z.1.2 z.2) := rfl
@[simp] theorem ev_mRetN : mRetN env = .ok (.rt 8 .non env) := rfl
@[simp] theorem ev_mIfS : mIfS mt sa sb env = liftT env (mt env) fun t => if t = true then sa env else sb env := rfl
@[simp] theorem ev_mAsg : mAsg t me env = (me env).bind fun z => ofNx (setT t z.1.1 z.1.2 z.2) := rfl
@[simp] theorem ev_mPar : mPar i j mes env = (mes env).bind fun z => ofNx (setTs [.nm i, .nm j] z.1.1 z.1.2 z.2) := rfl
@[simp] theorem ev_mBin (g : PV → PV → Option PV) : mBin g ma mb env = (ma env).bind fun p => (mb env).bind fun q => ofO (g p q) := rfl
@[simp] theorem ev_mBinF (g : PV → PV → Option (List PV)) : mBinF g ma mb env = (ma env).bind fun p => (mb env).bind fun q => ofO (g p q) := rfl
@[simp] theorem ev_mUn (g : PV → Option PV) : mUn g ma env = (ma env).bind fun p => ofO (g p) := rfl
@[simp] theorem ev_mFn (g : List PV → Option PV) : mFn g ms env = (ms env).bind fun p => ofO (g p) := rfl
@[simp] theorem ev_mFnF (g : List PV → Option (List PV)) : mFnF g ms env = (ms env).bind fun p => ofO (g p) := rfl
@[simp] theorem ev_mNil : mNil env = .ok [] := rfl
@[simp] theorem ev_mCons : mCons ma ms env = (ma env).bind fun p => (ms env).bind fun ps => .ok (p :: ps) := rfl
@[simp] theorem ev_mC (p : PV) : mC p env = .ok p := rfl
@[simp] theorem ev_mV : mV i env = (match env[i]? with | some (some s) => .ok s.v | _ => .stuck) := rfl
@[simp] theorem ev_mTup : mTup ms env = (ms env).bind fun ps => if sizeOk ps.length then .ok (.tup ps) else .stuck := rfl
@[simp] theorem ev_mLst : mLst ms env = (ms env).bind fun ps => if sizeOk ps.length then .ok ps else .stuck := rfl
@[simp] theorem ev_mOfF : mOfF ms env = (ms env).bind fun ps => .ok (.lst ps) := rfl
@[simp] theorem ev_mIf : mIf mt ma mb env = (mt env).bind fun b => if b = true then ma env else mb env := rfl
@[simp] theorem ev_mTst : mTst ma env = (ma env).bind fun p => (match p with | .bl b => .ok b | _ => .stuck) := rfl
@[simp] theorem ev_mNot : mNot mt env = (mt env).bind fun b => .ok (!b) := rfl
@[simp] theorem ev_mAnd : mAnd mt mu env = (mt env).bind fun b => if b = true then mu env else .ok false := rfl
@[simp] theorem ev_mOr : mOr mt mu env = (mt env).bind fun b => if b = true then .ok true else mu env := rfl
@[simp] theorem ev_mBl : mBl mt env = (mt env).bind fun b => .ok (.bl b) := rfl
@[simp] theorem ev_mAndV : mAndV ma mb env = (ma env).bind fun p => (match p with | .bl b => if b = true then mb env else .ok (.bl false) | _ => .stuck) := rfl
@[simp] theorem ev_mOrV : mOrV ma mb env = (ma env).bind fun p => (match p with | .bl b => if b = true then .ok (.bl true) else mb env | _ => .stuck) := rfl
@[simp] theorem ev_mFlat : mFlat ma env = liftP env (ma env) fun p => if hgt p = 0 then some (8, p) else none := rfl
@[simp] theorem ev_mNew : mNew ms env = liftP env (ms env) fun ps => if hgts ps = 0 then some (9, .lst ps) else none := rfl
@[simp] theorem ev_mENil : mENil env = .ok ((8, []), env) := rfl
@[simp] theorem ev_eMap {α β : Type} (g : α → Option β) (m : ME α) : eMap g m env = (m env).bind fun z => (match g z.1 with | none => .stuck | some b => .ok (b, z.2)) := rfl
@[simp] theorem ev_mECons : mECons me mes env = (me env).bind fun z => eMap (fun r => some (min z.1.1 r.1, z.1.2 :: r.2)) mes z.2 := rfl
@[simp] theorem ev_mETup : mETup mes env = eMap gTupE mes env := rfl
@[simp] theorem ev_mELst : mELst mes env = eMap gLstE mes env := rfl
@[simp] theorem ev_gTupE (r : Nat × List PV) : gTupE r = if sizeOk r.2.length then some (r.1, .tup r.2) else none := rfl
@[simp] theorem ev_gLstE (r : Nat × List PV) : gLstE r = if sizeOk r.2.length then some (r.1 + 1, .lst r.2) else none := rfl
@[simp] theorem ev_mMove : mMove i env = (match env[i]? with | some (some s) => if hgt s.v = 0 then .ok ((8, s.v), env) else if s.pin then .stuck else .ok ((s.d, s.v), env.set i none) | _ => .stuck) := rfl
@[simp] theorem ev_mCall : mCall n G ms env = (ms env).bind fun ps => callR n G ps fun r => some r.2 := rfl
@[simp] theorem ev_mCallE : mCallE n G ms env = liftP env ((ms env).bind fun ps => callR n G ps okTall) some := rfl
@[simp] theorem ev_callR {α : Type} (ps : List PV) (k : Nat × PV → Option α) : callR n G ps k = if ps.length = n then (match G ps with | .stuck => .stuck | .ok r => ofO (k r) | .exc x => .exc x) else .stuck := rfl
@[simp] theorem ev_okTall (r : Nat × PV) : okTall r = if hgt r.2 ≤ r.1 then some r else none := rfl
@[simp] theorem ev_mRep : mRep ms mb env = (ms env).bind fun ps => (mb env).bind fun q => ofO (gRepK ps q) := rfl
@[simp] theorem ev_mRevL : mRevL ma env = (ma env).bind fun p => ofO ((lstOf p).map List.reverse) := rfl
@[simp] theorem ev_mIt (g : PV → Option (List PV)) : mIt g ma env = (ma env).bind fun p => ofO (g p) := rfl
@[simp] theorem ev_mYes : mYes env = .ok true := rfl
@[simp] theorem ev_itL (l : List PV) : itL (.lst l) = some l := rfl
@[simp] theorem ev_itT (l : List PV) : itT (.tup l) = some l := rfl
@[simp] theorem ev_lstOf (l : List PV) : lstOf (.lst l) = some l := rfl
@[simp] theorem ev_tupOf (l : List PV) : tupOf (.tup l) = some l := rfl
@[simp] theorem ev_tupOfK (l : List PV) : tupOf (.ktp l) = some l := rfl
@[simp] theorem ev_mForL : mForL t me sb env = (me env).bind fun z => (match lstOf z.1.2 with | none => .stuck | some ps => loopF t sb ps z.2) := rfl
@[simp] theorem ev_mForT : mForT t me sb env = (me env).bind fun z => (match tupOf z.1.2 with | none => .stuck | some ps => loopF t sb ps z.2) := rfl
@[simp] theorem ev_mForR1 : mForR1 t ms sb env = (match ms env with | .stuck => .stuck | .exc x => .exc (x, env) | .ok [.int j] => if rngOk j then loopF t sb (rngs 0 j.toNat) env else .stuck | .ok _ => .stuck) := rfl
@[simp] theorem ev_mForR2 : mForR2 t ms sb env = (match ms env with | .stuck => .stuck | .exc x => .exc (x, env) | .ok [.int i, .int j] => if rngOk i && rngOk j then loopF t sb (rngs i (j - i).toNat) env else .stuck | .ok _ => .stuck) := rfl
@[simp] theorem ev_mRng1 : mRng1 ms env = (ms env).bind fun ps => (match ps with | [.int j] => if rngOk j then .ok (rngs 0 j.toNat) else .stuck | _ => .stuck) := rfl
@[simp] theorem ev_mRng2 : mRng2 ms env = (ms env).bind fun ps => (match ps with | [.int i, .int j] => if rngOk i && rngOk j then .ok (rngs i (j - i).toNat) else .stuck | _ => .stuck) := rfl
@[simp] theorem ev_mDrop : mDrop ma env = (match ma env with | .stuck => .stuck | .ok _ => .ok (.nx env) | .exc x => .exc (x, env)) := rfl
@[simp] theorem ev_mApp : mApp i me env = if isLst env i then (me env).bind fun z => ofNx (appS z.2 i z.1.1 z.1.2) else .stuck := rfl
@[simp] theorem ev_setTnm (d : Nat) (p : PV) : setT (.nm i) d p env = setS env i d p := by rw [setT]
@[simp] theorem ev_setTtup (ts : List Tg) (d : Nat) (ps : List PV) : setT (.tup ts) d (.tup ps) env = setTs ts d ps env := by rw [setT]
@[simp] theorem ev_setTktp (ts : List Tg) (d : Nat) (ps : List PV) : setT (.tup ts) d (.ktp ps) env = setTs ts d ps env := by rw [setT]
@[simp] theorem ev_setTsN (d : Nat) : setTs [] d [] env = some env := by rw [setTs]
@[simp] theorem ev_setTsC (ts : List Tg) (d : Nat) (p : PV) (ps : List PV) : setTs (t :: ts) d (p :: ps) env = (setT t d p env).bind fun e => setTs ts d ps e := by rw [setTs]
@[simp] theorem ev_setS (d : Nat) (p : PV) : setS env i d p = (match env[i]? with | some o => if frB o = true then some (env.set i (some ⟨d, false, p⟩)) else none | none => none) := by
  unfold setS
  cases env[i]? with
  | none => rfl
  | some o => cases o with
    | none => rfl
    | some s => cases h : s.pin <;> simp [frB, h]
@[simp] theorem ev_appS (dv : Nat) (p : PV) : appS env i dv p = (match env[i]? with | some (some s) => (match s.d, s.v with | d + 1, .lst ps => if decide (ps.length < 16777216) then some (env.set i (some ⟨min d dv + 1, s.pin, .lst (ps ++ [p])⟩)) else none | _, _ => none) | _ => none) := rfl
@[simp] theorem ev_isLst : isLst env i = (match env[i]? with | some (some s) => (lstOf s.v).isSome | _ => false) := rfl
@[simp] theorem ev_mTry (cl : List Cl) : mTry sb cl env = tryR (sb env) cl := rfl
@[simp] theorem ev_tryO (cl : List Cl) (f : Fl) : tryR (.ok f) cl = .ok f := rfl
@[simp] theorem ev_tryX (cl : List Cl) (x : Xn) (e : LEnv) : tryR (.exc (x, e)) cl = handle cl x e := rfl
end
@[simp] theorem ev_gAdd (i j : Int) : gAdd (.int i) (.int j) = some (.int (i + j)) := rfl
@[simp] theorem ev_gSub (i j : Int) : gSub (.int i) (.int j) = some (.int (i - j)) := rfl
@[simp] theorem ev_gMul (i j : Int) : gMul (.int i) (.int j) = if cMul i j then some (.int (i * j)) else none := rfl
@[simp] theorem ev_gDiv (i j : Int) : gDiv (.int i) (.int j) = if cDiv i j then some (.int (i.fdiv j)) else none := rfl
@[simp] theorem ev_gMod (i j : Int) : gMod (.int i) (.int j) = if cMod i j then some (.int (i.fmod j)) else none := rfl
@[simp] theorem ev_gLt (i j : Int) : gLt (.int i) (.int j) = some (.bl (decide (i < j))) := by unfold gLt; unfold gI; simp [ltZ_eq]
@[simp] theorem ev_gLe (i j : Int) : gLe (.int i) (.int j) = some (.bl (decide (i ≤ j))) := by unfold gLe; unfold gI; simp [leZ_eq]
@[simp] theorem ev_gGt (i j : Int) : gGt (.int i) (.int j) = some (.bl (decide (j < i))) := by unfold gGt; unfold gI; simp [ltZ_eq]
@[simp] theorem ev_gGe (i j : Int) : gGe (.int i) (.int j) = some (.bl (decide (j ≤ i))) := by unfold gGe; unfold gI; simp [leZ_eq]
@[simp] theorem ev_gEqI (i j : Int) : gEqI (.int i) (.int j) = some (.bl (decide (i = j))) := rfl
@[simp] theorem ev_gNeI (i j : Int) : gNeI (.int i) (.int j) = some (.bl (!decide (i = j))) := rfl
@[simp] theorem ev_gNeg (i : Int) : gNeg (.int i) = some (.int (-i)) := rfl
@[simp] theorem ev_gAbs (i : Int) : gAbs [.int i] = some (.int (i.natAbs : Int)) := rfl
@[simp] theorem ev_gInt (i : Int) : gInt [.int i] = some (.int i) := rfl
@[simp] theorem ev_gLenL (l : List PV) : gLen [.lst l] = some (.int (l.length : Int)) := rfl
@[simp] theorem ev_gLenT (l : List PV) : gLen [.tup l] = some (.int (l.length : Int)) := rfl
@[simp] theorem ev_gLenK (l : List PV) : gLen [.ktp l] = some (.int (l.length : Int)) := rfl
@[simp] theorem ev_gLenS (l : List PV) : gLen [.scr l] = some (.int (l.length : Int)) := rfl
@[simp] theorem ev_gIxL (l : List PV) (i : Int) : gIxL (.lst l) (.int i) = atI l i := rfl
@[simp] theorem ev_gIxS (l : List PV) (i : Int) : gIxL (.scr l) (.int i) = atI l i := rfl
@[simp] theorem ev_gIxT (l : List PV) (i : Int) : gIxT (.tup l) (.int i) = atI l i := rfl
@[simp] theorem ev_gIxK (l : List PV) (i : Int) : gIxT (.ktp l) (.int i) = atI l i := rfl
@[simp] theorem ev_gList (l : List PV) : gList [.lst l] = some l := rfl
@[simp] theorem ev_gNotV (b : Bool) : gNotV (.bl b) = some (.bl (!b)) := rfl
@[simp] theorem ev_hInt (i : Int) : hgt (.int i) = 0 := by rw [hgt]; all_goals simp
@[simp] theorem ev_hBl (b : Bool) : hgt (.bl b) = 0 := by rw [hgt]; all_goals simp
@[simp] theorem ev_hStr (x : Str) : hgt (.str x) = 0 := by rw [hgt]; all_goals simp
@[simp] theorem ev_hNon : hgt .non = 0 := by rw [hgt]; all_goals simp
@[simp] theorem ev_hTup (l : List PV) : hgt (.tup l) = hgts l := by rw [hgt]
@[simp] theorem ev_hKtp (l : List PV) : hgt (.ktp l) = hgts l := by rw [hgt]
@[simp] theorem ev_hLst (l : List PV) : hgt (.lst l) = hgts l + 1 := by rw [hgt]
@[simp] theorem ev_hScr (l : List PV) : hgt (.scr l) = hgts l + 1 := by rw [hgt]
@[simp] theorem ev_hNil : hgts [] = 0 := by rw [hgts]
@[simp] theorem ev_hCons (p : PV) (l : List PV) : hgts (p :: l) = max (hgt p) (hgts l) := by rw [hgts]
@[simp] theorem hgts_ints : ∀ l : List Int, hgts (l.map .int) = 0
  | [] => by simp
  | i :: l => by simp [hgts_ints l]
theorem hgts_app : ∀ l m : List PV, hgts (l ++ m) = max (hgts l) (hgts m)
  | [], m => by simp
  | p :: l, m => by simp [hgts_app l m]
@[simp] theorem mul_ok {i j : Int} (h : i.natAbs < 18446744073709551616 ∨ j.natAbs < 18446744073709551616) : cMul i j = true := by
  unfold cMul; rcases h with h | h <;> simp [h]
theorem div_ok {i j : Int} (h : j ≠ 0) (h2 : j.natAbs < 1073741824) : cDiv i j = true := by unfold cDiv; simp [h, h2]
theorem mod_ok {i j : Int} (h : j ≠ 0) : cMod i j = true := by unfold cMod; simp [h]
theorem rng_ok {j : Int} (h : 0 ≤ j) (h2 : j < 4611686018427387904) : rngOk j = true := decide_eq_true (by omega)
theorem run_rt {n d : Nat} {b : MS} {ps : List PV} {p : PV} {e : LEnv} (h : b (slotsOf n ps) = .ok (.rt d p e)) : runM n b ps = .ok (d, p) := by unfold runM; rw [h]
theorem atI_of {α : Type} {xs : List α} {i : Int} {j : Nat} {x : α} (hi : i = (j : Int)) (h : xs[j]? = some x) : atI xs i = some x := by
  subst hi
  have hl : j < xs.length := (List.getElem?_eq_some_iff.1 h).1
  unfold atI ixN
  rw [if_pos (by omega), if_pos (by omega)]
  simpa using h
theorem rngs_succ (lo : Int) (n : Nat) : rngs lo (n + 1) = .int lo :: rngs (lo + 1) n := by
  unfold rngs
  rw [List.range_succ_eq_map, List.map_cons, List.map_map]
  congr 1
  · simp
  · apply List.map_congr_left
    intro i _
    simp [Function.comp]; omega
@[simp] theorem rngs_zero (lo : Int) : rngs lo 0 = [] := rfl

/-! ### equality -/
mutual
theorem eqv_refl : ∀ d : PyData, d.canLay0 = true → PyData.eqv d d = true
  | .none, _ => by rw [PyData.eqv]
  | .bool b, _ => by rw [PyData.eqv]; simp
  | .int i, _ => by rw [PyData.eqv]; simp
  | .str x, _ => by rw [PyData.eqv]; simp
  | .list xs, h => by rw [PyData.eqv]; rw [PyData.canLay0] at h; exact eqvAll_refl xs h
  | .tuple xs, h => by rw [PyData.eqv]; rw [PyData.canLay0] at h; exact eqvAll_refl xs h
  | .dict _, h => by rw [PyData.canLay0] at h; cases h
theorem eqvAll_refl : ∀ d : List PyData, PyData.canLayAll0 d = true → PyData.eqvAll d d = true
  | [], _ => by rw [PyData.eqvAll]
  | x :: xs, h => by
    rw [PyData.canLayAll0, Bool.and_eq_true] at h
    rw [PyData.eqvAll, eqv_refl x h.1, eqvAll_refl xs h.2]; rfl
end
/-- a plain value that == can be asked of -/
def pyOk (p : PV) : Prop := ∃ d, py p = some d ∧ SeqAt.shaped d = true
theorem gEq_same {p : PV} (h : pyOk p) : gEq p p = some (.bl true) := by
  obtain ⟨d, e, s⟩ := h
  unfold gEq gPy
  rw [e]
  simp only [s, Bool.and_self, if_true, eqv_refl d (SeqAt.canLay_of_shaped s)]
theorem gNe_same {p : PV} (h : pyOk p) : gNe p p = some (.bl false) := by
  obtain ⟨d, e, s⟩ := h
  unfold gNe gPy
  rw [e]
  simp only [s, Bool.and_self, if_true, eqv_refl d (SeqAt.canLay_of_shaped s), Bool.not_true]
theorem pys_ints : ∀ l : List Int, pys (l.map .int) = some (l.map .int)
  | [] => by rw [List.map_nil, pys]; rfl
  | i :: l => by rw [List.map_cons, pys, py, pys_ints l]; rfl
theorem lay_ints : ∀ l : List Int, PyData.canLayAll0 (l.map .int) = true
  | [] => rfl
  | i :: l => by rw [List.map_cons, PyData.canLayAll0, lay_ints l]; rfl
theorem dep_ints : ∀ l : List Int, PyData.depthAll (l.map .int) = 0
  | [] => rfl
  | i :: l => by rw [List.map_cons, PyData.depthAll, dep_ints l]; rfl
@[simp] theorem ev_size (n : Nat) : M.sizeOk n = decide (n ≤ 16777216) := rfl
@[simp] theorem ev_gI (C : Int → Int → Bool) (f : Int → Int → PV) (i j : Int) : gI C f (.int i) (.int j) = if C i j then some (f i j) else none := rfl
end M

set_option Elab.async false
set_option linter.all false
set_option maxRecDepth 100000
set_option maxHeartbeats 4000000
/-! slices, in, chains, is, tuple(..) -/
namespace M
open PySem PySem.Spec PyProof.Rows L2

/-! ### xs[lo:hi] -/
def cutN (n d : Nat) : Option Int → Nat
  | none => d
  | some v => if v < 0 then (v + (n : Int)).toNat else min v.toNat n
theorem cutN_eq (n d : Nat) (o : Option Int) : cutN n d o = HT.sIx n d o := by cases o <;> rfl
def cutP (xs : List PV) (lo hi : Option Int) : List PV := (xs.drop (cutN xs.length 0 lo)).take (cutN xs.length xs.length hi - cutN xs.length 0 lo)
def tSPO (K : PySem.W.Frag) (mg : Str → Option Value) (W : WX) (m : MP (Option Int)) : TO := fun σ H Q => ∃ env, Sees K mg H env σ ∧ wpP W K mg σ H (m env) fun o H' => Q o H'
def SPO (X : Cx) (W : WX) (e : Option Expr) (m : MP (Option Int)) : Prop := PO X e (tSPO X.K X.mg W m)
def mON : MP (Option Int) := fun _ => .ok none
def mOS (m : MP PV) : MP (Option Int) := fun env => (m env).bind fun p => match p with
  | .int i => .ok (some i)
  | _ => .stuck
theorem _root_.L2.PO.weak {X : Cx} {e : Option Expr} {t t' : TO} (h : PO X e t) (w : ∀ σ H Q, t' σ H Q → t σ H Q) : PO X e t' := ⟨fun pins s σ H Q I q => h.run pins s σ H Q I (w σ H Q q)⟩
section
variable {X : Cx} {W : WX} {a b c e : Expr} {lo hi : Option Expr} {pos p p2 : Pos} {m ma mb mc : MP PV} {ml mh : MP (Option Int)}
theorem spo_none : SPO X W none mON := po_none.weak fun σ H Q ⟨env, s, w⟩ => w H (.refl H)
theorem spo_some (h : SP X W e m) : SPO X W (some e) (mOS m) := (po_some h).weak fun σ H Q ⟨env, s, w⟩ =>
  tsp_bind (k := fun env p => match p with | .int i => .ok (some i) | _ => .stuck) s w fun p x H1 g r s1 w1 => by
    cases r with
    | int i => exact ⟨i, rfl, w1 H1 (.refl _)⟩
    | _ => exact w1.elim
def mSlc (m : MP PV) (ml mh : MP (Option Int)) : MP (List PV) := fun env => (m env).bind fun p => (ml env).bind fun l => (mh env).bind fun h => ofO ((lstOf p).map fun ps => cutP ps l h)
theorem Reps.cut {K : PySem.W.Frag} {mg : Str → Option Value} {H : Hp} : ∀ {vs : List V} {ps : List PV}, Reps K mg H vs ps → ∀ i k, Reps K mg H ((vs.drop i).take k) ((ps.drop i).take k)
  | _, _, .nil, i, k => by simp; exact .nil
  | _, _, .cons r1 r2, 0, 0 => by simp; exact .nil
  | _, _, .cons r1 r2, 0, k + 1 => by
    simp only [List.drop_zero, List.take_succ_cons]
    have := Reps.cut r2 0 k
    simp only [List.drop_zero] at this
    exact .cons r1 this
  | _, _, .cons r1 r2, i + 1, k => by simp only [List.drop_succ_cons]; exact Reps.cut r2 i k
theorem sp_slc (ha : SP X W e m) (hl : SPO X W lo ml) (hh : SPO X W hi mh) : SPF X W (.Subscript e (.Slice lo hi none p2) pos) (mSlc m ml mh) := (pe_slice sl_list ha hl hh).weak fun σ H Q ⟨env, s, w⟩ =>
  tsp_bind (k := fun env p => (ml env).bind fun l => (mh env).bind fun h => ofO ((lstOf p).map fun ps => cutP ps l h)) s w fun p x H1 g r s1 w1 =>
    ⟨env, s1, wpP_mono (wpP_bind w1) fun l H2 g2 w2 => ⟨env, s1.grow g2, wpP_mono (wpP_bind w2) fun h H3 g3 w3 => by
      obtain ⟨z, ez, q⟩ := wpP_ofO w3
      have r3 := r.grow (g2.trans g3)
      cases r3 with
      | lst hs hr =>
        cases ez
        refine ⟨_, _, rfl, hs.sq, fun p hp => q H3 (.refl _) _ p ?_ hp⟩
        show Reps X.K X.mg H3 (cutV _ l h) (cutP _ l h)
        unfold cutP cutV
        rw [cutN_eq, cutN_eq, ← hr.length]
        exact hr.cut _ _
      | _ => cases ez⟩⟩

/-! ### in a list or tuple of plain things -/
def scV : PV → Option V
  | .non => some .non
  | .bl b => some (.bl b)
  | .int i => some (.int i)
  | .str x => some (.str x)
  | _ => none
def scVs : List PV → Option (List V)
  | [] => some []
  | p :: ps => match scV p with
    | none => none
    | some v => match scVs ps with
      | none => none
      | some vs => some (v :: vs)
def seqOf : PV → Option (List PV)
  | .lst ps => some ps
  | .tup ps => some ps
  | .ktp ps => some ps
  | .scr ps => some ps
  | _ => none
def gInS (neg : Bool) (p q : PV) : Option PV := match scV p with
  | none => none
  | some x => match seqOf q with
    | none => none
    | some ps => match scVs ps with
      | none => none
      | some xs => some (.bl (if neg then !inV x xs else inV x xs))
end
section
variable {K : PySem.W.Frag} {mg : Str → Option Value}
theorem scV_rep {H : Hp} {v x : V} {p : PV} (r : Rep K mg H v p) (e : scV p = some x) : v = x ∧ flatV x = true := by
  cases r <;> cases e <;> exact ⟨rfl, rfl⟩
theorem scVs_rep {H : Hp} : ∀ {vs xs : List V} {ps : List PV}, Reps K mg H vs ps → scVs ps = some xs → vs = xs ∧ xs.all flatV = true
  | _, _, _, .nil, e => by cases e; exact ⟨rfl, rfl⟩
  | _, _, _, .cons r1 r2, e => by
    rw [scVs] at e
    split at e
    · cases e
    · rename_i h1
      split at e
      · cases e
      · rename_i h2
        cases e
        obtain ⟨rfl, f1⟩ := scV_rep r1 h1
        obtain ⟨rfl, f2⟩ := scVs_rep r2 h2
        exact ⟨rfl, by rw [List.all_cons, f1, f2]; rfl⟩
theorem v_inS (neg : Bool) : VOp K mg (rIn K neg) (gInS neg) := fun H x y p q z Q r1 r2 e h => by
  unfold gInS at e
  split at e
  · cases e
  · rename_i v hv
    split at e
    · cases e
    · rename_i ps hq
      split at e
      · cases e
      · rename_i xs hx
        cases e
        obtain ⟨rfl, f1⟩ := scV_rep r1 hv
        cases r2 with
        | lst hs hr =>
          cases hq
          obtain ⟨rfl, f2⟩ := scVs_rep hr hx
          exact ⟨_, _, rfl, .inl hs.sq, f1, f2, h _ H (.refl H) (.bl _)⟩
        | tup hs hr =>
          cases hq
          obtain ⟨rfl, f2⟩ := scVs_rep hr hx
          exact ⟨_, _, rfl, .inr (SqT.of hs), f1, f2, h _ H (.refl H) (.bl _)⟩
        | ktp hs hr =>
          cases hq
          obtain ⟨rfl, f2⟩ := scVs_rep hr hx
          exact ⟨_, _, rfl, .inr (.inr hs), f1, f2, h _ H (.refl H) (.bl _)⟩
        | scr hs hr =>
          cases hq
          obtain ⟨rfl, f2⟩ := scVs_rep hr hx
          exact ⟨_, _, rfl, .inl hs, f1, f2, h _ H (.refl H) (.bl _)⟩
        | _ => cases hq
/-! ### is None -/
def isNon : PV → Bool
  | .non => true
  | _ => false
def gIsN : PV → PV → Option PV
  | p, .non => some (.bl (isNon p))
  | _, _ => none
def gNotN : PV → PV → Option PV
  | p, .non => some (.bl (!isNon p))
  | _, _ => none
theorem isNon_rep {H : Hp} {v : V} {p : PV} (r : Rep K mg H v p) : isNon p = decide (v = .non) := by
  cases r <;> simp [isNon]
theorem v_isN : VOp K mg (fun x y H Q => y = .non ∧ Q (.bl (decide (x = .non))) H) gIsN := fun H x y p q z Q r1 r2 e h => by
  cases r2 <;> cases e
  exact ⟨rfl, by rw [← isNon_rep r1]; exact h _ H (.refl H) (.bl _)⟩
theorem v_notN : VOp K mg (fun x y H Q => y = .non ∧ Q (.bl (!decide (x = .non))) H) gNotN := fun H x y p q z Q r1 r2 e h => by
  cases r2 <;> cases e
  exact ⟨rfl, by rw [← isNon_rep r1]; exact h _ H (.refl H) (.bl _)⟩
/-! ### tuple(x), min, max -/
def gTupOf : List PV → Option PV
  | [.lst ps] => some (.tup ps)
  | [.tup ps] => some (.tup ps)
  | [.ktp ps] => some (.ktp ps)
  | _ => none
theorem v_tupOf : COp K mg (fun xs H Q => ∃ p ys, xs = [V.ref p] ∧ ((SqL K H p ys ∧ ∀ l, H l = none → Q (.ref l) (upd H l (.tup ys))) ∨ (SqT K H p ys ∧ Q (.ref p) H))) gTupOf := fun H xs ps z Q r e h => by
  unfold gTupOf at e
  split at e
  · cases e
    cases r with
    | cons r1 r2 => cases r1; cases r2; rename_i hs hr; exact ⟨_, _, rfl, .inl ⟨hs.sq, fun l hl => h _ _ (Grow.upd hl) (.tup upd_same (hr.grow (Grow.upd hl)))⟩⟩
  · cases e
    cases r with
    | cons r1 r2 => cases r1; cases r2; rename_i hs hr; exact ⟨_, _, rfl, .inr ⟨SqT.of hs, h _ H (.refl H) (.tup hs hr)⟩⟩
  · cases e
    cases r with
    | cons r1 r2 => cases r1; cases r2; rename_i hs hr; exact ⟨_, _, rfl, .inr ⟨.inr hs, h _ H (.refl H) (.ktp hs hr)⟩⟩
  · cases e
def gMin : List PV → Option PV
  | [.int i, .int j] => some (.int (if ltZ j i then j else i))
  | _ => none
def gMax : List PV → Option PV
  | [.int i, .int j] => some (.int (if ltZ i j then j else i))
  | _ => none
theorem v_min : COp K mg (fun xs H Q => ∃ i j, xs = [V.int i, V.int j] ∧ Q (.int (if j < i then j else i)) H) gMin := fun H xs ps z Q r e h => by
  unfold gMin at e
  split at e
  · rename_i i j
    cases e
    cases r with
    | cons r1 r2 => cases r1; cases r2 with
      | cons r3 r4 => cases r3; cases r4; refine ⟨i, j, rfl, ?_⟩; have q := h _ H (.refl H) (.int _); simp only [ltZ_eq, decide_eq_true_eq] at q; exact q
  · cases e
theorem v_max : COp K mg (fun xs H Q => ∃ i j, xs = [V.int i, V.int j] ∧ Q (.int (if j > i then j else i)) H) gMax := fun H xs ps z Q r e h => by
  unfold gMax at e
  split at e
  · rename_i i j
    cases e
    cases r with
    | cons r1 r2 => cases r1; cases r2 with
      | cons r3 r4 => cases r3; cases r4; refine ⟨i, j, rfl, ?_⟩; have q := h _ H (.refl H) (.int _); simp only [ltZ_eq, decide_eq_true_eq] at q; exact q
  · cases e
end
section
variable {X : Cx} {W : WX} {a b c e : Expr} {pos p p2 : Pos} {m ma mb mc : MP PV}
/-! ### a < b < c -/
def mChain (g g' : PV → PV → Option PV) (ma mb mc : MP PV) : MP PV := fun env => (ma env).bind fun p => (mb env).bind fun q => (ofO (g p q)).bind fun z => match z with
  | .bl k => if k = true then (mc env).bind fun r => ofO (g' q r) else .ok (.bl false)
  | _ => .stuck
theorem sp_chain {op op' : CmpOp} {r r' : R2} {g g' : PV → PV → Option PV} (ho : OpR X (compareOp op) r) (hg : VOp X.K X.mg r g) (ho' : OpR X (compareOp op') r') (hg' : VOp X.K X.mg r' g') (ha : SP X W a ma) (hb : SP X W b mb) (hc : SP X W c mc)
    (hm : lastMarks [op, op'] [b, c] = false := by with_unfolding_all rfl) : SP X W (.Compare a [op, op'] [b, c] pos) (mChain g g' ma mb mc) := by
  refine (pe_chain ho ho' ha hb hc hm).weak fun σ H Q ⟨env, s, w⟩ => ?_
  refine tsp_bind (k := fun env p => (mb env).bind fun q => (ofO (g p q)).bind fun z => match z with | .bl k => if k = true then (mc env).bind fun r => ofO (g' q r) else .ok (.bl false) | _ => .stuck) s w fun p x H1 g1 r1 s1 w1 => ?_
  refine tsp_bind (k := fun env q => (ofO (g p q)).bind fun z => match z with | .bl k => if k = true then (mc env).bind fun r => ofO (g' q r) else .ok (.bl false) | _ => .stuck) s1 w1 fun q y H2 g2 r2 s2 w2 => ?_
  obtain ⟨z, ez, q2⟩ := wpP_ofO (wpP_bind w2)
  refine hg H2 x y p q z _ (r1.grow g2) r2 ez fun v H3 g3 rv => ?_
  have w3 := q2 H3 g3
  cases rv with
  | bl k =>
    refine ⟨k, rfl, ?_⟩
    cases k with
    | false => exact w3 H3 (.refl _) _ (.bl _)
    | true =>
      refine tsp_bind (k := fun env r => ofO (g' q r)) (s2.grow g3) w3 fun r' y' H4 g4 r4 s4 w4 => ?_
      obtain ⟨z', ez', q4⟩ := wpP_ofO w4
      exact hg' H4 y y' q r' z' Q (r2.grow (g3.trans g4)) r4 ez' fun v H5 g5 rv => q4 H5 g5 v rv
  | _ => exact w3.elim
theorem spt_of {e : Expr} (h : PT X e (tTest (tSP X.K X.mg W m))) : SPT X W e (mTst m) := h.weak fun σ H Q ⟨env, s, w⟩ => tsp_bind (k := fun env p => match p with | .bl b => .ok b | _ => .stuck) s w fun p x H1 g r s1 w1 => by
  cases r with
  | bl k => exact ⟨k, rfl, w1 H1 (Grow.refl _)⟩
  | _ => exact w1.elim
end
end M

set_option Elab.async false
set_option linter.all false
set_option maxRecDepth 100000
set_option maxHeartbeats 4000000
/-! dicts, read -/
namespace M
open PySem PySem.Spec PyProof.Rows L2

/-! ### keys -/
def keyK : PV → Option Key
  | .int i => some (.inl i)
  | .str x => some (.inr x)
  | _ => none
def keysK : List PV → Option (List Key)
  | [] => some []
  | p :: r => match keyK p with
    | none => none
    | some k => match keysK r with
      | none => none
      | some ks => some (k :: ks)
/-- a key for a dict of this kind -/
def isKey : Bool → PV → Bool
  | false, p => (keyK p).isSome
  | true, .tup ps => (keysK ps).isSome
  | true, _ => false
def keq1 : PV → PV → Bool
  | .int i, .int j => decide (i = j)
  | .str x, .str y => decide (x = y)
  | _, _ => false
def keqs : List PV → List PV → Bool
  | [], [] => true
  | p :: ps, q :: qs => keq1 p q && keqs ps qs
  | _, _ => false
def keq : PV → PV → Bool
  | .tup xs, .tup ys => keqs xs ys
  | p, q => keq1 p q
def look (kvs : List (PV × PV)) (k : PV) : Option PV := (kvs.find? fun kv => keq kv.1 k).map (·.2)
def dput (kvs : List (PV × PV)) (k v : PV) : List (PV × PV) :=
  if (kvs.any fun kv => keq kv.1 k) = true then kvs.map (fun kv => if keq kv.1 k = true then (kv.1, v) else kv) else kvs ++ [(k, v)]
theorem keyK_some {p : PV} {k : Key} (e : keyK p = some k) : p = kP k := by
  unfold keyK at e
  split at e <;> cases e <;> rfl
theorem keysK_some : ∀ {ps : List PV} {ks : List Key}, keysK ps = some ks → ps = ks.map kP
  | [], _, e => by cases e; rfl
  | p :: r, ks, e => by
    rw [keysK] at e
    split at e
    · cases e
    · rename_i k h1
      split at e
      · cases e
      · rename_i ks' h2
        cases e
        rw [keyK_some h1, keysK_some h2]; rfl
theorem keq_k (a b : Key) : keq (kP a) (kP b) = decide (a = b) := by
  cases a <;> cases b <;> simp [kP, keq, keq1]
theorem keqs_k : ∀ a b : List Key, keqs (a.map kP) (b.map kP) = decide (a = b)
  | [], [] => by simp [keqs]
  | [], _ :: _ => by simp [keqs]
  | _ :: _, [] => by simp [keqs]
  | x :: a, y :: b => by
    have h : keq1 (kP x) (kP y) = decide (x = y) := by cases x <;> cases y <;> simp [kP, keq1]
    rw [List.map_cons, List.map_cons, keqs, h, keqs_k a b]
    by_cases e : x = y <;> simp [e]
theorem keq_t (a b : List Key) : keq (kPs a) (kPs b) = decide (a = b) := keqs_k a b
section
variable {K : PySem.W.Frag} {mg : Str → Option Value} {H : Hp}
theorem look_rel {κ : Type} [DecidableEq κ] {f : κ → PV} (hf : ∀ a b, keq (f a) (f b) = decide (a = b)) (k : κ) : ∀ {es : List (κ × V)} {kvs : List (PV × PV)}, es.map (fun e => f e.1) = kvs.map (·.1) → Reps K mg H (es.map (·.2)) (kvs.map (·.2)) →
    (look kvs (f k) = none ∧ valV es k = none) ∨ ∃ p v, look kvs (f k) = some p ∧ valV es k = some v ∧ Rep K mg H v p
  | [], [], _, _ => .inl ⟨rfl, rfl⟩
  | [], _ :: _, e, _ => by simp at e
  | _ :: _, [], e, _ => by simp at e
  | (a, v) :: es, (b, p) :: kvs, e, r => by
    rw [List.map_cons, List.map_cons] at e r
    obtain ⟨e1, e2⟩ := List.cons.inj e
    cases r with
    | cons r1 r2 =>
      have e1' : f a = b := e1
      subst e1'
      by_cases h : a = k
      · subst h
        refine .inr ⟨p, v, ?_, valV_pos rfl, r1⟩
        unfold look
        rw [List.find?_cons, hf, decide_eq_true rfl]; rfl
      · rcases look_rel hf k e2 r2 with ⟨h1, h2⟩ | ⟨p', v', h1, h2, h3⟩
        · refine .inl ⟨?_, (valV_neg h).trans h2⟩
          unfold look at h1 ⊢
          rw [List.find?_cons, hf, decide_eq_false h]; exact h1
        · refine .inr ⟨p', v', ?_, (valV_neg h).trans h2, h3⟩
          unfold look at h1 ⊢
          rw [List.find?_cons, hf, decide_eq_false h]; exact h1
/-- what a dict holds at a key -/
theorem dget_rel {x y : V} {t : Bool} {kvs : List (PV × PV)} {k : PV} (r : Rep K mg H x (.dct t kvs)) (rk : Rep K mg H y k) (hk : isKey t k = true) :
    ∃ a o, x = .ref a ∧ DGet H a y o ∧ ((look kvs k = none ∧ o = none) ∨ ∃ p v, look kvs k = some p ∧ o = some v ∧ Rep K mg H v p) := by
  cases r with
  | dK h e1 e2 r =>
    subst e2
    obtain ⟨key, hkey⟩ := Option.isSome_iff_exists.1 hk
    have ek := keyK_some hkey
    subst ek
    have ey : y = kV key := by cases key <;> (cases rk; rfl)
    subst ey
    rcases look_rel (f := kP) keq_k key e1 r with ⟨h1, h2⟩ | ⟨p, v, h1, h2, h3⟩
    · exact ⟨_, none, rfl, by rw [← h2]; exact .k h, .inl ⟨h1, rfl⟩⟩
    · exact ⟨_, some v, rfl, by rw [← h2]; exact .k h, .inr ⟨p, v, h1, rfl, h3⟩⟩
  | dT h e1 e2 r =>
    subst e2
    unfold isKey at hk
    split at hk
    · rename_i ht; cases ht
    · rename_i ps
      obtain ⟨keys, hkey⟩ := Option.isSome_iff_exists.1 hk
      have ek := keysK_some hkey
      subst ek
      cases rk with
      | tup hb rb =>
        have ev : ∀ {vs : List V} {ks : List Key}, Reps K mg H vs (ks.map kP) → vs = ks.map kV := by
          intro vs ks
          induction ks generalizing vs with
          | nil => intro r; cases r; rfl
          | cons k ks ih =>
            intro r
            rw [List.map_cons] at r
            cases r with
            | cons r1 r2 =>
              rw [ih r2]
              cases k <;> (cases r1; rfl)
        have e := ev rb
        subst e
        rcases look_rel (f := kPs) keq_t keys e1 r with ⟨h1, h2⟩ | ⟨p, v, h1, h2, h3⟩
        · exact ⟨_, none, rfl, by rw [← h2]; exact .t h hb, .inl ⟨h1, rfl⟩⟩
        · exact ⟨_, some v, rfl, by rw [← h2]; exact .t h hb, .inr ⟨p, v, h1, rfl, h3⟩⟩
    · cases hk
theorem isD_rep {x : V} {t : Bool} {kvs : List (PV × PV)} (r : Rep K mg H x (.dct t kvs)) : ∃ a, x = .ref a ∧ IsD H a := by
  cases r with
  | dK h _ _ _ => exact ⟨_, rfl, .inl ⟨_, .inl h⟩⟩
  | dT h _ _ _ => exact ⟨_, rfl, .inr ⟨_, .inl h⟩⟩
end

/-- d[k] -/
def gDGet : PV → PV → Option PV
  | .dct t kvs, k => if isKey t k = true then look kvs k else none
  | _, _ => none
/-- k in d -/
def gDIn (neg : Bool) (k d : PV) : Option PV := match d with
  | .dct t kvs => if isKey t k = true then some (.bl (if neg then !(look kvs k).isSome else (look kvs k).isSome)) else none
  | _ => none
/-- d.get(k, x) -/
def gDGetD : PV → PV → PV → Option PV
  | .dct t kvs, k, x => if isKey t k = true then some ((look kvs k).getD x) else none
  | _, _, _ => none
section
variable {X : Cx} {W : WX} {o e f : Expr} {apos cpos pos p2 : Pos} {m ma mb mc : PV → PV} {md mk mx : MP PV}
theorem sp_dget (hu : X.A.units + 1 < cLine) (ho : SP X W o md) (hi : SP X W e mk) (hs : NoSl e := by exact fun _ _ => rfl) : SP X W (.Subscript o e pos) (mBin gDGet md mk) := by
  refine (pe_dget hu ho hi hs).weak fun σ H Q ⟨env, s, w⟩ => ?_
  refine tsp_bind (k := fun env p => (mk env).bind fun q => ofO (gDGet p q)) s w fun p x H1 g1 r1 s1 w1 => ?_
  refine tsp_bind (k := fun env q => ofO (gDGet p q)) s1 w1 fun q y H2 g2 r2 s2 w2 => ?_
  obtain ⟨z, ez, q2⟩ := wpP_ofO w2
  have r1' := r1.grow g2
  unfold gDGet at ez
  split at ez
  · split at ez
    · rename_i hk
      obtain ⟨a, ov, ex, dg, h⟩ := dget_rel r1' r2 hk
      rcases h with ⟨h1, _⟩ | ⟨p', v, h1, eo, rv⟩
      · rw [h1] at ez; cases ez
      · rw [h1] at ez
        cases ez
        subst eo
        exact ⟨a, v, ex, dg, q2 H2 (.refl _) v rv⟩
    · cases ez
  · cases ez
theorem din_te {neg : Bool} {σ : L2.St} {H : Hp} {Q : VK} (h : tSP X.K X.mg W (mBin (gDIn neg) mk md) σ H Q) : tSP X.K X.mg W mk σ H fun y H1 => tSP X.K X.mg W md σ H1 fun x H2 => ∃ a o, x = .ref a ∧ DGet H2 a y o ∧ Q (.bl (if neg then !o.isSome else o.isSome)) H2 := by
  obtain ⟨env, s, w⟩ := h
  refine tsp_bind (k := fun env p => (md env).bind fun q => ofO (gDIn neg p q)) s w fun p x H1 g1 r1 s1 w1 => ?_
  refine tsp_bind (k := fun env q => ofO (gDIn neg p q)) s1 w1 fun q y H2 g2 r2 s2 w2 => ?_
  obtain ⟨z, ez, q2⟩ := wpP_ofO w2
  unfold gDIn at ez
  split at ez
  · rename_i t kvs
    split at ez
    · rename_i hk
      cases ez
      obtain ⟨a, ov, ex, dg, h⟩ := dget_rel r2 (r1.grow g2) hk
      refine ⟨a, ov, ex, dg, ?_⟩
      have e : (look kvs p).isSome = ov.isSome := by
        rcases h with ⟨h1, e⟩ | ⟨p', v, h1, e, _⟩ <;> rw [h1, e] <;> rfl
      rw [← e]
      exact q2 H2 (.refl _) _ (.bl _)
    · cases ez
  · cases ez
theorem spc_din (hu : X.A.units + 1 < cLine) (hi : SP X W e mk) (ho : SP X W o md) (h1 : behindInMarks .In o = false := by rfl) : SP X W (.Compare e [.In] [o] pos) (mBin (gDIn false) mk md) := (pe_cmp (pc_din hu hi ho) h1).weak fun σ H Q h => din_te h
theorem spc_dnotin (hu : X.A.units + 1 < cLine) (hi : SP X W e mk) (ho : SP X W o md) (h1 : behindInMarks .NotIn o = false := by rfl) : SP X W (.Compare e [.NotIn] [o] pos) (mBin (gDIn true) mk md) := (pe_cmp (pc_dnotin hu hi ho) h1).weak fun σ H Q h => din_te h
theorem tst_te {m : MP PV} {σ : L2.St} {H : Hp} {Q : Bool → Hp → Prop} (h : tSPT X.K X.mg W (mTst m) σ H Q) : tSP X.K X.mg W m σ H fun x H' => ∃ k, x = .bl k ∧ Q k H' := by
  obtain ⟨env, s, w⟩ := h
  refine tsp_bind (k := fun env p => match p with | .bl b => .ok b | _ => .stuck) s w fun p x H1 g r s1 w1 => ?_
  cases r with
  | bl k => exact ⟨k, rfl, w1 H1 (Grow.refl _)⟩
  | _ => exact w1.elim
theorem spt_din (hu : X.A.units + 1 < cLine) (hi : SP X W e mk) (ho : SP X W o md) (h1 : behindInMarks .In o = false := by rfl) : SPT X W (.Compare e [.In] [o] pos) (mTst (mBin (gDIn false) mk md)) := (pt_cmp (pc_din hu hi ho) h1).weak fun σ H Q h => din_te (neg := false) (tst_te h)
theorem spt_dnotin (hu : X.A.units + 1 < cLine) (hi : SP X W e mk) (ho : SP X W o md) (h1 : behindInMarks .NotIn o = false := by rfl) : SPT X W (.Compare e [.NotIn] [o] pos) (mTst (mBin (gDIn true) mk md)) := (pt_cmp (pc_dnotin hu hi ho) h1).weak fun σ H Q h => din_te (neg := true) (tst_te h)
def isDct : PV → Bool
  | .dct _ _ => true
  | _ => false
theorem isDct_rep {K : PySem.W.Frag} {mg : Str → Option Value} {H : Hp} {x : V} {p : PV} (r : Rep K mg H x p) (h : isDct p = true) : ∃ a, x = .ref a ∧ IsD H a := by
  unfold isDct at h
  split at h
  · exact isD_rep r
  · cases h
theorem isD_grow {H H' : Hp} {a : Addr} (h : IsD H a) (g : Grow H H') : IsD H' a := by
  rcases h with ⟨kvs, h⟩ | ⟨kvs, h⟩
  · exact .inl ⟨kvs, Rd.grow h g⟩
  · exact .inr ⟨kvs, Rd.grow h g⟩
/-- d.get(k) -/
def mDGet1 (md mk : MP PV) : MP PV := fun env => (md env).bind fun p => if isDct p = true then (mk env).bind fun q => ofO (gDGetD p q .non) else .stuck
/-- d.get(k, x) -/
def mDGet2 (md mk mx : MP PV) : MP PV := fun env => (md env).bind fun p => if isDct p = true then (mk env).bind fun q => (mx env).bind fun z => ofO (gDGetD p q z) else .stuck
theorem sp_dget1 (hu : X.A.units + 1 < cLine) (ho : SP X W o md) (he : SP X W e mk) (m : M1 X o "get" apos e cpos) : SP X W (.Call (.Attribute o "get" apos) [e] [] cpos) (mDGet1 md mk) := by
  refine (pe_dget1 hu ho he m).weak fun σ H Q ⟨env, s, w⟩ => ?_
  refine tsp_bind (k := fun env p => if isDct p = true then (mk env).bind fun q => ofO (gDGetD p q .non) else .stuck) s w fun p x H1 g1 r1 s1 w1 => ?_
  split at w1
  case isFalse => exact w1.elim
  rename_i hd
  obtain ⟨a, ex, di⟩ := isDct_rep r1 hd
  subst ex
  refine ⟨a, rfl, di, ?_⟩
  refine tsp_bind (k := fun env q => ofO (gDGetD p q .non)) s1 w1 fun q y H2 g2 r2 s2 w2 => ?_
  obtain ⟨z, ez, q2⟩ := wpP_ofO w2
  unfold gDGetD at ez
  split at ez
  · rename_i t kvs
    split at ez
    · rename_i hk
      cases ez
      obtain ⟨a', ov, ex, dg, h⟩ := dget_rel (r1.grow g2) r2 hk
      cases ex
      refine ⟨ov, dg, ?_⟩
      rcases h with ⟨h1, e⟩ | ⟨p', v, h1, e, rv⟩
      · rw [h1] at q2; subst e
        exact q2 H2 (.refl _) _ .non
      · rw [h1] at q2; subst e
        exact q2 H2 (.refl _) _ rv
    · cases ez
  · cases ez
theorem sp_dget2 (hu : X.A.units + 1 < cLine) (ho : SP X W o md) (he : SP X W e mk) (hf : SP X W f mx) (m : M2 X o "get" apos e f cpos) : SP X W (.Call (.Attribute o "get" apos) [e, f] [] cpos) (mDGet2 md mk mx) := by
  refine (pe_dget2 hu ho he hf m).weak fun σ H Q ⟨env, s, w⟩ => ?_
  refine tsp_bind (k := fun env p => if isDct p = true then (mk env).bind fun q => (mx env).bind fun z => ofO (gDGetD p q z) else .stuck) s w fun p x H1 g1 r1 s1 w1 => ?_
  split at w1
  case isFalse => exact w1.elim
  rename_i hd
  obtain ⟨a, ex, di⟩ := isDct_rep r1 hd
  subst ex
  refine ⟨a, rfl, di, ?_⟩
  refine tsp_bind (k := fun env q => (mx env).bind fun z => ofO (gDGetD p q z)) s1 w1 fun q y H2 g2 r2 s2 w2 => ?_
  refine tsp_bind (k := fun env z => ofO (gDGetD p q z)) s2 w2 fun z y' H3 g3 r3 s3 w3 => ?_
  obtain ⟨z', ez, q2⟩ := wpP_ofO w3
  unfold gDGetD at ez
  split at ez
  · rename_i t kvs
    split at ez
    · rename_i hk
      cases ez
      obtain ⟨a', ov, ex, dg, h⟩ := dget_rel (r1.grow (g2.trans g3)) (r2.grow g3) hk
      cases ex
      refine ⟨ov, dg, ?_⟩
      rcases h with ⟨h1, e⟩ | ⟨p', v, h1, e, rv⟩
      · rw [h1] at q2; subst e
        exact q2 H3 (.refl _) _ r3
      · rw [h1] at q2; subst e
        exact q2 H3 (.refl _) _ rv
    · cases ez
  · cases ez
end
end M

set_option Elab.async false
set_option linter.all false
set_option maxRecDepth 100000
set_option maxHeartbeats 4000000
/-! a write to an object that a slot owns -/
namespace M
open PySem PySem.Spec PyProof.Rows L2

section
variable {K : PySem.W.Frag} {mg : Str → Option Value} {D : Ends} {env e : LEnv} {σ σ0 : L2.St} {τ T F T' F' f g gc : Cnt} {H H' : Hp} {i l d d0 d1 : Nat} {pin : Bool} {pv pv' q : PV} {x : V} {ho ho' : HO} {vs : List V} {ps : List PV} {W : WX}
/-- e: the slots now; slot i owns the object at l (its children: vs, ps, to depth d); x, q, to depth d1: what comes to it; ho', pv': what is written -/
theorem slot_wr (n : Now K mg H env σ σ0 τ T F) (sl : Slots K mg H' T' e σ σ0 F') (su : ∀ b, T' b = F' b + f b + τ b) (on : ∀ b, T' b ≤ 1) (fr : Frm H F H' fun b => F' b + f b)
    (es : e[i]? = some (some ⟨d0, pin, pv⟩)) (e1 : σ[i]? = some (some (.ref l))) (o : Own K mg H' T' d1 x q f)
    (hinv : ∀ g, Own K mg H' T' d0 (.ref l) pv g → ∃ vs gc, H' l = some ho ∧ Owns K mg H' T' d vs ps gc ∧ (∀ b, g b = gc b + if b = l then 1 else 0) ∧
      ∀ gc' f' : Cnt, ∀ H2 T2, Owns K mg H2 T2 (min d d1) vs ps gc' → Own K mg H2 T2 (min d d1) x q f' → H2 l = some ho' → ∃ c : Cnt, (∀ b, c b ≤ gc' b + f' b) ∧ Own K mg H2 T2 (min d d1 + 1) (.ref l) pv' (fun b => c b + if b = l then 1 else 0))
    (nst0 : ¬ Still ho) (w2 : wpS W K mg σ0 τ H F (.ok (.nx (e.set i (some ⟨min d d1 + 1, pin, pv'⟩)))) D) : D.nx σ (upd H' l ho') := by
  obtain ⟨v, g, G, ev, og, slG, hG, hp⟩ := sl.get es
  rw [e1] at ev; cases ev
  obtain ⟨vs, gc, hH, oc, hg, mk⟩ := hinv g og
  have ga : g l = gc l + 1 := by rw [hg, if_pos rfl]
  have t1 := on l
  have t2 := su l
  have t3 := hG l
  have nst : ∀ y, H' l = some y → ¬ Still y := fun y ey => by rw [hH] at ey; cases ey; exact nst0
  have u2 : ∀ b, G b + g b + f b + τ b ≤ 1 := fun b => by have := su b; have := on b; have := hG b; omega
  obtain ⟨gc', l1, k1⟩ := oc.low (fun b => by have := u2 b; have := hg b; omega) (Nat.min_le_left d d1)
  obtain ⟨f', l2, k2⟩ := o.low (fun b => by have := u2 b; omega) (Nat.min_le_right d d1)
  obtain ⟨c, hc⟩ : ∃ c : Cnt, ∀ b, c b = gc' b + f' b := ⟨fun b => gc' b + f' b, fun _ => rfl⟩
  -- the new counts
  have cz : ∀ b, gc b ≤ g b := fun b => by rw [hg]; omega
  let T2 : Cnt := fun b => G b + (c b + if b = l then 1 else 0) + τ b
  have tl : ∀ b, T2 b ≤ T' b := fun b => by
    show G b + (c b + if b = l then 1 else 0) + τ b ≤ T' b
    have := su b; have := hG b; have := hg b; have := l1 b; have := l2 b; have := hc b; omega
  have o1 : Owns K mg H' T2 (min d d1) vs ps gc' := k1 T2 tl fun b z z' => by
    show G b + (c b + if b = l then 1 else 0) + τ b = 0
    have := u2 b; have := hg b; have := l2 b; have := hc b
    by_cases hb : b = l
    · subst hb; rw [if_pos rfl] at this; omega
    · rw [if_neg hb]; rw [if_neg hb] at *; omega
  have o2 : Own K mg H' T2 (min d d1) x q f' := k2 T2 tl fun b z z' => by
    show G b + (c b + if b = l then 1 else 0) + τ b = 0
    have := u2 b; have := hg b; have := l1 b; have := hc b
    by_cases hb : b = l
    · subst hb; rw [if_pos rfl] at *; omega
    · rw [if_neg hb]; rw [if_neg hb] at *; omega
  have t2l : T2 l ≠ 0 := by show G l + (c l + if l = l then 1 else 0) + τ l ≠ 0; rw [if_pos rfl]; omega
  have slG' : Slots K mg H' T2 (e.set i none) σ σ0 G := slG.keep (fun a o e t => by have := tl a; omega) fun a o e _ => e
  have s1 := slG'.wr (o' := ho') t2l (by omega) nst
  have s2 := o1.wr (o' := ho') t2l (by have := l1 l; omega) nst
  have s2' := o2.wr (o' := ho') t2l (by have := l2 l; have := u2 l; omega) nst
  obtain ⟨c3, hc3, s3⟩ := mk gc' f' (upd H' l ho') T2 s2 s2' upd_same
  let T3 : Cnt := fun b => G b + (c3 b + if b = l then 1 else 0) + τ b
  have tl3 : ∀ b, T3 b ≤ T2 b := fun b => by
    show G b + (c3 b + if b = l then 1 else 0) + τ b ≤ G b + (c b + if b = l then 1 else 0) + τ b
    have := hc b; have := hc3 b; omega
  have s3 := s3.keep (T' := T3) (fun a o e t => by have := tl3 a; omega) fun a o e _ => e
  have s1 := s1.keep (T' := T3) (fun a o e t => by have := tl3 a; omega) fun a o e _ => e
  have s4 := s1.put (s := ⟨min d d1 + 1, pin, pv'⟩) (get_set_none es) s3 hp
  rw [set_set_none, set_self e1] at s4
  refine w2 σ _ T3 _ ⟨s4, fun b => rfl, fun b => Nat.le_trans (tl3 b) (Nat.le_trans (tl b) (on b)), fun b z => ?_⟩ ⟨fun b y ey z => ?_, fun b y ey => ?_⟩
  · obtain ⟨y, ey⟩ := n.ex b z
    obtain ⟨⟨y', ey'⟩, _⟩ := fr.own b y ey
    by_cases hb : b = l
    · subst hb; exact ⟨_, upd_same⟩
    · exact ⟨y', by rw [upd_ne hb]; exact ey'⟩
  · have k := fr.keep b y ey z
    have ne : b ≠ l := fun q => by
      subst q
      rcases z with z | z
      · have h : F' b + f b ≤ F b := (fr.own b y ey).2; have := hG b; omega
      · exact nst y k z
    rw [upd_ne ne]; exact k
  · obtain ⟨⟨y', ey'⟩, lb⟩ := fr.own b y ey
    refine ⟨?_, ?_⟩
    · by_cases hb : b = l
      · subst hb; exact ⟨_, upd_same⟩
      · exact ⟨y', by rw [upd_ne hb]; exact ey'⟩
    · have lb' : F' b + f b ≤ F b := lb
      show G b + (c3 b + if b = l then 1 else 0) ≤ F b
      have := hG b; have := hg b; have := l1 b; have := l2 b; have := hc3 b; omega
end
/-! ### d[k] = v -/
section
variable {K : PySem.W.Frag} {mg : Str → Option Value} {H : Hp} {T : Cnt} {d : Nat} {κ : Type} [DecidableEq κ] {f : κ → PV} {x : V} {q : PV} {fx : Cnt}
def repK (es : List (κ × V)) (k : κ) (v : V) : List (κ × V) := es.map (fun kv => if kv.1 = k then (kv.1, v) else kv)
def repP (kvs : List (PV × PV)) (k v : PV) : List (PV × PV) := kvs.map (fun kv => if keq kv.1 k = true then (kv.1, v) else kv)
/-- put in their places, a flat value -/
theorem rep_flat (hf : ∀ a b, keq (f a) (f b) = decide (a = b)) (k : κ) (hx : Own K mg H T d x q fun _ => 0) : ∀ {es : List (κ × V)} {kvs : List (PV × PV)} {gc : Cnt}, es.map (fun e => f e.1) = kvs.map (·.1) → Owns K mg H T d (es.map (·.2)) (kvs.map (·.2)) gc →
    ∃ c : Cnt, (∀ b, c b ≤ gc b) ∧ (repK es k x).map (fun e => f e.1) = (repP kvs (f k) q).map (·.1) ∧ Owns K mg H T d ((repK es k x).map (·.2)) ((repP kvs (f k) q).map (·.2)) c
  | [], [], gc, _, o => ⟨gc, fun _ => Nat.le_refl _, rfl, o⟩
  | [], _ :: _, _, e, _ => by simp at e
  | _ :: _, [], _, e, _ => by simp at e
  | (a, v) :: es, (b, p) :: kvs, gc, e, o => by
    rw [List.map_cons, List.map_cons] at e o
    obtain ⟨e1, e2⟩ := List.cons.inj e
    have e1' : f a = b := e1
    subst e1'
    cases o with
    | @cons _ _ _ _ _ f1 g1 _ o1 o2 hk =>
      obtain ⟨c, hc, ec, oc⟩ := rep_flat hf k hx e2 o2
      by_cases h : a = k
      · refine ⟨c, fun b => by have := hc b; have := hk b; omega, ?_, ?_⟩
        · show f (if a = k then (a, x) else (a, v)).1 :: _ = (if keq (f a) (f k) = true then (f a, q) else (f a, p)).1 :: _
          rw [hf, if_pos h, if_pos (by simpa using h)]
          exact congrArg _ ec
        · show Owns K mg H T d ((if a = k then (a, x) else (a, v)).2 :: _) ((if keq (f a) (f k) = true then (f a, q) else (f a, p)).2 :: _) c
          rw [hf, if_pos h, if_pos (by simpa using h)]
          exact .cons hx oc fun b => by omega
      · refine ⟨fun b => f1 b + c b, fun b => by have := hc b; have := hk b; show f1 b + c b ≤ gc b; omega, ?_, ?_⟩
        · show f (if a = k then (a, x) else (a, v)).1 :: _ = (if keq (f a) (f k) = true then (f a, q) else (f a, p)).1 :: _
          rw [hf, if_neg h, if_neg (by simpa using h)]
          exact congrArg _ ec
        · show Owns K mg H T d ((if a = k then (a, x) else (a, v)).2 :: _) ((if keq (f a) (f k) = true then (f a, q) else (f a, p)).2 :: _) _
          rw [hf, if_neg h, if_neg (by simpa using h)]
          exact .cons o1 oc fun _ => rfl
theorem any_rel (hf : ∀ a b, keq (f a) (f b) = decide (a = b)) (k : κ) : ∀ {es : List (κ × V)} {kvs : List (PV × PV)}, es.map (fun e => f e.1) = kvs.map (·.1) → (kvs.any fun kv => keq kv.1 (f k)) = es.any fun kv => decide (kv.1 = k)
  | [], [], _ => rfl
  | [], _ :: _, e => by simp at e
  | _ :: _, [], e => by simp at e
  | (a, v) :: es, (b, p) :: kvs, e => by
    rw [List.map_cons, List.map_cons] at e
    obtain ⟨e1, e2⟩ := List.cons.inj e
    have e1' : f a = b := e1
    subst e1'
    rw [List.any_cons, List.any_cons, hf, any_rel hf k e2]
theorem put_flat (hf : ∀ a b, keq (f a) (f b) = decide (a = b)) (k : κ) (hx : Own K mg H T d x q fun _ => 0) {es : List (κ × V)} {kvs : List (PV × PV)} {gc : Cnt} (e : es.map (fun e => f e.1) = kvs.map (·.1)) (o : Owns K mg H T d (es.map (·.2)) (kvs.map (·.2)) gc) :
    ∃ c : Cnt, (∀ b, c b ≤ gc b) ∧ (putK es k x).map (fun e => f e.1) = (dput kvs (f k) q).map (·.1) ∧ Owns K mg H T d ((putK es k x).map (·.2)) ((dput kvs (f k) q).map (·.2)) c := by
  unfold putK dput
  rw [any_rel hf k e]
  split
  · exact rep_flat hf k hx e o
  · refine ⟨gc, fun _ => Nat.le_refl _, by simp [e], ?_⟩
    rw [List.map_append, List.map_append]
    exact (o.append (.cons hx (.nil (f := fun _ => 0) fun _ => rfl) fun b => rfl)).cnt fun b => rfl
/-- a new key, any value -/
theorem put_new (hf : ∀ a b, keq (f a) (f b) = decide (a = b)) (k : κ) {q : PV} (hx : Own K mg H T d x q fx) {es : List (κ × V)} {kvs : List (PV × PV)} {gc : Cnt} (e : es.map (fun e => f e.1) = kvs.map (·.1)) (o : Owns K mg H T d (es.map (·.2)) (kvs.map (·.2)) gc) (hn : (kvs.any fun kv => keq kv.1 (f k)) = false) :
    (putK es k x).map (fun e => f e.1) = (dput kvs (f k) q).map (·.1) ∧ Owns K mg H T d ((putK es k x).map (·.2)) ((dput kvs (f k) q).map (·.2)) (fun b => gc b + fx b) := by
  have h2 := hn
  rw [any_rel hf k e] at h2
  unfold putK dput
  rw [hn, h2]
  simp only [Bool.false_eq_true, if_false]
  refine ⟨by simp [e], ?_⟩
  rw [List.map_append, List.map_append]
  exact o.append (.cons hx (.nil (f := fun _ => 0) fun _ => rfl) fun b => rfl)
end
end M

set_option Elab.async false
set_option linter.all false
set_option maxRecDepth 100000
set_option maxHeartbeats 4000000
/-! d[k] = v -/
namespace M
open PySem PySem.Spec PyProof.Rows L2
def dputS (env : LEnv) (i dv : Nat) (k v : PV) : Option LEnv := match env[i]? with
  | some (some s) => (match s.d, s.v with
    | d + 1, .dct t kvs => if isKey t k = true ∧ kvs.length < 16777216 ∧ (hgt v = 0 ∨ (kvs.any fun kv => keq kv.1 k) = false) then some (env.set i (some ⟨min d dv + 1, s.pin, .dct t (dput kvs k v)⟩)) else none
    | _, _ => none)
  | _ => none
def mDPut (i : Nat) (mk : MP PV) (me : ME (Nat × PV)) : MS := fun env => (me env).bind fun z => match mk z.2 with
  | .ok k => ofNx (dputS z.2 i z.1.1 k z.1.2)
  | _ => .stuck
section
variable {X : Cx} {W : WX} {a e value : Expr} {pos pos' p p2 : Pos} {mk : MP PV} {me : ME (Nat × PV)}
theorem dput_mk {K : PySem.W.Frag} {mg : Str → Option Value} {κ : Type} [DecidableEq κ] {f : κ → PV} (hf : ∀ a b, keq (f a) (f b) = decide (a = b)) {d d1 : Nat} {es : List (κ × V)} {kvs : List (PV × PV)} {key : κ} {x : V} {q : PV} (e1 : es.map (fun e => f e.1) = kvs.map (·.1))
    (hz : hgt q = 0 ∨ (kvs.any fun kv => keq kv.1 (f key)) = false) (gc' f' : Cnt) (H2 : Hp) (T2 : Cnt) (oc : Owns K mg H2 T2 (min d d1) (es.map (·.2)) (kvs.map (·.2)) gc') (o : Own K mg H2 T2 (min d d1) x q f') :
    ∃ c : Cnt, (∀ b, c b ≤ gc' b + f' b) ∧ (putK es key x).map (fun e => f e.1) = (dput kvs (f key) q).map (·.1) ∧ Owns K mg H2 T2 (min d d1) ((putK es key x).map (·.2)) ((dput kvs (f key) q).map (·.2)) c := by
  rcases hz with hz | hz
  · obtain ⟨c, hc, ec, o'⟩ := put_flat hf key (o.rep.own hz (min d d1) : Own K mg H2 _ _ x q fun _ => 0) e1 oc
    exact ⟨c, fun b => by have := hc b; omega, ec, o'⟩
  · obtain ⟨ec, o'⟩ := put_new hf key o e1 oc hz
    exact ⟨_, fun b => Nat.le_refl _, ec, o'⟩
theorem ss_dput {i : Nat} {x : Str} {px : Pos} (hu : X.A.units + 1 < cLine) (hv : PE X (.Name x px) (tVar i)) (hi : SP X W0 e mk) (he : SE X W value me) (hs : swapsWith value (some (.Subscript (.Name x px) e pos')) pos.line X.env = pure false := by rfl) :
    SS X W (.Assign [.Subscript (.Name x px) e pos'] value pos) (mDPut i mk me) := by
  refine (ps_dput hu hv hi he hs).weak fun D σ H ⟨env, σ0, τ, T, F, n, w⟩ => ?_
  refine ⟨env, σ0, τ, T, F, n, wpE_mono (wpE_S w) fun r e H' T' F' f sl su on fr w' x o => ?_⟩
  dsimp only at w'
  cases hk : mk e with
  | stuck => rw [hk] at w'; exact w'.elim
  | exc z => rw [hk] at w'; exact w'.elim
  | ok k =>
    rw [hk] at w'
    dsimp only at w'
    cases q : dputS e i r.1 k r.2 with
    | none => rw [q] at w'; exact w'.elim
    | some e2 =>
      rw [q] at w'
      have w2 : wpS W X.K X.mg σ0 τ H F (.ok (.nx e2)) D := w'
      unfold dputS at q
      split at q
      · rename_i s es
        obtain ⟨d0, pin, pv⟩ := s
        dsimp only at q
        split at q
        · rename_i d t kvs
          split at q
          · rename_i hz
            cases q
            obtain ⟨v, g, G, ev, og, slG, hG, hp⟩ := sl.get es
            refine ⟨v, ev, e, sl.sees, ?_⟩
            rw [hk]
            intro H3 g3 y ry
            cases og with
            | @dK1 _ fc _ l es' vs _ hH ek evs oc hg =>
              subst evs
              obtain ⟨key, hkey⟩ := Option.isSome_iff_exists.1 hz.1
              have ek' := keyK_some hkey
              subst ek'
              have ey : y = kV key := by cases key <;> (cases ry; rfl)
              subst ey
              have hl : es'.length < sizeLine := by
                have := congrArg List.length ek
                rw [List.length_map, List.length_map] at this
                rw [this, sizeLine_eq]; exact hz.2.1
              refine ⟨l, _, rfl, .k (g3 _ _ hH) hl, ?_⟩
              refine slot_wr (ps := kvs.map (·.2)) (d := d) (d1 := r.1) (ho := .dK es') (ho' := .dK (putK es' key x)) n (sl.grow g3) su on (fr.then_grow g3) es ev (o.grow g3) (fun g og => ?_) (fun z => z) w2
              cases og with
              | @dK1 _ fc2 _ _ es2 vs2 _ hH2 ek2 evs2 oc2 hg2 =>
                have : es2 = es' := by have h3 := g3 _ _ hH; rw [hH2] at h3; cases h3; rfl
                subst this
                subst evs2
                refine ⟨_, fc2, hH2, oc2, hg2, fun gc' f' H2 T2 oc' o' hl' => ?_⟩
                obtain ⟨c, hc, e3, o3⟩ := dput_mk keq_k ek2 hz.2.2 gc' f' H2 T2 oc' o'
                exact ⟨c, hc, .dK1 hl' e3 rfl o3 fun _ => rfl⟩
            | @dT1 _ fc _ l es' vs _ hH ek evs oc hg =>
              subst evs
              have hkk := hz.1
              unfold isKey at hkk
              split at hkk
              · rename_i ht; cases ht
              · rename_i ps
                obtain ⟨keys, hkey⟩ := Option.isSome_iff_exists.1 hkk
                have ek' := keysK_some hkey
                subst ek'
                cases ry with
                | @tup b vb _ hb rb =>
                  have evk : ∀ {vs : List V} {ks : List Key}, Reps X.K X.mg H3 vs (ks.map kP) → vs = ks.map kV := by
                    intro vs ks
                    induction ks generalizing vs with
                    | nil => intro r; cases r; rfl
                    | cons k ks ih =>
                      intro r
                      rw [List.map_cons] at r
                      cases r with
                      | cons r1 r2 =>
                        rw [ih r2]
                        cases k <;> (cases r1; rfl)
                  have e := evk rb
                  subst e
                  have hl : es'.length < sizeLine := by
                    have := congrArg List.length ek
                    rw [List.length_map, List.length_map] at this
                    rw [this, sizeLine_eq]; exact hz.2.1
                  refine ⟨l, _, rfl, .t (g3 _ _ hH) hb hl, ?_⟩
                  refine slot_wr (ps := kvs.map (·.2)) (d := d) (d1 := r.1) (ho := .dT es') (ho' := .dT (putK es' keys x)) n (sl.grow g3) su on (fr.then_grow g3) es ev (o.grow g3) (fun g og => ?_) (fun z => z) w2
                  cases og with
                  | @dT1 _ fc2 _ _ es2 vs2 _ hH2 ek2 evs2 oc2 hg2 =>
                    have : es2 = es' := by have h3 := g3 _ _ hH; rw [hH2] at h3; cases h3; rfl
                    subst this
                    subst evs2
                    refine ⟨_, fc2, hH2, oc2, hg2, fun gc' f' H2 T2 oc' o' hl' => ?_⟩
                    obtain ⟨c, hc, e3, o3⟩ := dput_mk (f := kPs) keq_t ek2 hz.2.2 gc' f' H2 T2 oc' o'
                    exact ⟨c, hc, .dT1 hl' e3 rfl o3 fun _ => rfl⟩
              · cases hkk
          · cases q
        · cases q
      · cases q
/-- {}, for keys of this kind -/
def mDNew (t : Bool) : ME (Nat × PV) := fun env => liftP env (Rs.ok (ε := Xn) ()) fun _ => some (9, PV.dct t [])
theorem se_dnewK : SE X W (.Dict [] [] pos) (mDNew false) := pe_dnewK.weak fun σ H Q ⟨env, σ0, τ, T, F, n, w⟩ => fun l na => by
  obtain ⟨q, e, k⟩ := wpE_lift n w H (.refl H)
  cases e
  refine k (upd H l (.dK [])) (fun b => if b = l then 1 else 0) (Grow.upd na) (fun a o e => if_neg ?_) (fun b => ?_) (.ref l) (.dK1 (es := []) (vs := []) upd_same rfl rfl (.nil (f := fun _ => 0) fun _ => rfl) fun b => (Nat.zero_add _).symm)
  · rintro rfl
    rw [e] at na; cases na
  · show (if b = l then 1 else 0) ≤ 1
    split <;> omega
theorem se_dnewT : SE X W (.Dict [] [] pos) (mDNew true) := pe_dnewT.weak fun σ H Q ⟨env, σ0, τ, T, F, n, w⟩ => fun l na => by
  obtain ⟨q, e, k⟩ := wpE_lift n w H (.refl H)
  cases e
  refine k (upd H l (.dT [])) (fun b => if b = l then 1 else 0) (Grow.upd na) (fun a o e => if_neg ?_) (fun b => ?_) (.ref l) (.dT1 (es := []) (vs := []) upd_same rfl rfl (.nil (f := fun _ => 0) fun _ => rfl) fun b => (Nat.zero_add _).symm)
  · rintro rfl
    rw [e] at na; cases na
  · show (if b = l then 1 else 0) ≤ 1
    split <;> omega
end
end M

set_option Elab.async false
set_option linter.all false
set_option maxRecDepth 100000
set_option maxHeartbeats 4000000
/-! xs[i] = v -/
namespace M
open PySem PySem.Spec PyProof.Rows L2
theorem Owns.setAt {K : PySem.W.Frag} {mg : Str → Option Value} {H : Hp} {T : Cnt} {d : Nat} {x : V} {q : PV} {fx : Cnt} (hx : Own K mg H T d x q fx) : ∀ {vs : List V} {ps : List PV} {gc : Cnt} (j : Nat), Owns K mg H T d vs ps gc →
    ∃ c : Cnt, (∀ b, c b ≤ gc b + fx b) ∧ Owns K mg H T d (vs.set j x) (ps.set j q) c
  | _, _, gc, j, .nil z => ⟨gc, fun b => Nat.le_add_right _ _, by simpa using Owns.nil z⟩
  | _, _, gc, 0, .cons (f := f) (g := g) o1 o2 hk => ⟨fun b => fx b + g b, fun b => by have := hk b; show fx b + g b ≤ _; omega, .cons hx o2 fun _ => rfl⟩
  | _, _, gc, j + 1, .cons (f := f) (g := g) o1 o2 hk => by
    obtain ⟨c, hc, o⟩ := Owns.setAt hx j o2
    exact ⟨fun b => f b + c b, fun b => by have := hk b; have := hc b; show f b + c b ≤ _; omega, .cons o1 o fun _ => rfl⟩
def lsetS (env : LEnv) (i dv : Nat) (k v : PV) : Option LEnv := match env[i]? with
  | some (some s) => (match s.d, s.v, k with
    | d + 1, .lst ps, .int z => (match ixN ps.length z with
      | some j => some (env.set i (some ⟨min d dv + 1, s.pin, .lst (ps.set j v)⟩))
      | none => none)
    | _, _, _ => none)
  | _ => none
def mLSet (i : Nat) (mk : MP PV) (me : ME (Nat × PV)) : MS := fun env => (me env).bind fun z => match mk z.2 with
  | .ok k => ofNx (lsetS z.2 i z.1.1 k z.1.2)
  | _ => .stuck
section
variable {X : Cx} {W : WX} {a e value : Expr} {pos pos' p p2 : Pos} {mk : MP PV} {me : ME (Nat × PV)}
theorem ss_lset {i : Nat} {x : Str} {px : Pos} (hv : PE X (.Name x px) (tVar i)) (hi : SP X W0 e mk) (he : SE X W value me) (hs : swapsWithSole [.Subscript (.Name x px) e pos'] value pos.line X.env = pure false := by rfl) (hw : swappedStores [.Subscript (.Name x px) e pos'] value X.env = pure none := by rfl)
    (h1 : (assignEach [.Subscript (.Name x px) e pos'] X.env).map (·.2) = [assign (.Subscript (.Name x px) e pos') X.env] := by rfl)
    (ha : ∀ v, assign (.Subscript (.Name x px) e pos') X.env v = (do
      let ov ← holding [v] (eval (.Name x px) X.env)
      let iv ← holding [v, ov] (eval e X.env)
      standAt pos'
      holding [v, ov, iv] (setItem ov iv v)
      release [v, ov, iv] []) := by intro _; rfl) : SS X W (.Assign [.Subscript (.Name x px) e pos'] value pos) (mLSet i mk me) := by
  refine (ps_asg he (pg_sub hv hi set_list ha) hs hw h1).weak fun D σ H ⟨env, σ0, τ, T, F, n, w⟩ => ?_
  refine ⟨env, σ0, τ, T, F, n, wpE_mono (wpE_S w) fun r e H' T' F' f sl su on fr w' x o => ?_⟩
  dsimp only at w'
  cases hk : mk e with
  | stuck => rw [hk] at w'; exact w'.elim
  | exc z => rw [hk] at w'; exact w'.elim
  | ok k =>
    rw [hk] at w'
    dsimp only at w'
    cases q : lsetS e i r.1 k r.2 with
    | none => rw [q] at w'; exact w'.elim
    | some e2 =>
      rw [q] at w'
      have w2 : wpS W X.K X.mg σ0 τ H F (.ok (.nx e2)) D := w'
      unfold lsetS at q
      split at q
      · rename_i s es
        obtain ⟨d0, pin, pv⟩ := s
        dsimp only at q
        split at q
        · rename_i d ps z
          split at q
          · rename_i j hj
            cases q
            obtain ⟨v, g, G, ev, og, slG, hG, hp⟩ := sl.get es
            refine ⟨v, ev, e, sl.sees, ?_⟩
            rw [hk]
            intro H3 g3 y ry
            obtain ⟨l, vs, fc, evl, hH, oc, hg⟩ := og.lstInv
            subst evl
            cases ry
            have hl : vs.length = ps.length := oc.rep.length
            refine ⟨l, vs, z, j, rfl, rfl, g3 _ _ hH, by rw [hl]; exact hj, ?_⟩
            refine slot_wr (ps := ps) (d := d) (d1 := r.1) (ho := .lst vs) (ho' := .lst (vs.set j x)) n (sl.grow g3) su on (fr.then_grow g3) es ev (o.grow g3) (fun g og => ?_) (fun z => z) w2
            obtain ⟨l2, vs2, fc2, evl2, hH2, oc2, hg2⟩ := og.lstInv
            cases evl2
            have : vs2 = vs := by have h3 := g3 _ _ hH; rw [hH2] at h3; cases h3; rfl
            subst this
            refine ⟨_, fc2, hH2, oc2, hg2, fun gc' f' H2 T2 oc' o' hl' => ?_⟩
            obtain ⟨c, hc, o3⟩ := Owns.setAt o' j oc'
            exact ⟨c, hc, .lst1 hl' o3 fun _ => rfl⟩
          · cases q
        · cases q
      · cases q
end
end M

set_option Elab.async false
set_option linter.all false
set_option maxRecDepth 100000
set_option maxHeartbeats 4000000
/-! xs.pop() -/
namespace M
open PySem PySem.Spec PyProof.Rows L2
theorem Owns.drop1 {K : PySem.W.Frag} {mg : Str → Option Value} {H : Hp} {T : Cnt} {d : Nat} : ∀ {vs : List V} {ps : List PV} {gc : Cnt}, Owns K mg H T d vs ps gc → ∃ c : Cnt, (∀ b, c b ≤ gc b) ∧ Owns K mg H T d vs.dropLast ps.dropLast c
  | _, _, gc, .nil z => ⟨gc, fun b => Nat.le_refl _, .nil z⟩
  | _, _, gc, .cons (f := f) (g := g) o1 (.nil z) hk => ⟨fun _ => 0, fun b => Nat.zero_le _, .nil fun _ => rfl⟩
  | _, _, gc, .cons (f := f) (g := g) o1 (.cons o2 o3 hk2) hk => by
    obtain ⟨c, hc, o⟩ := Owns.drop1 (Owns.cons o2 o3 hk2)
    exact ⟨fun b => f b + c b, fun b => by have := hk b; have := hc b; show f b + c b ≤ _; omega, .cons o1 o fun _ => rfl⟩
def mPop (i : Nat) : ME (Nat × PV) := fun env => match env[i]? with
  | some (some s) => (match s.d, s.v with
    | d + 1, .lst ps => (match ps[ps.length - 1]? with
      | some q => if hgt q = 0 then .ok ((8, q), env.set i (some ⟨min d 8 + 1, s.pin, .lst ps.dropLast⟩)) else .stuck
      | none => .stuck)
    | _, _ => .stuck)
  | _ => .stuck
section
variable {X : Cx} {W : WX} {pos p pa pc : Pos}
theorem se_pop {i : Nat} {x : Str} {px : Pos} (hv : PE X (.Name x px) (tVar i)) (hbase : attributeBase (.Name x px) "pop" X.env (eval (.Name x px) X.env) = eval (.Name x px) X.env := by rfl) (hline : (pa.endLine == pc.line) = true := by rfl) :
    SE X W (.Call (.Attribute (.Name x px) "pop" pa) [] [] pc) (mPop i) := by
  refine (pe_bm0 PySem.F.plainAttrs_list PySem.F.slot_list_pop PySem.F.type_list_pop mt_pop hv hbase hline).weak fun σ H Q ⟨env, σ0, τ, T, F, n, w⟩ => ?_
  unfold mPop at w
  split at w
  · rename_i s es
    obtain ⟨d0, pin, pv⟩ := s
    dsimp only at w
    split at w
    · rename_i d ps
      split at w
      · rename_i q hq
        split at w
        · rename_i hz
          obtain ⟨v, g, G, ev, og, slG, hG, hp⟩ := n.sl.get es
          obtain ⟨l, vs, fc, evl, hH, oc, hg⟩ := og.lstInv
          subst evl
          have hl : vs.length = ps.length := oc.rep.length
          obtain ⟨y, hy, ry⟩ : ∃ y, vs[vs.length - 1]? = some y ∧ Rep X.K X.mg H y q := by
            rw [hl]; exact oc.rep.get hq
          refine ⟨.ref l, ev, .inl ⟨rfl, _, SqL.of hH⟩, l, vs, y, rfl, rfl, hH, hy, ?_⟩
          have gg : σ = σ → Q y (upd H l (.lst vs.dropLast)) := by
            refine slot_wr (D := { nx := fun σ' H' => σ' = σ → Q y H', rt := fun _ _ => True, bk := fun _ _ => True, ct := fun _ _ => True }) (W := W) (ps := ps) (d := d) (d1 := 8) (x := .non) (q := .non) (f := fun _ => 0) (ho := .lst vs) (ho' := .lst vs.dropLast) (pv' := .lst ps.dropLast) n n.sl (fun b => by have := n.sum b; omega) n.one .refl es ev (.non fun _ => rfl) (fun g og => ?_) (fun z => z) (fun σ' H' T' F' n' fr' eσ => ?_)
            · obtain ⟨l2, vs2, fc2, evl2, hH2, oc2, hg2⟩ := og.lstInv
              cases evl2
              have : vs2 = vs := by rw [hH2] at hH; cases hH; rfl
              subst this
              refine ⟨_, fc2, hH2, oc2, hg2, fun gc' f' H2 T2 oc' o' hl' => ?_⟩
              obtain ⟨c, hc, o3⟩ := Owns.drop1 oc'
              exact ⟨c, fun b => Nat.le_trans (hc b) (Nat.le_add_right _ _), .lst1 hl' o3 fun _ => rfl⟩
            · subst eσ
              exact w H' T' F' (fun _ => 0) n'.sl (fun b => by have := n'.sum b; omega) n'.one fr' y ((Rep.still (fun a us h => fr'.keep a _ h (.inr trivial)) ry hz).own hz 8)
          exact gg rfl
        · exact w.elim
      · exact w.elim
    · exact w.elim
  · exact w.elim
end
end M

set_option Elab.async false
set_option linter.all false
set_option maxRecDepth 100000
set_option maxHeartbeats 4000000
/-! chains as tests; in over data of any depth -/
namespace M
open PySem PySem.Spec PyProof.Rows L2
section
variable {X : Cx} {W : WX} {a b c e : Expr} {pos p p2 : Pos} {m ma mb mc : MP PV}
theorem chain_te {r r' : R2} {g g' : PV → PV → Option PV} (hg : VOp X.K X.mg r g) (hg' : VOp X.K X.mg r' g') {σ : L2.St} {H : Hp} {Q : VK} (h : tSP X.K X.mg W (mChain g g' ma mb mc) σ H Q) : tChain r r' (tSP X.K X.mg W ma) (tSP X.K X.mg W mb) (tSP X.K X.mg W mc) σ H Q := by
  obtain ⟨env, s, w⟩ := h
  refine tsp_bind (k := fun env p => (mb env).bind fun q => (ofO (g p q)).bind fun z => match z with | .bl k => if k = true then (mc env).bind fun r => ofO (g' q r) else .ok (.bl false) | _ => .stuck) s w fun p x H1 g1 r1 s1 w1 => ?_
  refine tsp_bind (k := fun env q => (ofO (g p q)).bind fun z => match z with | .bl k => if k = true then (mc env).bind fun r => ofO (g' q r) else .ok (.bl false) | _ => .stuck) s1 w1 fun q y H2 g2 r2 s2 w2 => ?_
  obtain ⟨z, ez, q2⟩ := wpP_ofO (wpP_bind w2)
  refine hg H2 x y p q z _ (r1.grow g2) r2 ez fun v H3 g3 rv => ?_
  have w3 := q2 H3 g3
  cases rv with
  | bl k =>
    refine ⟨k, rfl, ?_⟩
    cases k with
    | false => exact w3 H3 (.refl _) _ (.bl _)
    | true =>
      refine tsp_bind (k := fun env r => ofO (g' q r)) (s2.grow g3) w3 fun r' y' H4 g4 r4 s4 w4 => ?_
      obtain ⟨z', ez', q4⟩ := wpP_ofO w4
      exact hg' H4 y y' q r' z' Q (r2.grow (g3.trans g4)) r4 ez' fun v H5 g5 rv => q4 H5 g5 v rv
  | _ => exact w3.elim
theorem spt_chain {op op' : CmpOp} {r r' : R2} {g g' : PV → PV → Option PV} (ho : OpR X (compareOp op) r) (hg : VOp X.K X.mg r g) (ho' : OpR X (compareOp op') r') (hg' : VOp X.K X.mg r' g') (ha : SP X W a ma) (hb : SP X W b mb) (hc : SP X W c mc)
    (hm : lastMarks [op, op'] [b, c] = false := by with_unfolding_all rfl) : SPT X W (.Compare a [op, op'] [b, c] pos) (mTst (mChain g g' ma mb mc)) := (pt_chain ho ho' ha hb hc hm).weak fun σ H Q h => chain_te hg hg' (tst_te h)
def anyEqv (d : PyData) : List PyData → Bool
  | [] => false
  | z :: r => PyData.eqv z d || anyEqv d r
theorem anyEqv_eq (d : PyData) : ∀ ds : List PyData, anyEqv d ds = ds.any fun z => PyData.eqv z d
  | [] => rfl
  | z :: r => by rw [anyEqv, List.any_cons, anyEqv_eq d r]
/-- x in a list, whatever data -/
def gInD (neg : Bool) (p q : PV) : Option PV := match py p, py q with
  | some d, some (.list ds) => if SeqAt.shaped d && SeqAt.shaped (.list ds) then some (.bl (if neg then !anyEqv d ds else anyEqv d ds)) else none
  | _, _ => none
theorem v_inD {K : PySem.W.Frag} {mg : Str → Option Value} : VOp K mg (rInD K) (gInD false) := fun H x y p q z Q r1 r2 e h => by
  unfold gInD at e
  split at e
  · rename_i d ds hd he
    split at e
    · rename_i hz
      rw [Bool.and_eq_true] at hz
      cases e
      exact ⟨d, ds, r1.dp hd, r2.dp he, hz.1, hz.2, by rw [← anyEqv_eq]; exact h _ H (.refl H) (.bl _)⟩
    · cases e
  · cases e
theorem v_notInD {K : PySem.W.Frag} {mg : Str → Option Value} : VOp K mg (rNotInD K) (gInD true) := fun H x y p q z Q r1 r2 e h => by
  unfold gInD at e
  split at e
  · rename_i d ds hd he
    split at e
    · rename_i hz
      rw [Bool.and_eq_true] at hz
      cases e
      exact ⟨d, ds, r1.dp hd, r2.dp he, hz.1, hz.2, by rw [← anyEqv_eq]; exact h _ H (.refl H) (.bl _)⟩
    · cases e
  · cases e
end
end M

set_option Elab.async false
set_option linter.all false
set_option maxRecDepth 100000
set_option maxHeartbeats 4000000
/-! sum, isinstance(x, bool), written dicts, d.update(d2), dict comprehensions -/
namespace M
open PySem PySem.Spec PyProof.Rows L2

theorem hu1 {n c : Nat} (h : n + 64 < c) : n + 1 < c := by omega
def intsO : List PV → Option (List Int)
  | [] => some []
  | .int i :: r => (intsO r).map (i :: ·)
  | _ => none
def gSum : List PV → Option PV
  | [.lst ps] => (intsO ps).map fun ns => .int ns.sum
  | _ => none
section
variable {K : PySem.W.Frag} {mg : Str → Option Value}
theorem intsO_rep {H : Hp} : ∀ {vs : List V} {ps : List PV} {ns : List Int}, Reps K mg H vs ps → intsO ps = some ns → vs = ns.map V.int
  | _, _, _, .nil, e => by cases e; rfl
  | _, _, _, @Reps.cons _ _ _ v vs p ps r1 r2, e => by
    cases p with
    | int i =>
      rw [intsO, Option.map_eq_some_iff] at e
      obtain ⟨ns', e, rfl⟩ := e
      cases r1
      rw [intsO_rep r2 e]; rfl
    | _ => cases e
theorem v_sum : COp K mg (rSum K) gSum := fun H xs ps z Q r e h => by
  unfold gSum at e
  split at e
  · rw [Option.map_eq_some_iff] at e
    obtain ⟨ns, e, rfl⟩ := e
    cases r with
    | cons r1 r2 =>
      cases r1; cases r2
      rename_i hs hr
      have := intsO_rep hr e
      subst this
      exact ⟨_, ns, rfl, hs.sq, h _ H (.refl H) (.int _)⟩
  · cases e
end

/-! ### isinstance(x, bool), true -/
def kIsBl : PV → Rs Xn PV
  | .bl _ => .ok (.bl true)
  | _ => .stuck
def mIsBl (m : MP PV) : MP PV := fun env => (m env).bind kIsBl
section
variable {X : Cx} {W : WX} {a b c e tg : Expr} {es : List Expr} {pos p p2 : Pos} {m : MP PV}
theorem sp_isBl (hm : X.mg "isinstance" = none) (hmb : X.mg "bool" = none) (h : SP X W a m) (hg : Gl X "isinstance" := by rfl) (hgb : Gl X "bool" := by rfl)
    (h1 : starEach [a, .Name "bool" p2] X.env = (false, eval a X.env) :: starEach [.Name "bool" p2] X.env := by rfl) (h2 : (backTo pos (starEach [.Name "bool" p2] X.env)).any (·.1) = false := by rfl) :
    SP X W (.Call (.Name "isinstance" p) [a, .Name "bool" p2] [] pos) (mIsBl m) :=
  (pe_callB call_isi (by first | assumption | rfl) hm (by first | rfl | decide +kernel) (pa_cons h (pa_cons (pe_bltn (v := .ty "bool") (u := .type "bool") hgb hmb (by first | rfl | decide +kernel) rfl) pa_nil) h1) (by decide) (by decide) h1 h2).weak fun σ H Q ⟨env, s, w⟩ =>
    tsp_bind (k := fun env p => kIsBl p) s w fun p x H1 g r s1 w1 => by
      cases r with
      | bl k => exact ⟨.bl k, .ty "bool", .type "bool", .type "bool", true, rfl, .ty _, .base (.bl k), kit_ty (by decide +kernel), w1 H1 (.refl _) _ (.bl true)⟩
      | _ => exact w1.elim
end

/-! ### plain values of the layer's values -/
def vP : V → PV
  | .bl b => .bl b
  | .int i => .int i
  | .str x => .str x
  | _ => .non
def scB : V → Bool
  | .non => true
  | .bl _ => true
  | .int _ => true
  | .str _ => true
  | _ => false
def dP (l : List (Key × V)) : List (PV × PV) := l.map fun kv => (kP kv.1, vP kv.2)
theorem scV_vP {p : PV} {v : V} (e : scV p = some v) : vP v = p ∧ scB v = true := by
  unfold scV at e
  split at e <;> cases e <;> exact ⟨rfl, rfl⟩
section
variable {K : PySem.W.Frag} {mg : Str → Option Value} {H : Hp} {T : Cnt}
theorem sc_own {v : V} (h : scB v = true) (d : Nat) : Own K mg H T d v (vP v) fun _ => 0 := by
  cases v with
  | non => exact .non fun _ => rfl
  | bl b => exact .bl b fun _ => rfl
  | int i => exact .int i fun _ => rfl
  | str x => exact .str x fun _ => rfl
  | _ => cases h
theorem sc_owns (d : Nat) : ∀ {l : List (Key × V)}, l.all (fun kv => scB kv.2) = true → Owns K mg H T d (l.map (·.2)) ((dP l).map (·.2)) fun _ => 0
  | [], _ => .nil fun _ => rfl
  | kv :: l, h => by
    rw [List.all_cons, Bool.and_eq_true] at h
    exact .cons (sc_own h.1 d) (sc_owns d h.2) fun _ => rfl
theorem dP_keys (l : List (Key × V)) : l.map (fun e => kP e.1) = (dP l).map (·.1) := by
  induction l with
  | nil => rfl
  | cons a l ih => show _ :: _ = _ :: _; rw [ih]; rfl
theorem sc_rep {l : List (Key × V)} {a : Addr} (e : H a = some (.dK l)) (h : l.all (fun kv => scB kv.2) = true) : Rep K mg H (.ref a) (.dct false (dP l)) := .dK e (dP_keys l) rfl (sc_owns (T := fun _ => 0) 0 h).rep
end
theorem put_sc {l : List (Key × V)} {k : Key} {v : V} (h : l.all (fun kv => scB kv.2) = true) (hv : scB v = true) : (putK l k v).all (fun kv => scB kv.2) = true := by
  unfold putK
  split
  · rw [List.all_map]
    refine List.all_eq_true.mpr fun kv hk => ?_
    have := List.all_eq_true.mp h kv hk
    show scB (if kv.1 = k then (kv.1, v) else kv).2 = true
    split
    · exact hv
    · exact this
  · rw [List.all_append, h]; simp [hv]
theorem merge_sc : ∀ {more l : List (Key × V)}, l.all (fun kv => scB kv.2) = true → more.all (fun kv => scB kv.2) = true → (mergeK l more).all (fun kv => scB kv.2) = true
  | [], _, h, _ => h
  | p :: r, l, h, h2 => by
    rw [List.all_cons, Bool.and_eq_true] at h2
    exact merge_sc (l := putK l p.1 p.2) (put_sc h h2.1) h2.2

/-! ### {k: v, ..}, of constants -/
def dispT (kvs : List (Key × V)) : List (TE × TE) := kvs.map fun kv => (tC (kV kv.1), tC kv.2)
def dispP (kvs : List (Key × V)) : PV := .dct false (dP (mergeK [] kvs))
theorem disp_pairs {σ : L2.St} {H : Hp} : ∀ {kvs : List (Key × V)} {Q : List (V × V) → Hp → Prop}, Q (kvs.map fun kv => (kV kv.1, kv.2)) H → tPairs (dispT kvs) σ H Q
  | [], _, h => h
  | kv :: r, Q, h => by
    show tPairs (dispT r) σ H fun ps H3 => Q ((kV kv.1, kv.2) :: ps) H3
    exact disp_pairs (Q := fun ps H3 => Q ((kV kv.1, kv.2) :: ps) H3) h
theorem sp_dispC {X : Cx} {W : WX} {pos : Pos} {keys : List (Option Expr)} {values : List Expr} {kvs : List (Key × V)} (h : PPs X pos keys values (dispT kvs)) (hall : keys.all (·.isSome) = true) (hl : keys.length = values.length) (h0 : keys ≠ [])
    (h15 : keys.length ≤ 15) (hk : kvs.length ≤ 15) (hs : kvs.all (fun kv => scB kv.2) = true) : SP X W (.Dict keys values pos) (mC (dispP kvs)) := PE.weak (pe_disp h hall hl h0 h15) fun σ H Q ⟨env, s, w⟩ => fun p hp =>
  disp_pairs ⟨upd_same, kvs, rfl, hk, w _ (by
    intro b x e
    have ne : b ≠ p := fun z => by rw [z, hp] at e; cases e
    rw [upd_ne ne, upd_ne ne]; exact e) _ (sc_rep upd_same (merge_sc rfl hs))⟩

/-! ### d.update(d2) -/
def rUpdate : V → List V → Hp → VK → Prop := fun x vs H Q => ∃ (l b : Addr) (es fs : List (Key × V)), x = .ref l ∧ vs = [.ref b] ∧ l ≠ b ∧ H l = some (.dK es) ∧ H b = some (.dK fs) ∧ es.length + fs.length ≤ sizeLine ∧ Q .non (upd H l (.dK (mergeK es fs)))
theorem mt_update {X : Cx} : MtR X "dict.update" rUpdate := by
  intro pins s σ H x vs v us Q I rx rv h
  obtain ⟨l, b, es, fs, ex, ev, ne, hH, hB, hz, q⟩ := h
  subst ex
  subst ev
  obtain rfl : v = Value.ref l := rx
  obtain ⟨u, eu, ru⟩ := rv.one
  subst eu
  obtain rfl : u = Value.ref b := ru
  obtain ⟨z1, hd1, vs1, rel1, dd1⟩ := dk_of I.hok hH
  obtain ⟨z2, hd2, vs2, rel2, dd2⟩ := dk_of I.hok hB
  have hl1 := rel1.length
  have hl2 := rel2.length
  refine call_meetsIn PySem.F.slot_dict_update dd1.typeIs PySem.F.entry_dict_update (PySem.F.args_dict_update_2 _ _) (PySem.meets_dict_update (mixKind X.prog X.w) l b ne hd2) ⟨vs1, vs2, dd1, dd2, by omega, fun h' dd' _ hs => ?_⟩
  have he : ∃ q, h'.get? l = some q := let ⟨q, _, _, hq, _⟩ := dd'; ⟨q, hq⟩
  have hz' : (mergeK es fs).length ≤ sizeLine := by have := length_mergeK fs es; omega
  exact ⟨.non, _, d_write I (by rw [hH]; exact True.intro) hs he (dk_new hz' hd1 (rel2.merge rel1) dd'), rfl, q⟩
def scPairs : List (PV × PV) → Bool
  | [] => true
  | kv :: r => (scV kv.2).isSome && scPairs r
def dmerge (kvs more : List (PV × PV)) : List (PV × PV) := more.foldl (fun a kv => dput a kv.1 kv.2) kvs
def dupdS (env : LEnv) (i dv : Nat) (v : PV) : Option LEnv := match env[i]? with
  | some (some s) => (match s.d, s.v, dv, v with
    | d + 1, .dct false kvs, dw + 1, .dct false more => if scPairs more = true ∧ kvs.length + more.length ≤ 16777216 then some (env.set i (some ⟨min d (dw + 1) + 1, s.pin, .dct false (dmerge kvs more)⟩)) else none
    | _, _, _, _ => none)
  | _ => none
def isDctS (env : LEnv) (i : Nat) : Bool := match env[i]? with
  | some (some s) => isDct s.v
  | _ => false
def mDUpd (i : Nat) (me : ME (Nat × PV)) : MS := fun env => if isDctS env i = true then (me env).bind fun z => ofNx (dupdS z.2 i z.1.1 z.1.2) else .stuck
theorem isDctS_at {K : PySem.W.Frag} {mg : Str → Option Value} {H : Hp} {env : LEnv} {σ : L2.St} {i : Nat} (h : isDctS env i = true) (s : Sees K mg H env σ) : ∃ a, σ[i]? = some (some (.ref a)) ∧ tyV K "dict" (.ref a) H := by
  unfold isDctS at h
  split at h
  · rename_i sl e
    obtain ⟨v, e1, r⟩ := s.1 i sl e
    obtain ⟨d, pn, pv⟩ := sl
    cases pv with
    | dct t kvs =>
      cases r with
      | dK hs _ _ _ => exact ⟨_, e1, .inr (.inr (.inl ⟨rfl, .inl ⟨_, hs⟩⟩))⟩
      | dT hs _ _ _ => exact ⟨_, e1, .inr (.inr (.inl ⟨rfl, .inr ⟨_, hs⟩⟩))⟩
    | _ => cases h
  · cases h
/-- scalars are themselves at any heap -/
theorem sc_of {K : PySem.W.Frag} {mg : Str → Option Value} {H : Hp} : ∀ {fs : List (Key × V)} {more : List (PV × PV)}, fs.map (fun e => kP e.1) = more.map (·.1) → Reps K mg H (fs.map (·.2)) (more.map (·.2)) → scPairs more = true → more = dP fs ∧ fs.all (fun kv => scB kv.2) = true
  | [], [], _, _, _ => ⟨rfl, rfl⟩
  | [], _ :: _, e, _, _ => by simp at e
  | _ :: _, [], e, _, _ => by simp at e
  | (k, v) :: fs, (k2, p) :: more, e, r, h => by
    rw [List.map_cons, List.map_cons] at e r
    obtain ⟨e1, e2⟩ := List.cons.inj e
    rw [scPairs, Bool.and_eq_true] at h
    cases r with
    | cons r1 r2 =>
      obtain ⟨h3, h4⟩ := sc_of e2 r2 h.2
      obtain ⟨v', hv⟩ := Option.isSome_iff_exists.1 h.1
      have hv' : scV p = some v' := hv
      obtain ⟨e3, _⟩ := scV_rep r1 hv'
      obtain ⟨e4, e5⟩ := scV_vP hv'
      have e3' : v = v' := e3
      subst e3'
      refine ⟨?_, ?_⟩
      · show (k2, p) :: more = (kP k, vP v) :: dP fs
        rw [e4, ← h3]
        exact congrArg (fun z => (z, p) :: more) e1.symm
      · rw [List.all_cons, h4, e5]; rfl
theorem merge_own {K : PySem.W.Frag} {mg : Str → Option Value} {H : Hp} {T : Cnt} {d : Nat} : ∀ {fs es : List (Key × V)} {kvs : List (PV × PV)} {gc : Cnt}, fs.all (fun kv => scB kv.2) = true → es.map (fun e => kP e.1) = kvs.map (·.1) → Owns K mg H T d (es.map (·.2)) (kvs.map (·.2)) gc →
    ∃ c : Cnt, (∀ b, c b ≤ gc b) ∧ (mergeK es fs).map (fun e => kP e.1) = (dmerge kvs (dP fs)).map (·.1) ∧ Owns K mg H T d ((mergeK es fs).map (·.2)) ((dmerge kvs (dP fs)).map (·.2)) c
  | [], es, kvs, gc, _, e, o => ⟨gc, fun _ => Nat.le_refl _, e, o⟩
  | (k, v) :: fs, es, kvs, gc, h, e, o => by
    rw [List.all_cons, Bool.and_eq_true] at h
    obtain ⟨c1, hc1, e1, o1⟩ := put_flat (f := kP) keq_k k (sc_own h.1 d) e o
    obtain ⟨c2, hc2, e2, o2⟩ := merge_own h.2 e1 o1
    exact ⟨c2, fun b => Nat.le_trans (hc2 b) (hc1 b), e2, o2⟩
section
variable {X : Cx} {W : WX} {a b c e tg iter : Expr} {es : List Expr} {pos p p2 : Pos} {m : MP PV} {me : ME (Nat × PV)}
theorem ss_dupd {i : Nat} {x : Str} {px pa pc : Pos} (hv : PE X (.Name x px) (tVar i)) (he : SE X W a me) (hst : starEach [a] X.env = (false, eval a X.env) :: starEach [] X.env := by rfl)
    (hbase : attributeBase (.Name x px) "update" X.env (eval (.Name x px) X.env) = eval (.Name x px) X.env := by rfl)
    (hfew : ((backTo pc (starEach [a] X.env)).all (fun x => !x.1) && (backToKw pc (keywordEach [] X.env)).all (fun x => x.1.isSome)
      && decide ([a].length + ([] : List Keyword).length + (if ([] : List Keyword).isEmpty then 0 else 1) < 30)) = true := by rfl)
    (hline : (pa.endLine == pc.line) = true := by rfl) (hplain : (backTo pc (starEach [] X.env)).any (·.1) = false := by rfl)
    (hs : swapsWith (.Call (.Attribute (.Name x px) "update" pa) [a] [] pc) none pos.line X.env = pure false := by rfl) : SS X W (.Expr (.Call (.Attribute (.Name x px) "update" pa) [a] [] pc) pos) (mDUpd i me) :=
  (ps_expr (pe_bm PySem.F.plainAttrs_dict PySem.F.slot_dict_update PySem.F.type_dict_update mt_update hv (pa_cons he pa_nil hst) hbase hfew hline hst hplain) hs).weak fun D σ H ⟨env, σ0, τ, T, F, n, w⟩ => by
    unfold mDUpd at w
    split at w
    case isFalse => exact w.elim
    rename_i hi
    obtain ⟨l, e1, ty⟩ := isDctS_at hi n.sees
    refine ⟨.ref l, e1, ty, env, σ0, τ, T, F, n, wpE_mono (wpE_S w) fun r e H' T' F' f sl su on fr w' x o => ?_⟩
    dsimp only at w'
    cases q : dupdS e i r.1 r.2 with
    | none => rw [q] at w'; exact w'.elim
    | some e2 =>
      rw [q] at w'
      have w2 : wpS W X.K X.mg σ0 τ H F (.ok (.nx e2)) D := w'
      unfold dupdS at q
      split at q
      case h_2 => cases q
      rename_i s es
      obtain ⟨d0, pin, pv⟩ := s
      dsimp only at q
      split at q
      case h_2 => cases q
      rename_i d kvs dw more hdw hmore
      rw [hdw, hmore] at o
      split at q
      case isFalse => cases q
      rename_i hz
      cases q
      obtain ⟨v, g, G, ev, og, slG, hG, hp⟩ := sl.get es
      rw [e1] at ev; cases ev
      cases og with
      | @dK1 _ fc _ _ es' vs _ hH ek evs oc hg =>
        subst evs
        cases o with
        | @dK1 _ gc2 _ b fs vs2 _ hB ek2 evs2 oc2 hg2 =>
          subst evs2
          have ne : l ≠ b := by
            rintro rfl
            have h1 := hg l; have h2 := hg2 l; have h3 := on l; have h4 := su l; have h5 := hG l
            rw [if_pos rfl] at h1 h2
            omega
          obtain ⟨em, hsc⟩ := sc_of ek2 oc2.rep hz.1
          have lk := congrArg List.length ek
          have lk2 := congrArg List.length ek2
          simp only [List.length_map] at lk lk2
          refine ⟨l, b, es', fs, rfl, rfl, ne, hH, hB, by rw [sizeLine_eq, lk, lk2]; exact hz.2, ?_⟩
          refine slot_wr (ps := kvs.map (·.2)) (d := d) (d1 := dw + 1) (ho := .dK es') (ho' := .dK (mergeK es' fs)) n sl su on fr es e1 (.dK1 hB ek2 rfl oc2 hg2) (fun g og => ?_) (fun z => z) w2
          cases og with
          | @dK1 _ fc3 _ _ es3 vs3 _ hH3 ek3 evs3 oc3 hg3 =>
            have : es3 = es' := by rw [hH] at hH3; cases hH3; rfl
            subst this
            subst evs3
            refine ⟨_, fc3, hH3, oc3, hg3, fun gc' f' H2 T2 oc' o' hl' => ?_⟩
            obtain ⟨c, hc, e3, o3⟩ := merge_own hsc ek3 oc'
            rw [em]
            exact ⟨c, fun b => Nat.le_trans (hc b) (Nat.le_add_right _ _), .dK1 hl' e3 rfl o3 fun _ => rfl⟩
end
end M

set_option Elab.async false
set_option linter.all false
set_option maxRecDepth 100000
set_option maxHeartbeats 4000000
/-! {k: v for t in it if c}, scalars -/
namespace M
open PySem PySem.Spec PyProof.Rows L2
def tSPD (K : PySem.W.Frag) (mg : Str → Option Value) (W : WX) (m : MP (List (Key × V))) : TE := fun σ H Q => ∃ env, Sees K mg H env σ ∧ wpP W K mg σ H (m env) fun es H' => ∀ l, H' l = none → Q (.ref l) (upd H' l (.dK es))
def SPD (X : Cx) (W : WX) (e : Expr) (m : MP (List (Key × V))) : Prop := PE X e (tSPD X.K X.mg W m)
def compD (t : Tg) (mt : MP Bool) (mk mv : MP PV) (env : LEnv) : List PV → Option (List (Key × V))
  | [] => some []
  | p :: r => (setT t 0 p env).bind fun e => (noX (mt e)).bind fun b => if b = true then (noX (mk e)).bind fun y => (keyK y).bind fun k => (noX (mv e)).bind fun z => (scV z).bind fun v => (compD t mt mk mv env r).map ((k, v) :: ·) else compD t mt mk mv env r
def mDComp (vs : List Nat) (t : Tg) (mi : MP (List PV)) (mt : MP Bool) (mk mv : MP PV) : MP (List (Key × V)) := fun env => (mi env).bind fun ps => ofO (if sizeOk ps.length = true then (compD t mt mk mv (wipeE env vs) ps).map (mergeK []) else none)
def mNewD (m : MP (List (Key × V))) : ME (Nat × PV) := fun env => liftP env (m env) fun es => if es.all (fun kv => scB kv.2) = true then some (9, .dct false (dP es)) else none
section
variable {K : PySem.W.Frag} {mg : Str → Option Value} {W : WX} {t : Tg} {mi : MP (List PV)} {mt : MP Bool} {mk mv : MP PV}
theorem merge_snoc (l more : List (Key × V)) (k : Key) (v : V) : mergeK l (more ++ [(k, v)]) = putK (mergeK l more) k v := by
  unfold mergeK
  rw [List.foldl_append]; rfl
theorem key_rep {H : Hp} {x : V} {p : PV} {k : Key} (r : Rep K mg H x p) (e : keyK p = some k) : x = kV k := by
  have := keyK_some e
  subst this
  cases k <;> (cases r; rfl)
theorem dc_read {vs' : List Nat} {σ : L2.St} {H : Hp} {Q : VK} (hl : (tgN t).all (fun j => vs'.contains j) = true) : tSPD K mg W (mDComp vs' t mi mt mk mv) σ H Q → tDc (tSI K mg W mi) (tPG K mg t) (tSPT K mg W0 mt) (tSP K mg W0 mk) (tSP K mg W0 mv) vs' σ H Q := fun ⟨env, s, w⟩ => ⟨env, s, by
  refine wpP_mono (wpP_bind w) fun ps H1 g w1 J hJ D hD => ?_
  obtain ⟨zs, ez, q⟩ := wpP_ofO w1
  obtain ⟨vs, rv, there, th, t1, t2, go, stop, yld⟩ := hJ
  split at ez
  case isFalse => cases ez
  rename_i hz
  rw [Option.map_eq_some_iff] at ez
  obtain ⟨prs, ec, ez⟩ := ez
  have len := rv.length
  have s1 := s.grow g
  have hz' := sizeOk_le hz
  refine ⟨fun i n H => n = ps.length - i ∧ i ≤ ps.length ∧ ∃ G acc rest, H = upd G D (.dK (mergeK [] acc)) ∧ G D = none ∧ Grow H1 G ∧ there G ∧ acc.length ≤ i ∧ compD t mt mk mv (wipeE env vs') (ps.drop i) = some rest ∧ prs = acc ++ rest,
    ⟨ps.length, rfl, Nat.zero_le _, H1, [], prs, rfl, hD, .refl _, th, Nat.zero_le _, ec, rfl⟩, ?_⟩
  rintro i n H ⟨rfl, hi, G, acc, rest, rfl, hG, gg, th, la, ecr, ep⟩
  have gD : Grow G (upd G D (.dK (mergeK [] acc))) := Grow.upd hG
  have thD := t1 _ _ th gD
  by_cases hlt : i < ps.length
  · have hv : i < vs.length := by rw [len]; exact hlt
    refine .inr ⟨go i _ vs[i] thD (by simp [hv]), fun H' => i + 1 ≤ ps.length ∧ ∃ G acc rest, H' = upd G D (.dK (mergeK [] acc)) ∧ G D = none ∧ Grow H1 G ∧ there G ∧ acc.length ≤ i + 1 ∧ compD t mt mk mv (wipeE env vs') (ps.drop (i + 1)) = some rest ∧ prs = acc ++ rest,
      fun H' ⟨a, b⟩ => ⟨ps.length - (i + 1), by omega, rfl, a, b⟩, fun x H' y => ?_⟩
    obtain ⟨rfl, hx⟩ := yld i _ x H' hv thD y
    have hd : ps.drop i = ps[i] :: ps.drop (i + 1) := List.drop_eq_getElem_cons hlt
    rw [hd, compD, Option.bind_eq_some_iff] at ecr
    obtain ⟨e2, es2, ecr⟩ := ecr
    rw [Option.bind_eq_some_iff] at ecr
    obtain ⟨b, eb, ecr⟩ := ecr
    obtain ⟨v, ev, rx⟩ := rv.get (i := i) (p := ps[i]) (by simp [hlt])
    rw [hx] at ev; cases ev
    have g2 : Grow H1 (upd G D (.dK (mergeK [] acc))) := gg.trans gD
    have sw := wipe_sees (s1.grow g2) vs'
    refine ⟨_, _, _, e2, .refl _, sw, rx.grow g2, es2, fun σ2 s2 l2 k2 => ⟨?_, e2, s2, noX_wp eb fun H3 g3 => ?_⟩⟩
    · refine (wipe_eq (σ := wipe σ vs') l2 fun j hj => k2 j fun z => hj ?_).trans ?_
      · have := List.all_eq_true.mp hl j z
        simpa using this
      · refine List.ext_getElem? fun j => ?_
        rw [wipe_get, wipe_get, wipe_length]
        by_cases h : j ∈ vs'
        · simp [h]
        · simp [h]
    · have eD : H3 D = some (.dK (mergeK [] acc)) := g3 _ _ upd_same
      let G3 : Hp := fun b => if b = D then none else H3 b
      have g3D : G3 D = none := if_pos rfl
      have gG : Grow G G3 := fun c o e => by
        have ne : c ≠ D := fun z => by rw [z, hG] at e; cases e
        show (if c = D then none else H3 c) = some o
        rw [if_neg ne]; exact g3 c o (by rw [upd_ne ne]; exact e)
      cases b with
      | false =>
        refine ⟨hlt, G3, acc, rest, ?_, g3D, gg.trans gG, t1 _ _ th gG, by omega, by simpa using ecr, ep⟩
        funext c
        by_cases hc : c = D
        · subst hc; rw [upd_same]; exact eD
        · rw [upd_ne hc]; exact (if_neg hc).symm
      | true =>
        rw [if_pos rfl, Option.bind_eq_some_iff] at ecr
        obtain ⟨y, ey, ecr⟩ := ecr
        rw [Option.bind_eq_some_iff] at ecr
        obtain ⟨k, ek, ecr⟩ := ecr
        rw [Option.bind_eq_some_iff] at ecr
        obtain ⟨z, ezz, ecr⟩ := ecr
        rw [Option.bind_eq_some_iff] at ecr
        obtain ⟨v, evv, ecr⟩ := ecr
        rw [Option.map_eq_some_iff] at ecr
        obtain ⟨rest', ecr, rfl⟩ := ecr
        refine ⟨e2, s2.grow g3, noX_wp ey fun H4 g4 ky rk => ⟨e2, (s2.grow g3).grow g4, noX_wp ezz fun H5 g5 vv rvv => ?_⟩⟩
        have eky := key_rep rk ek
        obtain ⟨evv2, _⟩ := scV_rep rvv evv
        subst evv2
        have g35 := g3.trans (g4.trans g5)
        have eD5 : H5 D = some (.dK (mergeK [] acc)) := g35 _ _ upd_same
        let G5 : Hp := fun b => if b = D then none else H5 b
        have g5D : G5 D = none := if_pos rfl
        have gG5 : Grow G G5 := fun c o e => by
          have ne : c ≠ D := fun z => by rw [z, hG] at e; cases e
          show (if c = D then none else H5 c) = some o
          rw [if_neg ne]; exact g35 c o (by rw [upd_ne ne]; exact e)
        refine ⟨mergeK [] acc, k, eky, eD5, ?_, hlt, G5, acc ++ [(k, vv)], rest', ?_, g5D, gg.trans gG5, t1 _ _ th gG5, by simp; omega, ecr, by rw [ep, List.append_assoc]; rfl⟩
        · have := length_mergeK acc []
          simp at this
          omega
        · rw [merge_snoc]
          funext c
          by_cases hc : c = D
          · subst hc; rw [upd_same, upd_same]
          · rw [upd_ne hc, upd_ne hc]; exact (if_neg hc).symm
  · have e : i = ps.length := by omega
    subst e
    rw [List.drop_length, compD] at ecr
    cases ecr
    rw [List.append_nil] at ep
    subst ep
    refine .inl ⟨stop _ _ thD (by rw [len]; exact Nat.le_refl _), ?_⟩
    subst ez
    exact q G gg D hG⟩
end
section
variable {X : Cx} {W : WX} {a k v tg : Expr} {es : List Expr} {pos : Pos} {t : Tg} {mi : MP (List PV)} {mt : MP Bool} {mk mv : MP PV} {e : Expr} {m : MP (List (Key × V))}
theorem sd_dc {scope : Scope} {own : List (Str × Nat)} (hc : X.calm = true) (hN : X.N.Nodup) (hi : SI X W tg a mi) (ok : BlkOk X.N X.env.scope scope own) (hl : (tgN t).all (fun j => (own.map (·.2)).contains j) = true)
    (hg : ∀ (s : Shared) (H : Hp) (C : Addr) (cl : List (Str × Addr)) (fp : List Addr), PGm (X.blk s H scope (compEnvC scope cl C X.env) fp) tg t) (ht : ∀ (s : Shared) (H : Hp) (C : Addr) (cl : List (Str × Addr)) (fp : List Addr), SPTs (X.blk s H scope (compEnvC scope cl C X.env) fp) W0 es mt)
    (hk : ∀ (s : Shared) (H : Hp) (C : Addr) (cl : List (Str × Addr)) (fp : List Addr), SP (X.blk s H scope (compEnvC scope cl C X.env) fp) W0 k mk)
    (hv : ∀ (s : Shared) (H : Hp) (C : Addr) (cl : List (Str × Addr)) (fp : List Addr), SP (X.blk s H scope (compEnvC scope cl C X.env) fp) W0 v mv) (hs : ∀ x, foldedSetIterable a X.env x = pure x := by intro _; rfl) :
    SPD X W (.DictComp k v [⟨tg, a, es, 0⟩] scope pos) (mDComp (own.map (·.2)) t mi mt mk mv) :=
  PE.weak (pe_dc (g := tPG X.K X.mg t) (tt := tSPT X.K X.mg W0 mt) (tk := tSP X.K X.mg W0 mk) (tv := tSP X.K X.mg W0 mv) hc hN hi ok hg ht hk hv hs) fun σ H Q => dc_read hl
theorem se_newD (h : SPD X W e m) : SE X W e (mNewD m) := h.weak fun σ H Q ⟨env, σ0, τ, T, F, n, w⟩ => ⟨env, n.sees, wpP_mono (wpE_lift n w) fun es H1 g ⟨b, eb, k⟩ l na => by
  split at eb
  case isFalse => cases eb
  rename_i hsc
  cases eb
  refine k (upd H1 l (.dK es)) (fun b => if b = l then 1 else 0) (g.trans (Grow.upd na)) (fun a o e => if_neg ?_) (fun b => ?_) (.ref l) ?_
  · rintro rfl
    have := g _ _ e
    rw [na] at this; cases this
  · show (if b = l then 1 else 0) ≤ 1
    split <;> omega
  · exact .dK1 upd_same (dP_keys es) rfl (sc_owns 8 hsc) fun b => (Nat.zero_add _).symm⟩
end
end M

set_option Elab.async false
set_option linter.all false
set_option maxRecDepth 100000
set_option maxHeartbeats 4000000
/-! the newer pieces, worked out -/
namespace M
open PySem PySem.Spec PyProof.Rows L2
section
variable (ma mb md mk mx mv : MP PV) (mt mu : MP Bool) (ms mi : MP (List PV)) (me : ME (Nat × PV)) (env : LEnv) (i j n : Nat) (t : Tg) (m : MP (List (Key × V)))
@[simp] theorem ev_mIsBl : mIsBl ma env = (ma env).bind kIsBl := rfl
@[simp] theorem ev_kIsBl (b : Bool) : kIsBl (.bl b) = .ok (.bl true) := rfl
@[simp] theorem ev_mDNew (t : Bool) : mDNew t env = .ok ((9, .dct t []), env) := rfl
@[simp] theorem ev_mNewD : mNewD m env = liftP env (m env) fun es => if es.all (fun kv => scB kv.2) = true then some (9, .dct false (dP es)) else none := rfl
@[simp] theorem ev_mDUpd : mDUpd i me env = if isDctS env i = true then (me env).bind fun z => ofNx (dupdS z.2 i z.1.1 z.1.2) else .stuck := rfl
@[simp] theorem ev_isDctS : isDctS env i = (match env[i]? with | some (some s) => isDct s.v | _ => false) := rfl
@[simp] theorem ev_isDct (t : Bool) (kvs : List (PV × PV)) : isDct (.dct t kvs) = true := rfl
@[simp] theorem ev_mDComp (vs : List Nat) : mDComp vs t mi mt mk mv env = (mi env).bind fun ps => ofO (if sizeOk ps.length = true then (compD t mt mk mv (wipeE env vs) ps).map (mergeK []) else none) := rfl
@[simp] theorem ev_gDIn (neg t : Bool) (k : PV) (kvs : List (PV × PV)) : gDIn neg k (.dct t kvs) = if isKey t k = true then some (.bl (if neg then !(look kvs k).isSome else (look kvs k).isSome)) else none := rfl
@[simp] theorem ev_gDGet (t : Bool) (k : PV) (kvs : List (PV × PV)) : gDGet (.dct t kvs) k = if isKey t k = true then look kvs k else none := rfl
@[simp] theorem ev_isKeyI (i : Int) : isKey false (.int i) = true := rfl
@[simp] theorem ev_isKeyS (x : Str) : isKey false (.str x) = true := rfl
@[simp] theorem ev_gMin (i j : Int) : gMin [.int i, .int j] = some (.int (if j < i then j else i)) := by unfold gMin; simp [ltZ_eq]
@[simp] theorem ev_gMax (i j : Int) : gMax [.int i, .int j] = some (.int (if i < j then j else i)) := by unfold gMax; simp [ltZ_eq]
@[simp] theorem ints_O : ∀ l : List Int, intsO (l.map .int) = some l
  | [] => rfl
  | i :: l => by rw [List.map_cons, intsO, ints_O l]; rfl
@[simp] theorem ev_gSum (l : List Int) : gSum [.lst (l.map .int)] = some (.int l.sum) := by
  show (intsO (l.map .int)).map (fun ns => PV.int ns.sum) = _
  rw [ints_O]; rfl
end
/-- a comprehension over numbers that sorts out -/
theorem compF_filter {t : Tg} {mt : MP Bool} {me : MP PV} {env : LEnv} {p : Int → Bool} : ∀ {l : List Int}, (∀ i ∈ l, ∃ e, setT t 0 (.int i) env = some e ∧ mt e = .ok (p i) ∧ (p i = true → me e = .ok (.int i))) → compF t mt me env (l.map .int) = some ((l.filter p).map .int)
  | [], _ => by rw [List.map_nil, compF]; rfl
  | i :: l, h => by
    obtain ⟨e, h1, h2, h3⟩ := h i List.mem_cons_self
    have ih := compF_filter (l := l) (fun j hj => h j (List.mem_cons_of_mem _ hj))
    rw [List.map_cons, compF, h1]
    simp only [Option.bind_some, h2, noX]
    cases hp : p i with
    | true =>
      simp only [if_true, h3 hp, noX, Option.bind_some, ev_hInt, ih, Option.map_some]
      rw [List.filter_cons, hp]; rfl
    | false =>
      rw [List.filter_cons, hp]
      simp only [Bool.false_eq_true, if_false]
      exact ih
theorem comp_filter {vs : List Nat} {t : Tg} {mi : MP (List PV)} {mt : MP Bool} {me : MP PV} {env : LEnv} {p : Int → Bool} {l : List Int} (hi : mi env = .ok (l.map .int)) (hz : l.length ≤ 16777216) (h : ∀ i ∈ l, ∃ e, setT t 0 (.int i) (wipeE env vs) = some e ∧ mt e = .ok (p i) ∧ (p i = true → me e = .ok (.int i))) :
    mComp vs t mi mt me env = .ok ((l.filter p).map .int) := by
  unfold mComp
  rw [hi]
  show ofO ((compF t mt me (wipeE env vs) (l.map .int)).bind szL) = _
  rw [compF_filter h]
  show ofO (szL ((l.filter p).map .int)) = _
  unfold szL
  rw [if_pos (show sizeOk ((l.filter p).map PV.int).length = true from decide_eq_true (by rw [List.length_map]; exact Nat.le_trans (List.length_filter_le _ _) hz))]
  rfl
/-- numbers from 1 on -/
def nums (n : Nat) : List Int := (List.range n).map fun (i : Nat) => 1 + (i : Int)
theorem rngs_nums (n : Nat) : rngs 1 n = (nums n).map .int := by
  unfold rngs nums
  rw [List.map_map]; rfl
theorem mem_nums {n : Nat} {x : Int} : x ∈ nums n ↔ 0 < x ∧ x ≤ n := by
  unfold nums
  rw [List.mem_map]
  constructor
  · rintro ⟨i, hi, rfl⟩
    rw [List.mem_range] at hi
    omega
  · rintro ⟨h1, h2⟩
    exact ⟨(x - 1).toNat, by rw [List.mem_range]; omega, by omega⟩
theorem sorted_nums (n : Nat) : (nums n).Pairwise (· < ·) := by
  unfold nums
  rw [List.pairwise_map]
  exact (List.pairwise_lt_range (n := n)).imp fun h => by omega
theorem len_nums (n : Nat) : (nums n).length = n := by unfold nums; simp
/-! keys of a dict of numbers -/
def hasI (kvs : List (PV × PV)) (x : Int) : Bool := kvs.any fun kv => keq kv.1 (.int x)
theorem look_has (kvs : List (PV × PV)) (x : Int) : (look kvs (.int x)).isSome = hasI kvs x := by
  unfold look hasI
  induction kvs with
  | nil => rfl
  | cons a l ih =>
    rw [List.find?_cons, List.any_cons]
    cases h : keq a.1 (.int x) with
    | true => rfl
    | false => simpa using ih
theorem keq_int {p : PV} {i : Int} (h : keq p (.int i) = true) : p = .int i := by
  cases p <;> simp [keq, keq1] at h
  rw [h]
theorem has_dput (kvs : List (PV × PV)) (i x : Int) (v : PV) : hasI (dput kvs (.int i) v) x = (hasI kvs x || decide (i = x)) := by
  unfold dput
  split
  · rename_i h
    have e : hasI (kvs.map fun kv => if keq kv.1 (.int i) = true then (kv.1, v) else kv) x = hasI kvs x := by
      unfold hasI
      rw [List.any_map]
      congr 1
      funext kv
      show keq (if keq kv.1 (.int i) = true then (kv.1, v) else kv).1 (.int x) = _
      split <;> rfl
    rw [e]
    by_cases hx : i = x
    · subst hx
      have : hasI kvs i = true := h
      rw [this]; rfl
    · simp [hx]
  · unfold hasI
    rw [List.any_append]
    simp [keq, keq1]
theorem len_dput (kvs : List (PV × PV)) (k v : PV) : (dput kvs k v).length ≤ kvs.length + 1 := by
  unfold dput
  split <;> simp
end M

set_option Elab.async false
set_option linter.all false
set_option maxRecDepth 100000
set_option maxHeartbeats 4000000
/-! values that are new through and through; comprehensions of these; list + list of what is owned; a if c else b -/
namespace M
open PySem PySem.Spec PyProof.Rows L2
section
variable {K : PySem.W.Frag} {mg : Str → Option Value} {H : Hp} {T T' : Cnt}
mutual
theorem Own.re : ∀ {d e : Nat} {v : V} {p : PV} {f : Cnt}, Own K mg H T d v p f → hgt p ≤ d → hgt p ≤ e → Own K mg H T' e v p f
  | _, _, _, _, _, .non z, _, _ => .non z
  | _, _, _, _, _, .bl k z, _, _ => .bl k z
  | _, _, _, _, _, .int i z, _, _ => .int i z
  | _, _, _, _, _, .str x z, _, _ => .str x z
  | _, _, _, _, _, .tup h r, l, l2 => .tup h (Owns.re r (by rw [hgt] at l; exact l) (by rw [hgt] at l2; exact l2))
  | _, _, _, _, _, .ktp h r, l, l2 => .ktp h (Owns.re r (by rw [hgt] at l; exact l) (by rw [hgt] at l2; exact l2))
  | _, _, _, _, _, .rng h z, _, _ => .rng h z
  | _, _, _, _, _, .lst0 h r, l, _ => by rw [hgt] at l; omega
  | _, _, _, _, _, .scr0 h r, l, _ => by rw [hgt] at l; omega
  | _, 0, _, _, _, .lst1 h r hg, l, l2 => by rw [hgt] at l2; omega
  | _, e + 1, _, _, _, .lst1 h r hg, l, l2 => .lst1 h (Owns.re r (by rw [hgt] at l; omega) (by rw [hgt] at l2; omega)) hg
  | _, _, _, _, _, .dK0 h t e1 e2 r, l, _ => by rw [hgt] at l; omega
  | _, 0, _, _, _, .dK1 h e1 e2 r hg, l, l2 => by rw [hgt] at l2; omega
  | _, e + 1, _, _, _, .dK1 h e1 e2 r hg, l, l2 => .dK1 h e1 e2 (Owns.re r (by rw [hgt, hgtK_map] at l; omega) (by rw [hgt, hgtK_map] at l2; omega)) hg
  | _, _, _, _, _, .dT0 h t e1 e2 r, l, _ => by rw [hgt] at l; omega
  | _, 0, _, _, _, .dT1 h e1 e2 r hg, l, l2 => by rw [hgt] at l2; omega
  | _, e + 1, _, _, _, .dT1 h e1 e2 r hg, l, l2 => .dT1 h e1 e2 (Owns.re r (by rw [hgt, hgtK_map] at l; omega) (by rw [hgt, hgtK_map] at l2; omega)) hg
  | _, _, _, _, _, .ins0 h t m e1 e2 r, l, _ => by rw [hgt] at l; omega
  | _, 0, _, _, _, .ins1 h m e1 e2 r hg, l, l2 => by rw [hgt] at l2; omega
  | _, e + 1, _, _, _, .ins1 h m e1 e2 r hg, l, l2 => .ins1 h m e1 e2 (Owns.re r (by rw [hgt, hgtF_map] at l; omega) (by rw [hgt, hgtF_map] at l2; omega)) hg
theorem Owns.re : ∀ {d e : Nat} {vs : List V} {ps : List PV} {f : Cnt}, Owns K mg H T d vs ps f → hgts ps ≤ d → hgts ps ≤ e → Owns K mg H T' e vs ps f
  | _, _, _, _, _, .nil z, _, _ => .nil z
  | _, _, _, _, _, .cons h r hk, l, l2 => .cons (Own.re h (by rw [hgts] at l; omega) (by rw [hgts] at l2; omega)) (Owns.re r (by rw [hgts] at l; omega) (by rw [hgts] at l2; omega)) hk
end
end
/-- its value is new through and through: nothing of it stood at the start, nothing of it is shared -/
def tSN (K : PySem.W.Frag) (mg : Str → Option Value) (W : WX) (m : MP PV) : TE := fun σ H Q => ∃ env, Sees K mg H env σ ∧ wpP W K mg σ H (m env) fun p H' => ∀ x H2 f, Grow H' H2 → (∀ b, f b ≤ 1) → (∀ b o, H b = some o → f b = 0) → (∀ T d, hgt p ≤ d → Own K mg H2 T d x p f) → Q x H2
def tSNs (K : PySem.W.Frag) (mg : Str → Option Value) (W : WX) (m : MP (List PV)) : TA := fun σ H Q => ∃ env, Sees K mg H env σ ∧ wpP W K mg σ H (m env) fun p H' => ∀ x H2 f, Grow H' H2 → (∀ b, f b ≤ 1) → (∀ b o, H b = some o → f b = 0) → (∀ T d, hgts p ≤ d → Owns K mg H2 T d x p f) → Q x H2
def SN (X : Cx) (W : WX) (e : Expr) (m : MP PV) : Prop := PE X e (tSN X.K X.mg W m)
def SNs (X : Cx) (W : WX) (e : List Expr) (m : MP (List PV)) : Prop := PA X e (tSNs X.K X.mg W m)
def pFlat (m : MP PV) : MP PV := fun env => (m env).bind fun p => if hgt p = 0 then .ok p else .stuck
def pNew (m : MP (List PV)) : MP PV := fun env => (m env).bind fun ps => if hgts ps = 0 then .ok (.lst ps) else .stuck
def tallP (r : Nat × PV) : Option PV := if hgt r.2 ≤ r.1 then some r.2 else none
def pCall (n : Nat) (G : Fn) (ms : MP (List PV)) : MP PV := fun env => (ms env).bind fun ps => callR n G ps tallP
def mN (m : MP PV) : ME (Nat × PV) := fun env => liftP env (m env) fun p => if hgt p ≤ 9 then some (9, p) else none
section
variable {X : Cx} {W : WX} {a b c e tg : Expr} {es : List Expr} {pos p p2 : Pos} {m ma mb : MP PV} {ms : MP (List PV)} {mt : MP Bool} {me mf : ME (Nat × PV)} {t : Tg} {mi : MP (List PV)}
theorem sn_flat (h : SP X W a m) : SN X W a (pFlat m) := h.weak fun σ H Q ⟨env, s, w⟩ => tsp_bind (k := fun env p => if hgt p = 0 then .ok p else .stuck) s w fun p x H1 g r s1 w1 => by
  split at w1
  · rename_i hz
    exact w1 H1 (.refl _) x H1 (fun _ => 0) (.refl _) (fun _ => Nat.zero_le _) (fun _ _ _ => rfl) fun T d _ => r.own hz d
  · exact w1.elim
theorem sn_new (h : SPF X W a ms) : SN X W a (pNew ms) := h.weak fun σ H Q ⟨env, s, w⟩ => ⟨env, s, wpP_mono (wpP_bind w) fun ps H' g w1 xs l r na => by
  split at w1
  · rename_i hz
    refine w1 H' (.refl _) (.ref l) (upd H' l (.lst xs)) (fun b => if b = l then 1 else 0) (Grow.upd na) (fun b => ?_) (fun b o e => if_neg ?_) fun T d hd => ?_
    · show (if b = l then 1 else 0) ≤ 1
      split <;> omega
    · rintro rfl
      rw [g _ _ e] at na; cases na
    · rw [hgt] at hd
      obtain ⟨d, rfl⟩ : ∃ k, d = k + 1 := ⟨d - 1, by omega⟩
      exact .lst1 upd_same ((r.grow (Grow.upd na)).own hz d) fun b => (Nat.zero_add _).symm
  · exact w1.elim⟩
theorem sn_cal {x : Str} {ps : List Str} {j k n : Nat} {G : Fn} (c : CalM X.prog X.w X.K X.mg X.base k x ps n G) (tk : Takes X W) (hr : Room j X.A) (hk : k ≤ j) (ha : SPs X W (e :: es) ms) (hg : Gl X x := by rfl) (hdb : (x == ("__debug__" : Str)) = false := by decide) (he : starEach (e :: es) X.env = (false, eval e X.env) :: starEach es X.env := by rfl) (hpl : (backTo pos (starEach es X.env)).any (·.1) = false := by rfl) :
    SN X W (.Call (.Name x p) (e :: es) [] pos) (pCall n G ms) := by
  obtain ⟨f, fd, F, hm, hkp, hb, _⟩ := c.ex
  exact (pe_callS F (hr.mono hk) hg hm hkp hb (fun σ => passAt tk σ) ha hdb he hpl).weak fun σ H Q ⟨env, s, w⟩ =>
    tsps_bind (k := fun env ps => callR n G ps tallP) s w fun ps xs H1 g0 r s1 w1 => call_wp r w1 fun z c x H' f e g o on fz q => by
      unfold tallP at e
      split at e
      · rename_i hz
        cases e
        exact q H' g x H' f (.refl _) on (fun b o hb => fz b o (g0 b o hb)) fun T d hd => o.re hz hd
      · cases e
theorem sns_nil : SNs X W [] mNil := pa_nil.weak fun σ H Q ⟨env, s, w⟩ => w H (.refl _) [] H (fun _ => 0) (.refl _) (fun _ => Nat.zero_le _) (fun _ _ _ => rfl) fun T d _ => .nil fun _ => rfl
theorem sns_cons (ha : SN X W a ma) (hr : SNs X W es ms) (hs : starEach (a :: es) X.env = (false, eval a X.env) :: starEach es X.env := by rfl) : SNs X W (a :: es) (mCons ma ms) :=
  (pa_cons ha hr hs).weak fun σ H Q ⟨env, s, w⟩ => ⟨env, s, wpP_mono (wpP_bind w) fun p H1 g w1 x H2 f g2 f1 fz own =>
    ⟨env, s.grow (g.trans g2), wpP_mono (wpP_bind (wpP_mono' w1 g2)) fun ps H3 g3 w3 xs H4 f' g4 f1' fz' owns => by
      have fx : ∀ b, f b ≠ 0 → ∃ o, H2 b = some o := (own (fun _ => 0) (hgt p) (Nat.le_refl _)).there'
      refine w3 H3 (.refl _) (x :: xs) H4 (fun b => f b + f' b) g4 (fun b => ?_) (fun b o e => ?_) fun T d hd => .cons ((own T d (by rw [hgts] at hd; omega)).grow (g3.trans g4)) (owns T d (by rw [hgts] at hd; omega)) fun _ => rfl
      · by_cases h : f b = 0
        · have := f1' b; show f b + f' b ≤ 1; omega
        · obtain ⟨o, e⟩ := fx b h
          have := fz' b o e
          have := f1 b
          show f b + f' b ≤ 1; omega
      · have h1 := fz b o e
        have h2 := fz' b o (g2 _ _ (g _ _ e))
        show f b + f' b = 0; omega⟩⟩
def pTup (ms : MP (List PV)) : MP PV := fun env => (ms env).bind fun ps => if sizeOk ps.length then .ok (.tup ps) else .stuck
def pLst (ms : MP (List PV)) : MP PV := fun env => (ms env).bind fun ps => if sizeOk ps.length then .ok (.lst ps) else .stuck
theorem sn_tup {x1} (h : SNs X W es ms) : SN X W (.Tuple es x1 pos) (pTup ms) := (pe_tup h).weak fun σ H Q ⟨env, s, w⟩ => ⟨env, s, wpP_mono (wpP_bind w) fun ps H1 g w1 xs H2 f g2 f1 fz own => by
  split at w1
  · rename_i hz
    refine ⟨by rw [(own (fun _ => 0) _ (Nat.le_refl _)).rep.length]; exact sizeOk_le hz, fun q hq => w1 H2 g2 (.ref q) (upd H2 q (.tup xs)) f (Grow.upd hq) f1 fz fun T d hd => .tup upd_same ((own T d (by rw [hgt] at hd; exact hd)).grow (Grow.upd hq))⟩
  · exact w1.elim⟩
theorem sn_lst (h : SNs X W es ms) : SN X W (.List es pos) (pLst ms) := (pe_lst h).weak fun σ H Q ⟨env, s, w⟩ => ⟨env, s, wpP_mono (wpP_bind w) fun ps H1 g w1 xs H2 f g2 f1 fz own => by
  split at w1
  · rename_i hz
    refine ⟨by rw [(own (fun _ => 0) _ (Nat.le_refl _)).rep.length]; exact sizeOk_le hz, fun q hq => ?_⟩
    have fq : f q = 0 := Classical.byContradiction fun z => by obtain ⟨o, e⟩ := (own (fun _ => 0) (hgts ps) (Nat.le_refl _)).there' q z; rw [hq] at e; cases e
    refine w1 H2 g2 (.ref q) (upd H2 q (.lst xs)) (fun b => f b + if b = q then 1 else 0) (Grow.upd hq) (fun b => ?_) (fun b o e => ?_) fun T d hd => ?_
    · by_cases hb : b = q
      · subst hb; show f b + _ ≤ 1; rw [if_pos rfl]; omega
      · show f b + _ ≤ 1; rw [if_neg hb]; have := f1 b; omega
    · have ne : b ≠ q := by rintro rfl; rw [g2 _ _ (g _ _ e)] at hq; cases hq
      have := fz b o e
      show f b + _ = 0; rw [if_neg ne]; omega
    · rw [hgt] at hd
      obtain ⟨d, rfl⟩ : ∃ k, d = k + 1 := ⟨d - 1, by omega⟩
      exact .lst1 upd_same ((own T d (by omega)).grow (Grow.upd hq)) fun b => rfl
  · exact w1.elim⟩
/-- settled -/
theorem se_n (h : SN X W a m) : SE X W a (mN m) := h.weak fun σ H Q ⟨env, σ0, τ, T, F, n, w⟩ => ⟨env, n.sees, wpP_mono (wpE_lift n w) fun p H' g ⟨q, e, k⟩ x H2 f g2 f1 fz own => by
  split at e
  · rename_i hz
    cases e
    exact k H2 f (g.trans g2) fz f1 x (own _ 9 hz)
  · cases e⟩
/-- read -/
theorem wpP_up {K : PySem.W.Frag} {mg : Str → Option Value} {σ : L2.St} {H : Hp} {α : Type} {r : Rs Xn α} {Q : α → Hp → Prop} (h : wpP W K mg σ H r Q) : wpP W K mg σ H r fun a H' => ∀ H2, Grow H' H2 → Q a H2 := by
  cases r with
  | stuck => exact h
  | ok a => exact fun H' g H2 g2 => h H2 (g.trans g2)
  | exc x => exact h
theorem wpE_frm {K : PySem.W.Frag} {mg : Str → Option Value} {σ σ0 : L2.St} {τ F F1 : Cnt} {H H1 : Hp} {α : Type} {r : Rs (Xn × LEnv) (α × LEnv)} {Q : α → LEnv → Hp → Cnt → Cnt → Cnt → Prop} (h : wpE W K mg σ σ0 τ H F r Q) (fr : Frm H F H1 F1) : wpE W K mg σ σ0 τ H1 F1 r Q := by
  cases r with
  | stuck => exact h
  | ok a => exact fun H' T' F' f sl su on fr' => h H' T' F' f sl su on (fr.trans fr')
  | exc x => exact wpX_frm h fr
theorem sp_n (h : SN X W a m) : SP X W a m := h.weak fun σ H Q ⟨env, s, w⟩ => ⟨env, s, wpP_mono (wpP_up w) fun p H' g q x H2 f g2 f1 fz own => q H2 g2 x (own (fun _ => 0) _ (Nat.le_refl _)).rep⟩

/-! ### comprehensions of new things -/
def compN (t : Tg) (mt : MP Bool) (me : MP PV) (env : LEnv) : List PV → Option (List PV)
  | [] => some []
  | p :: r => (setT t 0 p env).bind fun e => (noX (mt e)).bind fun b => if b = true then (noX (me e)).bind fun y => (compN t mt me env r).map (y :: ·) else compN t mt me env r
def pComp (vs : List Nat) (t : Tg) (mi : MP (List PV)) (mt : MP Bool) (me : MP PV) : MP PV := fun env => (mi env).bind fun ps => ofO ((compN t mt me (wipeE env vs) ps).bind fun ys => if sizeOk ys.length then some (.lst ys) else none)
theorem lcn_read {K : PySem.W.Frag} {mg : Str → Option Value} {vs' : List Nat} {σ : L2.St} {H : Hp} {Q : VK} (hl : (tgN t).all (fun j => vs'.contains j) = true) : tSN K mg W (pComp vs' t mi mt ma) σ H Q → tLc (tSI K mg W mi) (tPG K mg t) (tSPT K mg W0 mt) (tSN K mg W0 ma) vs' σ H Q := fun ⟨env, s, w⟩ => ⟨env, s, by
  refine wpP_mono (wpP_bind w) fun ps H1 g w1 J hJ D hD => ?_
  obtain ⟨zp, ez, q⟩ := wpP_ofO w1
  obtain ⟨vs, rv, there, th, t1, t2, go, stop, yld⟩ := hJ
  rw [Option.bind_eq_some_iff] at ez
  obtain ⟨zs, ec, ez⟩ := ez
  split at ez
  case isFalse => cases ez
  rename_i hz
  cases ez
  have len := rv.length
  have s1 := s.grow g
  refine ⟨fun i n H => n = ps.length - i ∧ i ≤ ps.length ∧ ∃ G acc ys rest fc, H = upd G D (.lst acc) ∧ G D = none ∧ Grow H1 G ∧ there G ∧ (∀ b, fc b ≤ 1) ∧ (∀ b o, H1 b = some o → fc b = 0) ∧ (∀ T d, hgts ys ≤ d → Owns K mg G T d acc ys fc) ∧ compN t mt ma (wipeE env vs') (ps.drop i) = some rest ∧ zs = ys ++ rest,
    ⟨ps.length, rfl, Nat.zero_le _, H1, [], [], zs, fun _ => 0, rfl, hD, .refl _, th, fun _ => Nat.zero_le _, fun _ _ _ => rfl, fun _ _ _ => .nil fun _ => rfl, ec, rfl⟩, ?_⟩
  rintro i n H ⟨rfl, hi, G, acc, ys, rest, fc, rfl, hG, gg, th, fc1, fcz, oa, ecr, ez⟩
  have gD : Grow G (upd G D (.lst acc)) := Grow.upd hG
  have thD := t1 _ _ th gD
  by_cases hlt : i < ps.length
  · have hv : i < vs.length := by rw [len]; exact hlt
    refine .inr ⟨go i _ vs[i] thD (by simp [hv]), fun H' => i + 1 ≤ ps.length ∧ ∃ G acc ys rest fc, H' = upd G D (.lst acc) ∧ G D = none ∧ Grow H1 G ∧ there G ∧ (∀ b, fc b ≤ 1) ∧ (∀ b o, H1 b = some o → fc b = 0) ∧ (∀ T d, hgts ys ≤ d → Owns K mg G T d acc ys fc) ∧ compN t mt ma (wipeE env vs') (ps.drop (i + 1)) = some rest ∧ zs = ys ++ rest,
      fun H' ⟨a, b⟩ => ⟨ps.length - (i + 1), by omega, rfl, a, b⟩, fun x H' y => ?_⟩
    obtain ⟨rfl, hx⟩ := yld i _ x H' hv thD y
    have hd : ps.drop i = ps[i] :: ps.drop (i + 1) := List.drop_eq_getElem_cons hlt
    rw [hd, compN, Option.bind_eq_some_iff] at ecr
    obtain ⟨e2, es2, ecr⟩ := ecr
    rw [Option.bind_eq_some_iff] at ecr
    obtain ⟨b, eb, ecr⟩ := ecr
    obtain ⟨v, ev, rx⟩ := rv.get (i := i) (p := ps[i]) (by simp [hlt])
    rw [hx] at ev; cases ev
    have g2 : Grow H1 (upd G D (.lst acc)) := gg.trans gD
    have sw := wipe_sees (s1.grow g2) vs'
    refine ⟨_, _, _, e2, .refl _, sw, rx.grow g2, es2, fun σ2 s2 l2 k2 => ⟨?_, e2, s2, noX_wp eb fun H3 g3 => ?_⟩⟩
    · refine (wipe_eq (σ := wipe σ vs') l2 fun j hj => k2 j fun z => hj ?_).trans ?_
      · have := List.all_eq_true.mp hl j z
        simpa using this
      · refine List.ext_getElem? fun j => ?_
        rw [wipe_get, wipe_get, wipe_length]
        by_cases h : j ∈ vs'
        · simp [h]
        · simp [h]
    · have eD : H3 D = some (.lst acc) := g3 _ _ upd_same
      let G3 : Hp := fun b => if b = D then none else H3 b
      have g3D : G3 D = none := if_pos rfl
      have gG : Grow G G3 := fun c o e => by
        have ne : c ≠ D := fun z => by rw [z, hG] at e; cases e
        show (if c = D then none else H3 c) = some o
        rw [if_neg ne]; exact g3 c o (by rw [upd_ne ne]; exact e)
      cases b with
      | false =>
        refine ⟨hlt, G3, acc, ys, rest, fc, ?_, g3D, gg.trans gG, t1 _ _ th gG, fc1, fcz, fun T d hd => (oa T d hd).grow gG, by simpa using ecr, ez⟩
        funext c
        by_cases hc : c = D
        · subst hc; rw [upd_same]; exact eD
        · rw [upd_ne hc]; exact (if_neg hc).symm
      | true =>
        rw [if_pos rfl, Option.bind_eq_some_iff] at ecr
        obtain ⟨y, ey, ecr⟩ := ecr
        rw [Option.map_eq_some_iff] at ecr
        obtain ⟨rest', ecr, rfl⟩ := ecr
        refine ⟨e2, s2.grow g3, noX_wp ey fun H4 g4 v H5 f g5 f1 fz own => ?_⟩
        have g35 := g4.trans g5
        have eD5 : H5 D = some (.lst acc) := g35 _ _ eD
        let G5 : Hp := fun b => if b = D then none else H5 b
        have g5D : G5 D = none := if_pos rfl
        have gG5 : Grow G G5 := fun c o e => by
          have ne : c ≠ D := fun z => by rw [z, hG] at e; cases e
          show (if c = D then none else H5 c) = some o
          rw [if_neg ne]; exact g35 c o (g3 c o (by rw [upd_ne ne]; exact e))
        have la := (oa (fun _ => 0) _ (Nat.le_refl _)).rep.length
        have hz' := of_decide_eq_true hz
        have fcx : ∀ b, fc b ≠ 0 → ∃ o, G b = some o := (oa (fun _ => 0) (hgts ys) (Nat.le_refl _)).there'
        have fD : f D = 0 := fz D _ eD
        have ff : ∀ b, fc b ≠ 0 → f b = 0 := fun b h => by
          obtain ⟨o, e⟩ := fcx b h
          have ne : b ≠ D := fun z => by rw [z, hG] at e; cases e
          exact fz b o (g3 _ _ (by rw [upd_ne ne]; exact e))
        have own5 : ∀ T d, hgt y ≤ d → Own K mg G5 T d v y f := fun T d hd => by
          refine ((own (fun b => if b = D then 1 else 0) d hd).keep (T' := fun b => if b = D then 1 else 0) (fun _ _ _ z => z) fun c o e z => ?_).re hd hd
          have ne : c ≠ D := by
            rintro rfl
            rcases z with z | z | z
            · exact z fD
            · simp at z
            · rw [eD5] at e; cases e; exact z
          exact (if_neg ne).trans e
        refine ⟨acc, eD5, ?_, hlt, G5, acc ++ [v], ys ++ [y], rest', (fun b => fc b + f b), ?_, g5D, gg.trans gG5, t1 _ _ th gG5, fun b => ?_, fun b o e => ?_, fun T d hd => ?_, ecr, by rw [ez, List.append_assoc]; rfl⟩
        · rw [la, sizeLine_eq]
          rw [ez, List.length_append, List.length_cons] at hz'
          omega
        · funext c
          by_cases hc : c = D
          · subst hc; rw [upd_same, upd_same]
          · rw [upd_ne hc, upd_ne hc]; exact (if_neg hc).symm
        · by_cases h : fc b = 0
          · have := f1 b; show fc b + f b ≤ 1; omega
          · have := ff b h; have := fc1 b; show fc b + f b ≤ 1; omega
        · have h1 := fcz b o e
          have h2 := fz b o (g3 _ _ (g2 _ _ e))
          show fc b + f b = 0; omega
        · rw [hgts_app, hgts] at hd
          exact ((oa T d (by omega)).grow gG5).append (.cons (own5 T d (by omega)) (.nil (f := fun _ => 0) fun _ => rfl) fun _ => rfl)
  · have e : i = ps.length := by omega
    subst e
    rw [List.drop_length, compN] at ecr
    cases ecr
    rw [List.append_nil] at ez
    subst ez
    have fcx : fc D = 0 := Classical.byContradiction fun z => by obtain ⟨o, e⟩ := (oa (fun _ => 0) (hgts zs) (Nat.le_refl _)).there' D z; rw [hG] at e; cases e
    refine .inl ⟨stop _ _ thD (by rw [len]; exact Nat.le_refl _), q H1 (.refl _) (.ref D) (upd G D (.lst acc)) (fun b => fc b + if b = D then 1 else 0) (gg.trans gD) (fun b => ?_) (fun b o e => ?_) fun T d hd => ?_⟩
    · by_cases hb : b = D
      · subst hb; show fc b + _ ≤ 1; rw [if_pos rfl]; omega
      · show fc b + _ ≤ 1; rw [if_neg hb]; have := fc1 b; omega
    · have ne : b ≠ D := by rintro rfl; rw [g _ _ e] at hD; cases hD
      have := fcz b o (g _ _ e)
      show fc b + _ = 0; rw [if_neg ne]; omega
    · rw [hgt] at hd
      obtain ⟨d, rfl⟩ : ∃ k, d = k + 1 := ⟨d - 1, by omega⟩
      exact .lst1 upd_same ((oa T d (by omega)).grow gD) fun b => rfl⟩
theorem sn_lc {scope : Scope} {own : List (Str × Nat)} (hc : X.calm = true) (hN : X.N.Nodup) (hi : SI X W tg a mi) (ok : BlkOk X.N X.env.scope scope own) (hl : (tgN t).all (fun j => (own.map (·.2)).contains j) = true)
    (hg : ∀ (s : Shared) (H : Hp) (C : Addr) (cl : List (Str × Addr)) (fp : List Addr), PGm (X.blk s H scope (compEnvC scope cl C X.env) fp) tg t) (ht : ∀ (s : Shared) (H : Hp) (C : Addr) (cl : List (Str × Addr)) (fp : List Addr), SPTs (X.blk s H scope (compEnvC scope cl C X.env) fp) W0 es mt)
    (he : ∀ (s : Shared) (H : Hp) (C : Addr) (cl : List (Str × Addr)) (fp : List Addr), SN (X.blk s H scope (compEnvC scope cl C X.env) fp) W0 e ma) (hs : ∀ x, foldedSetIterable a X.env x = pure x := by intro _; rfl) :
    SN X W (.ListComp e [⟨tg, a, es, 0⟩] scope pos) (pComp (own.map (·.2)) t mi mt ma) :=
  PE.weak (pe_lc (g := tPG X.K X.mg t) (tt := tSPT X.K X.mg W0 mt) (te := tSN X.K X.mg W0 ma) hc hN hi ok hg ht he hs) fun σ H Q => lcn_read hl

/-! ### list + list, owned -/
def gCatE : Nat × List PV → Option (Nat × PV)
  | (d, [.lst ps, .lst qs]) => if sizeOk (ps.length + qs.length) then some (d - 1 + 1, .lst (ps ++ qs)) else none
  | _ => none
def mECat (ma mb : ME (Nat × PV)) : ME (Nat × PV) := eMap gCatE (mECons ma (mECons mb mENil))
theorem ses_cons_te {K : PySem.W.Frag} {mg : Str → Option Value} {ma : ME (Nat × PV)} {ms : ME (Nat × List PV)} {σ : L2.St} {H : Hp} {Q : List V → Hp → Prop} (h : tSEs K mg W (mECons ma ms) σ H Q) : tSE K mg W ma σ H fun x H1 => tSEs K mg W ms σ H1 fun xs H2 => Q (x :: xs) H2 := by
  obtain ⟨env, σ0, τ, T, F, n, w⟩ := h
  exact ⟨env, σ0, τ, T, F, n, wpE_mono (wpE_bind w) fun c env1 H1 T1 F1 f1 sl1 su1 on1 fr1 w1 x o1 =>
    ⟨env1, σ0, _, T1, F1, n.temp sl1 su1 on1 fr1 o1.there', wpE_mono (wpE_map w1) fun r env2 H2 T2 F2 f2 sl2 su2 on2 fr2 ⟨z, ez, w2⟩ xs o2 => by
      cases ez
      have o1' := o1.frm (τ := fun b => τ b + f1 b) (T' := fun b => F2 b + f2 b + (τ b + f1 b)) (F := F1) (fun b => by rw [su1 b]; show F1 b + f1 b + τ b = F1 b + (τ b + f1 b); omega) on1 (fun b => Nat.le_add_left _ _) fr2 (fun b => rfl)
      have e2 : ∀ b, T2 b = F2 b + f2 b + (τ b + f1 b) := su2
      have u2 : ∀ b, F2 b + f2 b + (τ b + f1 b) ≤ 1 := fun b => by rw [← e2 b]; exact on2 b
      obtain ⟨f1', l1, k1⟩ := o1'.low (fun b => by have := u2 b; omega) (Nat.min_le_left c.1 r.1)
      obtain ⟨f2', l2, k2⟩ := o2.low (fun b => by have := u2 b; omega) (Nat.min_le_right c.1 r.1)
      refine w2 H2 T2 F2 f2 sl2 su2 on2 fr2 H2 (fun b => F2 b + (f1' b + f2' b) + τ b) F2 (fun b => f1' b + f2' b) (sl2.keep (fun a o e t => ?_) fun a o e _ => e) (fun b => rfl) (fun b => ?_) (.grow (.refl _) fun b _ _ => ?_) (x :: xs) (.cons (k1 _ (fun b => ?_) fun b z z' => ?_) (k2 _ (fun b => ?_) fun b z z' => ?_) fun _ => rfl)
      · have := e2 a; have := l1 a; have := l2 a; show F2 a + (f1' a + f2' a) + τ a = 0; omega
      · have := u2 b; have := l1 b; have := l2 b; show F2 b + (f1' b + f2' b) + τ b ≤ 1; omega
      · have := l1 b; have := l2 b; show F2 b + (f1' b + f2' b) ≤ F2 b + f1 b + f2 b; omega
      · have := l1 b; have := l2 b; show F2 b + (f1' b + f2' b) + τ b ≤ F2 b + f2 b + (τ b + f1 b); omega
      · have := u2 b; have := l2 b; show F2 b + (f1' b + f2' b) + τ b = 0; omega
      · have := e2 b; have := l1 b; have := l2 b; show F2 b + (f1' b + f2' b) + τ b ≤ T2 b; omega
      · have := u2 b; have := l1 b; show F2 b + (f1' b + f2' b) + τ b = 0; omega⟩⟩
theorem ses_nil_te {K : PySem.W.Frag} {mg : Str → Option Value} {σ : L2.St} {H : Hp} {Q : List V → Hp → Prop} (h : tSEs K mg W mENil σ H Q) : Q [] H := by
  obtain ⟨env, σ0, τ, T, F, n, w⟩ := h
  exact w H T F (fun _ => 0) n.sl n.sum n.one .refl [] (.nil fun _ => rfl)
/-- a list's items -/
theorem Own.items {K : PySem.W.Frag} {mg : Str → Option Value} {H : Hp} {T : Cnt} : ∀ {d : Nat} {v : V} {ps : List PV} {f : Cnt}, Own K mg H T d v (.lst ps) f → ∃ a vs fc, v = .ref a ∧ LL K H a vs ∧ Owns K mg H T (d - 1) vs ps fc ∧ ∀ b, fc b ≤ f b
  | _, _, _, _, .lst0 h r => ⟨_, _, _, rfl, (by rcases h with ⟨h, _⟩ | h; exact .inl h; exact .inr h), r, fun _ => Nat.le_refl _⟩
  | _, _, _, _, .lst1 h r hg => ⟨_, _, _, rfl, LL.of h, r, fun b => by rw [hg]; omega⟩
theorem se_cat (ha : SE X W a me) (hb : SE X W b mf) : SE X W (.BinOp a .Add b pos) (mECat me mf) := (pe_op op_cat' ha hb).weak fun σ H Q ⟨env, σ0, τ, T, F, n, w⟩ => by
  have h : tSEs X.K X.mg W (mECons me (mECons mf mENil)) σ H (fun xs H2 => ∃ x y, xs = [x, y] ∧ rCat' X.K x y H2 Q) := ⟨env, σ0, τ, T, F, n, wpE_mono (wpE_map w) fun r env2 H2 T2 F2 f2 sl2 su2 on2 fr2 ⟨z, ez, w2⟩ xs o => by
    unfold gCatE at ez
    split at ez
    case h_2 => cases ez
    rename_i d ps qs er
    split at ez
    case isFalse => cases ez
    rename_i hz
    cases ez
    cases o with
    | @cons _ v vs p ps' f1 g1 _ o1 o' hk =>
      cases o' with
      | @cons _ v' vs' p' ps'' f2' g2 _ o2 o3 hk2 =>
        cases o3 with
        | nil z0 =>
          obtain ⟨a1, vs1, c1, e1, L1, i1, l1⟩ := o1.items
          obtain ⟨a2, vs2, c2, e2, L2, i2, l2⟩ := o2.items
          refine ⟨v, v', rfl, a1, a2, vs1, vs2, e1, e2, L1, L2, by rw [i1.rep.length, i2.rep.length]; exact sizeOk_le hz, fun q hq => ?_⟩
          have g := Grow.upd (o := .lst (vs1 ++ vs2)) hq
          have kk : ∀ b, c1 b + c2 b ≤ f2 b := fun b => by have := hk b; have := hk2 b; have := l1 b; have := l2 b; omega
          have t0 : T2 q = 0 := by
            have h1 : F2 q = 0 := Classical.byContradiction fun z => by obtain ⟨o, e, _⟩ := sl2.there q z; rw [hq] at e; cases e
            have h2 : f2 q = 0 := Classical.byContradiction fun z => by
              by_cases c : f1 q = 0
              · have h5 : f2' q ≠ 0 := by have := hk q; have := hk2 q; have := z0 q; omega
                obtain ⟨o, e⟩ := o2.there' q h5; rw [hq] at e; cases e
              · obtain ⟨o, e⟩ := o1.there' q c; rw [hq] at e; cases e
            have h3 : τ q = 0 := Classical.byContradiction fun z => by
              obtain ⟨o, e⟩ := n.ex q z
              obtain ⟨⟨o1, e1⟩, _⟩ := fr2.own q o e
              rw [hq] at e1; cases e1
            have := su2 q; omega
          have low : ∀ a, a ≠ q → F2 a + (c1 a + c2 a + if a = q then 1 else 0) + τ a ≤ T2 a := fun a ne => by rw [if_neg ne]; have := su2 a; have := kk a; omega
          refine w2 _ (fun b => F2 b + (c1 b + c2 b + if b = q then 1 else 0) + τ b) F2 (fun b => c1 b + c2 b + if b = q then 1 else 0) (sl2.keep (fun a o e t => ?_) fun a o e _ => g a o e) (fun b => rfl) (fun b => ?_) ⟨fun a o e z => (fr2.then_grow g).keep a o e z, fun a o e => ?_⟩ (.ref q)
            (.lst1 upd_same ((i1.keep (fun a o e t => ?_) fun a o e _ => g a o e).append (i2.keep (fun a o e t => ?_) fun a o e _ => g a o e)) fun b => rfl)
          · have ne : a ≠ q := fun z => by rw [z, hq] at e; cases e
            have := low a ne; show F2 a + (c1 a + c2 a + if a = q then 1 else 0) + τ a = 0; omega
          · show F2 b + (c1 b + c2 b + if b = q then 1 else 0) + τ b ≤ 1
            have := su2 b; have := on2 b; have := kk b
            by_cases hb : b = q
            · subst hb; rw [if_pos rfl]; omega
            · rw [if_neg hb]; omega
          · obtain ⟨z, l⟩ := (fr2.then_grow g).own a o e
            refine ⟨z, ?_⟩
            have ne : a ≠ q := fun z => by
              obtain ⟨⟨o1, e1⟩, _⟩ := fr2.own a o e
              rw [z, hq] at e1; cases e1
            have l' : F2 a + f2 a ≤ F a := l
            have := kk a
            show F2 a + (c1 a + c2 a + if a = q then 1 else 0) ≤ F a; rw [if_neg ne]; omega
          · have ne : a ≠ q := fun z => by rw [z, hq] at e; cases e
            have := low a ne; show F2 a + (c1 a + c2 a + if a = q then 1 else 0) + τ a = 0; omega
          · have ne : a ≠ q := fun z => by rw [z, hq] at e; cases e
            have := low a ne; show F2 a + (c1 a + c2 a + if a = q then 1 else 0) + τ a = 0; omega⟩
  obtain ⟨env, σ0, τ, T, F, n, w⟩ := ses_cons_te h
  refine ⟨env, σ0, τ, T, F, n, wpE_mono w fun r e H' T' F' f sl su on fr k x o => ?_⟩
  obtain ⟨env, σ0, τ, T, F, n, w⟩ := ses_cons_te (k x o)
  refine ⟨env, σ0, τ, T, F, n, wpE_mono w fun r e H' T' F' f sl su on fr k y o => ?_⟩
  obtain ⟨x', y', exy, r⟩ := ses_nil_te (k y o)
  cases exy
  exact r
/-! ### a if c else b, owned -/
def mIfE (mt : MP Bool) (ma mb : ME (Nat × PV)) : ME (Nat × PV) := fun env => match mt env with
  | .stuck => .stuck
  | .exc x => .exc (x, env)
  | .ok b => if b = true then ma env else mb env
theorem se_if (hc : SPT X W c mt) (ha : SE X W a me) (hb : SE X W b mf) : SE X W (.IfExp c a b pos) (mIfE mt me mf) := (pe_ifExp hc ha hb).weak fun σ H Q ⟨env, σ0, τ, T, F, n, w⟩ =>
  ⟨env, n.sees, by
    unfold mIfE at w
    cases h : mt env with
    | stuck => rw [h] at w; exact w
    | exc x => rw [h] at w; exact fun C dd H' g c => w C dd H' T F (n.grow g) (.grow g fun _ _ _ => Nat.le_refl _) c
    | ok b =>
      rw [h] at w
      intro H' g
      have fr : Frm H F H' F := .grow g fun _ _ _ => Nat.le_refl _
      cases b with
      | true => exact ⟨env, σ0, τ, T, F, n.grow g, wpE_frm w fr⟩
      | false => exact ⟨env, σ0, τ, T, F, n.grow g, wpE_frm w fr⟩⟩
end
end M

set_option Elab.async false
set_option linter.all false
set_option maxRecDepth 100000
set_option maxHeartbeats 4000000
/-! ranges as values, len of dicts, is True, a, b = list, extend, items of what is owned, {tuple: new} -/
namespace M
open PySem PySem.Spec PyProof.Rows L2

section
variable {K : PySem.W.Frag} {mg : Str → Option Value} {D : Ends} {env e : LEnv} {σ σ0 : L2.St} {τ T F T' F' f g gc : Cnt} {H H' : Hp} {i l d d0 d1 : Nat} {pin : Bool} {pv pv' : PV} {ho ho' : HO} {vs xs : List V} {ps qs : List PV} {W : WX}
theorem slots_wr (n : Now K mg H env σ σ0 τ T F) (sl : Slots K mg H' T' e σ σ0 F') (su : ∀ b, T' b = F' b + f b + τ b) (on : ∀ b, T' b ≤ 1) (fr : Frm H F H' fun b => F' b + f b)
    (es : e[i]? = some (some ⟨d0, pin, pv⟩)) (e1 : σ[i]? = some (some (.ref l))) (o : Owns K mg H' T' d1 xs qs f)
    (hinv : ∀ g, Own K mg H' T' d0 (.ref l) pv g → ∃ vs gc, H' l = some ho ∧ Owns K mg H' T' d vs ps gc ∧ (∀ b, g b = gc b + if b = l then 1 else 0) ∧
      ∀ gc' f' : Cnt, ∀ H2 T2, Owns K mg H2 T2 (min d d1) vs ps gc' → Owns K mg H2 T2 (min d d1) xs qs f' → H2 l = some ho' → ∃ c : Cnt, (∀ b, c b ≤ gc' b + f' b) ∧ Own K mg H2 T2 (min d d1 + 1) (.ref l) pv' (fun b => c b + if b = l then 1 else 0))
    (nst0 : ¬ Still ho) (w2 : wpS W K mg σ0 τ H F (.ok (.nx (e.set i (some ⟨min d d1 + 1, pin, pv'⟩)))) D) : D.nx σ (upd H' l ho') := by
  obtain ⟨v, g, G, ev, og, slG, hG, hp⟩ := sl.get es
  rw [e1] at ev; cases ev
  obtain ⟨vs, gc, hH, oc, hg, mk⟩ := hinv g og
  have ga : g l = gc l + 1 := by rw [hg, if_pos rfl]
  have t1 := on l
  have t2 := su l
  have t3 := hG l
  have nst : ∀ y, H' l = some y → ¬ Still y := fun y ey => by rw [hH] at ey; cases ey; exact nst0
  have u2 : ∀ b, G b + g b + f b + τ b ≤ 1 := fun b => by have := su b; have := on b; have := hG b; omega
  obtain ⟨gc', l1, k1⟩ := oc.low (fun b => by have := u2 b; have := hg b; omega) (Nat.min_le_left d d1)
  obtain ⟨f', l2, k2⟩ := o.low (fun b => by have := u2 b; omega) (Nat.min_le_right d d1)
  obtain ⟨c, hc⟩ : ∃ c : Cnt, ∀ b, c b = gc' b + f' b := ⟨fun b => gc' b + f' b, fun _ => rfl⟩
  -- the new counts
  have cz : ∀ b, gc b ≤ g b := fun b => by rw [hg]; omega
  let T2 : Cnt := fun b => G b + (c b + if b = l then 1 else 0) + τ b
  have tl : ∀ b, T2 b ≤ T' b := fun b => by
    show G b + (c b + if b = l then 1 else 0) + τ b ≤ T' b
    have := su b; have := hG b; have := hg b; have := l1 b; have := l2 b; have := hc b; omega
  have o1 : Owns K mg H' T2 (min d d1) vs ps gc' := k1 T2 tl fun b z z' => by
    show G b + (c b + if b = l then 1 else 0) + τ b = 0
    have := u2 b; have := hg b; have := l2 b; have := hc b
    by_cases hb : b = l
    · subst hb; rw [if_pos rfl] at this; omega
    · rw [if_neg hb]; rw [if_neg hb] at *; omega
  have o2 : Owns K mg H' T2 (min d d1) xs qs f' := k2 T2 tl fun b z z' => by
    show G b + (c b + if b = l then 1 else 0) + τ b = 0
    have := u2 b; have := hg b; have := l1 b; have := hc b
    by_cases hb : b = l
    · subst hb; rw [if_pos rfl] at *; omega
    · rw [if_neg hb]; rw [if_neg hb] at *; omega
  have t2l : T2 l ≠ 0 := by show G l + (c l + if l = l then 1 else 0) + τ l ≠ 0; rw [if_pos rfl]; omega
  have slG' : Slots K mg H' T2 (e.set i none) σ σ0 G := slG.keep (fun a o e t => by have := tl a; omega) fun a o e _ => e
  have s1 := slG'.wr (o' := ho') t2l (by omega) nst
  have s2 := o1.wr (o' := ho') t2l (by have := l1 l; omega) nst
  have s2' := o2.wr (o' := ho') t2l (by have := l2 l; have := u2 l; omega) nst
  obtain ⟨c3, hc3, s3⟩ := mk gc' f' (upd H' l ho') T2 s2 s2' upd_same
  let T3 : Cnt := fun b => G b + (c3 b + if b = l then 1 else 0) + τ b
  have tl3 : ∀ b, T3 b ≤ T2 b := fun b => by
    show G b + (c3 b + if b = l then 1 else 0) + τ b ≤ G b + (c b + if b = l then 1 else 0) + τ b
    have := hc b; have := hc3 b; omega
  have s3 := s3.keep (T' := T3) (fun a o e t => by have := tl3 a; omega) fun a o e _ => e
  have s1 := s1.keep (T' := T3) (fun a o e t => by have := tl3 a; omega) fun a o e _ => e
  have s4 := s1.put (s := ⟨min d d1 + 1, pin, pv'⟩) (get_set_none es) s3 hp
  rw [set_set_none, set_self e1] at s4
  refine w2 σ _ T3 _ ⟨s4, fun b => rfl, fun b => Nat.le_trans (tl3 b) (Nat.le_trans (tl b) (on b)), fun b z => ?_⟩ ⟨fun b y ey z => ?_, fun b y ey => ?_⟩
  · obtain ⟨y, ey⟩ := n.ex b z
    obtain ⟨⟨y', ey'⟩, _⟩ := fr.own b y ey
    by_cases hb : b = l
    · subst hb; exact ⟨_, upd_same⟩
    · exact ⟨y', by rw [upd_ne hb]; exact ey'⟩
  · have k := fr.keep b y ey z
    have ne : b ≠ l := fun q => by
      subst q
      rcases z with z | z
      · have h : F' b + f b ≤ F b := (fr.own b y ey).2; have := hG b; omega
      · exact nst y k z
    rw [upd_ne ne]; exact k
  · obtain ⟨⟨y', ey'⟩, lb⟩ := fr.own b y ey
    refine ⟨?_, ?_⟩
    · by_cases hb : b = l
      · subst hb; exact ⟨_, upd_same⟩
      · exact ⟨y', by rw [upd_ne hb]; exact ey'⟩
    · have lb' : F' b + f b ≤ F b := lb
      show G b + (c3 b + if b = l then 1 else 0) ≤ F b
      have := hG b; have := hg b; have := l1 b; have := l2 b; have := hc3 b; omega
end
/-! ### len(d), is True -/
def gLenDT : List PV → Option PV
  | [.dct true kvs] => some (.int (kvs.length : Int))
  | _ => none
def gLenDK : List PV → Option PV
  | [.dct false kvs] => some (.int (kvs.length : Int))
  | _ => none
def gIsB (neg : Bool) : PV → PV → Option PV
  | .bl a, .bl b => some (.bl (if neg then !decide (a = b) else decide (a = b)))
  | _, _ => none
section
variable {K : PySem.W.Frag} {mg : Str → Option Value}
theorem v_lenDT : COp K mg rLenT gLenDT := fun H xs ps z Q r e h => by
  unfold gLenDT at e
  split at e
  · cases e
    cases r with
    | cons r1 r2 =>
      cases r2
      cases r1 with
      | dT hs ek _ _ =>
        have := congrArg List.length ek
        simp only [List.length_map] at this
        exact ⟨_, _, rfl, hs, by rw [this]; exact h _ H (.refl H) (.int _)⟩
  · cases e
theorem v_lenDK : COp K mg (fun xs H Q => ∃ a kvs, xs = [V.ref a] ∧ H a = some (.dK kvs) ∧ Q (.int kvs.length) H) gLenDK := fun H xs ps z Q r e h => by
  unfold gLenDK at e
  split at e
  · cases e
    cases r with
    | cons r1 r2 =>
      cases r2
      cases r1 with
      | dK hs ek _ _ =>
        have := congrArg List.length ek
        simp only [List.length_map] at this
        exact ⟨_, _, rfl, hs, by rw [this]; exact h _ H (.refl H) (.int _)⟩
  · cases e
theorem v_isB : VOp K mg (fun x y H Q => ∃ a b, x = .bl a ∧ y = .bl b ∧ Q (.bl (decide (a = b))) H) (gIsB false) := fun H x y p q z Q r1 r2 e h => by
  unfold gIsB at e
  split at e
  · cases e; cases r1; cases r2; exact ⟨_, _, rfl, rfl, h _ H (.refl H) (.bl _)⟩
  · cases e
theorem v_notB : VOp K mg (fun x y H Q => ∃ a b, x = .bl a ∧ y = .bl b ∧ Q (.bl (!decide (a = b))) H) (gIsB true) := fun H x y p q z Q r1 r2 e h => by
  unfold gIsB at e
  split at e
  · cases e; cases r1; cases r2; exact ⟨_, _, rfl, rfl, h _ H (.refl H) (.bl _)⟩
  · cases e
end

/-! ### ranges as values -/
theorem cr_range1 {X : Cx} : CallR X (.type "range") (fun vs H Q => ∃ j, vs = [V.int j] ∧ ∀ p, H p = none → Q (.ref p) (upd H p (.rng 0 j))) := by
  intro pins s σ H vs us Q I r h
  obtain ⟨j, rfl, q⟩ := h
  obtain ⟨u1, rfl, ri⟩ := vals1 r
  obtain ⟨t, rfl⟩ := ri
  refine call_range_1 ⟨.ref s.heap.objs.size, upd H s.heap.objs.size (.rng 0 j), I.laid (t' := s.toks + 1 + 1) (fun b o e => Heap.get?_push_of_some _ e) (Nat.le_refl _) ?_, rfl, q _ (I.hok.fresh (Nat.le_refl _))⟩
  exact ⟨s.toks, t, s.toks + 1, Heap.get?_push_size _ rfl⟩
def iRngV (tl : TE) : TI := fun σ H R => tl σ H fun x H1 => ∃ a lo hi, x = .ref a ∧ H1 a = some (.rng lo hi) ∧ (-(2 ^ 62) ≤ lo ∧ lo < 2 ^ 62 ∧ -(2 ^ 62) ≤ hi ∧ hi < 2 ^ 62) ∧ R (Itr lo (hi - lo).toNat) H1
theorem pi_rv {X : Cx} {tg : Expr} {l : Expr} {tl : TE} (hl : PE X l tl) : PI X tg l (iRngV tl) := by
  refine ⟨fun pins s σ H R I h => ?_⟩
  refine thn (hl.run pins s σ H _ I h) fun v s1 ⟨x, H1, I1, r1, q1⟩ => ?_
  obtain ⟨a, lo, hi, e, ha, ⟨h1, h2, h3, h4⟩, q⟩ := q1
  subst e
  cases r1
  obtain ⟨t, u, v, ho⟩ := (show ∃ t u v, s1.heap.get? a = some { cls := .type "range", data := .fields #[.int lo t, .int hi u, .int 1 v] } from I1.hok a _ ha)
  refine wpAny_pyIter_range (t := t) (u := u) (v := v) ho (small_one h1 h2 h3 h4) ?_
  refine ⟨s1.heap.objs.size, [s1.heap.objs.size], _, _, H1, rfl, I1.kept (t' := s1.toks) fun b o e => Heap.get?_push_of_some _ e, turn_range _ lo (hi - lo).toNat, ?_, fun b hb => ?_, q⟩
  · have e1 : lo + ((0 : Nat) : Int) * 1 = lo := by simp
    have e2 : (((hi - lo).toNat : Nat) : Int) - ((0 : Nat) : Int) = Builtin.Range.rangeSize lo hi 1 := by rw [rangeSize_one]; split <;> omega
    show IsRangeIter _ _ (lo + ((0 : Nat) : Int) * 1) ((((hi - lo).toNat : Nat) : Int) - ((0 : Nat) : Int)) 1
    rw [e1, e2]
    exact Heap.get?_push_size _ rfl
  · have e : b = s1.heap.objs.size := by simpa using hb
    subst e
    exact I1.fpOk (Nat.le_refl _) (I1.hok.fresh (Nat.le_refl _))
def itR : PV → Option (List PV)
  | .rng lo hi => if rngOk lo && rngOk hi then some (rngs lo (hi - lo).toNat) else none
  | _ => none
def mRngV (ml : MP (List PV)) : ME (Nat × PV) := fun env => liftP env (ml env) fun ps => match ps with
  | [.int j] => some (9, .rng 0 j)
  | _ => none
section
variable {X : Cx} {W : WX} {a b c e tg value : Expr} {es : List Expr} {pos p p2 : Pos} {m ma mb mk mv : MP PV} {ms : MP (List PV)} {mt : MP Bool} {me mf : ME (Nat × PV)} {t : Tg} {ts : List Tg} {mi : MP (List PV)}
theorem si_rng (h : SP X W a m) : SI X W tg a (mIt itR m) := (pi_rv h).weak fun σ H R ⟨env, s, w⟩ => tsp_bind (k := fun env p => ofO (itR p)) s w fun p x H1 g r s1 w1 => by
  obtain ⟨ps, ez, q⟩ := wpP_ofO w1
  cases r with
  | @rng a lo hi hs =>
    simp only [itR] at ez
    split at ez
    · rename_i hz
      cases ez
      rw [Bool.and_eq_true] at hz
      obtain ⟨h1, h2⟩ : -4611686018427387904 ≤ lo ∧ lo < 4611686018427387904 := rngOk_lt hz.1
      obtain ⟨h3, h4⟩ : -4611686018427387904 ≤ hi ∧ hi < 4611686018427387904 := rngOk_lt hz.2
      exact ⟨a, lo, hi, rfl, hs, ⟨by omega, by omega, by omega, by omega⟩, q H1 (.refl _) _ (rng_it _ _)⟩
    · cases ez
  | _ => cases ez
theorem se_rng {pf pc : Pos} (hgl : Gl X "range") (hm : X.mg "range" = none) (ha : SPs X W [a] ms) (hst : starEach [a] X.env = (false, eval a X.env) :: starEach [] X.env := by rfl) (hpl : (backTo pc (starEach [] X.env)).any (·.1) = false := by rfl) : SE X W (.Call (.Name "range" pf) [a] [] pc) (mRngV ms) :=
  (pe_callTy cr_range1 hgl hm (by first | rfl | decide +kernel) ha (by decide) (by decide) hst hpl).weak fun σ H Q ⟨env, σ0, τ, T, F, n, w⟩ => ⟨env, n.sees, wpP_mono (wpE_lift n w) fun ps H' g ⟨q, e, k⟩ xs r => by
    cases r with
    | nil => cases e
    | cons r1 r2 =>
      cases r2 with
      | cons _ _ => cases r1 <;> cases e
      | nil =>
        cases r1 with
        | int j =>
          cases e
          exact ⟨j, rfl, fun l na => k (upd H' l (.rng 0 j)) (fun _ => 0) (g.trans (Grow.upd na)) (fun _ _ _ => rfl) (fun _ => Nat.zero_le _) (.ref l) (.rng upd_same fun _ => rfl)⟩
        | _ => cases e⟩

/-! ### a, b, .. = a list -/
def mUnl (ts : List Tg) (me : ME (Nat × PV)) : MS := fun env => (me env).bind fun z => match z.1.2 with
  | .lst ps => ofNx (setTs ts (z.1.1 - 1) ps z.2)
  | _ => .stuck
theorem ss_unl {n k : Nat} (hc : X.calm = true) (he : SE X W a me) (hg : SGs X es ts) (hl : ts.length = n) (hn : (assignEach es X.env).length = n := by rfl) (hst : (assignEach es X.env).findIdx? (·.1) = none := by rfl)
    (hs : swapsWithSole [.Tuple es k p] a pos.line X.env = pure false := by rfl) (hw : swappedStores [.Tuple es k p] a X.env = pure none := by rfl) (h1 : (assignEach [.Tuple es k p] X.env).map (·.2) = [assign (.Tuple es k p) X.env] := by rfl) : SS X W (.Assign [.Tuple es k p] a pos) (mUnl ts me) :=
  (ps_asg he (pg_lst (k := k) (n := n) hc hg hn hst) hs hw h1).weak fun D σ H ⟨env, σ0, τ, T, F, n0, w⟩ => ⟨env, σ0, τ, T, F, n0, wpE_mono (wpE_S w) fun r e H' T' F' f sl su on fr w' x o => by
    dsimp only at w'
    split at w'
    case h_2 => exact w'.elim
    rename_i ps er
    have er' : r.2 = .lst ps := er
    rw [er'] at o
    obtain ⟨a1, vs1, c1, e1, L1, i1, l1⟩ := o.items
    cases q : setTs ts (r.1 - 1) ps e with
    | none => rw [q] at w'; exact w'.elim
    | some e2 =>
      rw [q] at w'
      have w2 : wpS W X.K X.mg σ0 τ H F (.ok (.nx e2)) D := w'
      have len : ∀ (ts : List Tg) (ps : List PV) (d : Nat) (env env' : LEnv), setTs ts d ps env = some env' → ps.length = ts.length := by
        intro ts
        induction ts with
        | nil => intro ps d env env' e; cases ps with
          | nil => rfl
          | cons => rw [setTs] at e; cases e; all_goals simp
        | cons t ts ih => intro ps d env env' e; cases ps with
          | nil => rw [setTs] at e; cases e; all_goals simp
          | cons p ps =>
            rw [setTs, Option.bind_eq_some_iff] at e
            obtain ⟨e1, _, eb⟩ := e
            rw [List.length_cons, List.length_cons, ih ps d e1 env' eb]
      have tl : ∀ b, F' b + c1 b + τ b ≤ T' b := fun b => by have := su b; have := l1 b; omega
      refine ⟨a1, vs1, e1, L1.sq, by rw [i1.rep.length, len _ _ _ _ _ q, hl], e, σ0, τ, (fun b => F' b + c1 b + τ b), F', c1, r.1 - 1, ps, e2, sl.keep (fun a o e t => by have := tl a; show F' a + c1 a + τ a = 0; omega) (fun a o e _ => e), fun _ => rfl, fun b => Nat.le_trans (tl b) (on b), i1.keep (fun a o e t => by have := tl a; show F' a + c1 a + τ a = 0; omega) (fun a o e _ => e), q, fun σ2 T2 F2 s2 u2 l2 => w2 σ2 H' T2 F2 ⟨s2, u2, fun b => ?_, fun b z => ?_⟩ (fr.less fun b => ?_)⟩
      · have := u2 b; have := l2 b; have := tl b; have := on b; omega
      · obtain ⟨o, e⟩ := n0.ex b z; exact (fr.own b o e).1
      · have := l2 b; have := l1 b; show F2 b ≤ F' b + f b; omega⟩

/-! ### xs.extend(ys) -/
def extS (env : LEnv) (i dv : Nat) (v : PV) : Option LEnv := match env[i]? with
  | some (some s) => (match s.d, s.v, dv, v with
    | d + 1, .lst ps, dw + 1, .lst qs => if sizeOk (ps.length + qs.length) then some (env.set i (some ⟨min d dw + 1, s.pin, .lst (ps ++ qs)⟩)) else none
    | _, _, _, _ => none)
  | _ => none
def mExt (i : Nat) (me : ME (Nat × PV)) : MS := fun env => if isLst env i then (me env).bind fun z => ofNx (extS z.2 i z.1.1 z.1.2) else .stuck
theorem ss_ext {i : Nat} {x : Str} {px pa pc : Pos} (hv : PE X (.Name x px) (tVar i)) (he : SE X W a me) (hst : starEach [a] X.env = (false, eval a X.env) :: starEach [] X.env := by rfl)
    (hbase : attributeBase (.Name x px) "extend" X.env (eval (.Name x px) X.env) = eval (.Name x px) X.env := by rfl)
    (hfew : ((backTo pc (starEach [a] X.env)).all (fun x => !x.1) && (backToKw pc (keywordEach [] X.env)).all (fun x => x.1.isSome)
      && decide ([a].length + ([] : List Keyword).length + (if ([] : List Keyword).isEmpty then 0 else 1) < 30)) = true := by rfl)
    (hline : (pa.endLine == pc.line) = true := by rfl) (hplain : (backTo pc (starEach [] X.env)).any (·.1) = false := by rfl)
    (hs : swapsWith (.Call (.Attribute (.Name x px) "extend" pa) [a] [] pc) none pos.line X.env = pure false := by rfl) : SS X W (.Expr (.Call (.Attribute (.Name x px) "extend" pa) [a] [] pc) pos) (mExt i me) :=
  (ps_expr (pe_bm PySem.F.plainAttrs_list PySem.F.slot_list_extend PySem.F.type_list_extend mt_extend hv (pa_cons he pa_nil hst) hbase hfew hline hst hplain) hs).weak fun D σ H ⟨env, σ0, τ, T, F, n, w⟩ => by
    unfold mExt at w
    split at w
    case isFalse => exact w.elim
    rename_i hi
    obtain ⟨l, vs0, e1, hs0⟩ := isLst_at hi n.sees
    refine ⟨.ref l, e1, .inl ⟨rfl, _, hs0⟩, env, σ0, τ, T, F, n, wpE_mono (wpE_S w) fun r e H' T' F' f sl su on fr w' x o => ?_⟩
    dsimp only at w'
    cases q : extS e i r.1 r.2 with
    | none => rw [q] at w'; exact w'.elim
    | some e2 =>
      rw [q] at w'
      have w2 : wpS W X.K X.mg σ0 τ H F (.ok (.nx e2)) D := w'
      unfold extS at q
      split at q
      case h_2 => cases q
      rename_i s es
      obtain ⟨d0, pin, pv⟩ := s
      dsimp only at q
      split at q
      case h_2 => cases q
      rename_i d ps dw qs hdw hmore
      rw [hdw, hmore] at o
      split at q
      case isFalse => cases q
      rename_i hz
      cases q
      obtain ⟨v, g, G, ev, og, slG, hG, hp⟩ := sl.get es
      rw [e1] at ev; cases ev
      obtain ⟨a1, vs, gc, ea, hH, oc, hg⟩ := og.lstInv
      cases ea
      obtain ⟨b1, ws, gc2, eb, hB, oc2, hg2⟩ := o.lstInv
      subst eb
      refine ⟨l, b1, vs, ws, rfl, rfl, hH, hB, by rw [oc.rep.length, oc2.rep.length]; exact sizeOk_le hz, ?_⟩
      have o' : Own X.K X.mg H' T' (dw + 1) (.ref b1) (.lst qs) f := .lst1 hB oc2 hg2
      -- the items come as a tuple would
      have key : ∃ T3 : Cnt, (∀ b, T3 b = F' b + gc2 b + τ b) ∧ (∀ b, T3 b ≤ T' b) := ⟨fun b => F' b + gc2 b + τ b, fun _ => rfl, fun b => by show F' b + gc2 b + τ b ≤ T' b; have := su b; have := hg2 b; omega⟩
      obtain ⟨T3, hT3, lT3⟩ := key
      have sl3 : Slots X.K X.mg H' T3 e σ σ0 F' := sl.keep (fun a o e t => by have := lT3 a; omega) fun a o e _ => e
      have oc3 : Owns X.K X.mg H' T3 dw ws qs gc2 := oc2.keep (fun a o e t => by have := lT3 a; omega) fun a o e _ => e
      have fr3 : Frm H F H' fun b => F' b + gc2 b := fr.less fun b => by have := hg2 b; show F' b + gc2 b ≤ F' b + f b; omega
      exact slots_wr (ps := ps) (d := d) (d1 := dw) (ho := .lst vs) (ho' := .lst (vs ++ ws)) (xs := ws) (qs := qs) n sl3 hT3 (fun b => Nat.le_trans (lT3 b) (on b)) fr3 es e1 oc3 (fun g og => by
        obtain ⟨l2, vs2, fc2, evl2, hH2, oc2', hg2'⟩ := og.lstInv
        cases evl2
        have : vs2 = vs := by rw [hH2] at hH; cases hH; rfl
        subst this
        exact ⟨_, fc2, hH2, oc2', hg2', fun gc' f' H2 T2 oc' o' hl' => ⟨fun b => gc' b + f' b, fun b => Nat.le_refl _, .lst1 hl' (oc'.append o') fun _ => rfl⟩⟩) (fun z => z) w2
end
end M

set_option Elab.async false
set_option linter.all false
set_option maxRecDepth 100000
set_option maxHeartbeats 4000000
/-! items taken out of what a slot owns; {tuple: new} -/
namespace M
open PySem PySem.Spec PyProof.Rows L2
section
variable {K : PySem.W.Frag} {mg : Str → Option Value} {H : Hp} {T : Cnt}
theorem Owns.get {d : Nat} : ∀ {vs : List V} {ps : List PV} {f : Cnt} {j : Nat} {p : PV}, Owns K mg H T d vs ps f → ps[j]? = some p → ∃ v fv, vs[j]? = some v ∧ Own K mg H T d v p fv ∧ ∀ b, fv b ≤ f b
  | _, _, _, _, _, .nil _, e => by simp at e
  | _, _, _, 0, _, .cons o _ hk, e => by simp at e; subst e; exact ⟨_, _, rfl, o, fun b => by rw [hk]; omega⟩
  | _, _, _, j + 1, _, .cons _ r hk, e => by
    obtain ⟨v, fv, a, b, c⟩ := Owns.get r (j := j) (by simpa using e)
    exact ⟨v, fv, by simpa using a, b, fun x => by rw [hk]; have := c x; omega⟩
theorem Owns.atI {d : Nat} {vs : List V} {ps : List PV} {f : Cnt} {i : Int} {p : PV} (h : Owns K mg H T d vs ps f) (e : L2.atI ps i = some p) : ∃ v fv, L2.atI vs i = some v ∧ Own K mg H T d v p fv ∧ ∀ b, fv b ≤ f b := by
  unfold L2.atI at e ⊢
  rw [h.rep.length]
  cases q : ixN ps.length i with
  | none => rw [q] at e; cases e
  | some j =>
    rw [q] at e
    exact h.get e
/-- what a dict's owner has at a key -/
theorem look_own {d : Nat} {κ : Type} [DecidableEq κ] {f : κ → PV} (hf : ∀ a b, keq (f a) (f b) = decide (a = b)) (k : κ) : ∀ {es : List (κ × V)} {kvs : List (PV × PV)} {g : Cnt}, es.map (fun e => f e.1) = kvs.map (·.1) → Owns K mg H T d (es.map (·.2)) (kvs.map (·.2)) g →
    (look kvs (f k) = none ∧ valV es k = none) ∨ ∃ p v fv, look kvs (f k) = some p ∧ valV es k = some v ∧ Own K mg H T d v p fv ∧ ∀ b, fv b ≤ g b
  | [], [], _, _, _ => .inl ⟨rfl, rfl⟩
  | [], _ :: _, _, e, _ => by simp at e
  | _ :: _, [], _, e, _ => by simp at e
  | (a, v) :: es, (b, p) :: kvs, g, e, r => by
    rw [List.map_cons, List.map_cons] at e r
    obtain ⟨e1, e2⟩ := List.cons.inj e
    cases r with
    | @cons _ _ _ _ _ f1 g1 _ r1 r2 hk =>
      have e1' : f a = b := e1
      subst e1'
      by_cases h : a = k
      · subst h
        refine .inr ⟨p, v, f1, ?_, valV_pos rfl, r1, fun b => by rw [hk]; omega⟩
        unfold look
        rw [List.find?_cons, hf, decide_eq_true rfl]; rfl
      · rcases look_own hf k e2 r2 with ⟨h1, h2⟩ | ⟨p', v', fv, h1, h2, h3, h4⟩
        · refine .inl ⟨?_, (valV_neg h).trans h2⟩
          unfold look at h1 ⊢
          rw [List.find?_cons, hf, decide_eq_false h]; exact h1
        · refine .inr ⟨p', v', fv, ?_, (valV_neg h).trans h2, h3, fun b => by rw [hk]; have := h4 b; omega⟩
          unfold look at h1 ⊢
          rw [List.find?_cons, hf, decide_eq_false h]; exact h1
theorem key_reps {vs : List V} : ∀ {vs : List V} {ks : List Key}, Reps K mg H vs (ks.map kP) → vs = ks.map kV := by
  intro vs ks
  induction ks generalizing vs with
  | nil => intro r; cases r; rfl
  | cons k ks ih =>
    intro r
    rw [List.map_cons] at r
    cases r with
    | cons r1 r2 =>
      rw [ih r2]
      cases k <;> (cases r1; rfl)
/-- a key of the second kind, as it stands -/
theorem key_tup {y : V} {k : PV} (rk : Rep K mg H y k) (hk : isKey true k = true) : ∃ b keys, y = .ref b ∧ k = kPs keys ∧ H b = some (.tup (keys.map kV)) := by
  unfold isKey at hk
  split at hk
  · rename_i e; cases e
  · rename_i ps
    obtain ⟨keys, hkey⟩ := Option.isSome_iff_exists.1 hk
    have ek := keysK_some hkey
    subst ek
    cases rk with
    | tup hb rb =>
      have e := key_reps (vs := []) rb
      subst e
      exact ⟨_, keys, rfl, rfl, hb⟩
  · cases hk
theorem dget_own {d : Nat} {x y : V} {t : Bool} {kvs : List (PV × PV)} {k : PV} {f : Cnt} (o : Own K mg H T d x (.dct t kvs) f) (rk : Rep K mg H y k) (hk : isKey t k = true) :
    ∃ a ov, x = .ref a ∧ DGet H a y ov ∧ IsD H a ∧ ((look kvs k = none ∧ ov = none) ∨ ∃ p v fv, look kvs k = some p ∧ ov = some v ∧ Own K mg H T (d - 1) v p fv ∧ ∀ b, fv b ≤ f b) := by
  have key : ∀ {a : Addr} {es : List (Key × V)} {g : Cnt}, t = false → H a = some (.dK es) → es.map (fun e => kP e.1) = kvs.map (·.1) → Owns K mg H T (d - 1) (es.map (·.2)) (kvs.map (·.2)) g → (∀ b, g b ≤ f b) → x = .ref a →
      ∃ a ov, x = .ref a ∧ DGet H a y ov ∧ IsD H a ∧ ((look kvs k = none ∧ ov = none) ∨ ∃ p v fv, look kvs k = some p ∧ ov = some v ∧ Own K mg H T (d - 1) v p fv ∧ ∀ b, fv b ≤ f b) := by
    intro a es g ht h e1 r lg ex
    subst ht
    obtain ⟨key, hkey⟩ := Option.isSome_iff_exists.1 hk
    have ek := keyK_some hkey
    subst ek
    have ey : y = kV key := by cases key <;> (cases rk; rfl)
    subst ey
    rcases look_own (f := kP) keq_k key e1 r with ⟨h1, h2⟩ | ⟨p, v, fv, h1, h2, h3, h4⟩
    · exact ⟨a, none, ex, by rw [← h2]; exact .k h, .inl ⟨_, .inl h⟩, .inl ⟨h1, rfl⟩⟩
    · exact ⟨a, some v, ex, by rw [← h2]; exact .k h, .inl ⟨_, .inl h⟩, .inr ⟨p, v, fv, h1, rfl, h3, fun b => Nat.le_trans (h4 b) (lg b)⟩⟩
  have keyT : ∀ {a : Addr} {es : List (List Key × V)} {g : Cnt}, t = true → H a = some (.dT es) → es.map (fun e => kPs e.1) = kvs.map (·.1) → Owns K mg H T (d - 1) (es.map (·.2)) (kvs.map (·.2)) g → (∀ b, g b ≤ f b) → x = .ref a →
      ∃ a ov, x = .ref a ∧ DGet H a y ov ∧ IsD H a ∧ ((look kvs k = none ∧ ov = none) ∨ ∃ p v fv, look kvs k = some p ∧ ov = some v ∧ Own K mg H T (d - 1) v p fv ∧ ∀ b, fv b ≤ f b) := by
    intro a es g ht h e1 r lg ex
    subst ht
    obtain ⟨b, keys, ey, ek, hb⟩ := key_tup rk hk
    subst ey; subst ek
    rcases look_own (f := kPs) keq_t keys e1 r with ⟨h1, h2⟩ | ⟨p, v, fv, h1, h2, h3, h4⟩
    · exact ⟨a, none, ex, by rw [← h2]; exact .t h hb, .inr ⟨_, .inl h⟩, .inl ⟨h1, rfl⟩⟩
    · exact ⟨a, some v, ex, by rw [← h2]; exact .t h hb, .inr ⟨_, .inl h⟩, .inr ⟨p, v, fv, h1, rfl, h3, fun b => Nat.le_trans (h4 b) (lg b)⟩⟩
  cases o with
  | dK0 h t0 e1 e2 r => subst e2; exact key rfl h e1 r (fun _ => Nat.le_refl _) rfl
  | dK1 h e1 e2 r hg => subst e2; exact key rfl h e1 r (fun b => by rw [hg]; omega) rfl
  | dT0 h t0 e1 e2 r => subst e2; exact keyT rfl h e1 r (fun _ => Nat.le_refl _) rfl
  | dT1 h e1 e2 r hg => subst e2; exact keyT rfl h e1 r (fun b => by rw [hg]; omega) rfl
end

/-- x[j] of a list or tuple in a slot: the slot gives up its ownership -/
def getIx : PV → PV → Option PV
  | .lst ps, .int j => atI ps j
  | .tup ps, .int j => atI ps j
  | _, _ => none
def mFrzIx (i : Nat) (mj : MP PV) : ME (Nat × PV) := fun env => match env[i]? with
  | some (some s) => (match mj env with
    | .stuck => .stuck
    | .exc x => .exc (x, env)
    | .ok k => match getIx s.v k with
      | some q => .ok ((0, q), env.set i (some ⟨0, s.pin, s.v⟩))
      | none => .stuck)
  | _ => .stuck
/-- d[k], d.get(k), taken out of a slot's dict, of which nothing is left -/
def mDTake (i : Nat) (mk : MP PV) : ME (Nat × PV) := fun env => match env[i]? with
  | some (some s) => (match mk env with
    | .stuck => .stuck
    | .exc x => .exc (x, env)
    | .ok k => match s.v with
      | .dct t kvs => if isKey t k = true then (match look kvs k with
        | some p => .ok ((s.d - 1, p), env.set i none)
        | none => .stuck) else .stuck
      | _ => .stuck)
  | _ => .stuck
def mDTakeG (i : Nat) (mk : MP PV) : ME (Nat × PV) := fun env => match env[i]? with
  | some (some s) => if isDct s.v = true then (match mk env with
    | .stuck => .stuck
    | .exc x => .exc (x, env)
    | .ok k => match s.v with
      | .dct t kvs => if isKey t k = true then .ok ((s.d - 1, (look kvs k).getD .non), env.set i none) else .stuck
      | _ => .stuck) else .stuck
  | _ => .stuck
section
variable {X : Cx} {W : WX} {a b c e tg value : Expr} {es : List Expr} {pos p p2 apos cpos : Pos} {m ma mb mk mv mj : MP PV} {ms : MP (List PV)} {mt : MP Bool} {me mf : ME (Nat × PV)} {t : Tg} {ts : List Tg} {mi : MP (List PV)}
theorem se_ixF {i : Nat} {x : Str} {px : Pos} (hv : PE X (.Name x px) (tVar i)) (hj : SP X W e mj) (hs : PlainIx e := by exact fun _ _ => rfl) : SE X W (.Subscript (.Name x px) e pos) (mFrzIx i mj) := (pe_ix (IxR.or ix_list ix_tup) hv hj hs).weak fun σ H Q ⟨env, σ0, τ, T, F, n, w⟩ => by
  unfold mFrzIx at w
  split at w
  · rename_i s e
    obtain ⟨v, f, g, e1, o, sl, hs, hp⟩ := n.sl.get e
    refine ⟨v, e1, env, n.sees, ?_⟩
    cases hk : mj env with
    | stuck => rw [hk] at w; exact w
    | exc x => rw [hk] at w; exact fun C dd H' g c => w C dd H' T F (n.grow g) (.grow g fun _ _ _ => Nat.le_refl _) c
    | ok k =>
      rw [hk] at w
      intro H1 g1 y ry
      dsimp only at w
      split at w
      case h_2 => exact w.elim
      rename_i q hq
      obtain ⟨f', l, lo⟩ := o.low (fun b => by have := hs b; have := n.sum b; have := n.one b; omega) (Nat.zero_le _)
      have t' : ∀ b, g b + τ b ≤ T b := fun b => by have := hs b; have := n.sum b; omega
      have z : ∀ b, f b ≠ 0 → g b + τ b = 0 := fun b hb => by have := hs b; have := n.sum b; have := n.one b; omega
      have o' := lo (fun b => g b + τ b) t' fun b hb _ => z b hb
      have f0 : ∀ b, f' b = 0 := o'.zero
      have sl' := (sl.keep (T' := fun b => g b + τ b) (fun a o e t => by have := t' a; show g a + τ a = 0; omega) fun a o e _ => e).put (s := ⟨0, s.pin, s.v⟩) (get_set_none e) o' hp
      rw [set_set_none, set_self e1] at sl'
      have w1 : ∀ u, Own X.K X.mg H1 (fun b => g b + τ b) 0 u q (fun _ => 0) → Q u H1 := fun u ou => w H1 (fun b => g b + τ b) (fun b => g b + f' b) (fun _ => 0) (sl'.grow g1) (fun b => by have := f0 b; show g b + τ b = g b + f' b + 0 + τ b; omega) (fun b => Nat.le_trans (t' b) (n.one b)) (.grow g1 fun a o e => by have := f0 a; have := hs a; show g a + f' a + 0 ≤ F a; omega) u ou
      have o1 := o'.grow g1
      obtain ⟨d0, pin, pv⟩ := s
      unfold getIx at hq
      split at hq
      · rename_i ps j ep
        have ep' : pv = .lst ps := ep
        subst ep'
        cases ry
        obtain ⟨a1, vs1, c1, ea, L1, i1, l1⟩ := o1.items
        obtain ⟨u, fu, eu, ou, lu⟩ := i1.atI hq
        exact .inl ⟨a1, vs1, j, u, ea, rfl, L1.sq, eu, w1 u (ou.cnt fun b => by have := lu b; have := l1 b; have := f0 b; omega)⟩
      · rename_i ps j ep
        have ep' : pv = .tup ps := ep
        subst ep'
        cases ry
        cases o1 with
        | tup hh r =>
          obtain ⟨u, fu, eu, ou, lu⟩ := r.atI hq
          exact .inr ⟨_, _, j, u, rfl, rfl, SqT.of hh, eu, w1 u (ou.cnt fun b => by have := lu b; have := f0 b; omega)⟩
      · cases hq
  · exact w.elim
theorem se_dtake {i : Nat} {x : Str} {px : Pos} (hu : X.A.units + 1 < cLine) (hv : PE X (.Name x px) (tVar i)) (hk : SP X W e mk) (hs : NoSl e := by exact fun _ _ => rfl) : SE X W (.Subscript (.Name x px) e pos) (mDTake i mk) := (pe_dget hu hv hk hs).weak fun σ H Q ⟨env, σ0, τ, T, F, n, w⟩ => by
  unfold mDTake at w
  split at w
  · rename_i s e
    obtain ⟨v, f, g, e1, o, sl, hs, hp⟩ := n.sl.get e
    refine ⟨v, e1, env, n.sees, ?_⟩
    cases hk : mk env with
    | stuck => rw [hk] at w; exact w
    | exc x => rw [hk] at w; exact fun C dd H' g c => w C dd H' T F (n.grow g) (.grow g fun _ _ _ => Nat.le_refl _) c
    | ok k =>
      rw [hk] at w
      intro H1 g1 y ry
      obtain ⟨d0, pin, pv⟩ := s
      dsimp only at w
      split at w
      case h_2 => exact w.elim
      rename_i t kvs
      split at w
      case isFalse => exact w.elim
      rename_i hkk
      obtain ⟨a1, ov, ea, dg, di, h⟩ := dget_own (o.grow g1) ry hkk
      rcases h with ⟨h1, _⟩ | ⟨q, u, fv, h1, eo, ou, lu⟩
      · rw [h1] at w; exact w.elim
      · rw [h1] at w
        subst eo
        refine ⟨a1, u, ea, dg, ?_⟩
        have t' : ∀ b, g b + fv b + τ b ≤ T b := fun b => by have := hs b; have := n.sum b; have := lu b; omega
        exact w H1 (fun b => g b + fv b + τ b) g fv ((sl.grow g1).keep (fun a o e t => by have := t' a; show g a + fv a + τ a = 0; omega) fun a o e _ => e) (fun _ => rfl) (fun b => Nat.le_trans (t' b) (n.one b)) (.grow g1 fun a o e => by have := hs a; have := lu a; show g a + fv a ≤ F a; omega) u (ou.keep (fun a o e t => by have := t' a; show g a + fv a + τ a = 0; omega) fun a o e _ => e)
  · exact w.elim
theorem se_dtakeG {i : Nat} {x : Str} {px : Pos} (hu : X.A.units + 1 < cLine) (hv : PE X (.Name x px) (tVar i)) (hk : SP X W e mk) (m : M1 X (.Name x px) "get" apos e cpos) : SE X W (.Call (.Attribute (.Name x px) "get" apos) [e] [] cpos) (mDTakeG i mk) := (pe_dget1 hu hv hk m).weak fun σ H Q ⟨env, σ0, τ, T, F, n, w⟩ => by
  unfold mDTakeG at w
  split at w
  · rename_i s e
    obtain ⟨v, f, g, e1, o, sl, hs, hp⟩ := n.sl.get e
    split at w
    case isFalse => exact w.elim
    rename_i hd
    obtain ⟨a0, ev, di⟩ := isDct_rep o.rep hd
    refine ⟨v, e1, a0, ev, di, env, n.sees, ?_⟩
    cases hk : mk env with
    | stuck => rw [hk] at w; exact w
    | exc x => rw [hk] at w; exact fun C dd H' g c => w C dd H' T F (n.grow g) (.grow g fun _ _ _ => Nat.le_refl _) c
    | ok k =>
      rw [hk] at w
      intro H1 g1 y ry
      obtain ⟨d0, pin, pv⟩ := s
      dsimp only at w
      split at w
      case h_2 => exact w.elim
      rename_i t kvs
      split at w
      case isFalse => exact w.elim
      rename_i hkk
      obtain ⟨a1, ov, ea, dg, _, h⟩ := dget_own (o.grow g1) ry hkk
      rw [ev] at ea; cases ea
      refine ⟨ov, dg, ?_⟩
      rcases h with ⟨h1, eo⟩ | ⟨q, u, fv, h1, eo, ou, lu⟩
      · rw [h1] at w
        subst eo
        have t' : ∀ b, g b + τ b ≤ T b := fun b => by have := hs b; have := n.sum b; omega
        exact w H1 (fun b => g b + τ b) g (fun _ => 0) ((sl.grow g1).keep (fun a o e t => by have := t' a; show g a + τ a = 0; omega) fun a o e _ => e) (fun b => by show g b + τ b = g b + 0 + τ b; omega) (fun b => Nat.le_trans (t' b) (n.one b)) (.grow g1 fun a o e => by have := hs a; show g a + 0 ≤ F a; omega) _ (.non fun _ => rfl)
      · rw [h1] at w
        subst eo
        have t' : ∀ b, g b + fv b + τ b ≤ T b := fun b => by have := hs b; have := n.sum b; have := lu b; omega
        exact w H1 (fun b => g b + fv b + τ b) g fv ((sl.grow g1).keep (fun a o e t => by have := t' a; show g a + fv a + τ a = 0; omega) fun a o e _ => e) (fun _ => rfl) (fun b => Nat.le_trans (t' b) (n.one b)) (.grow g1 fun a o e => by have := hs a; have := lu a; show g a + fv a ≤ F a; omega) u (ou.keep (fun a o e t => by have := t' a; show g a + fv a + τ a = 0; omega) fun a o e _ => e)
  · exact w.elim

/-! ### {tuple: new} -/
end
def tDisp1T (tk tv : TE) : TE := fun σ H Q => ∀ p, H p = none → tk σ (upd H p (.dT [])) fun x H1 => tv σ H1 fun y H2 => H2 p = some (.dT []) ∧ ∃ b ks, x = .ref b ∧ H2 b = some (.tup (ks.map kV)) ∧ Q (.ref p) (upd H2 p (.dT [(ks, y)]))
theorem pe_disp1T {X : Cx} {pos : Pos} {k v : Expr} {tk tv : TE} (hu : X.A.units < cLine) (hk : PE X k tk) (hv : PE X v tv) : PE X (.Dict [some k] [v] pos) (tDisp1T tk tv) := by
  refine ⟨fun pins s σ H Q I q => ?_⟩
  have hn := I.hok.fresh (Nat.le_refl s.heap.objs.size)
  have I1 := I.laid (a := s.heap.objs.size) (o := .dT []) (h' := s.heap.push { cls := .type "dict", data := .dict #[] }) (t' := s.toks) (fun _ _ q => Heap.get?_push_of_some _ q) (Nat.le_refl _) (dt_empty s.heap I.big)
  rw [arm_eval_Dict, zip_pairTrees [some k] [v] X.env pos rfl rfl, dictDisplay_pairs _ (by simp [pairTrees]) (by simp [pairTrees])]
  refine wpAny_bind (wpAny_standAt (wpAny_bind (wpAny_subDictH (knd := tupleKind (mixKind X.prog X.w)) (Q := fun d s' => wpAny (model X.prog X.w) X.A (pure (Value.ref d)) (EP X pins σ Q) X.xe s') hu (by simp [pairTrees]) ?_)))
  have pp : PPs X pos [some k] [v] [(tk, tv)] := pps_cons hk hv pps_nil
  refine thn (pp.run pins _ σ _ (fun ps H2 => match ps with
    | [(x, y)] => H2 s.heap.objs.size = some (.dT []) ∧ ∃ b ks, x = .ref b ∧ H2 b = some (.tup (ks.map kV)) ∧ Q (.ref s.heap.objs.size) (upd H2 s.heap.objs.size (.dT [(ks, y)]))
    | _ => False) I1 (q _ hn)) fun ws s2 ⟨ps, H2, I2, rel, post⟩ => ?_
  split at post
  case h_2 => exact post.elim
  rename_i x y
  obtain ⟨eD, b, ks, ex, eb, q2⟩ := post
  subst ex
  cases rel with
  | @cons _ q0 _ qs r0 rr =>
    cases rr
    obtain ⟨u0, w0⟩ := q0
    obtain ⟨r1, r2⟩ := r0
    obtain rfl : u0 = Value.ref b := r1
    obtain ⟨_, hd, xs, rel, dd⟩ := dt_of I2.hok eD
    cases rel
    refine ⟨[(ks, b, w0)], ⟨rfl, rfl, key_of I2.hok eb, trivial⟩, dd, fun h' tk dd' hs => wpAny_pure ⟨.ref s.heap.objs.size, _, ?_, rfl, q2⟩⟩
    obtain ⟨q, es, ep, hq, h2, h3, h4, _, h5⟩ := dd'
    refine d_write I2 (by rw [eD]; exact True.intro) hs ⟨q, hq⟩ ⟨by rw [sizeLine_eq]; exact (by decide : (1 : Nat) ≤ 16777216), hd, [(ks, b, w0)], .cons ⟨rfl, ?_, r2⟩ .nil, q, es, ep, hq, h2, h3, h4, h5⟩
    have ne : b ≠ s.heap.objs.size := by rintro rfl; rw [eD] at eb; cases eb
    show upd H2 s.heap.objs.size _ b = _
    rw [upd_ne ne]; exact eb
/-- {k: v}, k a tuple, v new -/
def pDisp1 (mk mv : MP PV) : MP PV := fun env => (mk env).bind fun k => (mv env).bind fun v => if isKey true k = true then .ok (PV.dct true [(k, v)]) else .stuck
theorem wpP_bind0 {K : PySem.W.Frag} {mg : Str → Option Value} {W : WX} {σ : L2.St} {H : Hp} {α β : Type} {r : Rs Xn α} {f : α → Rs Xn β} {Q : β → Hp → Prop} (h : wpP W K mg σ H (r.bind f) Q) : wpP W K mg σ H r fun a _ => wpP W K mg σ H (f a) Q := by
  cases r with
  | stuck => exact h
  | ok a => exact fun _ _ => h
  | exc x => exact h
theorem sn_disp1 {X : Cx} {W : WX} {pos : Pos} {a e : Expr} {mk mv : MP PV} (hu : X.A.units < cLine) (hk : SP X W a mk) (hv : SN X W e mv) : SN X W (.Dict [some a] [e] pos) (pDisp1 mk mv) := (pe_disp1T hu hk hv).weak fun σ H Q ⟨env, s, w⟩ => fun D hD => by
  have gD : Grow H (upd H D (.dT [])) := Grow.upd hD
  refine ⟨env, s.grow gD, wpP_mono (wpP_mono' (wpP_bind0 w) gD) fun k H1 g1 w1 x rk => ?_⟩
  refine ⟨env, (s.grow gD).grow g1, wpP_mono (wpP_mono' (wpP_bind0 w1) (gD.trans g1)) fun v H2 g2 w2 y H3 f g3 f1 fz own => ?_⟩
  split at w2
  case isFalse => exact w2.elim
  rename_i hkk
  have eD1 : H1 D = some (.dT []) := g1 _ _ upd_same
  have eD3 : H3 D = some (.dT []) := g3 _ _ (g2 _ _ eD1)
  have rk3 := rk.grow (g2.trans g3)
  obtain ⟨b, keys, ex, ek, eb⟩ := key_tup rk3 hkk
  subst ek
  refine ⟨eD3, b, keys, ex, eb, ?_⟩
  have fD : f D = 0 := fz D _ eD1
  have gg : Grow H (upd H3 D (.dT [(keys, y)])) := fun c o e => by
    have ne : c ≠ D := fun z => by rw [z, hD] at e; cases e
    rw [upd_ne ne]; exact g3 _ _ (g2 _ _ (g1 _ _ (by rw [upd_ne ne]; exact e)))
  refine w2 H (.refl _) (.ref D) (upd H3 D (.dT [(keys, y)])) (fun b => f b + if b = D then 1 else 0) gg (fun c => ?_) (fun c o e => ?_) fun T d hd => ?_
  · by_cases hc : c = D
    · subst hc; show f c + _ ≤ 1; rw [if_pos rfl]; omega
    · show f c + _ ≤ 1; rw [if_neg hc]; have := f1 c; omega
  · have ne : c ≠ D := fun z => by rw [z, hD] at e; cases e
    have := fz c o (g1 _ _ (by rw [upd_ne ne]; exact e))
    show f c + _ = 0; rw [if_neg ne]; omega
  · have hg : hgt (.dct true [(kPs keys, v)]) = max (hgt v) 0 + 1 := by rw [hgt, hgtK, hgtK]
    rw [hg] at hd
    obtain ⟨d, rfl⟩ : ∃ k, d = k + 1 := ⟨d - 1, by omega⟩
    have ov : Own X.K X.mg (upd H3 D (.dT [(keys, y)])) T d y v f := by
      refine ((own (fun b => if b = D then 1 else 0) d (by omega)).keep (T' := fun b => if b = D then 1 else 0) (fun _ _ _ z => z) fun c o e z => ?_).re (by omega) (by omega)
      have ne : c ≠ D := by
        rintro rfl
        rcases z with z | z | z
        · exact z fD
        · simp at z
        · rw [eD3] at e; cases e; exact z
      rw [upd_ne ne]; exact e
    exact .dT1 (es := [(keys, y)]) upd_same rfl rfl (.cons ov (.nil (f := fun _ => 0) fun _ => rfl) fun b => (Nat.add_zero _).symm) fun b => rfl
end M

set_option Elab.async false
set_option linter.all false
set_option maxRecDepth 100000
set_option maxHeartbeats 4000000
/-! [e for t in it if c for t1 in it1 if c1], flat things -/
namespace M
open PySem PySem.Spec PyProof.Rows L2
def ItOk2 (K : PySem.W.Frag) (mg : Str → Option Value) (J : It) (H0 H : Hp) (ps : List PV) : Prop := ∃ vs, Reps K mg H vs ps ∧ hgts ps = 0 ∧ ∃ there : Hp → Prop, there H ∧
  (∀ D xs H1 H2, H0 D ≠ none → H1 D = some (.lst xs) → there H1 → (∀ a o, H1 a = some o → a ≠ D → H2 a = some o) → there H2) ∧
  (∀ i H v, there H → vs[i]? = some v → J.go i H) ∧ (∀ i H, there H → vs.length ≤ i → J.stop i H) ∧ (∀ i H x H', i < vs.length → there H → J.yld i H x H' → H' = H ∧ vs[i]? = some x)
def tSI2 (K : PySem.W.Frag) (mg : Str → Option Value) (W : WX) (m : MP (List PV)) : TI := fun σ H R => ∃ env, Sees K mg H env σ ∧ wpP W K mg σ H (m env) fun ps H' => ∀ J H2, Grow H' H2 → ItOk2 K mg J H H2 ps → R J H2
def SI2 (X : Cx) (W : WX) (tg it : Expr) (m : MP (List PV)) : Prop := PI X tg it (tSI2 X.K X.mg W m)
def flatL (ps : List PV) : Option (List PV) := if hgts ps = 0 then some ps else none
def mIt2 (g : PV → Option (List PV)) (m : MP PV) : MP (List PV) := fun env => (m env).bind fun p => ofO ((g p).bind flatL)
theorem hgts_rngs (lo : Int) : ∀ n, hgts (rngs lo n) = 0 := fun n => by
  unfold rngs
  generalize List.range n = l
  induction l with
  | nil => rw [List.map_nil, hgts]
  | cons i l ih => rw [List.map_cons, hgts, ih]; simp
theorem rng_it2 {K : PySem.W.Frag} {mg : Str → Option Value} {H0 H : Hp} (lo : Int) (k : Nat) : ItOk2 K mg (Itr lo k) H0 H (rngs lo k) := by
  obtain ⟨vs, rv, there, th, t1, t2, go, stop, yld⟩ := rng_it (K := K) (mg := mg) (H := H) lo k
  obtain ⟨vs, o, ev⟩ := rngs_own (K := K) (mg := mg) (H := H) (T := fun _ => 0) lo k
  have ln : vs.length = k := by rw [ev, List.length_map, List.length_range]
  refine ⟨vs, o.rep, hgts_rngs lo k, fun _ => True, trivial, fun _ _ _ _ _ _ _ _ => trivial, fun i H v _ e => ?_, fun i H _ l => by rw [ln] at l; exact l, fun i H x H' hl _ y => ⟨y.1, ?_⟩⟩
  · have := (List.getElem?_eq_some_iff.mp e).1
    show i < k; omega
  · rw [y.2, ev, List.getElem?_map, List.getElem?_range (by omega)]; rfl
section
variable {X : Cx} {W : WX} {a b c e tg tg1 iter1 : Expr} {es es1 : List Expr} {pos p p2 : Pos} {m ma mb : MP PV} {ms ml : MP (List PV)} {mt mt1 : MP Bool} {t t1 : Tg} {mi mi1 : MP (List PV)} {me : MP PV}
theorem si2_rng (h : SP X W a m) : SI2 X W tg a (mIt2 itR m) := (pi_rv h).weak fun σ H R ⟨env, s, w⟩ => tsp_bind (k := fun env p => ofO ((itR p).bind flatL)) s w fun p x H1 g r s1 w1 => by
  obtain ⟨ps, ez, q⟩ := wpP_ofO w1
  rw [Option.bind_eq_some_iff] at ez
  obtain ⟨ps', ez, ef⟩ := ez
  cases r with
  | @rng a lo hi hs =>
    simp only [itR] at ez
    split at ez
    · rename_i hz
      cases ez
      unfold flatL at ef
      rw [if_pos (hgts_rngs _ _)] at ef
      cases ef
      rw [Bool.and_eq_true] at hz
      obtain ⟨h1, h2⟩ : -4611686018427387904 ≤ lo ∧ lo < 4611686018427387904 := rngOk_lt hz.1
      obtain ⟨h3, h4⟩ : -4611686018427387904 ≤ hi ∧ hi < 4611686018427387904 := rngOk_lt hz.2
      exact ⟨a, lo, hi, rfl, hs, ⟨by omega, by omega, by omega, by omega⟩, q H1 (.refl _) _ H1 (.refl _) (rng_it2 _ _)⟩
    · cases ez
  | _ => cases ez
theorem si2_tup (h : SP X W a m) : SI2 X W tg a (mIt2 itT m) := (pi_tup h).weak fun σ H R ⟨env, s, w⟩ => tsp_bind (k := fun env p => ofO ((itT p).bind flatL)) s w fun p x H1 g r s1 w1 => by
  obtain ⟨ps, ez, q⟩ := wpP_ofO w1
  rw [Option.bind_eq_some_iff] at ez
  obtain ⟨ps', ez, ef⟩ := ez
  unfold flatL at ef
  split at ef
  case isFalse => cases ef
  rename_i hz
  cases ef
  have keep : ∀ (a : Addr) (vs : List V), ∀ (D : Addr) (xs : List V) (H1 H2 : Hp), H D ≠ none → H1 D = some (.lst xs) → SqT X.K H1 a vs → (∀ a o, H1 a = some o → a ≠ D → H2 a = some o) → SqT X.K H2 a vs := fun a vs D xs H1 H2 _ hD h k => by
    rcases h with (h | ⟨o, h⟩) | h
    · exact .inl (.inl (k _ _ h (by rintro rfl; rw [hD] at h; cases h)))
    · exact .inl (.inr ⟨o, k _ _ h (by rintro rfl; rw [hD] at h; cases h)⟩)
    · exact .inr h
  cases r with
  | @tup a vs _ hs hr =>
    cases ez
    exact ⟨a, rfl, ⟨vs, SqT.of hs⟩, q H1 (.refl _) _ H1 (.refl _) ⟨vs, hr, hz, fun H => SqT X.K H a vs, SqT.of hs, fun D xs H1 H2 h0 hD h k => keep a vs D xs H1 H2 h0 hD h k, fun i H v h e => ⟨vs, v, h, e⟩, fun i H h e => ⟨vs, h, e⟩, fun i H x H' _ h y => ⟨y.1, y.2 vs h⟩⟩⟩
  | @ktp a vs _ hs hr =>
    cases ez
    exact ⟨a, rfl, ⟨vs, .inr hs⟩, q H1 (.refl _) _ H1 (.refl _) ⟨vs, hr, hz, fun H => SqT X.K H a vs, .inr hs, fun D xs H1 H2 h0 hD h k => keep a vs D xs H1 H2 h0 hD h k, fun i H v h e => ⟨vs, v, h, e⟩, fun i H h e => ⟨vs, h, e⟩, fun i H x H' _ h y => ⟨y.1, y.2 vs h⟩⟩⟩
  | _ => cases ez
/-- a new list -/
theorem si2_new (h : SN X W a m) : SI2 X W tg a (mIt2 itL m) := (pi_list h).weak fun σ H R ⟨env, s, w⟩ => ⟨env, s, wpP_mono (wpP_bind w) fun p H1 g w1 x H2 f g2 f1 fz own => by
  obtain ⟨ps, ez, q⟩ := wpP_ofO w1
  rw [Option.bind_eq_some_iff] at ez
  obtain ⟨ps', ez, ef⟩ := ez
  unfold flatL at ef
  split at ef
  case isFalse => cases ef
  rename_i hz
  cases ef
  unfold itL lstOf at ez
  split at ez
  case h_2 => cases ez
  rename_i ps0
  cases ez
  have o := own (fun _ => 0) (hgts ps + 1) (by rw [hgt]; exact Nat.le_refl _)
  obtain ⟨l, vs, fc, ex, hH, oc, hg⟩ := o.lstInv
  subst ex
  have hl : H l = none := by
    cases e : H l with
    | none => rfl
    | some o => have := fz l o e; have := hg l; rw [if_pos rfl] at this; omega
  refine ⟨l, rfl, ⟨vs, SqL.of hH⟩, q H2 (g2) _ H2 (.refl _) ⟨vs, oc.rep, hz, fun H => H l = some (.lst vs), hH, fun D xs H1 H2 h0 hD h k => k _ _ h (by rintro rfl; exact h0 hl), fun i H v h e => ⟨vs, v, SqL.of h, e⟩, fun i H h e => ⟨vs, SqL.of h, e⟩, fun i H x H' _ h y => ⟨y.1, y.2 vs (SqL.of h)⟩⟩⟩⟩
def compF2 (t : Tg) (mt : MP Bool) (mi1 : MP (List PV)) (vs1 : List Nat) (t1 : Tg) (mt1 : MP Bool) (me : MP PV) (env : LEnv) : List PV → Option (List PV)
  | [] => some []
  | p :: r => (setT t 0 p env).bind fun e => (noX (mt e)).bind fun b => if b = true then (noX (mi1 e)).bind fun qs => (compF t1 mt1 me (wipeE e vs1) qs).bind fun ys => (compF2 t mt mi1 vs1 t1 mt1 me env r).map (ys ++ ·) else compF2 t mt mi1 vs1 t1 mt1 me env r
def mComp2 (vs : List Nat) (t : Tg) (mi : MP (List PV)) (mt : MP Bool) (vs1 : List Nat) (t1 : Tg) (mi1 : MP (List PV)) (mt1 : MP Bool) (me : MP PV) : MP (List PV) := fun env => (mi env).bind fun ps => ofO ((compF2 t mt mi1 vs1 t1 mt1 me (wipeE env vs) ps).bind szL)
theorem wiped {vs' : List Nat} {t : Tg} {σ σ2 : L2.St} (hl : (tgN t).all (fun j => vs'.contains j) = true) (l2 : σ2.length = (wipe σ vs').length) (k2 : ∀ j, j ∉ tgN t → σ2[j]? = (wipe σ vs')[j]?) : wipe σ2 vs' = wipe σ vs' := by
  refine (wipe_eq (σ := wipe σ vs') l2 fun j hj => k2 j fun z => hj ?_).trans ?_
  · have := List.all_eq_true.mp hl j z
    simpa using this
  · refine List.ext_getElem? fun j => ?_
    rw [wipe_get, wipe_get, wipe_length]
    by_cases h : j ∈ vs'
    · simp [h]
    · simp [h]
theorem lc2_read {K : PySem.W.Frag} {mg : Str → Option Value} {vs' vs1 : List Nat} {σ : L2.St} {H : Hp} {Q : VK} (hl : (tgN t).all (fun j => vs'.contains j) = true) (hl1 : (tgN t1).all (fun j => vs1.contains j) = true) :
    tSPF K mg W (mComp2 vs' t mi mt vs1 t1 mi1 mt1 me) σ H Q → tLc2 (tSI K mg W mi) (tPG K mg t) (tSPT K mg W0 mt) (tSI2 K mg W0 mi1) (tPG K mg t1) (tSPT K mg W0 mt1) (tSP K mg W0 me) vs' vs1 σ H Q := fun ⟨env, s, w⟩ => ⟨env, s, by
  refine wpP_mono (wpP_bind w) fun ps H1 g w1 J hJ D hD => ?_
  obtain ⟨zs, ez, q⟩ := wpP_ofO w1
  obtain ⟨vs, rv, there, th, tt1, tt2, go, stop, yld⟩ := hJ
  rw [Option.bind_eq_some_iff] at ez
  obtain ⟨zs', ec, ez⟩ := ez
  unfold szL at ez
  split at ez
  case isFalse => cases ez
  rename_i hz
  cases ez
  have len := rv.length
  have s1 := s.grow g
  have hz' := of_decide_eq_true hz
  refine ⟨fun i n H => n = ps.length - i ∧ i ≤ ps.length ∧ ∃ G acc ys rest, H = upd G D (.lst acc) ∧ G D = none ∧ Grow H1 G ∧ there G ∧ Reps K mg G acc ys ∧ compF2 t mt mi1 vs1 t1 mt1 me (wipeE env vs') (ps.drop i) = some rest ∧ zs = ys ++ rest,
    ⟨ps.length, rfl, Nat.zero_le _, H1, [], [], zs, rfl, hD, .refl _, th, .nil, ec, rfl⟩, ?_⟩
  rintro i n H ⟨rfl, hi, G, acc, ys, rest, rfl, hG, gg, th, ra, ecr, ez⟩
  have gD : Grow G (upd G D (.lst acc)) := Grow.upd hG
  have thD := tt1 _ _ th gD
  by_cases hlt : i < ps.length
  · have hv : i < vs.length := by rw [len]; exact hlt
    refine .inr ⟨go i _ vs[i] thD (by simp [hv]), fun H' => i + 1 ≤ ps.length ∧ ∃ G acc ys rest, H' = upd G D (.lst acc) ∧ G D = none ∧ Grow H1 G ∧ there G ∧ Reps K mg G acc ys ∧ compF2 t mt mi1 vs1 t1 mt1 me (wipeE env vs') (ps.drop (i + 1)) = some rest ∧ zs = ys ++ rest,
      fun H' ⟨a, b⟩ => ⟨ps.length - (i + 1), by omega, rfl, a, b⟩, fun x H' y => ?_⟩
    obtain ⟨rfl, hx⟩ := yld i _ x H' hv thD y
    have hd : ps.drop i = ps[i] :: ps.drop (i + 1) := List.drop_eq_getElem_cons hlt
    rw [hd, compF2, Option.bind_eq_some_iff] at ecr
    obtain ⟨e2, es2, ecr⟩ := ecr
    rw [Option.bind_eq_some_iff] at ecr
    obtain ⟨b, eb, ecr⟩ := ecr
    obtain ⟨v, ev, rx⟩ := rv.get (i := i) (p := ps[i]) (by simp [hlt])
    rw [hx] at ev; cases ev
    have sw := wipe_sees (s1.grow gg) vs'
    refine ⟨G, _, _, e2, gD, sw, rx.grow gg, es2, fun σ2 s2 l2 k2 => ⟨wiped hl l2 k2, e2, s2.grow gD, noX_wp eb fun H3 g3 => ?_⟩⟩
    have eD : H3 D = some (.lst acc) := g3 _ _ upd_same
    cases b with
    | false =>
      let G3 : Hp := fun b => if b = D then none else H3 b
      have g3D : G3 D = none := if_pos rfl
      have gG : Grow G G3 := fun c o e => by
        have ne : c ≠ D := fun z => by rw [z, hG] at e; cases e
        show (if c = D then none else H3 c) = some o
        rw [if_neg ne]; exact g3 c o (by rw [upd_ne ne]; exact e)
      refine ⟨hlt, G3, acc, ys, rest, ?_, g3D, gg.trans gG, tt1 _ _ th gG, ra.grow gG, by simpa using ecr, ez⟩
      funext c
      by_cases hc : c = D
      · subst hc; rw [upd_same]; exact eD
      · rw [upd_ne hc]; exact (if_neg hc).symm
    | true =>
      rw [if_pos rfl, Option.bind_eq_some_iff] at ecr
      obtain ⟨qs, eqs, ecr⟩ := ecr
      rw [Option.bind_eq_some_iff] at ecr
      obtain ⟨yt, eyt, ecr⟩ := ecr
      rw [Option.map_eq_some_iff] at ecr
      obtain ⟨rest', ecr, rfl⟩ := ecr
      refine ⟨e2, (s2.grow gD).grow g3, noX_wp eqs fun H4' g4' J1 H4 g4'' hJ1 => ?_⟩
      have g4 := g4'.trans g4''
      obtain ⟨ws, rw1, hq0, there1, th1, keep1, go1, stop1, yld1⟩ := hJ1
      have len1 := rw1.length
      have eD4 : H4 D = some (.lst acc) := g4 _ _ eD
      let G4 : Hp := fun b => if b = D then none else H4 b
      have g4D : G4 D = none := if_pos rfl
      have gG4 : Grow G G4 := fun c o e => by
        have ne : c ≠ D := fun z => by rw [z, hG] at e; cases e
        show (if c = D then none else H4 c) = some o
        rw [if_neg ne]; exact g4 c o (g3 c o (by rw [upd_ne ne]; exact e))
      have eH4 : H4 = upd G4 D (.lst acc) := by
        funext c
        by_cases hc : c = D
        · subst hc; rw [upd_same]; exact eD4
        · rw [upd_ne hc]; exact (if_neg hc).symm
      have h3D : H3 D ≠ none := by rw [eD]; simp
      have tupG : ∀ a us, H4 a = some (.tup us) → G4 a = some (.tup us) := fun a us h => by
        have ne : a ≠ D := by rintro rfl; rw [eD4] at h; cases h
        exact (if_neg ne).trans h
      refine ⟨fun j k H => k = qs.length - j ∧ j ≤ qs.length ∧ ∃ G' acc' ys' rest1, H = upd G' D (.lst acc') ∧ G' D = none ∧ Grow G4 G' ∧ there1 H ∧ Reps K mg G' acc' (ys ++ ys') ∧ compF t1 mt1 me (wipeE e2 vs1) (qs.drop j) = some rest1 ∧ yt = ys' ++ rest1,
        ⟨qs.length, rfl, Nat.zero_le _, G4, acc, [], yt, eH4, g4D, .refl _, th1, by rw [List.append_nil]; exact ra.grow gG4, eyt, rfl⟩, ?_⟩
      rintro j k H ⟨rfl, hj, G', acc', ys', rest1, rfl, hG', gg', th1', ra', ecr1, ey1⟩
      have gD' : Grow G' (upd G' D (.lst acc')) := Grow.upd hG'
      by_cases hlt1 : j < qs.length
      · have hv1 : j < ws.length := by rw [len1]; exact hlt1
        refine .inr ⟨go1 j _ ws[j] th1' (by simp [hv1]), fun H' => j + 1 ≤ qs.length ∧ ∃ G' acc' ys' rest1, H' = upd G' D (.lst acc') ∧ G' D = none ∧ Grow G4 G' ∧ there1 H' ∧ Reps K mg G' acc' (ys ++ ys') ∧ compF t1 mt1 me (wipeE e2 vs1) (qs.drop (j + 1)) = some rest1 ∧ yt = ys' ++ rest1,
          fun H' ⟨a, b⟩ => ⟨qs.length - (j + 1), by omega, rfl, a, b⟩, fun x1 H' y1 => ?_⟩
        obtain ⟨rfl, hx1⟩ := yld1 j _ x1 H' hv1 th1' y1
        have hd1 : qs.drop j = qs[j] :: qs.drop (j + 1) := List.drop_eq_getElem_cons hlt1
        rw [hd1, compF, Option.bind_eq_some_iff] at ecr1
        obtain ⟨e3, es3, ecr1⟩ := ecr1
        rw [Option.bind_eq_some_iff] at ecr1
        obtain ⟨b1, eb1, ecr1⟩ := ecr1
        obtain ⟨v1, ev1, rx1⟩ := rw1.get (i := j) (p := qs[j]) (by simp [hlt1])
        rw [hx1] at ev1; cases ev1
        have hq1 : hgt qs[j] = 0 := by
          have : ∀ (l : List PV) (j : Nat) (h : j < l.length), hgts l = 0 → hgt l[j] = 0 := by
            intro l
            induction l with
            | nil => intro j h; simp at h
            | cons p l ih =>
              intro j h hz
              rw [hgts] at hz
              cases j with
              | zero => simp; omega
              | succ j => simpa using ih j (by simpa using h) (by omega)
          exact this qs j hlt1 hq0
        have rx1' : Rep K mg G' x1 qs[j] := (rx1.still tupG hq1).grow gg'
        have s2' : Sees K mg G' e2 σ2 := s2.grow (gG4.trans gg')
        have sw1 := wipe_sees s2' vs1
        refine ⟨G', _, _, e3, gD', sw1, rx1', es3, fun σ3 s3 l3 k3 => ⟨wiped hl1 l3 k3, e3, s3.grow gD', noX_wp eb1 fun H5 g5 => ?_⟩⟩
        have eD5 : H5 D = some (.lst acc') := g5 _ _ upd_same
        have noD : ∀ H6 : Hp, Grow H5 H6 → ∃ G6 : Hp, G6 D = none ∧ Grow G' G6 ∧ H6 = upd G6 D (.lst acc') ∧ (∀ c, c ≠ D → G6 c = H6 c) := fun H6 g6 => by
          refine ⟨fun b => if b = D then none else H6 b, if_pos rfl, fun c o e => ?_, ?_, fun c hc => if_neg hc⟩
          · have ne : c ≠ D := fun z => by rw [z, hG'] at e; cases e
            show (if c = D then none else H6 c) = some o
            rw [if_neg ne]; exact g6 c o (g5 c o (by rw [upd_ne ne]; exact e))
          · funext c
            by_cases hc : c = D
            · subst hc; rw [upd_same]; exact g6 _ _ eD5
            · rw [upd_ne hc]; exact (if_neg hc).symm
        cases b1 with
        | false =>
          obtain ⟨G5, g5D, gG5, e5, _⟩ := noD H5 (.refl _)
          refine ⟨hlt1, G5, acc', ys', rest1, e5, g5D, gg'.trans gG5, keep1 D acc' _ _ h3D upd_same th1' fun a o h ne => g5 a o h, ra'.grow gG5, by simpa using ecr1, ey1⟩
        | true =>
          rw [if_pos rfl, Option.bind_eq_some_iff] at ecr1
          obtain ⟨y, ey, ecr1⟩ := ecr1
          split at ecr1
          case isFalse => cases ecr1
          rename_i hy
          rw [Option.map_eq_some_iff] at ecr1
          obtain ⟨rest1', ecr1, rfl⟩ := ecr1
          refine ⟨e3, (s3.grow gD').grow g5, noX_wp ey fun H6 g6 v rv6 => ?_⟩
          obtain ⟨G6, g6D, gG6, e6, o6⟩ := noD H6 g6
          have eD6 : H6 D = some (.lst acc') := g6 _ _ eD5
          have la := ra'.length
          refine ⟨acc', eD6, ?_, hlt1, G6, acc' ++ [v], ys' ++ [y], rest1', ?_, g6D, gg'.trans gG6, keep1 D acc' _ _ h3D upd_same th1' fun a o h ne => ?_, ?_, ecr1, by rw [ey1, List.append_assoc]; rfl⟩
          · rw [la, sizeLine_eq]
            rw [ez, ey1] at hz'
            simp only [List.length_append, List.length_cons] at hz' ⊢
            omega
          · rw [e6]
            funext c
            by_cases hc : c = D
            · subst hc; rw [upd_same, upd_same]
            · rw [upd_ne hc, upd_ne hc, upd_ne hc]
          · rw [upd_ne ne]; exact g6 a o (g5 a o h)
          · rw [← List.append_assoc]
            refine (ra'.grow gG6).append (.cons ?_ .nil)
            refine Rep.still (fun c us h => ?_) rv6 hy
            have ne : c ≠ D := fun z => by rw [z, eD6] at h; cases h
            exact (o6 c ne).trans h
      · have ej : j = qs.length := by omega
        subst ej
        rw [List.drop_length, compF] at ecr1
        cases ecr1
        rw [List.append_nil] at ey1
        subst ey1
        refine .inl ⟨stop1 _ _ th1' (by rw [len1]; exact Nat.le_refl _), hlt, G', acc', ys ++ yt, rest', rfl, hG', gg.trans (gG4.trans gg'), tt1 _ _ th (gG4.trans gg'), ra', ecr, by rw [ez, List.append_assoc]⟩
  · have e : i = ps.length := by omega
    subst e
    rw [List.drop_length, compF2] at ecr
    cases ecr
    rw [List.append_nil] at ez
    subst ez
    exact .inl ⟨stop _ _ thD (by rw [len]; exact Nat.le_refl _), q G gg acc D ra hG⟩⟩
theorem sp_lc2 {scope : Scope} {own : List (Str × Nat)} {vs1 : List Nat} (hc : X.calm = true) (hN : X.N.Nodup) (hi : SI X W tg a mi) (ok : BlkOk X.N X.env.scope scope own) (hl : (tgN t).all (fun j => (own.map (·.2)).contains j) = true) (hl1 : (tgN t1).all (fun j => vs1.contains j) = true) (hv : ∀ i ∈ vs1, i ∈ own.map (·.2))
    (hg : ∀ (s : Shared) (H : Hp) (C : Addr) (cl : List (Str × Addr)) (fp : List Addr), PGm (X.blk s H scope (compEnvC scope cl C X.env) fp) tg t) (ht : ∀ (s : Shared) (H : Hp) (C : Addr) (cl : List (Str × Addr)) (fp : List Addr), SPTs (X.blk s H scope (compEnvC scope cl C X.env) fp) W0 es mt)
    (hi1 : ∀ (s : Shared) (H : Hp) (C : Addr) (cl : List (Str × Addr)) (fp : List Addr), SI2 (X.blk s H scope (compEnvC scope cl C X.env) fp) W0 tg1 iter1 mi1)
    (hg1 : ∀ (s : Shared) (H : Hp) (C : Addr) (cl : List (Str × Addr)) (fp : List Addr), PGm (X.blk s H scope (compEnvC scope cl C X.env) fp) tg1 t1) (ht1 : ∀ (s : Shared) (H : Hp) (C : Addr) (cl : List (Str × Addr)) (fp : List Addr), SPTs (X.blk s H scope (compEnvC scope cl C X.env) fp) W0 es1 mt1)
    (he : ∀ (s : Shared) (H : Hp) (C : Addr) (cl : List (Str × Addr)) (fp : List Addr), SP (X.blk s H scope (compEnvC scope cl C X.env) fp) W0 e me) (hs : ∀ x, foldedSetIterable a X.env x = pure x := by intro _; rfl) (hs1 : ∀ env x, foldedSetIterable iter1 env x = pure x := by intro _ _; rfl) :
    SPF X W (.ListComp e [⟨tg, a, es, 0⟩, ⟨tg1, iter1, es1, 0⟩] scope pos) (mComp2 (own.map (·.2)) t mi mt vs1 t1 mi1 mt1 me) :=
  PE.weak (pe_lc2 (wi1 := tSI2 X.K X.mg W0 mi1) (g := tPG X.K X.mg t) (g1 := tPG X.K X.mg t1) (tt := tSPT X.K X.mg W0 mt) (tt1 := tSPT X.K X.mg W0 mt1) (te := tSP X.K X.mg W0 me) hc hN hi ok hv hg ht hi1 hg1 ht1 he hs hs1) fun σ H Q => lc2_read hl hl1
theorem ss_setLc2 {scope : Scope} {own : List (Str × Nat)} {vs1 : List Nat} {i : Nat} {y : Str} {py spos : Pos} (hc : X.calm = true) (hN : X.N.Nodup) (hy : X.N[i]? = some y) (hyl : X.env.scope.names.lookup y = some .local)
    (hsw : swapsWith (.ListComp e [⟨tg, a, es, 0⟩, ⟨tg1, iter1, es1, 0⟩] scope pos) (some (.Name y py)) spos.line X.env = pure true) (hi : SI X W tg a mi) (ok : BlkOk X.N X.env.scope scope own) (hl : (tgN t).all (fun j => (own.map (·.2)).contains j) = true) (hl1 : (tgN t1).all (fun j => vs1.contains j) = true) (hv : ∀ i ∈ vs1, i ∈ own.map (·.2))
    (hg : ∀ (s : Shared) (H : Hp) (C : Addr) (cl : List (Str × Addr)) (fp : List Addr), PGm (X.blk s H scope (compEnvC scope cl C X.env) fp) tg t) (ht : ∀ (s : Shared) (H : Hp) (C : Addr) (cl : List (Str × Addr)) (fp : List Addr), SPTs (X.blk s H scope (compEnvC scope cl C X.env) fp) W0 es mt)
    (hi1 : ∀ (s : Shared) (H : Hp) (C : Addr) (cl : List (Str × Addr)) (fp : List Addr), SI2 (X.blk s H scope (compEnvC scope cl C X.env) fp) W0 tg1 iter1 mi1)
    (hg1 : ∀ (s : Shared) (H : Hp) (C : Addr) (cl : List (Str × Addr)) (fp : List Addr), PGm (X.blk s H scope (compEnvC scope cl C X.env) fp) tg1 t1) (ht1 : ∀ (s : Shared) (H : Hp) (C : Addr) (cl : List (Str × Addr)) (fp : List Addr), SPTs (X.blk s H scope (compEnvC scope cl C X.env) fp) W0 es1 mt1)
    (he : ∀ (s : Shared) (H : Hp) (C : Addr) (cl : List (Str × Addr)) (fp : List Addr), SP (X.blk s H scope (compEnvC scope cl C X.env) fp) W0 e me) (hs : ∀ x, foldedSetIterable a X.env x = pure x := by intro _; rfl) (hs1 : ∀ env x, foldedSetIterable iter1 env x = pure x := by intro _ _; rfl) :
    SS X W (.Assign [.Name y py] (.ListComp e [⟨tg, a, es, 0⟩, ⟨tg1, iter1, es1, 0⟩] scope pos) spos) (mAsg (.nm i) (mNew (mComp2 (own.map (·.2)) t mi mt vs1 t1 mi1 mt1 me))) :=
  (ps_setLc2 (wi1 := tSI2 X.K X.mg W0 mi1) (g := tPG X.K X.mg t) (g1 := tPG X.K X.mg t1) (tt := tSPT X.K X.mg W0 mt) (tt1 := tSPT X.K X.mg W0 mt1) (te := tSP X.K X.mg W0 me) hc hN hy hyl hsw hi ok hv hg ht hi1 hg1 ht1 he hs hs1).weak fun D σ H ⟨env, σ0, τ, T, F, n, w⟩ =>
    lc2_read hl hl1 ⟨env, n.sees, wpP_mono (wpE_lift n (wpE_mono (wpE_S w) fun r e H' T' F' f sl su on fr w' => (fun x o => tg_name (asg_wp (t := .nm i) n sl su on fr o w') : ∀ x, Own X.K X.mg H' T' r.1 x r.2 f → gName i x σ H' D.nx))) fun ps H' g ⟨q, e, k⟩ xs l r na => by
      split at e
      · rename_i hz
        cases e
        refine k (upd H' l (.lst xs)) (fun b => if b = l then 1 else 0) (g.trans (Grow.upd na)) (fun a o e => if_neg ?_) (fun b => ?_) (.ref l) (.lst1 upd_same ((r.grow (Grow.upd na)).own hz 8) fun b => (Nat.zero_add _).symm)
        · rintro rfl
          rw [g _ _ e] at na; cases na
        · show (if b = l then 1 else 0) ≤ 1
          split <;> omega
      · cases e⟩
end
end M

set_option Elab.async false
set_option linter.all false
set_option maxRecDepth 100000
set_option maxHeartbeats 4000000
/-! small things; the newer pieces worked out -/
namespace M
open PySem PySem.Spec PyProof.Rows L2
theorem hu65 {k : Nat} {A : Around} (r : Room k A) : A.units + 65 < cLine := by have := r.un; omega
theorem hu0 {k : Nat} {A : Around} (r : Room k A) : A.units < cLine := by have := r.un; omega
section
variable (ma mb md mk mx mv mj : MP PV) (mt mu : MP Bool) (ms mi ml : MP (List PV)) (me mf : ME (Nat × PV)) (env : LEnv) (i j n : Nat) (t : Tg) (G : Fn)
@[simp] theorem ev_pFlat : pFlat ma env = (ma env).bind fun p => if hgt p = 0 then .ok p else .stuck := rfl
@[simp] theorem ev_pNew : pNew ms env = (ms env).bind fun ps => if hgts ps = 0 then .ok (.lst ps) else .stuck := rfl
@[simp] theorem ev_pCall : pCall n G ms env = (ms env).bind fun ps => callR n G ps tallP := rfl
@[simp] theorem ev_tallP (r : Nat × PV) : tallP r = if hgt r.2 ≤ r.1 then some r.2 else none := rfl
@[simp] theorem ev_pTup : pTup ms env = (ms env).bind fun ps => if sizeOk ps.length then .ok (.tup ps) else .stuck := rfl
@[simp] theorem ev_pLst : pLst ms env = (ms env).bind fun ps => if sizeOk ps.length then .ok (.lst ps) else .stuck := rfl
@[simp] theorem ev_mN : mN ma env = liftP env (ma env) fun p => if hgt p ≤ 9 then some (9, p) else none := rfl
@[simp] theorem ev_pDisp1 : pDisp1 mk mv env = (mk env).bind fun k => (mv env).bind fun v => if isKey true k = true then .ok (PV.dct true [(k, v)]) else .stuck := rfl
@[simp] theorem ev_mIfE : mIfE mt me mf env = (match mt env with | .stuck => .stuck | .exc x => .exc (x, env) | .ok b => if b = true then me env else mf env) := rfl
@[simp] theorem ev_mECat : mECat me mf env = eMap gCatE (mECons me (mECons mf mENil)) env := rfl
@[simp] theorem ev_gCatE (d : Nat) (ps qs : List PV) : gCatE (d, [.lst ps, .lst qs]) = if sizeOk (ps.length + qs.length) then some (d - 1 + 1, .lst (ps ++ qs)) else none := rfl
@[simp] theorem ev_mUnl (ts : List Tg) : mUnl ts me env = (me env).bind fun z => (match z.1.2 with | .lst ps => ofNx (setTs ts (z.1.1 - 1) ps z.2) | _ => .stuck) := rfl
@[simp] theorem ev_mExt : mExt i me env = if isLst env i then (me env).bind fun z => ofNx (extS z.2 i z.1.1 z.1.2) else .stuck := rfl
@[simp] theorem ev_mRngV : mRngV ml env = liftP env (ml env) fun ps => (match ps with | [.int j] => some (9, PV.rng 0 j) | _ => none) := rfl
@[simp] theorem ev_itR (lo hi : Int) : itR (.rng lo hi) = if rngOk lo && rngOk hi then some (rngs lo (hi - lo).toNat) else none := rfl
@[simp] theorem ev_mIt2 (g : PV → Option (List PV)) : mIt2 g ma env = (ma env).bind fun p => ofO ((g p).bind flatL) := rfl
@[simp] theorem ev_gIsB (neg a b : Bool) : gIsB neg (.bl a) (.bl b) = some (.bl (if neg then !decide (a = b) else decide (a = b))) := rfl
@[simp] theorem ev_gLenDT (kvs : List (PV × PV)) : gLenDT [.dct true kvs] = some (.int (kvs.length : Int)) := rfl
@[simp] theorem ev_gLenDK (kvs : List (PV × PV)) : gLenDK [.dct false kvs] = some (.int (kvs.length : Int)) := rfl
@[simp] theorem ev_gIsN (p : PV) : gIsN p .non = some (.bl (isNon p)) := by cases p <;> rfl
@[simp] theorem ev_gNotN (p : PV) : gNotN p .non = some (.bl (!isNon p)) := by cases p <;> rfl
@[simp] theorem ev_isNonL (l : List PV) : isNon (.lst l) = false := rfl
@[simp] theorem ev_isNonT (l : List PV) : isNon (.tup l) = false := rfl
@[simp] theorem ev_isNonN : isNon .non = true := rfl
@[simp] theorem ev_mON : mON env = .ok none := rfl
@[simp] theorem ev_mOS : mOS ma env = (ma env).bind fun p => (match p with | .int i => .ok (some i) | _ => .stuck) := rfl
@[simp] theorem ev_mSlc (l h : MP (Option Int)) : mSlc ma l h env = (ma env).bind fun p => (l env).bind fun l => (h env).bind fun h => ofO ((lstOf p).map fun ps => cutP ps l h) := rfl
@[simp] theorem ev_gTupOfL (l : List PV) : gTupOf [.lst l] = some (.tup l) := rfl
@[simp] theorem ev_gTupOfT (l : List PV) : gTupOf [.tup l] = some (.tup l) := rfl
@[simp] theorem ev_mChain (g g' : PV → PV → Option PV) : mChain g g' ma mb mx env = (ma env).bind fun p => (mb env).bind fun q => (ofO (g p q)).bind fun z => (match z with | .bl k => if k = true then (mx env).bind fun r => ofO (g' q r) else .ok (.bl false) | _ => .stuck) := rfl
@[simp] theorem ev_getIxL (l : List PV) (j : Int) : getIx (.lst l) (.int j) = atI l j := rfl
@[simp] theorem ev_getIxT (l : List PV) (j : Int) : getIx (.tup l) (.int j) = atI l j := rfl
@[simp] theorem ev_hRng (lo hi : Int) : hgt (.rng lo hi) = 1 := by rw [hgt]
@[simp] theorem ev_gCat (l m : List PV) : gCat (.lst l) (.lst m) = if sizeOk (l.length + m.length) then some (l ++ m) else none := rfl
@[simp] theorem ev_mFrz : mFrz i env = (match env[i]? with | some (some s) => if hgt s.v = 0 then .ok ((8, s.v), env) else .ok ((0, s.v), env.set i (some ⟨0, s.pin, s.v⟩)) | _ => .stuck) := rfl
end
end M

set_option Elab.async false
set_option linter.all false
set_option maxRecDepth 100000
namespace M_ropebook_k36_papers_of_braids
open M PySem

def g_MOST_LETTERS : PV := .int 200

def g_MOST_LISTS : PV := .int 20000

def g_MOST_STEPS : PV := .int 6

def g_MOST_STRANDS : PV := .int 12

def m_BadStep : Str → Option Bool := fun n => if n = ("BadStep" : PySem.Str) then some true else if n = ("OutOfRange" : PySem.Str) then some false else if n = ("TooLarge" : PySem.Str) then some false else if n = ("TooMany" : PySem.Str) then some false else none

def m_OutOfRange : Str → Option Bool := fun n => if n = ("BadStep" : PySem.Str) then some false else if n = ("OutOfRange" : PySem.Str) then some true else if n = ("TooLarge" : PySem.Str) then some false else if n = ("TooMany" : PySem.Str) then some false else none

def m_RopeError : Str → Option Bool := fun n => if n = ("BadStep" : PySem.Str) then some true else if n = ("OutOfRange" : PySem.Str) then some true else if n = ("TooLarge" : PySem.Str) then some true else if n = ("TooMany" : PySem.Str) then some true else none

def m_TooLarge : Str → Option Bool := fun n => if n = ("BadStep" : PySem.Str) then some false else if n = ("OutOfRange" : PySem.Str) then some false else if n = ("TooLarge" : PySem.Str) then some true else if n = ("TooMany" : PySem.Str) then some false else none

def z_BadStep : List Str := ["BadStep"]

def z_OutOfRange : List Str := ["OutOfRange"]

def w_law_draw_1 : MS :=
 (mIfS (mAnd (mTst (mV 4)) (mTst (mBin gGe (mV 3) (mBin gIxL (mV 1) (mV 5)))))
 (mSeq (mApp 2 (mFlat (mBin gMod (mFn gInt (mCons (mV 3) mNil)) (mBin gIxL (mV 1) (mV 5)))))
 (mAsg (.nm 3) (mFlat (mBin gDiv (mV 3) (mBin gIxL (mV 1) (mV 5))))))
 (mSeq (mAsg (.nm 6) (mFlat (mBin gMod (mFn gInt (mCons (mBin gAdd (mBin gMul (mFn gAbs (mCons (mV 0) mNil)) (mC (.int 48271))) (mBin gMul (mBin gAdd (mV 5) (mC (.int 1))) (mC (.int 69621)))) mNil)) (mC (.int 2147483647)))))
 (mSeq (mAsg (.nm 6) (mFlat (mBin gMod (mFn gInt (mCons (mBin gAdd (mBin gMul (mV 6) (mC (.int 16807))) (mBin gMul (mBin gAdd (mV 5) (mC (.int 1))) (mC (.int 40692)))) mNil)) (mC (.int 2147483399)))))
 (mApp 2 (mFlat (mBin gMod (mFn gInt (mCons (mV 6) mNil)) (mBin gIxL (mV 1) (mV 5))))))))

abbrev N_law_draw : List Str := ["cell", "limits", "row", "rest", "great", "k", "mixed"]
def b_law_draw : MS :=
 (mSeq (mAsg (.nm 2) (mNew (mLst mNil)))
 (mSeq (mAsg (.nm 3) (mFlat (mFn gAbs (mCons (mV 0) mNil))))
 (mSeq (mAsg (.nm 4) (mFlat (mBin gGe (mV 3) (mC (.int 1000000000000000000)))))
 (mSeq (mForR1 (.nm 5) (mCons (mFn gLen (mCons (mV 1) mNil)) mNil)
 w_law_draw_1)
 (mRet (mMove 2))))))
def F_law_draw : Fn := runM 7 b_law_draw

def w_law_braid_1 : MS :=
 (mApp 5 (mFlat (mBin gMul (mBin gIxL (mOfF (mLst (mCons (mC (.int 1)) (mCons (mUn gNeg (mC (.int 1))) mNil)))) (mBin gMod (mFn gInt (mCons (mV 6) mNil)) (mC (.int 2)))) (mBin gAdd (mC (.int 1)) (mBin gDiv (mFn gInt (mCons (mV 6) mNil)) (mC (.int 2)))))))

abbrev N_law_braid : List Str := ["cell", "most_strands", "most_letters", "d", "wide", "letters", "pick", "k"]
def b_law_braid : MS :=
 (mSeq (mAsg (.nm 3) (mCallE 2 F_law_draw (mCons (mV 0) (mCons (mOfF (mLst (mCons (mBin gSub (mV 1) (mC (.int 1))) (mCons (mBin gAdd (mV 2) (mC (.int 1))) mNil)))) mNil))))
 (mSeq (mAsg (.nm 4) (mFlat (mBin gAdd (mC (.int 2)) (mBin gIxL (mV 3) (mC (.int 0))))))
 (mSeq (mAsg (.nm 5) (mNew (mLst mNil)))
 (mSeq (mForL (.nm 6) (mCallE 2 F_law_draw (mCons (mBin gAdd (mBin gDiv (mV 0) (mC (.int 5))) (mC (.int 3))) (mCons (mOfF (mComp [7] (.nm 7) (mRng1 (mCons (mBin gIxL (mV 3) (mC (.int 1))) mNil)) mYes (mBin gMul (mC (.int 2)) (mBin gSub (mV 4) (mC (.int 1)))))) mNil)))
 w_law_braid_1)
 (mRet (mETup (mECons (mFlat (mV 4)) (mECons (mMove 5) mENil))))))))
def F_law_braid : Fn := runM 8 b_law_braid

def w_law_all_steps_1 : MS :=
 (mAsg (.nm 2) (mNew (mBinF gCat (mV 2) (mOfF (mLst (mCons (mTup (mCons (mC (.str ("in" : PySem.Str))) (mCons (mV 3) (mCons (mV 6) mNil)))) (mCons (mTup (mCons (mC (.str ("in" : PySem.Str))) (mCons (mV 3) (mCons (mUn gNeg (mV 6)) mNil)))) mNil)))))))

def w_law_all_steps_2 : MS :=
 (mForR2 (.nm 6) (mCons (mC (.int 1)) (mCons (mV 0) mNil))
 w_law_all_steps_1)

def w_law_all_steps_3 : MS :=
 (mIfS (mTst (mBin gEqI (mBin gIxL (mV 1) (mV 3)) (mUn gNeg (mBin gIxL (mV 1) (mBin gAdd (mV 3) (mC (.int 1)))))))
 (mApp 2 (mFlat (mTup (mCons (mC (.str ("out" : PySem.Str))) (mCons (mV 3) mNil)))))
 mSkip)

def w_law_all_steps_4 : MS :=
 (mSeq (mAsg (.nm 4) (mFlat (mBin gIxL (mV 1) (mV 3))))
 (mSeq (mAsg (.nm 5) (mFlat (mBin gIxL (mV 1) (mBin gAdd (mV 3) (mC (.int 1))))))
 (mIfS (mAnd (mTst (mBin gEqI (mBin gIxL (mV 1) (mBin gAdd (mV 3) (mC (.int 2)))) (mV 4))) (mAnd (mTst (mBin gEqI (mFn gAbs (mCons (mBin gSub (mFn gAbs (mCons (mV 4) mNil)) (mFn gAbs (mCons (mV 5) mNil))) mNil)) (mC (.int 1)))) (mTst (mBin gEq (mBin gGt (mV 4) (mC (.int 0))) (mBin gGt (mV 5) (mC (.int 0)))))))
 (mApp 2 (mFlat (mTup (mCons (mC (.str ("three" : PySem.Str))) (mCons (mV 3) mNil)))))
 mSkip)))

def w_law_all_steps_5 : MS :=
 (mIfS (mTst (mBin gGt (mFn gAbs (mCons (mBin gSub (mFn gAbs (mCons (mBin gIxL (mV 1) (mV 3)) mNil)) (mFn gAbs (mCons (mBin gIxL (mV 1) (mBin gAdd (mV 3) (mC (.int 1)))) mNil))) mNil)) (mC (.int 1))))
 (mApp 2 (mFlat (mTup (mCons (mC (.str ("swap" : PySem.Str))) (mCons (mV 3) mNil)))))
 mSkip)

abbrev N_law_all_steps : List Str := ["wide", "letters", "steps", "k", "a", "b", "i"]
def b_law_all_steps : MS :=
 (mSeq (mAsg (.nm 2) (mNew (mLst mNil)))
 (mSeq (mForR1 (.nm 3) (mCons (mBin gSub (mFn gLen (mCons (mV 1) mNil)) (mC (.int 1))) mNil)
 w_law_all_steps_5)
 (mSeq (mForR1 (.nm 3) (mCons (mBin gSub (mFn gLen (mCons (mV 1) mNil)) (mC (.int 2))) mNil)
 w_law_all_steps_4)
 (mSeq (mForR1 (.nm 3) (mCons (mBin gSub (mFn gLen (mCons (mV 1) mNil)) (mC (.int 1))) mNil)
 w_law_all_steps_3)
 (mSeq (mForR1 (.nm 3) (mCons (mBin gAdd (mFn gLen (mCons (mV 1) mNil)) (mC (.int 1))) mNil)
 w_law_all_steps_2)
 (mRet (mMove 2)))))))
def F_law_all_steps : Fn := runM 7 b_law_all_steps

abbrev N_check_between : List Str := ["value", "least", "most"]
def b_check_between : MS :=
 (mIfS (mOr (mTst (mBin gLt (mV 0) (mV 1))) (mTst (mBin gGt (mV 0) (mV 2))))
 (mRaise ("OutOfRange" : PySem.Str) 1 [(("label" : PySem.Str), .c ("OutOfRange" : PySem.Str)), (("value" : PySem.Str), .a 0)] (mCons (mV 0) mNil))
 mSkip)
def F_check_between : Fn := runM 3 b_check_between

abbrev N_check_strands : List Str := ["strands"]
def b_check_strands : MS :=
 (mDrop (mCall 3 F_check_between (mCons (mV 0) (mCons (mC (.int 1)) (mCons (mC g_MOST_STRANDS) mNil)))))
def F_check_strands : Fn := runM 1 b_check_strands

def w_check_braid_1 : MS :=
 (mIfS (mOr (mTst (mBin gEqI (mV 2) (mC (.int 0)))) (mTst (mBin gGe (mFn gAbs (mCons (mV 2) mNil)) (mV 0))))
 (mRaise ("OutOfRange" : PySem.Str) 1 [(("label" : PySem.Str), .c ("OutOfRange" : PySem.Str)), (("value" : PySem.Str), .a 0)] (mCons (mV 2) mNil))
 mSkip)

abbrev N_check_braid : List Str := ["strands", "letters", "letter"]
def b_check_braid : MS :=
 (mSeq (mDrop (mCall 1 F_check_strands (mCons (mV 0) mNil)))
 (mSeq (mForL (.nm 2) (mFrz 1)
 w_check_braid_1)
 (mIfS (mTst (mBin gGt (mFn gLen (mCons (mV 1) mNil)) (mC g_MOST_LETTERS)))
 (mRaise ("TooMany" : PySem.Str) 1 [(("label" : PySem.Str), .c ("TooMany" : PySem.Str)), (("limit" : PySem.Str), .a 0)] (mCons (mC g_MOST_LETTERS) mNil))
 mSkip)))
def F_check_braid : Fn := runM 3 b_check_braid

abbrev N_all_letters : List Str := ["strands", "number", "letter"]
def b_all_letters : MS :=
 (mRet (mNew (mComp2 [1, 2] (.nm 1) (mRng2 (mCons (mC (.int 1)) (mCons (mV 0) mNil))) mYes [2] (.nm 2) (mIt2 itT (mTup (mCons (mV 1) (mCons (mUn gNeg (mV 1)) mNil)))) mYes (mV 2))))
def F_all_letters : Fn := runM 3 b_all_letters

abbrev N_all_steps : List Str := ["strands", "letters", "places", "found", "word", "at", "letter"]
def b_all_steps : MS :=
 (mSeq (mAsg (.nm 2) (mRngV (mCons (mFn gLen (mCons (mV 1) mNil)) mNil)))
 (mSeq (mAsg (.nm 3) (mNew (mComp2 [4, 5] (.nm 4) (mIt itT (mTup (mCons (mC (.str ("swap" : PySem.Str))) (mCons (mC (.str ("three" : PySem.Str))) (mCons (mC (.str ("out" : PySem.Str))) mNil))))) mYes [5] (.nm 5) (mIt2 itR (mV 2)) mYes (mTup (mCons (mV 4) (mCons (mV 5) mNil))))))
 (mSeq (mExt 3 (mNew (mComp2 [5, 6] (.nm 5) (mRng1 (mCons (mBin gAdd (mFn gLen (mCons (mV 1) mNil)) (mC (.int 1))) mNil)) mYes [6] (.nm 6) (mIt2 itL (pCall 1 F_all_letters (mCons (mV 0) mNil))) mYes (mTup (mCons (mC (.str ("in" : PySem.Str))) (mCons (mV 5) (mCons (mV 6) mNil)))))))
 (mRet (mMove 3)))))
def F_all_steps : Fn := runM 7 b_all_steps

abbrev N_swapped : List Str := ["letters", "at"]
def b_swapped : MS :=
 (mSeq (mIfS (mOr (mNot (mTst (mChain gLe gLt (mC (.int 0)) (mV 1) (mBin gSub (mFn gLen (mCons (mV 0) mNil)) (mC (.int 1)))))) (mTst (mBin gLt (mFn gAbs (mCons (mBin gSub (mFn gAbs (mCons (mBin gIxL (mV 0) (mV 1)) mNil)) (mFn gAbs (mCons (mBin gIxL (mV 0) (mBin gAdd (mV 1) (mC (.int 1)))) mNil))) mNil)) (mC (.int 2)))))
 (mRet (mFlat (mC .non)))
 mSkip)
 (mRet (mNew (mBinF gCat (mOfF (mBinF gCat (mOfF (mSlc (mV 0) mON (mOS (mV 1)))) (mOfF (mLst (mCons (mBin gIxL (mV 0) (mBin gAdd (mV 1) (mC (.int 1)))) (mCons (mBin gIxL (mV 0) (mV 1)) mNil)))))) (mOfF (mSlc (mV 0) (mOS (mBin gAdd (mV 1) (mC (.int 2)))) mON))))))
def F_swapped : Fn := runM 2 b_swapped

abbrev N_changed_three : List Str := ["letters", "at", "one", "other", "again"]
def b_changed_three : MS :=
 (mSeq (mIfS (mNot (mTst (mChain gLe gLt (mC (.int 0)) (mV 1) (mBin gSub (mFn gLen (mCons (mV 0) mNil)) (mC (.int 2))))))
 (mRet (mFlat (mC .non)))
 mSkip)
 (mSeq (mUnl [(.nm 2), (.nm 3), (.nm 4)] (mNew (mSlc (mV 0) (mOS (mV 1)) (mOS (mBin gAdd (mV 1) (mC (.int 3)))))))
 (mSeq (mIfS (mOr (mTst (mBin gNeI (mV 2) (mV 4))) (mOr (mTst (mBin gNeI (mFn gAbs (mCons (mBin gSub (mFn gAbs (mCons (mV 2) mNil)) (mFn gAbs (mCons (mV 3) mNil))) mNil)) (mC (.int 1)))) (mTst (mBin gNe (mBin gGt (mV 2) (mC (.int 0))) (mBin gGt (mV 3) (mC (.int 0)))))))
 (mRet (mFlat (mC .non)))
 mSkip)
 (mRet (mNew (mBinF gCat (mOfF (mBinF gCat (mOfF (mSlc (mV 0) mON (mOS (mV 1)))) (mOfF (mLst (mCons (mV 3) (mCons (mV 2) (mCons (mV 3) mNil))))))) (mOfF (mSlc (mV 0) (mOS (mBin gAdd (mV 1) (mC (.int 3)))) mON))))))))
def F_changed_three : Fn := runM 5 b_changed_three

abbrev N_left_out : List Str := ["letters", "at"]
def b_left_out : MS :=
 (mSeq (mIfS (mOr (mNot (mTst (mChain gLe gLt (mC (.int 0)) (mV 1) (mBin gSub (mFn gLen (mCons (mV 0) mNil)) (mC (.int 1)))))) (mTst (mBin gNeI (mBin gIxL (mV 0) (mV 1)) (mUn gNeg (mBin gIxL (mV 0) (mBin gAdd (mV 1) (mC (.int 1))))))))
 (mRet (mFlat (mC .non)))
 mSkip)
 (mRet (mNew (mBinF gCat (mOfF (mSlc (mV 0) mON (mOS (mV 1)))) (mOfF (mSlc (mV 0) (mOS (mBin gAdd (mV 1) (mC (.int 2)))) mON))))))
def F_left_out : Fn := runM 2 b_left_out

abbrev N_put_in : List Str := ["strands", "letters", "at", "letter"]
def b_put_in : MS :=
 (mSeq (mIfS (mOr (mNot (mTst (mChain gLe gLe (mC (.int 0)) (mV 2) (mFn gLen (mCons (mV 1) mNil))))) (mOr (mTst (mBin gEqI (mV 3) (mC (.int 0)))) (mTst (mBin gGe (mFn gAbs (mCons (mV 3) mNil)) (mV 0)))))
 (mRet (mFlat (mC .non)))
 mSkip)
 (mRet (mNew (mBinF gCat (mOfF (mBinF gCat (mOfF (mSlc (mV 1) mON (mOS (mV 2)))) (mOfF (mLst (mCons (mV 3) (mCons (mUn gNeg (mV 3)) mNil)))))) (mOfF (mSlc (mV 1) (mOS (mV 2)) mON))))))
def F_put_in : Fn := runM 4 b_put_in

abbrev N_stepped : List Str := ["strands", "letters", "step", "word"]
def b_stepped : MS :=
 (mSeq (mAsg (.nm 3) (mFlat (mBin gIxT (mV 2) (mC (.int 0)))))
 (mSeq (mIfS (mTst (mBin gEq (mV 3) (mC (.str ("swap" : PySem.Str)))))
 (mRet (mCallE 2 F_swapped (mCons (mV 1) (mCons (mBin gIxT (mV 2) (mC (.int 1))) mNil))))
 mSkip)
 (mSeq (mIfS (mTst (mBin gEq (mV 3) (mC (.str ("three" : PySem.Str)))))
 (mRet (mCallE 2 F_changed_three (mCons (mV 1) (mCons (mBin gIxT (mV 2) (mC (.int 1))) mNil))))
 mSkip)
 (mSeq (mIfS (mTst (mBin gEq (mV 3) (mC (.str ("out" : PySem.Str)))))
 (mRet (mCallE 2 F_left_out (mCons (mV 1) (mCons (mBin gIxT (mV 2) (mC (.int 1))) mNil))))
 mSkip)
 (mRet (mIfE (mTst (mBin gEq (mV 3) (mC (.str ("in" : PySem.Str))))) (mCallE 4 F_put_in (mCons (mV 0) (mCons (mV 1) (mCons (mBin gIxT (mV 2) (mC (.int 1))) (mCons (mBin gIxT (mV 2) (mC (.int 2))) mNil))))) (mFlat (mC .non))))))))
def F_stepped : Fn := runM 4 b_stepped

def w_braid_paper_1 : MS :=
 (mSeq (mAsg (.nm 11) (mCallE 3 F_stepped (mCons (mV 0) (mCons (mV 9) (mCons (mV 10) mNil)))))
 (mIfS (mAnd (mTst (mBin gNotN (mV 11) (mC .non))) (mTst (mBin (gDIn true) (mFn gTupOf (mCons (mV 11) mNil)) (mV 5))))
 (mSeq (mIfS (mTst (mBin gEq (mFn gTupOf (mCons (mV 11) mNil)) (mV 4)))
 (mRet (mNew (mBinF gCat (mBin gDGet (mV 5) (mFn gTupOf (mCons (mV 9) mNil))) (mOfF (mLst (mCons (mV 10) mNil))))))
 mSkip)
 (mSeq (mIfS (mTst (mBin gEqI (mFn gLenDT (mCons (mV 5) mNil)) (mC g_MOST_LISTS)))
 (mRaise ("TooLarge" : PySem.Str) 0 [(("label" : PySem.Str), .c ("TooLarge" : PySem.Str))] mNil)
 mSkip)
 (mSeq (mDPut 5 (mFn gTupOf (mCons (mV 11) mNil)) (mNew (mBinF gCat (mBin gDGet (mV 5) (mFn gTupOf (mCons (mV 9) mNil))) (mOfF (mLst (mCons (mV 10) mNil))))))
 (mApp 8 (mMove 11)))))
 mSkip))

def w_braid_paper_2 : MS :=
 (mForL (.nm 10) (mCallE 2 F_all_steps (mCons (mV 0) (mCons (mV 9) mNil)))
 w_braid_paper_1)

def w_braid_paper_3 : MS :=
 (mSeq (mIfS (mTst (mBin (gDIn false) (mV 4) (mV 5)))
 (mRet (mDTake 5 (mV 4)))
 mSkip)
 (mSeq (mAsg (.nm 8) (mNew (mLst mNil)))
 (mSeq (mForL (.nm 9) (mMove 6)
 w_braid_paper_2)
 (mAsg (.nm 6) (mMove 8)))))

abbrev N_braid_paper : List Str := ["strands", "first", "second", "most", "goal", "lists", "here", "_", "later", "letters", "step", "behind"]
def b_braid_paper : MS :=
 (mSeq (mDrop (mCall 2 F_check_braid (mCons (mV 0) (mCons (mV 1) mNil))))
 (mSeq (mDrop (mCall 2 F_check_braid (mCons (mV 0) (mCons (mV 2) mNil))))
 (mSeq (mDrop (mCall 3 F_check_between (mCons (mV 3) (mCons (mC (.int 0)) (mCons (mC g_MOST_STEPS) mNil)))))
 (mSeq (mAsg (.nm 4) (mFlat (mFn gTupOf (mCons (mV 2) mNil))))
 (mSeq (mAsg (.nm 5) (mN (pDisp1 (mFn gTupOf (mCons (mV 1) mNil)) (pNew (mLst mNil)))))
 (mSeq (mAsg (.nm 6) (mELst (mECons (mNew (mFnF gList (mCons (mV 1) mNil))) mENil)))
 (mSeq (mForR1 (.nm 7) (mCons (mV 3) mNil)
 w_braid_paper_3)
 (mRet (mDTakeG 5 (mV 4))))))))))
def F_braid_paper : Fn := runM 12 b_braid_paper

abbrev N_step_braid : List Str := ["strands", "letters", "step", "found"]
def b_step_braid : MS :=
 (mSeq (mDrop (mCall 2 F_check_braid (mCons (mV 0) (mCons (mV 1) mNil))))
 (mSeq (mAsg (.nm 3) (mCallE 3 F_stepped (mCons (mV 0) (mCons (mOfF (mFnF gList (mCons (mV 1) mNil))) (mCons (mV 2) mNil)))))
 (mSeq (mIfS (mTst (mBin gIsN (mV 3) (mC .non)))
 (mRaise ("BadStep" : PySem.Str) 1 [(("label" : PySem.Str), .c ("BadStep" : PySem.Str)), (("number" : PySem.Str), .a 0)] (mCons (mC (.int 0)) mNil))
 mSkip)
 (mRet (mMove 3)))))
def F_step_braid : Fn := runM 4 b_step_braid

abbrev N_law_told : List Str := ["way", "wide", "a", "b", "c", "e"]
def b_law_told : MS :=
 (mTry (mSeq (mIfS (mTst (mBin gEqI (mV 0) (mC (.int 0))))
 (mRet (mETup (mECons (mFlat (mC (.str ("value" : PySem.Str)))) (mECons (mCallE 3 F_step_braid (mCons (mV 1) (mCons (mV 2) (mCons (mV 3) mNil)))) mENil))))
 mSkip)
 (mRet (mETup (mECons (mFlat (mC (.str ("value" : PySem.Str)))) (mECons (mCallE 4 F_braid_paper (mCons (mV 1) (mCons (mV 2) (mCons (mV 3) (mCons (mV 4) mNil))))) mENil))))) [(m_BadStep, fun z env => if 5 < env.length then mRetX 5 (fun x => mTup ((fun x => mCons ((fun _ => (mC (.str ("step" : PySem.Str)))) x) ((fun x => mCons ((mExf z_BadStep ("number" : PySem.Str)) x) ((fun _ => mNil) x)) x)) x)) z (env.set 5 none) else .stuck), (m_OutOfRange, fun z env => if 5 < env.length then mRetX 5 (fun x => mTup ((fun x => mCons ((fun _ => (mC (.str ("range" : PySem.Str)))) x) ((fun x => mCons ((mExf z_OutOfRange ("value" : PySem.Str)) x) ((fun _ => mNil) x)) x)) x)) z (env.set 5 none) else .stuck), (m_TooLarge, fun _ => (mRet (mFlat (mTup (mCons (mC (.str ("large" : PySem.Str))) (mCons (mC (.int 0)) mNil)))))), (m_RopeError, fun _ => (mRet (mFlat (mTup (mCons (mC (.str ("other" : PySem.Str))) (mCons (mC (.int 0)) mNil))))))])
def F_law_told : Fn := runM 6 b_law_told

abbrev N_law_stepped : List Str := ["letters", "step", "k"]
def b_law_stepped : MS :=
 (mSeq (mAsg (.nm 2) (mFlat (mBin gIxT (mV 1) (mC (.int 1)))))
 (mSeq (mIfS (mTst (mBin gEq (mBin gIxT (mV 1) (mC (.int 0))) (mC (.str ("swap" : PySem.Str)))))
 (mRet (mNew (mBinF gCat (mOfF (mBinF gCat (mOfF (mSlc (mV 0) mON (mOS (mV 2)))) (mOfF (mLst (mCons (mBin gIxL (mV 0) (mBin gAdd (mV 2) (mC (.int 1)))) (mCons (mBin gIxL (mV 0) (mV 2)) mNil)))))) (mOfF (mSlc (mV 0) (mOS (mBin gAdd (mV 2) (mC (.int 2)))) mON)))))
 mSkip)
 (mSeq (mIfS (mTst (mBin gEq (mBin gIxT (mV 1) (mC (.int 0))) (mC (.str ("three" : PySem.Str)))))
 (mRet (mNew (mBinF gCat (mOfF (mBinF gCat (mOfF (mSlc (mV 0) mON (mOS (mV 2)))) (mOfF (mLst (mCons (mBin gIxL (mV 0) (mBin gAdd (mV 2) (mC (.int 1)))) (mCons (mBin gIxL (mV 0) (mV 2)) (mCons (mBin gIxL (mV 0) (mBin gAdd (mV 2) (mC (.int 1)))) mNil))))))) (mOfF (mSlc (mV 0) (mOS (mBin gAdd (mV 2) (mC (.int 3)))) mON)))))
 mSkip)
 (mSeq (mIfS (mTst (mBin gEq (mBin gIxT (mV 1) (mC (.int 0))) (mC (.str ("out" : PySem.Str)))))
 (mRet (mNew (mBinF gCat (mOfF (mSlc (mV 0) mON (mOS (mV 2)))) (mOfF (mSlc (mV 0) (mOS (mBin gAdd (mV 2) (mC (.int 2)))) mON)))))
 mSkip)
 (mRet (mNew (mBinF gCat (mOfF (mBinF gCat (mOfF (mSlc (mV 0) mON (mOS (mV 2)))) (mOfF (mLst (mCons (mBin gIxT (mV 1) (mC (.int 2))) (mCons (mUn gNeg (mBin gIxT (mV 1) (mC (.int 2)))) mNil)))))) (mOfF (mSlc (mV 0) (mOS (mV 2)) mON)))))))))
def F_law_stepped : Fn := runM 3 b_law_stepped

abbrev N_law_cell : List Str := ["script", "k"]
def b_law_cell : MS :=
 (mSeq (mIfS (mTst (mBin gLt (mV 1) (mFn gLen (mCons (mV 0) mNil))))
 (mRet (mFlat (mBin gIxL (mV 0) (mV 1))))
 mSkip)
 (mRet (mFlat (mC (.int 0)))))
def F_law_cell : Fn := runM 2 b_law_cell

def w_check_braid_paper_1 : MS :=
 (mSeq (mAsg (.nm 4) (mCallE 3 F_stepped (mCons (mV 0) (mCons (mV 4) (mCons (mV 5) mNil)))))
 (mIfS (mTst (mBin gIsN (mV 4) (mC .non)))
 (mRet (mFlat (mC (.bl false))))
 mSkip))

abbrev N_check_braid_paper : List Str := ["strands", "first", "second", "steps", "letters", "step"]
def b_check_braid_paper : MS :=
 (mSeq (mDrop (mCall 2 F_check_braid (mCons (mV 0) (mCons (mV 1) mNil))))
 (mSeq (mDrop (mCall 2 F_check_braid (mCons (mV 0) (mCons (mV 2) mNil))))
 (mSeq (mAsg (.nm 4) (mNew (mFnF gList (mCons (mV 1) mNil))))
 (mSeq (mForL (.nm 5) (mMove 3)
 w_check_braid_paper_1)
 (mRet (mFlat (mBin gEq (mV 4) (mOfF (mFnF gList (mCons (mV 2) mNil))))))))))
def F_check_braid_paper : Fn := runM 6 b_check_braid_paper

def w_law_1 : MS :=
 (mAsg (.nm 16) (mECat (mFrz 16) (mN (pComp [12] (.nm 12) (mIt itL (mCall 2 F_law_all_steps (mCons (mV 2) (mCons (mBin gIxT (mV 15) (mC (.int 1))) mNil)))) mYes (pTup (mCons (pNew (mBinF gCat (mBin gIxT (mV 15) (mC (.int 0))) (mOfF (mLst (mCons (mV 12) mNil))))) (mCons (pCall 2 F_law_stepped (mCons (mBin gIxT (mV 15) (mC (.int 1))) (mCons (mV 12) mNil))) mNil)))))))

def w_law_2 : MS :=
 (mIfS (mAnd (mTst (mBin gIsN (mV 8) (mC .non))) (mTst (mBin gEq (mBin gIxT (mV 15) (mC (.int 1))) (mV 6))))
 (mAsg (.nm 8) (mFrzIx 15 (mC (.int 0))))
 mSkip)

def w_law_3 : MS :=
 (mSeq (mForL (.nm 15) (mFrz 7)
 w_law_2)
 (mSeq (mAsg (.nm 16) (mNew (mLst mNil)))
 (mSeq (mIfS (mAnd (mTst (mBin gIsN (mV 8) (mC .non))) (mTst (mBin gLt (mV 9) (mC (.int 2)))))
 (mForL (.nm 15) (mMove 7)
 w_law_1)
 mSkip)
 (mAsg (.nm 7) (mMove 16)))))

def w_law_4 : MS :=
 (mSeq (mAsg (.nm 14) (mCallE 2 F_law_all_steps (mCons (mV 2) (mCons (mV 6) mNil))))
 (mAsg (.nm 6) (mCallE 2 F_law_stepped (mCons (mV 6) (mCons (mBin gIxL (mV 14) (mBin gMod (mFn gInt (mCons (mBin gAdd (mCall 2 F_law_cell (mCons (mV 0) (mCons (mC (.int 3)) mNil))) (mBin gMul (mC (.int 11)) (mV 5))) mNil)) (mFn gLen (mCons (mV 14) mNil)))) mNil)))))

def w_law_5 : MS :=
 (mSeq (mAsg (.nm 11) (mCallE 2 F_law_draw (mCons (mBin gAdd (mFn gAbs (mCons (mCall 2 F_law_cell (mCons (mV 0) (mCons (mC (.int 1)) mNil))) mNil)) (mBin gMul (mC (.int 17)) (mV 5))) (mCons (mOfF (mLst (mCons (mC (.int 4)) (mCons (mC (.int 7)) (mCons (mC (.int 9)) mNil))))) mNil))))
 (mSeq (mAsg (.nm 12) (mFlat (mBin gIxL (mOfF (mLst (mCons (mTup (mCons (mC (.str ("swap" : PySem.Str))) (mCons (mBin gSub (mBin gIxL (mV 11) (mC (.int 1))) (mC (.int 1))) mNil))) (mCons (mTup (mCons (mC (.str ("three" : PySem.Str))) (mCons (mBin gSub (mBin gIxL (mV 11) (mC (.int 1))) (mC (.int 1))) mNil))) (mCons (mTup (mCons (mC (.str ("out" : PySem.Str))) (mCons (mBin gSub (mBin gIxL (mV 11) (mC (.int 1))) (mC (.int 1))) mNil))) (mCons (mTup (mCons (mC (.str ("in" : PySem.Str))) (mCons (mBin gSub (mBin gIxL (mV 11) (mC (.int 1))) (mC (.int 1))) (mCons (mBin gSub (mBin gIxL (mV 11) (mC (.int 2))) (mC (.int 4))) mNil)))) mNil)))))) (mBin gIxL (mV 11) (mC (.int 0))))))
 (mSeq (mAsg (.nm 13) (mFlat (mTup (mCons (mC (.str ("step" : PySem.Str))) (mCons (mC (.int 0)) mNil)))))
 (mSeq (mIfS (mTst (mBin (gInD false) (mV 12) (mV 4)))
 (mAsg (.nm 13) (mETup (mECons (mFlat (mC (.str ("value" : PySem.Str)))) (mECons (mCallE 2 F_law_stepped (mCons (mV 3) (mCons (mV 12) mNil))) mENil))))
 mSkip)
 (mIfS (mTst (mBin gNe (mCall 5 F_law_told (mCons (mC (.int 0)) (mCons (mV 2) (mCons (mOfF (mFnF gList (mCons (mV 3) mNil))) (mCons (mV 12) (mCons (mC (.int 0)) mNil)))))) (mV 13)))
 (mRet (mFlat (mC (.bl false))))
 mSkip)))))

abbrev N_law : List Str := ["script", "braid", "wide", "letters", "steps", "k", "other", "rows", "found", "length", "paper", "d", "step", "due", "options", "row", "longer"]
def b_law : MS :=
 (mSeq (mAsg (.nm 1) (mCallE 3 F_law_braid (mCons (mFn gAbs (mCons (mCall 2 F_law_cell (mCons (mV 0) (mCons (mC (.int 0)) mNil))) mNil)) (mCons (mC (.int 4)) (mCons (mC (.int 4)) mNil)))))
 (mSeq (mAsg (.nm 2) (mFlat (mBin gIxT (mV 1) (mC (.int 0)))))
 (mSeq (mAsg (.nm 3) (mFrzIx 1 (mC (.int 1))))
 (mSeq (mAsg (.nm 4) (mCallE 2 F_law_all_steps (mCons (mV 2) (mCons (mV 3) mNil))))
 (mSeq (mForR1 (.nm 5) (mCons (mC (.int 6)) mNil)
 w_law_5)
 (mSeq (mAsg (.nm 6) (mFrz 3))
 (mSeq (mForR1 (.nm 5) (mCons (mBin gMod (mFn gInt (mCons (mCall 2 F_law_cell (mCons (mV 0) (mCons (mC (.int 2)) mNil))) mNil)) (mC (.int 3))) mNil)
 w_law_4)
 (mSeq (mAsg (.nm 7) (mELst (mECons (mETup (mECons (mNew (mLst mNil)) (mECons (mFrz 3) mENil))) mENil)))
 (mSeq (mAsg (.nm 8) (mFlat (mC .non)))
 (mSeq (mForR1 (.nm 9) (mCons (mC (.int 3)) mNil)
 w_law_3)
 (mSeq (mAsg (.nm 10) (mCallE 5 F_law_told (mCons (mC (.int 1)) (mCons (mV 2) (mCons (mV 3) (mCons (mV 6) (mCons (mC (.int 2)) mNil)))))))
 (mSeq (mIfS (mOr (mTst (mBin gNe (mV 10) (mTup (mCons (mC (.str ("value" : PySem.Str))) (mCons (mV 8) mNil))))) (mTst (mBin (gIsB true) (mCall 4 F_check_braid_paper (mCons (mV 2) (mCons (mV 3) (mCons (mV 6) (mCons (mV 8) mNil))))) (mC (.bl true)))))
 (mRet (mFlat (mC (.bl false))))
 mSkip)
 (mSeq (mIfS (mOr (mTst (mBin (gIsB true) (mCall 4 F_check_braid_paper (mCons (mV 2) (mCons (mV 3) (mCons (mOfF (mBinF gCat (mV 6) (mOfF (mLst (mCons (mC (.int 1)) mNil))))) (mCons (mV 8) mNil))))) (mC (.bl false)))) (mTst (mBin (gIsB true) (mCall 4 F_check_braid_paper (mCons (mV 2) (mCons (mV 3) (mCons (mV 6) (mCons (mOfF (mBinF gCat (mV 8) (mOfF (mLst (mCons (mTup (mCons (mC (.str ("out" : PySem.Str))) (mCons (mC (.int 99)) mNil))) mNil))))) mNil))))) (mC (.bl false)))))
 (mRet (mFlat (mC (.bl false))))
 mSkip)
 (mSeq (mIfS (mOr (mTst (mBin gNe (mCall 5 F_law_told (mCons (mC (.int 1)) (mCons (mV 2) (mCons (mV 3) (mCons (mOfF (mBinF gCat (mV 3) (mOfF (mLst (mCons (mC (.int 1)) mNil))))) (mCons (mC (.int 1)) mNil)))))) (mTup (mCons (mC (.str ("value" : PySem.Str))) (mCons (mC .non) mNil))))) (mOr (mTst (mBin gNe (mCall 5 F_law_told (mCons (mC (.int 1)) (mCons (mV 2) (mCons (mV 3) (mCons (mV 6) (mCons (mC (.int 7)) mNil)))))) (mTup (mCons (mC (.str ("range" : PySem.Str))) (mCons (mC (.int 7)) mNil))))) (mTst (mBin gNe (mCall 5 F_law_told (mCons (mC (.int 1)) (mCons (mV 2) (mCons (mV 3) (mCons (mV 6) (mCons (mUn gNeg (mC (.int 1))) mNil)))))) (mTup (mCons (mC (.str ("range" : PySem.Str))) (mCons (mUn gNeg (mC (.int 1))) mNil)))))))
 (mRet (mFlat (mC (.bl false))))
 mSkip)
 (mRet (mFlat (mAndV (mBin gEq (mCall 5 F_law_told (mCons (mC (.int 0)) (mCons (mV 2) (mCons (mV 3) (mCons (mTup (mCons (mC (.str ("knot" : PySem.Str))) (mCons (mC (.int 0)) mNil))) (mCons (mC (.int 0)) mNil)))))) (mTup (mCons (mC (.str ("step" : PySem.Str))) (mCons (mC (.int 0)) mNil)))) (mBin gEq (mCall 5 F_law_told (mCons (mC (.int 0)) (mCons (mV 2) (mCons (mV 3) (mCons (mTup (mCons (mC (.str ("in" : PySem.Str))) (mCons (mC (.int 0)) (mCons (mC (.int 0)) mNil)))) (mCons (mC (.int 0)) mNil)))))) (mTup (mCons (mC (.str ("step" : PySem.Str))) (mCons (mC (.int 0)) mNil)))))))))))))))))))))
def F_law : Fn := runM 17 b_law

end M_ropebook_k36_papers_of_braids

set_option Elab.async false
set_option linter.all false
set_option maxRecDepth 100000
set_option maxHeartbeats 1000000
namespace M_ropebook_k36_papers_of_braids
open M PySem L2

theorem cell_ok (ns : List Int) (k : Nat) : ∃ c : Int, F_law_cell [.scr (ns.map .int), .int k] = .ok (8, .int c) := by
  by_cases h : k < ns.length
  · refine ⟨ns[k], ?_⟩
    have e : atI (List.map PV.int ns) (k : Int) = some (.int ns[k]) := atI_of rfl (by simp [h])
    simp [F_law_cell, runM, b_law_cell, slotsOf, List.replicate, h, e]
  · refine ⟨0, ?_⟩
    simp [F_law_cell, runM, b_law_cell, slotsOf, List.replicate, h]
theorem fm_lt {a b : Int} (h : 0 < b) : 0 ≤ a.fmod b ∧ a.fmod b < b := by
  rw [Int.fmod_eq_emod_of_nonneg _ (Int.le_of_lt h)]
  exact ⟨Int.emod_nonneg _ (by omega), Int.emod_lt_of_pos _ h⟩
def mix (c j : Int) : Int := ((((c.natAbs : Int) * 48271 + (j + 1) * 69621).fmod 2147483647) * 16807 + (j + 1) * 40692).fmod 2147483399
theorem draw_loop (c : Int) (ls : List Int) (hp : ∀ l ∈ ls, 0 < l ∧ l < 1073741824) (hs : ls.length ≤ 1000) (g : Bool) : ∀ (m j : Nat) (rs : List Int) (rest : Int) (d3 : Nat) (o5 o6 : Option Slot), m + j = ls.length → rs.length = j → (∀ i (h : i < rs.length) (h' : i < ls.length), 0 ≤ rs[i] ∧ rs[i] < ls[i]) → frB o5 = true → frB o6 = true →
    ∃ (rs' : List Int) (o3 o4 o5' o6' : Option Slot), loopF (.nm 5) w_law_draw_1 (rngs j m) [sl 0 (.int c), sl 0 (.lst (ls.map .int)), sl 9 (.lst (rs.map .int)), sl d3 (.int rest), sl 8 (.bl g), o5, o6] = .ok (.nx [sl 0 (.int c), sl 0 (.lst (ls.map .int)), sl 9 (.lst (rs'.map .int)), o3, o4, o5', o6']) ∧
      rs'.length = ls.length ∧ ∀ i (h : i < rs'.length) (h' : i < ls.length), 0 ≤ rs'[i] ∧ rs'[i] < ls[i]
  | 0, j, rs, rest, d3, o5, o6, hm, hr, hv, f5, f6 => ⟨rs, _, _, _, _, by rw [rngs_zero, loopF], by omega, hv⟩
  | m + 1, j, rs, rest, d3, o5, o6, hm, hr, hv, f5, f6 => by
    have hj : j < ls.length := by omega
    have e : atI (ls.map PV.int) (j : Int) = some (.int ls[j]) := atI_of rfl (by simp [hj])
    have pj := hp ls[j] (List.getElem_mem hj)
    have cd : ∀ i, cDiv i ls[j] = true := fun i => div_ok (by omega) (by omega)
    have cm : ∀ i, cMod i ls[j] = true := fun i => mod_ok (by omega)
    have cm1 : ∀ i, cMod i 2147483647 = true := fun i => mod_ok (by omega)
    have cm2 : ∀ i, cMod i 2147483399 = true := fun i => mod_ok (by omega)
    have k1 : ∀ i, cMul i 48271 = true := fun i => mul_ok (.inr (by omega))
    have k2 : ∀ i, cMul i 69621 = true := fun i => mul_ok (.inr (by omega))
    have k3 : ∀ i, cMul i 16807 = true := fun i => mul_ok (.inr (by omega))
    have k4 : ∀ i, cMul i 40692 = true := fun i => mul_ok (.inr (by omega))
    have more : ∀ x : Int, 0 ≤ x → x < ls[j] → ∀ i (h : i < (rs ++ [x]).length) (h' : i < ls.length), 0 ≤ (rs ++ [x])[i] ∧ (rs ++ [x])[i] < ls[i] := fun x h1 h2 i h h' => by
      by_cases hi : i < rs.length
      · rw [List.getElem_append_left hi]; exact hv i hi h'
      · have : i = j := by rw [List.length_append, List.length_singleton] at h; omega
        subst this
        rw [List.getElem_append_right (by omega)]
        simp only [hr, Nat.sub_self, List.getElem_cons_zero]
        exact ⟨h1, h2⟩
    have hl : rs.length < 16777216 := by omega
    rw [rngs_succ, loopF]
    have s5 : setS [sl 0 (.int c), sl 0 (.lst (ls.map .int)), sl 9 (.lst (rs.map .int)), sl d3 (.int rest), sl 8 (.bl g), o5, o6] 5 (itD (.int j)) (.int j) = some [sl 0 (.int c), sl 0 (.lst (ls.map .int)), sl 9 (.lst (rs.map .int)), sl d3 (.int rest), sl 8 (.bl g), sl (itD (.int j)) (.int j), o6] := by simp [f5]
    simp only [ev_setTnm, s5]
    have fin : ∀ x rest' d3' o6', 0 ≤ x → x < ls[j] → frB o6' = true → w_law_draw_1 [sl 0 (.int c), sl 0 (.lst (ls.map .int)), sl 9 (.lst (rs.map .int)), sl d3 (.int rest), sl 8 (.bl g), sl (itD (.int j)) (.int j), o6] = .ok (.nx [sl 0 (.int c), sl 0 (.lst (ls.map .int)), sl 9 (.lst ((rs ++ [x]).map .int)), sl d3' (.int rest'), sl 8 (.bl g), sl (itD (.int j)) (.int j), o6']) →
        ∃ (rs' : List Int) (o3 o4 o5' o6' : Option Slot), contR (w_law_draw_1 [sl 0 (.int c), sl 0 (.lst (ls.map .int)), sl 9 (.lst (rs.map .int)), sl d3 (.int rest), sl 8 (.bl g), sl (itD (.int j)) (.int j), o6]) (loopF (.nm 5) w_law_draw_1 (rngs (j + 1) m)) = .ok (.nx [sl 0 (.int c), sl 0 (.lst (ls.map .int)), sl 9 (.lst (rs'.map .int)), o3, o4, o5', o6']) ∧
          rs'.length = ls.length ∧ ∀ i (h : i < rs'.length) (h' : i < ls.length), 0 ≤ rs'[i] ∧ rs'[i] < ls[i] := fun x rest' d3' o6' h1 h2 f e => by
      obtain ⟨rs', o3, o4, o5', o6'', q, q2⟩ := draw_loop c ls hp hs g m (j + 1) (rs ++ [x]) rest' d3' (sl (itD (.int j)) (.int j)) o6' (by omega) (by simp [hr]) (more x h1 h2) rfl f
      refine ⟨rs', o3, o4, o5', o6'', ?_, q2⟩
      rw [e]
      exact q
    by_cases hg : g = true ∧ ls[j] ≤ rest
    · have r := fm_lt (a := rest) pj.1
      refine fin (rest.fmod ls[j]) (rest.fdiv ls[j]) 8 o6 r.1 r.2 f6 ?_
      obtain ⟨rfl, hg2⟩ := hg
      simp [w_law_draw_1, e, hg2, cd, cm, hl]
    · have r := fun a => fm_lt (a := a) pj.1
      have hg' : (if g = true then decide (ls[j] ≤ rest) else false) = false := by
        cases g with
        | false => rfl
        | true => simp at hg; simp [hg]
      refine fin ((mix c j).fmod ls[j]) rest d3 (sl 8 (.int (mix c j))) (r _).1 (r _).2 rfl ?_
      cases g with
      | false =>
        simp [w_law_draw_1, e, cd, cm, cm1, cm2, k1, k2, k3, k4, hl, mix, f6]
      | true =>
        have hg2 : ¬ ls[j] ≤ rest := by simpa using hg
        simp [w_law_draw_1, e, hg2, cd, cm, cm1, cm2, k1, k2, k3, k4, hl, mix, f6]
theorem draw_ok (c : Int) (ls : List Int) (hp : ∀ l ∈ ls, 0 < l ∧ l < 1073741824) (hs : ls.length ≤ 1000) : ∃ rs : List Int, F_law_draw [.int c, .lst (ls.map .int)] = .ok (9, .lst (rs.map .int)) ∧ rs.length = ls.length ∧ ∀ i (h : i < rs.length) (h' : i < ls.length), 0 ≤ rs[i] ∧ rs[i] < ls[i] := by
  obtain ⟨g, hg⟩ : ∃ g : Bool, gGe (.int (c.natAbs : Int)) (.int 1000000000000000000) = some (.bl g) := ⟨_, rfl⟩
  obtain ⟨rs, o3, o4, o5, o6, q, hl, hv⟩ := draw_loop c ls hp hs g ls.length 0 [] c.natAbs 8 none none (by omega) rfl (fun i h => absurd h (by simp)) rfl rfl
  refine ⟨rs, ?_, hl, hv⟩
  have k : rngOk ls.length = true := rng_ok (by omega) (by omega)
  simp only [List.map_nil, Int.ofNat_zero] at q
  refine run_rt (b := b_law_draw) (e := [sl 0 (.int c), sl 0 (.lst (ls.map .int)), none, o3, o4, o5, o6]) ?_
  show b_law_draw [sl 0 (.int c), sl 0 (.lst (ls.map .int)), none, none, none, none, none] = _
  rw [b_law_draw]
  refine (seq_nx (e := [sl 0 (.int c), sl 0 (.lst (ls.map .int)), sl 9 (.lst []), none, none, none, none]) (by simp)).trans ?_
  refine (seq_nx (e := [sl 0 (.int c), sl 0 (.lst (ls.map .int)), sl 9 (.lst []), sl 8 (.int c.natAbs), none, none, none]) (by simp)).trans ?_
  refine (seq_nx (e := [sl 0 (.int c), sl 0 (.lst (ls.map .int)), sl 9 (.lst []), sl 8 (.int c.natAbs), sl 8 (.bl g), none, none]) (by simp [hg, -ev_gGe])).trans ?_
  refine (seq_nx (e := _) (Eq.trans (by simp [k]) q)).trans ?_
  simp
theorem compF_map {t : Tg} {mt : MP Bool} {me : MP PV} {env : LEnv} {g : PV → PV} : ∀ {ps : List PV}, (∀ p ∈ ps, ∃ e, setT t 0 p env = some e ∧ mt e = .ok true ∧ me e = .ok (g p) ∧ hgt (g p) = 0) → compF t mt me env ps = some (ps.map g)
  | [], _ => by rw [compF]; rfl
  | p :: ps, h => by
    obtain ⟨e, h1, h2, h3, h4⟩ := h p List.mem_cons_self
    rw [compF, h1]
    simp only [Option.bind_some, h2, h3, noX, if_true, h4, compF_map (fun q hq => h q (List.mem_cons_of_mem _ hq)), Option.map_some, List.map_cons]
theorem comp_ok {vs : List Nat} {t : Tg} {mi : MP (List PV)} {mt : MP Bool} {me : MP PV} {env : LEnv} {g : PV → PV} {ps : List PV} (hi : mi env = .ok ps) (hz : ps.length ≤ 16777216) (h : ∀ p ∈ ps, ∃ e, setT t 0 p (wipeE env vs) = some e ∧ mt e = .ok true ∧ me e = .ok (g p) ∧ hgt (g p) = 0) :
    mComp vs t mi mt me env = .ok (ps.map g) := by
  unfold mComp
  rw [hi]
  show ofO ((compF t mt me (wipeE env vs) ps).bind szL) = _
  rw [compF_map h]
  show ofO (szL (ps.map g)) = _
  unfold szL
  rw [if_pos (by simpa using hz)]
  rfl

end M_ropebook_k36_papers_of_braids

set_option Elab.async false
set_option linter.all false
set_option maxRecDepth 100000
set_option maxHeartbeats 1000000
namespace M_ropebook_k36_papers_of_braids
open M PySem L2

abbrev IL (l : List Int) : PV := .lst (l.map .int)
/-! ### steps -/
inductive St where
  | sw (k : Int) | th (k : Int) | ou (k : Int) | ins (k i : Int)
  deriving DecidableEq
def sPV : St → PV
  | .sw k => .tup [.str ("swap" : Str), .int k]
  | .th k => .tup [.str ("three" : Str), .int k]
  | .ou k => .tup [.str ("out" : Str), .int k]
  | .ins k i => .tup [.str ("in" : Str), .int k, .int i]
/-- an item -/
def gt (L : List Int) (k : Int) : Int := L.getD k.toNat 0
def far (a b : Int) : Int := ((((a.natAbs : Nat) : Int) - ((b.natAbs : Nat) : Int)).natAbs : Int)
def stp (w : Int) (L : List Int) : St → Option (List Int)
  | .sw k => if 0 ≤ k ∧ k < (L.length : Int) - 1 ∧ ¬ far (gt L k) (gt L (k + 1)) < 2 then some (L.take k.toNat ++ [gt L (k + 1), gt L k] ++ L.drop (k.toNat + 2)) else none
  | .th k => if 0 ≤ k ∧ k < (L.length : Int) - 2 ∧ gt L k = gt L (k + 2) ∧ far (gt L k) (gt L (k + 1)) = 1 ∧ (0 < gt L k ↔ 0 < gt L (k + 1)) then some (L.take k.toNat ++ [gt L (k + 1), gt L k, gt L (k + 1)] ++ L.drop (k.toNat + 3)) else none
  | .ou k => if 0 ≤ k ∧ k < (L.length : Int) - 1 ∧ gt L k = -gt L (k + 1) then some (L.take k.toNat ++ L.drop (k.toNat + 2)) else none
  | .ins k i => if 0 ≤ k ∧ k ≤ (L.length : Int) ∧ i ≠ 0 ∧ (i.natAbs : Int) < w then some (L.take k.toNat ++ [i, -i] ++ L.drop k.toNat) else none

theorem at_gt {L : List Int} {k : Int} (h : 0 ≤ k) (h2 : k < L.length) : atI (L.map PV.int) k = some (.int (gt L k)) := by
  refine atI_of (j := k.toNat) (by omega) ?_
  have : k.toNat < L.length := by omega
  simp [gt, this]
theorem cut_to {L : List Int} {k : Int} (h : 0 ≤ k) : cutP (L.map PV.int) none (some k) = (L.take k.toNat).map PV.int := by
  unfold cutP cutN
  have : ¬ k < 0 := by omega
  simp only [this, if_false, List.length_map]
  rw [show (List.drop 0 (L.map PV.int)) = L.map PV.int from rfl, Nat.sub_zero, List.map_take]
  rcases Nat.le_total k.toNat L.length with z | z
  · rw [Nat.min_eq_left z]
  · rw [Nat.min_eq_right z, List.take_of_length_le (by simp), List.take_of_length_le (by simp; omega)]
theorem cut_from {L : List Int} {k : Int} (h : 0 ≤ k) : cutP (L.map PV.int) (some k) none = (L.drop k.toNat).map PV.int := by
  unfold cutP cutN
  have : ¬ k < 0 := by omega
  simp only [this, if_false, List.length_map]
  rw [List.map_drop]
  rcases Nat.le_total k.toNat L.length with z | z
  · rw [Nat.min_eq_left z, List.take_of_length_le (by simp)]
  · rw [Nat.min_eq_right z, List.drop_eq_nil_of_le (by simp), List.drop_eq_nil_of_le (by simp; omega)]; simp
theorem cut_mid {L : List Int} {k : Int} (h : 0 ≤ k) (h2 : k + 3 ≤ L.length) : cutP (L.map PV.int) (some k) (some (k + 3)) = [.int (gt L k), .int (gt L (k + 1)), .int (gt L (k + 2))] := by
  unfold cutP cutN
  have a1 : ¬ k < 0 := by omega
  have a2 : ¬ k + 3 < 0 := by omega
  simp only [a1, a2, if_false, List.length_map]
  have e1 : min k.toNat L.length = k.toNat := by omega
  have e2 : min (k + 3).toNat L.length - k.toNat = 3 := by omega
  rw [e1, e2]
  have l0 : k.toNat < L.length := by omega
  have l1 : k.toNat + 1 < L.length := by omega
  have l2 : k.toNat + 2 < L.length := by omega
  rw [← List.map_drop, List.drop_eq_getElem_cons l0, List.drop_eq_getElem_cons l1, List.drop_eq_getElem_cons l2]
  have t1 : (k + 1).toNat = k.toNat + 1 := by omega
  have t2 : (k + 2).toNat = k.toNat + 2 := by omega
  have g0 : gt L k = L[k.toNat] := by simp [gt, l0]
  have g1 : gt L (k + 1) = L[k.toNat + 1] := by simp [gt, t1, l1]
  have g2 : gt L (k + 2) = L[k.toNat + 2] := by simp [gt, t2, l2]
  rw [g0, g1, g2]
  simp only [List.map_cons, List.take_succ_cons, List.take_zero]
def dep : Option (List Int) → Nat
  | none => 8
  | some _ => 9
def oPV : Option (List Int) → PV
  | none => .non
  | some B => IL B
theorem sz_ok {n : Nat} (h : n ≤ 10000) : M.sizeOk n = true := decide_eq_true (by omega)
section
variable (w : Int) (L : List Int) (k i : Int)
theorem stp_sw : stp w L (.sw k) = if 0 ≤ k ∧ k < (L.length : Int) - 1 ∧ ¬ far (gt L k) (gt L (k + 1)) < 2 then some (L.take k.toNat ++ [gt L (k + 1), gt L k] ++ L.drop (k.toNat + 2)) else none := rfl
theorem stp_th : stp w L (.th k) = if 0 ≤ k ∧ k < (L.length : Int) - 2 ∧ gt L k = gt L (k + 2) ∧ far (gt L k) (gt L (k + 1)) = 1 ∧ (0 < gt L k ↔ 0 < gt L (k + 1)) then some (L.take k.toNat ++ [gt L (k + 1), gt L k, gt L (k + 1)] ++ L.drop (k.toNat + 3)) else none := rfl
theorem stp_ou : stp w L (.ou k) = if 0 ≤ k ∧ k < (L.length : Int) - 1 ∧ gt L k = -gt L (k + 1) then some (L.take k.toNat ++ L.drop (k.toNat + 2)) else none := rfl
theorem stp_in : stp w L (.ins k i) = if 0 ≤ k ∧ k ≤ (L.length : Int) ∧ i ≠ 0 ∧ (i.natAbs : Int) < w then some (L.take k.toNat ++ [i, -i] ++ L.drop k.toNat) else none := rfl
end
theorem hz0 : ∀ l : List Int, hgts (l.map .int) = 0 := hgts_ints
/-- a row of letters cut and joined -/
theorem catI (a b : List Int) (h : a.length + b.length ≤ 10000) : gCat (IL a) (IL b) = some ((a ++ b).map .int) := by
  rw [ev_gCat, if_pos (by rw [List.length_map, List.length_map]; exact sz_ok h), List.map_append]
theorem swapped_ok {w : Int} {L : List Int} {k : Int} (hl : L.length ≤ 1000) : F_swapped [IL L, .int k] = .ok (dep (stp w L (.sw k)), oPV (stp w L (.sw k))) := by
  rw [stp_sw]
  by_cases h : 0 ≤ k ∧ k < (L.length : Int) - 1
  · obtain ⟨h1, h2⟩ := h
    have e1 := at_gt (L := L) h1 (by omega)
    have e2 := at_gt (L := L) (k := k + 1) (by omega) (by omega)
    by_cases h3 : far (gt L k) (gt L (k + 1)) < 2
    · rw [if_neg (fun z => z.2.2 h3)]
      unfold far at h3
      simp [F_swapped, runM, b_swapped, slotsOf, List.replicate, h1, h2, e1, e2, h3, dep, oPV]
    · rw [if_pos ⟨h1, h2, h3⟩]
      have c1 := cut_to (L := L) h1
      have c2 := cut_from (L := L) (k := k + 2) (by omega)
      rw [show (k + 2).toNat = k.toNat + 2 by omega] at c2
      have z1 := catI (L.take k.toNat) [gt L (k + 1), gt L k] (by simp; omega)
      have z2 := catI (L.take k.toNat ++ [gt L (k + 1), gt L k]) (L.drop (k.toNat + 2)) (by simp; omega)
      have hh := hz0 (L.take k.toNat ++ [gt L (k + 1), gt L k] ++ L.drop (k.toNat + 2))
      have y : M.sizeOk 2 = true := rfl
      unfold far at h3
      generalize L.take k.toNat ++ [gt L (k + 1), gt L k] ++ L.drop (k.toNat + 2) = R at *
      generalize L.take k.toNat ++ [gt L (k + 1), gt L k] = R1 at *
      generalize L.take k.toNat = R2 at *
      generalize L.drop (k.toNat + 2) = R3 at *
      simp only [IL, List.map_cons, List.map_nil] at z1
      simp [F_swapped, runM, b_swapped, slotsOf, List.replicate, h1, h2, e1, e2, h3, dep, oPV, c1, c2, z1, z2, hh, -ev_gCat]
  · rw [if_neg (fun z => h ⟨z.1, z.2.1⟩)]
    by_cases h1 : 0 ≤ k
    · have h2 : ¬ k < (L.length : Int) - 1 := fun z => h ⟨h1, z⟩
      simp [F_swapped, runM, b_swapped, slotsOf, List.replicate, h1, h2, dep, oPV]
    · simp [F_swapped, runM, b_swapped, slotsOf, List.replicate, h1, dep, oPV]
theorem three_ok {w : Int} {L : List Int} {k : Int} (hl : L.length ≤ 1000) : F_changed_three [IL L, .int k] = .ok (dep (stp w L (.th k)), oPV (stp w L (.th k))) := by
  rw [stp_th]
  by_cases h : 0 ≤ k ∧ k < (L.length : Int) - 2
  · obtain ⟨h1, h2⟩ := h
    have cm := cut_mid (L := L) h1 (by omega)
    have gb : gNe (.bl (decide (0 < gt L k))) (.bl (decide (0 < gt L (k + 1)))) = some (.bl (!decide (0 < gt L k ↔ 0 < gt L (k + 1)))) := by
      by_cases a : 0 < gt L k <;> by_cases b : 0 < gt L (k + 1) <;> simp only [a, b, decide_true, decide_false, iff_true, iff_false, not_true, not_false_iff] <;> kernel_rfl
    by_cases h3 : gt L k = gt L (k + 2)
    · by_cases h4 : far (gt L k) (gt L (k + 1)) = 1
      · by_cases h5 : (0 < gt L k ↔ 0 < gt L (k + 1))
        · rw [if_pos ⟨h1, h2, h3, h4, h5⟩]
          have c1 := cut_to (L := L) h1
          have c2 := cut_from (L := L) (k := k + 3) (by omega)
          rw [show (k + 3).toNat = k.toNat + 3 by omega] at c2
          have z1 := catI (L.take k.toNat) [gt L (k + 1), gt L k, gt L (k + 1)] (by simp; omega)
          have z2 := catI (L.take k.toNat ++ [gt L (k + 1), gt L k, gt L (k + 1)]) (L.drop (k.toNat + 3)) (by simp; omega)
          have hh := hz0 (L.take k.toNat ++ [gt L (k + 1), gt L k, gt L (k + 1)] ++ L.drop (k.toNat + 3))
          unfold far at h4
          rw [decide_eq_true h5] at gb
          rw [← h3] at cm
          generalize L.take k.toNat ++ [gt L (k + 1), gt L k, gt L (k + 1)] ++ L.drop (k.toNat + 3) = R at *
          generalize L.take k.toNat ++ [gt L (k + 1), gt L k, gt L (k + 1)] = R1 at *
          generalize L.take k.toNat = R2 at *
          generalize L.drop (k.toNat + 3) = R3 at *
          simp only [IL, List.map_cons, List.map_nil] at z1
          generalize gt L k = x at *
          generalize gt L (k + 1) = y at *
          simp [F_changed_three, runM, b_changed_three, slotsOf, List.replicate, h1, h2, cm, h4, gb, dep, oPV, c1, c2, z1, z2, hh, -ev_gCat]
        · rw [if_neg (fun z => h5 z.2.2.2.2)]
          unfold far at h4
          rw [decide_eq_false h5] at gb
          rw [← h3] at cm
          simp [F_changed_three, runM, b_changed_three, slotsOf, List.replicate, h1, h2, cm, h4, gb, dep, oPV]
      · rw [if_neg (fun z => h4 z.2.2.2.1)]
        unfold far at h4
        rw [← h3] at cm
        simp [F_changed_three, runM, b_changed_three, slotsOf, List.replicate, h1, h2, cm, h4, dep, oPV]
    · rw [if_neg (fun z => h3 z.2.2.1)]
      simp [F_changed_three, runM, b_changed_three, slotsOf, List.replicate, h1, h2, cm, h3, dep, oPV]
  · rw [if_neg (fun z => h ⟨z.1, z.2.1⟩)]
    by_cases h1 : 0 ≤ k
    · have h2 : ¬ k < (L.length : Int) - 2 := fun z => h ⟨h1, z⟩
      simp [F_changed_three, runM, b_changed_three, slotsOf, List.replicate, h1, h2, dep, oPV]
    · simp [F_changed_three, runM, b_changed_three, slotsOf, List.replicate, h1, dep, oPV]
theorem out_ok {w : Int} {L : List Int} {k : Int} (hl : L.length ≤ 1000) : F_left_out [IL L, .int k] = .ok (dep (stp w L (.ou k)), oPV (stp w L (.ou k))) := by
  rw [stp_ou]
  by_cases h : 0 ≤ k ∧ k < (L.length : Int) - 1
  · obtain ⟨h1, h2⟩ := h
    have e1 := at_gt (L := L) h1 (by omega)
    have e2 := at_gt (L := L) (k := k + 1) (by omega) (by omega)
    by_cases h3 : gt L k = -gt L (k + 1)
    · rw [if_pos ⟨h1, h2, h3⟩]
      have c1 := cut_to (L := L) h1
      have c2 := cut_from (L := L) (k := k + 2) (by omega)
      rw [show (k + 2).toNat = k.toNat + 2 by omega] at c2
      have z2 := catI (L.take k.toNat) (L.drop (k.toNat + 2)) (by simp; omega)
      have hh := hz0 (L.take k.toNat ++ L.drop (k.toNat + 2))
      generalize L.take k.toNat ++ L.drop (k.toNat + 2) = R at *
      generalize L.take k.toNat = R2 at *
      generalize L.drop (k.toNat + 2) = R3 at *
      simp [F_left_out, runM, b_left_out, slotsOf, List.replicate, h1, h2, e1, e2, h3, dep, oPV, c1, c2, z2, hh, -ev_gCat]
    · rw [if_neg (fun z => h3 z.2.2)]
      simp [F_left_out, runM, b_left_out, slotsOf, List.replicate, h1, h2, e1, e2, h3, dep, oPV]
  · rw [if_neg (fun z => h ⟨z.1, z.2.1⟩)]
    by_cases h1 : 0 ≤ k
    · have h2 : ¬ k < (L.length : Int) - 1 := fun z => h ⟨h1, z⟩
      simp [F_left_out, runM, b_left_out, slotsOf, List.replicate, h1, h2, dep, oPV]
    · simp [F_left_out, runM, b_left_out, slotsOf, List.replicate, h1, dep, oPV]
theorem in_ok {w : Int} {L : List Int} {k i : Int} (hl : L.length ≤ 1000) : F_put_in [.int w, IL L, .int k, .int i] = .ok (dep (stp w L (.ins k i)), oPV (stp w L (.ins k i))) := by
  rw [stp_in]
  by_cases h : 0 ≤ k ∧ k ≤ (L.length : Int)
  · obtain ⟨h1, h2⟩ := h
    by_cases h3 : i = 0
    · rw [if_neg (fun z => z.2.2.1 h3)]
      simp [F_put_in, runM, b_put_in, slotsOf, List.replicate, h1, h2, h3, dep, oPV]
    · by_cases h4 : (i.natAbs : Int) < w
      · rw [if_pos ⟨h1, h2, h3, h4⟩]
        have c1 := cut_to (L := L) h1
        have c2 := cut_from (L := L) h1
        have z1 := catI (L.take k.toNat) [i, -i] (by simp; omega)
        have z2 := catI (L.take k.toNat ++ [i, -i]) (L.drop k.toNat) (by simp; omega)
        have hh := hz0 (L.take k.toNat ++ [i, -i] ++ L.drop k.toNat)
        have h4' : ¬ w ≤ (i.natAbs : Int) := by omega
        generalize L.take k.toNat ++ [i, -i] ++ L.drop k.toNat = R at *
        generalize L.take k.toNat ++ [i, -i] = R1 at *
        generalize L.take k.toNat = R2 at *
        generalize L.drop k.toNat = R3 at *
        simp only [IL, List.map_cons, List.map_nil] at z1
        simp [F_put_in, runM, b_put_in, slotsOf, List.replicate, h1, h2, h3, h4', dep, oPV, c1, c2, z1, z2, hh, -ev_gCat]
      · rw [if_neg (fun z => h4 z.2.2.2)]
        have h4' : w ≤ (i.natAbs : Int) := by omega
        simp [F_put_in, runM, b_put_in, slotsOf, List.replicate, h1, h2, h3, h4', dep, oPV]
  · rw [if_neg (fun z => h ⟨z.1, z.2.1⟩)]
    by_cases h1 : 0 ≤ k
    · have h2 : ¬ k ≤ (L.length : Int) := fun z => h ⟨h1, z⟩
      simp [F_put_in, runM, b_put_in, slotsOf, List.replicate, h1, h2, dep, oPV]
    · simp [F_put_in, runM, b_put_in, slotsOf, List.replicate, h1, dep, oPV]
/-! words compared -/
theorem q_ss : gEq (.str ("swap" : Str)) (.str ("swap" : Str)) = some (.bl true) := by kernel_rfl
theorem q_ts : gEq (.str ("three" : Str)) (.str ("swap" : Str)) = some (.bl false) := by kernel_rfl
theorem q_os : gEq (.str ("out" : Str)) (.str ("swap" : Str)) = some (.bl false) := by kernel_rfl
theorem q_is : gEq (.str ("in" : Str)) (.str ("swap" : Str)) = some (.bl false) := by kernel_rfl
theorem q_tt : gEq (.str ("three" : Str)) (.str ("three" : Str)) = some (.bl true) := by kernel_rfl
theorem q_ot : gEq (.str ("out" : Str)) (.str ("three" : Str)) = some (.bl false) := by kernel_rfl
theorem q_it : gEq (.str ("in" : Str)) (.str ("three" : Str)) = some (.bl false) := by kernel_rfl
theorem q_oo : gEq (.str ("out" : Str)) (.str ("out" : Str)) = some (.bl true) := by kernel_rfl
theorem q_io : gEq (.str ("in" : Str)) (.str ("out" : Str)) = some (.bl false) := by kernel_rfl
theorem q_ii : gEq (.str ("in" : Str)) (.str ("in" : Str)) = some (.bl true) := by kernel_rfl
theorem a2_0 (p q : PV) : atI [p, q] 0 = some p := rfl
theorem a2_1 (p q : PV) : atI [p, q] 1 = some q := rfl
theorem a3_0 (p q r : PV) : atI [p, q, r] 0 = some p := rfl
theorem a3_1 (p q r : PV) : atI [p, q, r] 1 = some q := rfl
theorem a3_2 (p q r : PV) : atI [p, q, r] 2 = some r := rfl
theorem dep_hgt (o : Option (List Int)) : hgt (oPV o) ≤ dep o := by
  cases o with
  | none => simp [oPV]
  | some B => simp [oPV, dep]
theorem stepped_ok {w : Int} {L : List Int} (s : St) (hl : L.length ≤ 1000) : F_stepped [.int w, IL L, sPV s] = .ok (dep (stp w L s), oPV (stp w L s)) := by
  have dh := dep_hgt (stp w L s)
  cases s with
  | sw k =>
    have c := swapped_ok (w := w) (k := k) hl
    simp [F_stepped, runM, b_stepped, slotsOf, List.replicate, sPV, a2_0, a2_1, q_ss, c, dh]
  | th k =>
    have c := three_ok (w := w) (k := k) hl
    simp [F_stepped, runM, b_stepped, slotsOf, List.replicate, sPV, a2_0, a2_1, q_ts, q_tt, c, dh]
  | ou k =>
    have c := out_ok (w := w) (k := k) hl
    simp [F_stepped, runM, b_stepped, slotsOf, List.replicate, sPV, a2_0, a2_1, q_os, q_ot, q_oo, c, dh]
  | ins k i =>
    have c := in_ok (w := w) (k := k) (i := i) hl
    simp [F_stepped, runM, b_stepped, slotsOf, List.replicate, sPV, a3_0, a3_1, a3_2, q_is, q_it, q_io, q_ii, c, dh]
end M_ropebook_k36_papers_of_braids

set_option Elab.async false
set_option linter.all false
set_option maxRecDepth 100000
set_option maxHeartbeats 1000000
namespace M_ropebook_k36_papers_of_braids
open M PySem L2

/-! ### the law's step -/
theorem lstepped_ok {w : Int} {L B : List Int} {s : St} (hl : L.length ≤ 1000) (h : stp w L s = some B) : F_law_stepped [IL L, sPV s] = .ok (9, IL B) := by
  cases s with
  | sw k =>
    rw [stp_sw] at h
    split at h
    case isFalse => cases h
    rename_i hc
    obtain ⟨h1, h2, h3⟩ := hc
    cases h
    have e1 := at_gt (L := L) h1 (by omega)
    have e2 := at_gt (L := L) (k := k + 1) (by omega) (by omega)
    have c1 := cut_to (L := L) h1
    have c2 := cut_from (L := L) (k := k + 2) (by omega)
    rw [show (k + 2).toNat = k.toNat + 2 by omega] at c2
    have z1 := catI (L.take k.toNat) [gt L (k + 1), gt L k] (by simp; omega)
    have z2 := catI (L.take k.toNat ++ [gt L (k + 1), gt L k]) (L.drop (k.toNat + 2)) (by simp; omega)
    have hh := hz0 (L.take k.toNat ++ [gt L (k + 1), gt L k] ++ L.drop (k.toNat + 2))
    generalize L.take k.toNat ++ [gt L (k + 1), gt L k] ++ L.drop (k.toNat + 2) = R at *
    generalize L.take k.toNat ++ [gt L (k + 1), gt L k] = R1 at *
    generalize L.take k.toNat = R2 at *
    generalize L.drop (k.toNat + 2) = R3 at *
    simp only [IL, List.map_cons, List.map_nil] at z1
    simp [F_law_stepped, runM, b_law_stepped, slotsOf, List.replicate, sPV, a2_0, a2_1, q_ss, e1, e2, c1, c2, z1, z2, hh, -ev_gCat]
  | th k =>
    rw [stp_th] at h
    split at h
    case isFalse => cases h
    rename_i hc
    obtain ⟨h1, h2, h3, _⟩ := hc
    cases h
    have e1 := at_gt (L := L) h1 (by omega)
    have e2 := at_gt (L := L) (k := k + 1) (by omega) (by omega)
    have c1 := cut_to (L := L) h1
    have c2 := cut_from (L := L) (k := k + 3) (by omega)
    rw [show (k + 3).toNat = k.toNat + 3 by omega] at c2
    have z1 := catI (L.take k.toNat) [gt L (k + 1), gt L k, gt L (k + 1)] (by simp; omega)
    have z2 := catI (L.take k.toNat ++ [gt L (k + 1), gt L k, gt L (k + 1)]) (L.drop (k.toNat + 3)) (by simp; omega)
    have hh := hz0 (L.take k.toNat ++ [gt L (k + 1), gt L k, gt L (k + 1)] ++ L.drop (k.toNat + 3))
    generalize L.take k.toNat ++ [gt L (k + 1), gt L k, gt L (k + 1)] ++ L.drop (k.toNat + 3) = R at *
    generalize L.take k.toNat ++ [gt L (k + 1), gt L k, gt L (k + 1)] = R1 at *
    generalize L.take k.toNat = R2 at *
    generalize L.drop (k.toNat + 3) = R3 at *
    simp only [IL, List.map_cons, List.map_nil] at z1
    simp [F_law_stepped, runM, b_law_stepped, slotsOf, List.replicate, sPV, a2_0, a2_1, q_ts, q_tt, e1, e2, c1, c2, z1, z2, hh, -ev_gCat]
  | ou k =>
    rw [stp_ou] at h
    split at h
    case isFalse => cases h
    rename_i hc
    obtain ⟨h1, h2, h3⟩ := hc
    cases h
    have c1 := cut_to (L := L) h1
    have c2 := cut_from (L := L) (k := k + 2) (by omega)
    rw [show (k + 2).toNat = k.toNat + 2 by omega] at c2
    have z2 := catI (L.take k.toNat) (L.drop (k.toNat + 2)) (by simp; omega)
    have hh := hz0 (L.take k.toNat ++ L.drop (k.toNat + 2))
    generalize L.take k.toNat ++ L.drop (k.toNat + 2) = R at *
    generalize L.take k.toNat = R2 at *
    generalize L.drop (k.toNat + 2) = R3 at *
    simp [F_law_stepped, runM, b_law_stepped, slotsOf, List.replicate, sPV, a2_0, a2_1, q_os, q_ot, q_oo, c1, c2, z2, hh, -ev_gCat]
  | ins k i =>
    rw [stp_in] at h
    split at h
    case isFalse => cases h
    rename_i hc
    obtain ⟨h1, h2, h3, h4⟩ := hc
    cases h
    have c1 := cut_to (L := L) h1
    have c2 := cut_from (L := L) h1
    have z1 := catI (L.take k.toNat) [i, -i] (by simp; omega)
    have z2 := catI (L.take k.toNat ++ [i, -i]) (L.drop k.toNat) (by simp; omega)
    have hh := hz0 (L.take k.toNat ++ [i, -i] ++ L.drop k.toNat)
    generalize L.take k.toNat ++ [i, -i] ++ L.drop k.toNat = R at *
    generalize L.take k.toNat ++ [i, -i] = R1 at *
    generalize L.take k.toNat = R2 at *
    generalize L.drop k.toNat = R3 at *
    simp only [IL, List.map_cons, List.map_nil] at z1
    simp [F_law_stepped, runM, b_law_stepped, slotsOf, List.replicate, sPV, a3_0, a3_1, a3_2, q_is, q_it, q_io, c1, c2, z1, z2, hh, -ev_gCat]

/-! ### comprehensions of two clauses -/
theorem comp2_ok {vs vs1 : List Nat} {t t1 : Tg} {mi mi1 : MP (List PV)} {mt mt1 : MP Bool} {me : MP PV} {env : LEnv} {f : PV → List PV} {ps : List PV} (hi : mi env = .ok ps)
    (h : ∀ p ∈ ps, ∃ e qs, setT t 0 p (wipeE env vs) = some e ∧ mt e = .ok true ∧ mi1 e = .ok qs ∧ compF t1 mt1 me (wipeE e vs1) qs = some (f p)) (hz : (ps.flatMap f).length ≤ 16777216) : mComp2 vs t mi mt vs1 t1 mi1 mt1 me env = .ok (ps.flatMap f) := by
  have key : ∀ ps : List PV, (∀ p ∈ ps, ∃ e qs, setT t 0 p (wipeE env vs) = some e ∧ mt e = .ok true ∧ mi1 e = .ok qs ∧ compF t1 mt1 me (wipeE e vs1) qs = some (f p)) → compF2 t mt mi1 vs1 t1 mt1 me (wipeE env vs) ps = some (ps.flatMap f) := by
    intro ps
    induction ps with
    | nil => intro _; rw [compF2]; rfl
    | cons p ps ih =>
      intro h
      obtain ⟨e, qs, h1, h2, h3, h4⟩ := h p List.mem_cons_self
      rw [compF2, h1]
      simp only [Option.bind_some, h2, noX, if_true, h3, h4, ih fun q hq => h q (List.mem_cons_of_mem _ hq), Option.map_some, List.flatMap_cons]
  unfold mComp2
  rw [hi]
  show ofO ((compF2 t mt mi1 vs1 t1 mt1 me (wipeE env vs) ps).bind szL) = _
  rw [key ps h]
  show ofO (szL (ps.flatMap f)) = _
  unfold szL
  rw [if_pos (show M.sizeOk (ps.flatMap f).length = true from decide_eq_true hz)]
  rfl
/-- the letters, in order -/
def pl (w : Int) : List Int := (nums (w - 1).toNat).flatMap fun n => [n, -n]
theorem hgts_of : ∀ l : List PV, (∀ p ∈ l, hgt p = 0) → hgts l = 0
  | [], _ => by simp
  | p :: l, h => by rw [ev_hCons, h p List.mem_cons_self, hgts_of l fun q hq => h q (List.mem_cons_of_mem _ hq)]; rfl
theorem pl_len (w : Int) : (pl w).length = 2 * (w - 1).toNat := by
  unfold pl
  rw [List.length_flatMap]
  have : (List.map (fun (n : Int) => [n, -n].length) (nums (w - 1).toNat)) = List.replicate (w - 1).toNat 2 := by
    rw [List.eq_replicate_iff]
    exact ⟨by rw [List.length_map, len_nums], fun b hb => by rw [List.mem_map] at hb; obtain ⟨_, _, rfl⟩ := hb; rfl⟩
  rw [this, List.sum_replicate_nat, Nat.mul_comm]
theorem letters_ok {w : Int} (hw : 0 ≤ w) (hw2 : w ≤ 1000) : F_all_letters [.int w] = .ok (9, IL (pl w)) := by
  have kr : rngOk 1 = true := rng_ok (by omega) (by omega)
  have kr2 : rngOk w = true := rng_ok (by omega) (by omega)
  have pv : (pl w).map PV.int = ((nums (w - 1).toNat).map PV.int).flatMap fun p => match p with | .int n => [.int n, .int (-n)] | _ => [] := by
    unfold pl
    rw [List.map_flatMap, List.flatMap_map]; rfl
  have c : mComp2 [1, 2] (.nm 1) (mRng2 (mCons (mC (.int 1)) (mCons (mV 0) mNil))) mYes [2] (.nm 2) (mIt2 itT (mTup (mCons (mV 1) (mCons (mUn gNeg (mV 1)) mNil)))) mYes (mV 2) [sl 0 (.int w), none, none] = .ok ((pl w).map .int) := by
    have pn := pl_len w
    rw [pv]
    refine comp2_ok (ps := (nums (w - 1).toNat).map .int) ?_ (fun p hp => ?_) (by rw [← pv, List.length_map]; omega)
    · rw [← rngs_nums]; simp [kr, kr2]
    · obtain ⟨n, _, rfl⟩ := List.mem_map.1 hp
      refine ⟨[sl 0 (.int w), sl 0 (.int n), none], [.int n, .int (-n)], by simp [wipeE], rfl, ?_, ?_⟩
      · simp [flatL]
      · simp [compF, wipeE, noX]
  refine run_rt (b := b_all_letters) (e := [sl 0 (.int w), none, none]) ?_
  show b_all_letters [sl 0 (.int w), none, none] = _
  rw [b_all_letters, ev_mRet, ev_mNew, c]
  simp
/-! ### all steps of the program -/
def ri (lo : Int) (n : Nat) : List Int := (List.range n).map fun (i : Nat) => lo + (i : Int)
theorem rngs_ri (lo : Int) (n : Nat) : rngs lo n = (ri lo n).map .int := by
  unfold rngs ri
  rw [List.map_map]; rfl
theorem ri_succ (lo : Int) (n : Nat) : ri lo (n + 1) = lo :: ri (lo + 1) n := by
  unfold ri
  rw [List.range_succ_eq_map, List.map_cons, List.map_map]
  congr 1
  · simp
  · refine List.map_congr_left fun i _ => ?_
    show lo + ((i + 1 : Nat) : Int) = lo + 1 + i
    omega
theorem mem_ri {lo x : Int} {n : Nat} : x ∈ ri lo n ↔ lo ≤ x ∧ x < lo + n := by
  unfold ri
  rw [List.mem_map]
  constructor
  · rintro ⟨i, hi, rfl⟩
    rw [List.mem_range] at hi
    omega
  · rintro ⟨h1, h2⟩
    exact ⟨(x - lo).toNat, by rw [List.mem_range]; omega, by omega⟩
theorem ri_len (lo : Int) (n : Nat) : (ri lo n).length = n := by unfold ri; simp
def pall (w : Int) (L : List Int) : List St := (ri 0 L.length).map .sw ++ (ri 0 L.length).map .th ++ (ri 0 L.length).map .ou ++ (ri 0 (L.length + 1)).flatMap fun k => (pl w).map fun i => .ins k i
theorem pall_len (w : Int) (L : List Int) : (pall w L).length = 3 * L.length + (L.length + 1) * (2 * (w - 1).toNat) := by
  unfold pall
  have : ((ri 0 (L.length + 1)).flatMap fun k => (pl w).map fun i => St.ins k i).length = (L.length + 1) * (2 * (w - 1).toNat) := by
    rw [List.length_flatMap]
    have : (List.map (fun (k : Int) => ((pl w).map fun i => St.ins k i).length) (ri 0 (L.length + 1))) = List.replicate (L.length + 1) (2 * (w - 1).toNat) := by
      rw [List.eq_replicate_iff]
      exact ⟨by rw [List.length_map, ri_len], fun b hb => by rw [List.mem_map] at hb; obtain ⟨_, _, rfl⟩ := hb; rw [List.length_map, pl_len]⟩
    rw [this, List.sum_replicate_nat]
  rw [List.length_append, List.length_append, List.length_append, List.length_map, List.length_map, List.length_map, this, ri_len]
  omega
theorem s_flat (s : St) : hgt (sPV s) = 0 := by cases s <;> simp [sPV]
theorem ss_flat (l : List St) : hgts (l.map sPV) = 0 := hgts_of _ fun p hp => by obtain ⟨s, _, rfl⟩ := List.mem_map.1 hp; exact s_flat s
theorem compF_mapI {t : Tg} {me : MP PV} {env : LEnv} {g : Int → PV} : ∀ {l : List Int}, (∀ i ∈ l, ∃ e, setT t 0 (.int i) env = some e ∧ me e = .ok (g i) ∧ hgt (g i) = 0) → compF t mYes me env (l.map .int) = some (l.map g)
  | [], _ => by rw [List.map_nil, compF]; rfl
  | i :: l, h => by
    obtain ⟨e, h1, h2, h3⟩ := h i List.mem_cons_self
    rw [List.map_cons, compF, h1]
    simp only [Option.bind_some, ev_mYes, noX, if_true, h2, h3, compF_mapI (fun q hq => h q (List.mem_cons_of_mem _ hq)), Option.map_some, List.map_cons]
theorem steps_ok {w : Int} {L : List Int} (hw : 0 ≤ w) (hw2 : w ≤ 50) (hl : L.length ≤ 50) : F_all_steps [.int w, IL L] = .ok (9, .lst ((pall w L).map sPV)) := by
  have lt := letters_ok hw (by omega)
  have kr : rngOk (L.length : Int) = true := rng_ok (by omega) (by omega)
  have kr1 : rngOk ((L.length : Int) + 1) = true := rng_ok (by omega) (by omega)
  have k0 : rngOk 0 = true := by decide
  have pn := pl_len w
  let A : List St := (ri 0 L.length).map .sw ++ (ri 0 L.length).map .th ++ (ri 0 L.length).map .ou
  let Z : List St := (ri 0 (L.length + 1)).flatMap fun k => (pl w).map fun i => .ins k i
  have c1 : mComp2 [4, 5] (.nm 4) (mIt itT (mTup (mCons (mC (.str ("swap" : PySem.Str))) (mCons (mC (.str ("three" : PySem.Str))) (mCons (mC (.str ("out" : PySem.Str))) mNil))))) mYes [5] (.nm 5) (mIt2 itR (mV 2)) mYes (mTup (mCons (mV 4) (mCons (mV 5) mNil))) [sl 0 (.int w), sl 0 (IL L), sl 9 (.rng 0 L.length), none, none, none, none] = .ok (A.map sPV) := by
    have e : A.map sPV = [PV.str ("swap" : Str), PV.str ("three" : Str), PV.str ("out" : Str)].flatMap fun p => (ri 0 L.length).map fun k => PV.tup [p, .int k] := by
      show List.map sPV ((ri 0 L.length).map .sw ++ (ri 0 L.length).map .th ++ (ri 0 L.length).map .ou) = _
      rw [List.map_append, List.map_append, List.map_map, List.map_map, List.map_map]
      simp only [List.flatMap_cons, List.flatMap_nil, List.append_nil, List.append_assoc]
      rfl
    rw [e]
    refine comp2_ok (ps := [PV.str ("swap" : Str), PV.str ("three" : Str), PV.str ("out" : Str)]) ?_ (fun p hp => ?_) ?_
    · simp
    · refine ⟨[sl 0 (.int w), sl 0 (IL L), sl 9 (.rng 0 L.length), none, sl 0 p, none, none], (ri 0 L.length).map .int, by simp [wipeE], rfl, ?_, compF_mapI fun i hi => ⟨[sl 0 (.int w), sl 0 (IL L), sl 9 (.rng 0 L.length), none, sl 0 p, sl 0 (.int i), none], by simp [wipeE], ?_, ?_⟩⟩
      · rw [← rngs_ri]
        have := hgts_rngs 0 L.length
        simp [k0, kr, flatL, this]
      · simp
      · have : hgt p = 0 := by simp at hp; rcases hp with rfl | rfl | rfl <;> simp
        simp [this]
    · rw [← e, List.length_map]
      show ((ri 0 L.length).map St.sw ++ (ri 0 L.length).map St.th ++ (ri 0 L.length).map St.ou).length ≤ _
      simp [ri_len]; omega
  have zl : Z.length = (L.length + 1) * (2 * (w - 1).toNat) := by
    have h1 := pall_len w L
    have h2 : pall w L = A ++ Z := rfl
    rw [h2, List.length_append] at h1
    have h3 : A.length = 3 * L.length := by
      show ((ri 0 L.length).map St.sw ++ (ri 0 L.length).map St.th ++ (ri 0 L.length).map St.ou).length = _
      simp [ri_len]; omega
    omega
  have zb : Z.length ≤ 5100 := by
    rw [zl]
    calc (L.length + 1) * (2 * (w - 1).toNat) ≤ 51 * 100 := Nat.mul_le_mul (by omega) (by omega)
      _ ≤ 5100 := by omega
  have c2 : ∀ o3 : Option Slot, mComp2 [5, 6] (.nm 5) (mRng1 (mCons (mBin gAdd (mFn gLen (mCons (mV 1) mNil)) (mC (.int 1))) mNil)) mYes [6] (.nm 6) (mIt2 itL (pCall 1 F_all_letters (mCons (mV 0) mNil))) mYes (mTup (mCons (mC (.str ("in" : PySem.Str))) (mCons (mV 5) (mCons (mV 6) mNil)))) [sl 0 (.int w), sl 0 (IL L), sl 9 (.rng 0 L.length), o3, none, none, none] = .ok (Z.map sPV) := by
    intro o3
    have e : Z.map sPV = ((ri 0 (L.length + 1)).map PV.int).flatMap fun p => (pl w).map fun i => PV.tup [.str ("in" : Str), p, .int i] := by
      show List.map sPV ((ri 0 (L.length + 1)).flatMap fun k => (pl w).map fun i => St.ins k i) = _
      rw [List.map_flatMap, List.flatMap_map]
      congr 1
      funext k
      rw [List.map_map]; rfl
    rw [e]
    refine comp2_ok (ps := (ri 0 (L.length + 1)).map PV.int) ?_ (fun p hp => ?_) (by rw [← e, List.length_map]; omega)
    · rw [← rngs_ri]
      simp [kr1]
    · obtain ⟨k, _, rfl⟩ := List.mem_map.1 hp
      refine ⟨[sl 0 (.int w), sl 0 (IL L), sl 9 (.rng 0 L.length), o3, none, sl 0 (.int k), none], (pl w).map .int, by simp [wipeE], rfl, ?_, compF_mapI fun i hi => ⟨[sl 0 (.int w), sl 0 (IL L), sl 9 (.rng 0 L.length), o3, none, sl 0 (.int k), sl 0 (.int i)], by simp [wipeE], ?_, by simp⟩⟩
      · simp [lt, flatL]
      · simp
  refine run_rt (b := b_all_steps) (e := [sl 0 (.int w), sl 0 (IL L), sl 9 (.rng 0 L.length), none, none, none, none]) ?_
  show b_all_steps [sl 0 (.int w), sl 0 (IL L), none, none, none, none, none] = _
  rw [b_all_steps]
  have s1 : mAsg (.nm 2) (mRngV (mCons (mFn gLen (mCons (mV 1) mNil)) mNil)) [sl 0 (.int w), sl 0 (IL L), none, none, none, none, none] = .ok (.nx [sl 0 (.int w), sl 0 (IL L), sl 9 (.rng 0 L.length), none, none, none, none]) := by simp
  rw [seq_nx s1]
  have s2 : mAsg (.nm 3) (mNew (mComp2 [4, 5] (.nm 4) (mIt itT (mTup (mCons (mC (.str ("swap" : PySem.Str))) (mCons (mC (.str ("three" : PySem.Str))) (mCons (mC (.str ("out" : PySem.Str))) mNil))))) mYes [5] (.nm 5) (mIt2 itR (mV 2)) mYes (mTup (mCons (mV 4) (mCons (mV 5) mNil))))) [sl 0 (.int w), sl 0 (IL L), sl 9 (.rng 0 L.length), none, none, none, none] = .ok (.nx [sl 0 (.int w), sl 0 (IL L), sl 9 (.rng 0 L.length), sl 9 (.lst (A.map sPV)), none, none, none]) := by
    rw [ev_mAsg, ev_mNew, c1]
    simp [ss_flat]
  rw [seq_nx s2]
  have al : A.length = 3 * L.length := by
    show ((ri 0 L.length).map St.sw ++ (ri 0 L.length).map St.th ++ (ri 0 L.length).map St.ou).length = _
    simp [ri_len]; omega
  have s3 : mExt 3 (mNew (mComp2 [5, 6] (.nm 5) (mRng1 (mCons (mBin gAdd (mFn gLen (mCons (mV 1) mNil)) (mC (.int 1))) mNil)) mYes [6] (.nm 6) (mIt2 itL (pCall 1 F_all_letters (mCons (mV 0) mNil))) mYes (mTup (mCons (mC (.str ("in" : PySem.Str))) (mCons (mV 5) (mCons (mV 6) mNil)))))) [sl 0 (.int w), sl 0 (IL L), sl 9 (.rng 0 L.length), sl 9 (.lst (A.map sPV)), none, none, none] = .ok (.nx [sl 0 (.int w), sl 0 (IL L), sl 9 (.rng 0 L.length), sl 9 (.lst ((pall w L).map sPV)), none, none, none]) := by
    rw [ev_mExt, if_pos (show isLst _ 3 = true from rfl), ev_mNew, c2]
    have z : A.length + Z.length ≤ 16777216 := by omega
    have pe : (pall w L).map sPV = A.map sPV ++ Z.map sPV := by rw [← List.map_append]; rfl
    rw [pe]
    simp [ss_flat, extS, z]
  rw [seq_nx s3]
  simp
end M_ropebook_k36_papers_of_braids

set_option Elab.async false
set_option linter.all false
set_option maxRecDepth 100000
set_option maxHeartbeats 1000000
namespace M_ropebook_k36_papers_of_braids
open M PySem L2

/-! ### all steps of the law -/
def pSw (L : List Int) (k : Int) : Bool := decide (1 < far (gt L k) (gt L (k + 1)))
def pTh (L : List Int) (k : Int) : Bool := decide (gt L (k + 2) = gt L k ∧ far (gt L k) (gt L (k + 1)) = 1 ∧ (0 < gt L k ↔ 0 < gt L (k + 1)))
def pOu (L : List Int) (k : Int) : Bool := decide (gt L k = -gt L (k + 1))
def lall (w : Int) (L : List Int) : List St := ((ri 0 ((L.length : Int) - 1).toNat).filter (pSw L)).map .sw ++ ((ri 0 ((L.length : Int) - 2).toNat).filter (pTh L)).map .th ++ ((ri 0 ((L.length : Int) - 1).toNat).filter (pOu L)).map .ou ++
  (ri 0 (L.length + 1)).flatMap fun k => (nums (w - 1).toNat).flatMap fun i => [.ins k i, .ins k (-i)]
abbrev SL (l : List St) : PV := .lst (l.map sPV)
theorem loop_cons (t : Tg) (b : MS) (p : PV) (r : List PV) (env : LEnv) : loopF t b (p :: r) env = (match setT t (itD p) p env with | none => .stuck | some e => contR (b e) (loopF t b r)) := rfl
theorem app_loop {w : Int} {L : List Int} (b : MS) (P : Int → Bool) (mk : Int → St) (N : Int) (hb : ∀ k (acc : List St) (o4 o5 : Option Slot), 0 ≤ k → k < N → acc.length ≤ 5000 → frB o4 = true → frB o5 = true → ∃ o4' o5', frB o4' = true ∧ frB o5' = true ∧
      b [sl 0 (.int w), sl 0 (IL L), sl 9 (SL acc), sl (itD (.int k)) (.int k), o4, o5, none] = .ok (.nx [sl 0 (.int w), sl 0 (IL L), sl 9 (SL (if P k = true then acc ++ [mk k] else acc)), sl (itD (.int k)) (.int k), o4', o5', none])) :
    ∀ (m : Nat) (j : Int) (acc : List St) (o3 o4 o5 : Option Slot), 0 ≤ j → j + m ≤ N → acc.length + m ≤ 5000 → frB o3 = true → frB o4 = true → frB o5 = true →
    ∃ o3' o4' o5', frB o3' = true ∧ frB o4' = true ∧ frB o5' = true ∧ loopF (.nm 3) b (rngs j m) [sl 0 (.int w), sl 0 (IL L), sl 9 (SL acc), o3, o4, o5, none] = .ok (.nx [sl 0 (.int w), sl 0 (IL L), sl 9 (SL (acc ++ ((ri j m).filter P).map mk)), o3', o4', o5', none])
  | 0, j, acc, o3, o4, o5, _, _, _, f3, f4, f5 => ⟨o3, o4, o5, f3, f4, f5, by rw [rngs_zero, loopF, show ri j 0 = [] from rfl]; simp⟩
  | m + 1, j, acc, o3, o4, o5, hj, hN, ha, f3, f4, f5 => by
    obtain ⟨o4', o5', f4', f5', e⟩ := hb j acc o4 o5 hj (by omega) (by omega) f4 f5
    have len : (if P j = true then acc ++ [mk j] else acc).length ≤ acc.length + 1 := by split <;> simp
    obtain ⟨o3'', o4'', o5'', g3, g4, g5, q⟩ := app_loop b P mk N hb m (j + 1) (if P j = true then acc ++ [mk j] else acc) (sl (itD (.int j)) (.int j)) o4' o5' (by omega) (by omega) (by omega) rfl f4' f5'
    refine ⟨o3'', o4'', o5'', g3, g4, g5, ?_⟩
    rw [rngs_succ, loop_cons]
    have s3 : setT (.nm 3) (itD (.int j)) (.int j) [sl 0 (.int w), sl 0 (IL L), sl 9 (SL acc), o3, o4, o5, none] = some [sl 0 (.int w), sl 0 (IL L), sl 9 (SL acc), sl (itD (.int j)) (.int j), o4, o5, none] := by simp [f3]
    rw [s3]
    dsimp only
    rw [e]
    show loopF (.nm 3) b (rngs (j + 1) m) _ = _
    rw [q, ri_succ, List.filter_cons]
    cases P j <;> simp
theorem in_loop {w : Int} {L : List Int} (k : Int) (o4 o5 : Option Slot) : ∀ (m : Nat) (j : Int) (acc : List St) (o6 : Option Slot), acc.length + 2 * m ≤ 9000 → frB o6 = true →
    ∃ o6', frB o6' = true ∧ loopF (.nm 6) w_law_all_steps_1 (rngs j m) [sl 0 (.int w), sl 0 (IL L), sl 9 (SL acc), sl (itD (.int k)) (.int k), o4, o5, o6] = .ok (.nx [sl 0 (.int w), sl 0 (IL L), sl 9 (SL (acc ++ (ri j m).flatMap fun i => [.ins k i, .ins k (-i)])), sl (itD (.int k)) (.int k), o4, o5, o6'])
  | 0, j, acc, o6, _, f6 => ⟨o6, f6, by rw [rngs_zero, loopF, show ri j 0 = [] from rfl]; simp⟩
  | m + 1, j, acc, o6, ha, f6 => by
    obtain ⟨o6', g6, q⟩ := in_loop (w := w) (L := L) k o4 o5 m (j + 1) (acc ++ [.ins k j, .ins k (-j)]) (sl (itD (.int j)) (.int j)) (by simp; omega) rfl
    refine ⟨o6', g6, ?_⟩
    rw [rngs_succ, loop_cons]
    have s6 : setT (.nm 6) (itD (.int j)) (.int j) [sl 0 (.int w), sl 0 (IL L), sl 9 (SL acc), sl (itD (.int k)) (.int k), o4, o5, o6] = some [sl 0 (.int w), sl 0 (IL L), sl 9 (SL acc), sl (itD (.int k)) (.int k), o4, o5, sl (itD (.int j)) (.int j)] := by simp [f6]
    rw [s6]
    dsimp only
    have z : acc.length + 2 ≤ 16777216 := by omega
    have hf := ss_flat acc
    have body : w_law_all_steps_1 [sl 0 (.int w), sl 0 (IL L), sl 9 (SL acc), sl (itD (.int k)) (.int k), o4, o5, sl (itD (.int j)) (.int j)] = .ok (.nx [sl 0 (.int w), sl 0 (IL L), sl 9 (SL (acc ++ [.ins k j, .ins k (-j)])), sl (itD (.int k)) (.int k), o4, o5, sl (itD (.int j)) (.int j)]) := by
      simp [w_law_all_steps_1, z, hf, hgts_app, sPV]
    rw [body]
    show loopF (.nm 6) w_law_all_steps_1 (rngs (j + 1) m) _ = _
    rw [q, ri_succ, List.flatMap_cons, List.append_assoc]
theorem out_loop {w : Int} {L : List Int} (hw : 1 ≤ w) (hw2 : w ≤ 50) (o4 o5 : Option Slot) : ∀ (m : Nat) (j : Int) (acc : List St) (o3 o6 : Option Slot), acc.length + 100 * m ≤ 9000 → frB o3 = true → frB o6 = true →
    ∃ o3' o6', loopF (.nm 3) w_law_all_steps_2 (rngs j m) [sl 0 (.int w), sl 0 (IL L), sl 9 (SL acc), o3, o4, o5, o6] = .ok (.nx [sl 0 (.int w), sl 0 (IL L), sl 9 (SL (acc ++ (ri j m).flatMap fun k => (nums (w - 1).toNat).flatMap fun i => [.ins k i, .ins k (-i)])), o3', o4, o5, o6'])
  | 0, j, acc, o3, o6, _, f3, f6 => ⟨o3, o6, by rw [rngs_zero, loopF, show ri j 0 = [] from rfl]; simp⟩
  | m + 1, j, acc, o3, o6, ha, f3, f6 => by
    have e : nums (w - 1).toNat = ri 1 (w - 1).toNat := rfl
    obtain ⟨o6', g6, q1⟩ := in_loop (w := w) (L := L) j o4 o5 (w - 1).toNat 1 acc o6 (by omega) f6
    have len : ((ri 1 (w - 1).toNat).flatMap fun i => [St.ins j i, St.ins j (-i)]).length = 2 * (w - 1).toNat := by
      rw [List.length_flatMap]
      have : (List.map (fun (i : Int) => [St.ins j i, St.ins j (-i)].length) (ri 1 (w - 1).toNat)) = List.replicate (w - 1).toNat 2 := by
        rw [List.eq_replicate_iff]
        exact ⟨by rw [List.length_map, ri_len], fun b hb => by rw [List.mem_map] at hb; obtain ⟨_, _, rfl⟩ := hb; rfl⟩
      rw [this, List.sum_replicate_nat, Nat.mul_comm]
    obtain ⟨o3', o6'', q⟩ := out_loop hw hw2 o4 o5 m (j + 1) (acc ++ (ri 1 (w - 1).toNat).flatMap fun i => [.ins j i, .ins j (-i)]) (sl (itD (.int j)) (.int j)) o6' (by rw [List.length_append, len]; omega) rfl g6
    refine ⟨o3', o6'', ?_⟩
    rw [rngs_succ, loop_cons]
    have s3 : setT (.nm 3) (itD (.int j)) (.int j) [sl 0 (.int w), sl 0 (IL L), sl 9 (SL acc), o3, o4, o5, o6] = some [sl 0 (.int w), sl 0 (IL L), sl 9 (SL acc), sl (itD (.int j)) (.int j), o4, o5, o6] := by simp [f3]
    rw [s3]
    dsimp only
    have kr : rngOk 1 = true := by decide
    have kr2 : rngOk w = true := rng_ok (by omega) (by omega)
    have body : w_law_all_steps_2 [sl 0 (.int w), sl 0 (IL L), sl 9 (SL acc), sl (itD (.int j)) (.int j), o4, o5, o6] = .ok (.nx [sl 0 (.int w), sl 0 (IL L), sl 9 (SL (acc ++ (ri 1 (w - 1).toNat).flatMap fun i => [.ins j i, .ins j (-i)])), sl (itD (.int j)) (.int j), o4, o5, o6']) := by
      rw [← q1]
      simp [w_law_all_steps_2, kr, kr2]
    rw [body]
    show loopF (.nm 3) w_law_all_steps_2 (rngs (j + 1) m) _ = _
    rw [q, ri_succ, List.flatMap_cons, List.append_assoc, e]
theorem lsteps_ok {w : Int} {L : List Int} (hw : 1 ≤ w) (hw2 : w ≤ 50) (hl : L.length ≤ 50) : F_law_all_steps [.int w, IL L] = .ok (9, SL (lall w L)) := by
  have gq : ∀ a b : Int, gEq (.bl (decide (0 < a))) (.bl (decide (0 < b))) = some (.bl (decide (0 < a ↔ 0 < b))) := fun a b => by
    by_cases x : 0 < a <;> by_cases y : 0 < b <;> simp only [x, y, decide_true, decide_false, iff_true, iff_false, not_true, not_false_iff] <;> kernel_rfl
  have l5 := app_loop (w := w) (L := L) w_law_all_steps_5 (pSw L) .sw ((L.length : Int) - 1) (fun k acc o4 o5 h1 h2 ha f4 f5 => by
    refine ⟨o4, o5, f4, f5, ?_⟩
    have e1 := at_gt (L := L) h1 (by omega)
    have e2 := at_gt (L := L) (k := k + 1) (by omega) (by omega)
    have z : acc.length < 16777216 := by omega
    unfold pSw far
    by_cases h : (1 : Int) < (((((gt L k).natAbs : Nat) : Int) - (((gt L (k + 1)).natAbs : Nat) : Int)).natAbs : Int)
    · simp [w_law_all_steps_5, e1, e2, h, z, sPV]
    · simp [w_law_all_steps_5, e1, e2, h, z])
  have l3 := app_loop (w := w) (L := L) w_law_all_steps_3 (pOu L) .ou ((L.length : Int) - 1) (fun k acc o4 o5 h1 h2 ha f4 f5 => by
    refine ⟨o4, o5, f4, f5, ?_⟩
    have e1 := at_gt (L := L) h1 (by omega)
    have e2 := at_gt (L := L) (k := k + 1) (by omega) (by omega)
    have z : acc.length < 16777216 := by omega
    unfold pOu
    by_cases h : gt L k = -gt L (k + 1)
    · simp [w_law_all_steps_3, e1, e2, h, z, sPV]
    · simp [w_law_all_steps_3, e1, e2, h, z])
  have l4 := app_loop (w := w) (L := L) w_law_all_steps_4 (pTh L) .th ((L.length : Int) - 2) (fun k acc o4 o5 h1 h2 ha f4 f5 => by
    refine ⟨sl 8 (.int (gt L k)), sl 8 (.int (gt L (k + 1))), rfl, rfl, ?_⟩
    have e1 := at_gt (L := L) h1 (by omega)
    have e2 := at_gt (L := L) (k := k + 1) (by omega) (by omega)
    have e3 := at_gt (L := L) (k := k + 2) (by omega) (by omega)
    have z : acc.length < 16777216 := by omega
    have g := gq (gt L k) (gt L (k + 1))
    unfold pTh far
    generalize gt L k = x at *
    generalize gt L (k + 1) = y at *
    generalize gt L (k + 2) = v at *
    by_cases h : v = x
    · by_cases h4 : ((((x.natAbs : Nat) : Int) - ((y.natAbs : Nat) : Int)).natAbs : Int) = 1
      · by_cases h5 : (0 < x ↔ 0 < y)
        · rw [decide_eq_true h5] at g
          have c : (v = x ∧ ((((x.natAbs : Nat) : Int) - ((y.natAbs : Nat) : Int)).natAbs : Int) = 1 ∧ (0 < x ↔ 0 < y)) := ⟨h, h4, h5⟩
          rw [if_pos (decide_eq_true c)]
          simp [w_law_all_steps_4, e1, e2, e3, f4, f5, h, h4, g, z, sPV]
        · rw [decide_eq_false h5] at g
          rw [if_neg (by rw [decide_eq_true_eq]; exact fun c => h5 c.2.2)]
          simp [w_law_all_steps_4, e1, e2, e3, f4, f5, h, h4, g, z]
      · rw [if_neg (by rw [decide_eq_true_eq]; exact fun c => h4 c.2.1)]
        simp [w_law_all_steps_4, e1, e2, e3, f4, f5, h, h4, z]
    · rw [if_neg (by rw [decide_eq_true_eq]; exact fun c => h c.1)]
      simp [w_law_all_steps_4, e1, e2, e3, f4, f5, h, z])
  have k1 : rngOk ((L.length : Int) - 1) = true := decide_eq_true (by omega)
  have k2 : rngOk ((L.length : Int) - 2) = true := decide_eq_true (by omega)
  have k3 : rngOk ((L.length : Int) + 1) = true := rng_ok (by omega) (by omega)
  have fl : ∀ (P : Int → Bool) (mk : Int → St) (m : Nat), (((ri 0 m).filter P).map mk).length ≤ m := fun P mk m => by
    rw [List.length_map]; exact Nat.le_trans (List.length_filter_le _ _) (by rw [ri_len]; exact Nat.le_refl _)
  let A1 := ((ri 0 ((L.length : Int) - 1).toNat).filter (pSw L)).map St.sw
  let A2 := A1 ++ ((ri 0 ((L.length : Int) - 2).toNat).filter (pTh L)).map St.th
  let A3 := A2 ++ ((ri 0 ((L.length : Int) - 1).toNat).filter (pOu L)).map St.ou
  have n1 : A1.length ≤ 50 := Nat.le_trans (fl _ _ _) (by omega)
  have n2 : A2.length ≤ 100 := by rw [List.length_append]; have := fl (pTh L) St.th ((L.length : Int) - 2).toNat; omega
  have n3 : A3.length ≤ 150 := by rw [List.length_append]; have := fl (pOu L) St.ou ((L.length : Int) - 1).toNat; omega
  obtain ⟨x3, x4, x5, f3, f4, f5, q1⟩ : ∃ o3' o4' o5', frB o3' = true ∧ frB o4' = true ∧ frB o5' = true ∧ loopF (.nm 3) w_law_all_steps_5 (rngs 0 ((L.length : Int) - 1).toNat) [sl 0 (.int w), sl 0 (IL L), sl 9 (SL []), none, none, none, none] = .ok (.nx [sl 0 (.int w), sl 0 (IL L), sl 9 (SL A1), o3', o4', o5', none]) := by
    by_cases h : (0 : Int) ≤ (L.length : Int) - 1
    · exact l5 _ 0 [] none none none (by omega) (by omega) (by simp; omega) rfl rfl rfl
    · have e : ((L.length : Int) - 1).toNat = 0 := by omega
      have ea : A1 = [] := by show ((ri 0 ((L.length : Int) - 1).toNat).filter (pSw L)).map St.sw = []; rw [e]; rfl
      rw [e, ea, rngs_zero]
      exact ⟨none, none, none, rfl, rfl, rfl, rfl⟩
  obtain ⟨y3, y4, y5, g3, g4, g5, q2⟩ : ∃ o3' o4' o5', frB o3' = true ∧ frB o4' = true ∧ frB o5' = true ∧ loopF (.nm 3) w_law_all_steps_4 (rngs 0 ((L.length : Int) - 2).toNat) [sl 0 (.int w), sl 0 (IL L), sl 9 (SL A1), x3, x4, x5, none] = .ok (.nx [sl 0 (.int w), sl 0 (IL L), sl 9 (SL A2), o3', o4', o5', none]) := by
    by_cases h : (0 : Int) ≤ (L.length : Int) - 2
    · exact l4 _ 0 A1 x3 x4 x5 (by omega) (by omega) (by omega) f3 f4 f5
    · have e : ((L.length : Int) - 2).toNat = 0 := by omega
      have ea : A2 = A1 := by show A1 ++ ((ri 0 ((L.length : Int) - 2).toNat).filter (pTh L)).map St.th = A1; rw [e, show ri 0 0 = [] from rfl]; simp
      rw [e, ea, rngs_zero]
      exact ⟨x3, x4, x5, f3, f4, f5, rfl⟩
  obtain ⟨u3, u4, u5, h3, h4, h5, q3⟩ : ∃ o3' o4' o5', frB o3' = true ∧ frB o4' = true ∧ frB o5' = true ∧ loopF (.nm 3) w_law_all_steps_3 (rngs 0 ((L.length : Int) - 1).toNat) [sl 0 (.int w), sl 0 (IL L), sl 9 (SL A2), y3, y4, y5, none] = .ok (.nx [sl 0 (.int w), sl 0 (IL L), sl 9 (SL A3), o3', o4', o5', none]) := by
    by_cases h : (0 : Int) ≤ (L.length : Int) - 1
    · exact l3 _ 0 A2 y3 y4 y5 (by omega) (by omega) (by omega) g3 g4 g5
    · have e : ((L.length : Int) - 1).toNat = 0 := by omega
      have ea : A3 = A2 := by show A2 ++ ((ri 0 ((L.length : Int) - 1).toNat).filter (pOu L)).map St.ou = A2; rw [e, show ri 0 0 = [] from rfl]; simp
      rw [e, ea, rngs_zero]
      exact ⟨y3, y4, y5, g3, g4, g5, rfl⟩
  obtain ⟨v3, v6, q4⟩ := out_loop (w := w) (L := L) hw hw2 u4 u5 (L.length + 1) 0 A3 u3 none (by omega) h3 rfl
  refine run_rt (b := b_law_all_steps) (e := [sl 0 (.int w), sl 0 (IL L), none, v3, u4, u5, v6]) ?_
  show b_law_all_steps [sl 0 (.int w), sl 0 (IL L), none, none, none, none, none] = _
  rw [b_law_all_steps]
  have s1 : mAsg (.nm 2) (mNew (mLst mNil)) [sl 0 (.int w), sl 0 (IL L), none, none, none, none, none] = .ok (.nx [sl 0 (.int w), sl 0 (IL L), sl 9 (SL []), none, none, none, none]) := by simp
  rw [seq_nx s1]
  have s2 : mForR1 (.nm 3) (mCons (mBin gSub (mFn gLen (mCons (mV 1) mNil)) (mC (.int 1))) mNil) w_law_all_steps_5 [sl 0 (.int w), sl 0 (IL L), sl 9 (SL []), none, none, none, none] = .ok (.nx [sl 0 (.int w), sl 0 (IL L), sl 9 (SL A1), x3, x4, x5, none]) := by
    rw [← q1]; simp [k1]
  rw [seq_nx s2]
  have s3 : mForR1 (.nm 3) (mCons (mBin gSub (mFn gLen (mCons (mV 1) mNil)) (mC (.int 2))) mNil) w_law_all_steps_4 [sl 0 (.int w), sl 0 (IL L), sl 9 (SL A1), x3, x4, x5, none] = .ok (.nx [sl 0 (.int w), sl 0 (IL L), sl 9 (SL A2), y3, y4, y5, none]) := by
    rw [← q2]; simp [k2]
  rw [seq_nx s3]
  have s4 : mForR1 (.nm 3) (mCons (mBin gSub (mFn gLen (mCons (mV 1) mNil)) (mC (.int 1))) mNil) w_law_all_steps_3 [sl 0 (.int w), sl 0 (IL L), sl 9 (SL A2), y3, y4, y5, none] = .ok (.nx [sl 0 (.int w), sl 0 (IL L), sl 9 (SL A3), u3, u4, u5, none]) := by
    rw [← q3]; simp [k1]
  rw [seq_nx s4]
  have s5 : mForR1 (.nm 3) (mCons (mBin gAdd (mFn gLen (mCons (mV 1) mNil)) (mC (.int 1))) mNil) w_law_all_steps_2 [sl 0 (.int w), sl 0 (IL L), sl 9 (SL A3), u3, u4, u5, none] = .ok (.nx [sl 0 (.int w), sl 0 (IL L), sl 9 (SL (lall w L)), v3, u4, u5, v6]) := by
    have e : lall w L = A3 ++ (ri 0 (L.length + 1)).flatMap fun k => (nums (w - 1).toNat).flatMap fun i => [.ins k i, .ins k (-i)] := rfl
    have ej : ((L.length : Int) + 1).toNat = L.length + 1 := by omega
    rw [e, ← q4]
    simp [k3, ej]
  rw [seq_nx s5]
  simp
end M_ropebook_k36_papers_of_braids

set_option Elab.async false
set_option linter.all false
set_option maxRecDepth 100000
set_option maxHeartbeats 1000000
namespace M_ropebook_k36_papers_of_braids
open M PySem L2

/-! ### the law's steps are those of the program that can be done -/
theorem ri_add (lo : Int) (a b : Nat) : ri lo (a + b) = ri lo a ++ ri (lo + a) b := by
  unfold ri
  rw [List.range_add, List.map_append, List.map_map]
  congr 1
  refine List.map_congr_left fun i _ => ?_
  show lo + ((a + i : Nat) : Int) = lo + a + i
  omega
theorem fsplit {n m : Nat} (h : m ≤ n) {P Q : Int → Bool} (e : ∀ k ∈ ri 0 n, P k = (decide (k < (m : Int)) && Q k)) : (ri 0 n).filter P = (ri 0 m).filter Q := by
  obtain ⟨d, rfl⟩ : ∃ d, n = m + d := ⟨n - m, by omega⟩
  rw [ri_add] at e ⊢
  rw [List.filter_append]
  have z : (ri (0 + (m : Int)) d).filter P = [] := by
    rw [List.filter_eq_nil_iff]
    intro k hk
    rw [e k (List.mem_append_right _ hk)]
    have := (mem_ri.1 hk).1
    have : ¬ k < (m : Int) := by omega
    simp [this]
  rw [z, List.append_nil]
  refine List.filter_congr fun k hk => ?_
  rw [e k (List.mem_append_left _ hk)]
  have := (mem_ri.1 hk).2
  have : k < (m : Int) := by omega
  simp [this]
theorem pl_mem {w i : Int} (h : i ∈ pl w) : i ≠ 0 ∧ (i.natAbs : Int) < w := by
  unfold pl at h
  rw [List.mem_flatMap] at h
  obtain ⟨n, hn, hi⟩ := h
  rw [mem_nums] at hn
  simp only [List.mem_cons, List.not_mem_nil, or_false] at hi
  rcases hi with rfl | rfl <;> omega
theorem lall_filter (w : Int) (L : List Int) : lall w L = (pall w L).filter fun s => (stp w L s).isSome := by
  unfold lall pall
  rw [List.filter_append, List.filter_append, List.filter_append, List.filter_map, List.filter_map, List.filter_map]
  congr 1
  · congr 1
    · congr 1
      · congr 1
        refine (fsplit (by omega) fun k hk => ?_).symm
        have hk := mem_ri.1 hk
        show (stp w L (.sw k)).isSome = _
        rw [stp_sw]
        unfold pSw
        by_cases h : k < ((((L.length : Int) - 1).toNat : Nat) : Int)
        · by_cases h2 : far (gt L k) (gt L (k + 1)) < 2
          · rw [if_neg (fun z => z.2.2 h2)]
            have : ¬ 1 < far (gt L k) (gt L (k + 1)) := by omega
            rw [decide_eq_true h, decide_eq_false this]; rfl
          · rw [if_pos ⟨by omega, by omega, h2⟩]
            have : 1 < far (gt L k) (gt L (k + 1)) := by omega
            rw [decide_eq_true h, decide_eq_true this]; rfl
        · rw [if_neg (fun z => h (by omega)), decide_eq_false h]
          rfl
      · congr 1
        refine (fsplit (by omega) fun k hk => ?_).symm
        have hk := mem_ri.1 hk
        show (stp w L (.th k)).isSome = _
        rw [stp_th]
        unfold pTh
        by_cases h : k < ((((L.length : Int) - 2).toNat : Nat) : Int)
        · by_cases h2 : gt L (k + 2) = gt L k ∧ far (gt L k) (gt L (k + 1)) = 1 ∧ (0 < gt L k ↔ 0 < gt L (k + 1))
          · rw [if_pos ⟨by omega, by omega, h2.1.symm, h2.2⟩, decide_eq_true h2, decide_eq_true h]
            rfl
          · rw [if_neg (fun z => h2 ⟨z.2.2.1.symm, z.2.2.2⟩), decide_eq_false h2, decide_eq_true h]
            rfl
        · rw [if_neg (fun z => h (by omega)), decide_eq_false h]
          rfl
    · congr 1
      refine (fsplit (by omega) fun k hk => ?_).symm
      have hk := mem_ri.1 hk
      show (stp w L (.ou k)).isSome = _
      rw [stp_ou]
      unfold pOu
      by_cases h : k < ((((L.length : Int) - 1).toNat : Nat) : Int)
      · by_cases h2 : gt L k = -gt L (k + 1)
        · rw [if_pos ⟨by omega, by omega, h2⟩, decide_eq_true h, decide_eq_true h2]
          rfl
        · rw [if_neg (fun z => h2 z.2.2), decide_eq_true h, decide_eq_false h2]
          rfl
      · rw [if_neg (fun z => h (by omega)), decide_eq_false h]
        rfl
  · rw [List.filter_eq_self.2]
    · congr 1
      funext k
      unfold pl
      rw [List.map_flatMap]; rfl
    · intro s hs
      rw [List.mem_flatMap] at hs
      obtain ⟨k, hk, hs⟩ := hs
      rw [List.mem_map] at hs
      obtain ⟨i, hi, rfl⟩ := hs
      have hk := mem_ri.1 hk
      obtain ⟨i1, i2⟩ := pl_mem hi
      rw [stp_in, if_pos ⟨by omega, by omega, i1, i2⟩]; rfl
/-- what can be come to in one step, with the step -/
def cand (w : Int) (L : List Int) : List (St × List Int) := (pall w L).filterMap fun s => (stp w L s).map fun B => (s, B)
theorem cand_mem {w : Int} {L : List Int} {s : St} {B : List Int} (h : (s, B) ∈ cand w L) : stp w L s = some B := by
  unfold cand at h
  rw [List.mem_filterMap] at h
  obtain ⟨s', _, e⟩ := h
  rw [Option.map_eq_some_iff] at e
  obtain ⟨B', e1, e2⟩ := e
  cases e2
  exact e1
theorem cand_fst (w : Int) (L : List Int) : lall w L = (cand w L).map Prod.fst := by
  rw [lall_filter]
  unfold cand
  generalize pall w L = l
  induction l with
  | nil => rfl
  | cons s l ih =>
    rw [List.filter_cons, List.filterMap_cons]
    cases h : stp w L s with
    | none => simp [ih]
    | some B => simp [ih]
theorem cand_len (w : Int) (L : List Int) : (cand w L).length ≤ (pall w L).length := List.length_filterMap_le _ _

/-! ### braids -/
def Vb (w : Int) (L : List Int) : Prop := ∀ x ∈ L, x ≠ 0 ∧ (x.natAbs : Int) < w
theorem gt_mem {L : List Int} {k : Int} (h : 0 ≤ k) (h2 : k < L.length) : gt L k ∈ L := by
  unfold gt
  have : k.toNat < L.length := by omega
  rw [List.getD_eq_getElem?_getD, List.getElem?_eq_getElem this]
  exact List.getElem_mem this
theorem stp_ok {w : Int} {L B : List Int} {s : St} (hv : Vb w L) (h : stp w L s = some B) : Vb w B ∧ B.length ≤ L.length + 2 ∧ B.length % 2 = L.length % 2 := by
  have tk : ∀ n, ∀ x ∈ L.take n, x ≠ 0 ∧ (x.natAbs : Int) < w := fun n x hx => hv x (List.mem_of_mem_take hx)
  have dr : ∀ n, ∀ x ∈ L.drop n, x ≠ 0 ∧ (x.natAbs : Int) < w := fun n x hx => hv x (List.mem_of_mem_drop hx)
  cases s with
  | sw k =>
    rw [stp_sw] at h
    split at h
    case isFalse => cases h
    rename_i hc
    obtain ⟨h1, h2, h3⟩ := hc
    cases h
    have m1 := hv _ (gt_mem (L := L) h1 (by omega))
    have m2 := hv _ (gt_mem (L := L) (k := k + 1) (by omega) (by omega))
    refine ⟨fun x hx => ?_, by simp; omega, by simp; omega⟩
    simp only [List.mem_append, List.mem_cons, List.not_mem_nil, or_false] at hx
    rcases hx with (hx | rfl | rfl) | hx
    · exact tk _ _ hx
    · exact m2
    · exact m1
    · exact dr _ _ hx
  | th k =>
    rw [stp_th] at h
    split at h
    case isFalse => cases h
    rename_i hc
    obtain ⟨h1, h2, h3, _⟩ := hc
    cases h
    have m1 := hv _ (gt_mem (L := L) h1 (by omega))
    have m2 := hv _ (gt_mem (L := L) (k := k + 1) (by omega) (by omega))
    refine ⟨fun x hx => ?_, by simp; omega, by simp; omega⟩
    simp only [List.mem_append, List.mem_cons, List.not_mem_nil, or_false] at hx
    rcases hx with (hx | rfl | rfl | rfl) | hx
    · exact tk _ _ hx
    · exact m2
    · exact m1
    · exact m2
    · exact dr _ _ hx
  | ou k =>
    rw [stp_ou] at h
    split at h
    case isFalse => cases h
    rename_i hc
    obtain ⟨h1, h2, h3⟩ := hc
    cases h
    refine ⟨fun x hx => ?_, by simp; omega, by simp; omega⟩
    rw [List.mem_append] at hx
    rcases hx with hx | hx
    · exact tk _ _ hx
    · exact dr _ _ hx
  | ins k i =>
    rw [stp_in] at h
    split at h
    case isFalse => cases h
    rename_i hc
    obtain ⟨h1, h2, h3, h4⟩ := hc
    cases h
    refine ⟨fun x hx => ?_, by simp; omega, by simp; omega⟩
    simp only [List.mem_append, List.mem_cons, List.not_mem_nil, or_false] at hx
    rcases hx with (hx | rfl | rfl) | hx
    · exact tk _ _ hx
    · exact ⟨h3, h4⟩
    · exact ⟨by omega, by omega⟩
    · exact dr _ _ hx
theorem braid_loop {w : Int} (o1 : Option Slot) : ∀ (L : List Int) (o2 : Option Slot), Vb w L → frB o2 = true → ∃ o2', loopF (.nm 2) w_check_braid_1 (L.map .int) [sl 0 (.int w), o1, o2] = .ok (.nx [sl 0 (.int w), o1, o2'])
  | [], o2, _, f2 => ⟨o2, by rw [List.map_nil, loopF]⟩
  | x :: L, o2, hv, f2 => by
    obtain ⟨o2', q⟩ := braid_loop (w := w) o1 L (sl (itD (.int x)) (.int x)) (fun y hy => hv y (List.mem_cons_of_mem _ hy)) rfl
    refine ⟨o2', ?_⟩
    rw [List.map_cons, loop_cons]
    have s2 : setT (.nm 2) (itD (.int x)) (.int x) [sl 0 (.int w), o1, o2] = some [sl 0 (.int w), o1, sl (itD (.int x)) (.int x)] := by simp [f2]
    rw [s2]
    dsimp only
    obtain ⟨h1, h2⟩ := hv x List.mem_cons_self
    have h2' : ¬ w ≤ (x.natAbs : Int) := by omega
    have body : w_check_braid_1 [sl 0 (.int w), o1, sl (itD (.int x)) (.int x)] = .ok (.nx [sl 0 (.int w), o1, sl (itD (.int x)) (.int x)]) := by
      simp [w_check_braid_1, h1, h2']
    rw [body]
    exact q
theorem braid_ok {w : Int} {L : List Int} (hw : 1 ≤ w) (hw2 : w ≤ 12) (hl : L.length ≤ 200) (hv : Vb w L) : F_check_braid [.int w, IL L] = .ok (8, .non) := by
  obtain ⟨o2', q⟩ := braid_loop (w := w) (sl 0 (IL L)) L none hv rfl
  have h1 : ¬ w < 1 := by omega
  have h2 : ¬ 12 < w := by omega
  have st : F_check_strands [.int w] = .ok (8, .non) := by
    simp [F_check_strands, runM, b_check_strands, slotsOf, List.replicate, F_check_between, b_check_between, g_MOST_STRANDS, h1, h2]
  have h3 : ¬ (200 : Int) < L.length := by omega
  unfold F_check_braid runM
  have key : b_check_braid [sl 0 (.int w), sl 0 (IL L), none] = .ok (.nx [sl 0 (.int w), sl 0 (IL L), o2']) := by
    rw [b_check_braid]
    have s1 : mDrop (mCall 1 F_check_strands (mCons (mV 0) mNil)) [sl 0 (.int w), sl 0 (IL L), none] = .ok (.nx [sl 0 (.int w), sl 0 (IL L), none]) := by simp [st]
    rw [seq_nx s1]
    have s2 : mForL (.nm 2) (mFrz 1) w_check_braid_1 [sl 0 (.int w), sl 0 (IL L), none] = .ok (.nx [sl 0 (.int w), sl 0 (IL L), o2']) := by
      rw [← q]; simp
    rw [seq_nx s2]
    simp [g_MOST_LETTERS, h3]
  show (match b_check_braid [sl 0 (.int w), sl 0 (IL L), none] with | .ok (.rt d p _) => Rs.ok (d, p) | .ok (.nx _) => .ok (8, .non) | .exc (x, _) => .exc x | _ => .stuck) = _
  rw [key]
/-! one step -/
def badStep : Xn := ⟨"BadStep", [("number", .int 0), ("label", .str "BadStep")]⟩
theorem step_some {w : Int} {L B : List Int} {p : PV} (hw : 1 ≤ w) (hw2 : w ≤ 12) (hl : L.length ≤ 200) (hv : Vb w L) (h : F_stepped [.int w, IL L, p] = .ok (9, IL B)) : F_step_braid [.int w, IL L, p] = .ok (9, IL B) := by
  have c := braid_ok hw hw2 hl hv
  simp [F_step_braid, runM, b_step_braid, slotsOf, List.replicate, c, h]
theorem step_none {w : Int} {L : List Int} {p : PV} (hw : 1 ≤ w) (hw2 : w ≤ 12) (hl : L.length ≤ 200) (hv : Vb w L) (h : F_stepped [.int w, IL L, p] = .ok (8, .non)) : F_step_braid [.int w, IL L, p] = .exc badStep := by
  have c := braid_ok hw hw2 hl hv
  simp [F_step_braid, runM, b_step_braid, slotsOf, List.replicate, c, h, mRaise, fps, fvP, badStep]
theorem told_some {w : Int} {L B : List Int} {p : PV} (hw : 1 ≤ w) (hw2 : w ≤ 12) (hl : L.length ≤ 200) (hv : Vb w L) (h : F_stepped [.int w, IL L, p] = .ok (9, IL B)) : ∃ d, F_law_told [.int 0, .int w, IL L, p, .int 0] = .ok (d, .tup [.str ("value" : Str), IL B]) := by
  have c := step_some hw hw2 hl hv h
  exact ⟨8, by simp [F_law_told, runM, b_law_told, slotsOf, List.replicate, c]⟩
theorem told_none {w : Int} {L : List Int} {p : PV} (hw : 1 ≤ w) (hw2 : w ≤ 12) (hl : L.length ≤ 200) (hv : Vb w L) (h : F_stepped [.int w, IL L, p] = .ok (8, .non)) : F_law_told [.int 0, .int w, IL L, p, .int 0] = .ok (8, .tup [.str ("step" : Str), .int 0]) := by
  have c := step_none hw hw2 hl hv h
  simp [F_law_told, runM, b_law_told, slotsOf, List.replicate, c, badStep, handle, m_BadStep, mRetX, mExf, z_BadStep, noXS]
theorem knot_ok {w : Int} {L : List Int} : F_stepped [.int w, IL L, .tup [.str ("knot" : Str), .int 0]] = .ok (8, .non) := by
  have q1 : gEq (.str ("knot" : Str)) (.str ("swap" : Str)) = some (.bl false) := by kernel_rfl
  have q2 : gEq (.str ("knot" : Str)) (.str ("three" : Str)) = some (.bl false) := by kernel_rfl
  have q3 : gEq (.str ("knot" : Str)) (.str ("out" : Str)) = some (.bl false) := by kernel_rfl
  have q4 : gEq (.str ("knot" : Str)) (.str ("in" : Str)) = some (.bl false) := by kernel_rfl
  simp [F_stepped, runM, b_stepped, slotsOf, List.replicate, a2_0, q1, q2, q3, q4]
/-! ### a row of steps -/
def runS (w : Int) : List Int → List St → Option (List Int)
  | L, [] => some L
  | L, s :: r => (stp w L s).bind fun B => runS w B r
theorem check_loop {w : Int} (o1 o2 : Option Slot) (t0 : Option Slot) : ∀ (r : List St) (L : List Int) (d : Nat) (o5 : Option Slot), Vb w L → L.length + 2 * r.length ≤ 1000 → frB o5 = true →
    (runS w L r = none ∧ ∃ e, loopF (.nm 5) w_check_braid_paper_1 (r.map sPV) [sl 0 (.int w), o1, o2, t0, sl d (IL L), o5] = .ok (.rt 8 (.bl false) e)) ∨
    ∃ B d' o5', runS w L r = some B ∧ loopF (.nm 5) w_check_braid_paper_1 (r.map sPV) [sl 0 (.int w), o1, o2, t0, sl d (IL L), o5] = .ok (.nx [sl 0 (.int w), o1, o2, t0, sl d' (IL B), o5'])
  | [], L, d, o5, _, _, f5 => .inr ⟨L, d, o5, rfl, by rw [List.map_nil, loopF]⟩
  | s :: r, L, d, o5, hv, hl, f5 => by
    rw [List.map_cons, loop_cons]
    have iz : itD (sPV s) = 8 := by unfold itD; rw [if_pos (s_flat s)]
    have s5 : setT (.nm 5) (itD (sPV s)) (sPV s) [sl 0 (.int w), o1, o2, t0, sl d (IL L), o5] = some [sl 0 (.int w), o1, o2, t0, sl d (IL L), sl 8 (sPV s)] := by simp [f5, iz]
    rw [s5]
    dsimp only
    have st := stepped_ok (w := w) (L := L) s (by simp at hl; omega)
    have dh := dep_hgt (stp w L s)
    unfold runS
    cases h : stp w L s with
    | none =>
      rw [h] at st
      left
      refine ⟨rfl, [sl 0 (.int w), o1, o2, t0, sl 8 .non, sl 8 (sPV s)], ?_⟩
      have body : w_check_braid_paper_1 [sl 0 (.int w), o1, o2, t0, sl d (IL L), sl 8 (sPV s)] = .ok (.rt 8 (.bl false) [sl 0 (.int w), o1, o2, t0, sl 8 .non, sl 8 (sPV s)]) := by
        simp only [oPV, dep] at st
        simp [w_check_braid_paper_1, st]
      rw [body]; rfl
    | some B =>
      rw [h] at st
      obtain ⟨v, l, _⟩ := stp_ok hv h
      have body : w_check_braid_paper_1 [sl 0 (.int w), o1, o2, t0, sl d (IL L), sl 8 (sPV s)] = .ok (.nx [sl 0 (.int w), o1, o2, t0, sl 9 (IL B), sl 8 (sPV s)]) := by
        simp only [oPV, dep] at st
        simp [w_check_braid_paper_1, st]
      rw [body]
      rcases check_loop (w := w) o1 o2 t0 r B 9 (sl 8 (sPV s)) v (by simp at hl; omega) rfl with ⟨e1, e2⟩ | ⟨B', d', o5', e1, e2⟩
      · exact .inl ⟨e1, e2⟩
      · exact .inr ⟨B', d', o5', e1, e2⟩
theorem eq_ints (a b : List Int) : gEq (IL a) (IL b) = some (.bl (decide (a = b))) := by
  have sh : ∀ l : List Int, SeqAt.shaped (.list (l.map .int)) = true := fun l => by
    unfold SeqAt.shaped
    have h : PyData.depth (.list (l.map .int)) = 1 := by simp [PyData.depth, dep_ints]
    rw [h]
    simp [PyData.canLay0, lay_ints]
  have ev : ∀ a b : List Int, PyData.eqvAll (a.map .int) (b.map .int) = decide (a = b) := by
    intro a
    induction a with
    | nil => intro b; cases b <;> simp [PyData.eqvAll]
    | cons x a ih =>
      intro b
      cases b with
      | nil => simp [PyData.eqvAll]
      | cons y b =>
        rw [List.map_cons, List.map_cons, PyData.eqvAll, ih]
        rw [Bool.eq_iff_iff]
        simp [PyData.eqv]
  have p1 : py (IL a) = some (.list (a.map .int)) := by rw [py, pys_ints]; rfl
  have p2 : py (IL b) = some (.list (b.map .int)) := by rw [py, pys_ints]; rfl
  unfold gEq gPy
  rw [p1, p2]
  simp only [sh, Bool.and_self, if_true]
  rw [PyData.eqv, ev]
theorem paper_check {w : Int} {L G : List Int} {r : List St} (hw : 1 ≤ w) (hw2 : w ≤ 12) (hl : L.length ≤ 50) (hv : Vb w L) (hg : G.length ≤ 200) (hvg : Vb w G) (hr : r.length ≤ 50) : F_check_braid_paper [.int w, IL L, IL G, SL r] = .ok (8, .bl (decide (runS w L r = some G))) := by
  have c1 := braid_ok hw hw2 (by omega) hv
  have c2 := braid_ok hw hw2 hg hvg
  have z3 : hgt (SL r) ≠ 0 := by simp
  have m3 : mMove 3 [sl 0 (.int w), sl 0 (IL L), sl 0 (IL G), sl 0 (SL r), sl 9 (IL L), none] = .ok ((0, SL r), [sl 0 (.int w), sl 0 (IL L), sl 0 (IL G), none, sl 9 (IL L), none]) := by simp
  have s12 : b_check_braid_paper [sl 0 (.int w), sl 0 (IL L), sl 0 (IL G), sl 0 (SL r), none, none] = seqR (loopF (.nm 5) w_check_braid_paper_1 (r.map sPV) [sl 0 (.int w), sl 0 (IL L), sl 0 (IL G), none, sl 9 (IL L), none]) (mRet (mFlat (mBin gEq (mV 4) (mOfF (mFnF gList (mCons (mV 2) mNil)))))) := by
    rw [b_check_braid_paper]
    have s1 : mDrop (mCall 2 F_check_braid (mCons (mV 0) (mCons (mV 1) mNil))) [sl 0 (.int w), sl 0 (IL L), sl 0 (IL G), sl 0 (SL r), none, none] = .ok (.nx [sl 0 (.int w), sl 0 (IL L), sl 0 (IL G), sl 0 (SL r), none, none]) := by simp [c1]
    rw [seq_nx s1]
    have s2 : mDrop (mCall 2 F_check_braid (mCons (mV 0) (mCons (mV 2) mNil))) [sl 0 (.int w), sl 0 (IL L), sl 0 (IL G), sl 0 (SL r), none, none] = .ok (.nx [sl 0 (.int w), sl 0 (IL L), sl 0 (IL G), sl 0 (SL r), none, none]) := by simp [c2]
    rw [seq_nx s2]
    have s3 : mAsg (.nm 4) (mNew (mFnF gList (mCons (mV 1) mNil))) [sl 0 (.int w), sl 0 (IL L), sl 0 (IL G), sl 0 (SL r), none, none] = .ok (.nx [sl 0 (.int w), sl 0 (IL L), sl 0 (IL G), sl 0 (SL r), sl 9 (IL L), none]) := by simp
    rw [seq_nx s3, ev_seq, ev_mForL, m3]
    rfl
  rcases check_loop (w := w) (sl 0 (IL L)) (sl 0 (IL G)) none r L 9 none hv (by omega) rfl with ⟨e1, e, e2⟩ | ⟨B, d', o5', e1, e2⟩
  · rw [e2] at s12
    rw [e1]
    exact run_rt (b := b_check_braid_paper) (e := e) s12
  · rw [e2] at s12
    rw [e1]
    refine run_rt (b := b_check_braid_paper) (e := [sl 0 (.int w), sl 0 (IL L), sl 0 (IL G), none, sl d' (IL B), o5']) (s12.trans ?_)
    have ge := eq_ints B G
    have e3 : decide (some B = some G) = decide (B = G) := by rw [decide_eq_decide]; simp
    rw [e3]
    simp [ge]
end M_ropebook_k36_papers_of_braids

set_option Elab.async false
set_option linter.all false
set_option maxRecDepth 100000
set_option maxHeartbeats 1000000
namespace M_ropebook_k36_papers_of_braids
open M PySem L2

/-! ### the table of what was seen -/
abbrev Tab := List (List Int × List St)
abbrev TI' (M : List Int) : PV := .tup (M.map .int)
def kvs (tab : Tab) : List (PV × PV) := tab.map fun e => (TI' e.1, SL e.2)
def tlook (tab : Tab) (M : List Int) : Option (List St) := (tab.find? fun e => decide (e.1 = M)).map (·.2)
theorem keq_ints : ∀ a b : List Int, keqs (a.map .int) (b.map .int) = decide (a = b)
  | [], [] => by simp [keqs]
  | [], _ :: _ => by simp [keqs]
  | _ :: _, [] => by simp [keqs]
  | x :: a, y :: b => by
    rw [List.map_cons, List.map_cons, keqs, keq_ints a b, keq1]
    rw [Bool.eq_iff_iff]; simp
theorem keq_tab (a b : List Int) : keq (TI' a) (TI' b) = decide (a = b) := keq_ints a b
theorem look_tab (M : List Int) : ∀ tab : Tab, look (kvs tab) (TI' M) = (tlook tab M).map fun p => SL p
  | [] => rfl
  | (a, p) :: tab => by
    have ih := look_tab M tab
    unfold look tlook kvs at ih ⊢
    rw [List.map_cons, List.find?_cons, List.find?_cons, keq_tab]
    cases decide (a = M) with
    | true => rfl
    | false => exact ih
theorem isKey_tab : ∀ M : List Int, isKey true (TI' M) = true := fun M => by
  show (keysK (M.map .int)).isSome = true
  induction M with
  | nil => rfl
  | cons x M ih =>
    obtain ⟨ks, hk⟩ := Option.isSome_iff_exists.1 ih
    rw [List.map_cons, keysK, hk]; rfl
theorem any_tab (M : List Int) : ∀ tab : Tab, ((kvs tab).any fun kv => keq kv.1 (TI' M)) = (tlook tab M).isSome
  | [] => rfl
  | (a, p) :: tab => by
    have ih := any_tab M tab
    unfold kvs tlook at ih ⊢
    rw [List.map_cons, List.any_cons, List.find?_cons, keq_tab]
    cases h : decide (a = M) with
    | true => rfl
    | false => rw [Bool.false_or]; exact ih
theorem put_tab {tab : Tab} {M : List Int} (p : List St) (h : tlook tab M = none) : dput (kvs tab) (TI' M) (SL p) = kvs (tab ++ [(M, p)]) := by
  unfold dput
  rw [any_tab, h]
  simp [kvs]
theorem tlook_app {tab t2 : Tab} {M : List Int} {p : List St} (h : tlook tab M = some p) : tlook (tab ++ t2) M = some p := by
  unfold tlook at h ⊢
  rw [Option.map_eq_some_iff] at h
  obtain ⟨e, h1, h2⟩ := h
  rw [List.find?_append, h1]
  simpa using h2
theorem tlook_none {tab : Tab} {M : List Int} : tlook tab M = none ↔ M ∉ tab.map (·.1) := by
  unfold tlook
  rw [Option.map_eq_none_iff, List.find?_eq_none]
  constructor
  · intro h hm
    obtain ⟨e, he, rfl⟩ := List.mem_map.1 hm
    exact h e he (by simp)
  · intro h e he hd
    exact h (List.mem_map.2 ⟨e, he, of_decide_eq_true hd⟩)
theorem eq_tups (a b : List Int) : gEq (TI' a) (TI' b) = some (.bl (decide (a = b))) := by
  have sh : ∀ l : List Int, SeqAt.shaped (.tuple (l.map .int)) = true := fun l => by
    unfold SeqAt.shaped
    have h : PyData.depth (.tuple (l.map .int)) = 1 := by simp [PyData.depth, dep_ints]
    rw [h]
    simp [PyData.canLay0, lay_ints]
  have ev : ∀ a b : List Int, PyData.eqvAll (a.map .int) (b.map .int) = decide (a = b) := by
    intro a
    induction a with
    | nil => intro b; cases b <;> simp [PyData.eqvAll]
    | cons x a ih =>
      intro b
      cases b with
      | nil => simp [PyData.eqvAll]
      | cons y b =>
        rw [List.map_cons, List.map_cons, PyData.eqvAll, ih]
        rw [Bool.eq_iff_iff]
        simp [PyData.eqv]
  have p1 : py (TI' a) = some (.tuple (a.map .int)) := by rw [py, pys_ints]; rfl
  have p2 : py (TI' b) = some (.tuple (b.map .int)) := by rw [py, pys_ints]; rfl
  unfold gEq gPy
  rw [p1, p2]
  simp only [sh, Bool.and_self, if_true]
  rw [PyData.eqv, ev]
/-! ### the search, plainly -/
abbrev Res := Sum (List St) (Tab × List (List Int))
def scan (w : Int) (goal M : List Int) (p : List St) : List St → Tab → List (List Int) → Res
  | [], tab, later => .inr (tab, later)
  | s :: r, tab, later => match stp w M s with
    | none => scan w goal M p r tab later
    | some B => if (tlook tab B).isSome = true then scan w goal M p r tab later else if B = goal then .inl (p ++ [s]) else scan w goal M p r (tab ++ [(B, p ++ [s])]) (later ++ [B])
abbrev LL' (l : List (List Int)) : PV := .lst (l.map IL)
section
variable {w : Int} {goal : List Int}
@[simp] theorem ev_mDPut (i : Nat) (mk : MP PV) (me : ME (Nat × PV)) (env : LEnv) : mDPut i mk me env = (me env).bind fun z => (match mk z.2 with | .ok k => ofNx (dputS z.2 i z.1.1 k z.1.2) | _ => .stuck) := rfl
theorem scan_loop (o1 o2 o3 o6 o7 : Option Slot) (M : List Int) (p : List St) (hM : M.length ≤ 20) (hp : p.length ≤ 10) : ∀ (l : List St) (tab : Tab) (later : List (List Int)) (o10 o11 : Option Slot), tlook tab M = some p → tab.length + l.length < 20000 → later.length + l.length ≤ 20000 → frB o10 = true → frB o11 = true →
    (∃ q e, scan w goal M p l tab later = .inl q ∧ loopF (.nm 10) w_braid_paper_1 (l.map sPV) [sl 0 (.int w), o1, o2, o3, sl 8 (TI' goal), sl 9 (.dct true (kvs tab)), o6, o7, sl 9 (LL' later), sl 0 (IL M), o10, o11] = .ok (.rt 9 (SL q) e)) ∨
    ∃ tab' later' o10' o11', frB o10' = true ∧ frB o11' = true ∧ scan w goal M p l tab later = .inr (tab', later') ∧ loopF (.nm 10) w_braid_paper_1 (l.map sPV) [sl 0 (.int w), o1, o2, o3, sl 8 (TI' goal), sl 9 (.dct true (kvs tab)), o6, o7, sl 9 (LL' later), sl 0 (IL M), o10, o11] = .ok (.nx [sl 0 (.int w), o1, o2, o3, sl 8 (TI' goal), sl 9 (.dct true (kvs tab')), o6, o7, sl 9 (LL' later'), sl 0 (IL M), o10', o11'])
  | [], tab, later, o10, o11, ht, hs, hl, f10, f11 => .inr ⟨tab, later, o10, o11, f10, f11, rfl, by rw [List.map_nil, loopF]⟩
  | s :: r, tab, later, o10, o11, ht, hs, hl, f10, f11 => by
    rw [List.map_cons, loop_cons]
    have iz : itD (sPV s) = 8 := by unfold itD; rw [if_pos (s_flat s)]
    have s10 : setT (.nm 10) (itD (sPV s)) (sPV s) [sl 0 (.int w), o1, o2, o3, sl 8 (TI' goal), sl 9 (.dct true (kvs tab)), o6, o7, sl 9 (LL' later), sl 0 (IL M), o10, o11] = some [sl 0 (.int w), o1, o2, o3, sl 8 (TI' goal), sl 9 (.dct true (kvs tab)), o6, o7, sl 9 (LL' later), sl 0 (IL M), sl 8 (sPV s), o11] := by simp [f10, iz]
    rw [s10]
    dsimp only
    have st := stepped_ok (w := w) (L := M) s (by omega)
    simp only [List.length_cons] at hs hl
    unfold scan
    cases h : stp w M s with
    | none =>
      rw [h] at st
      simp only [oPV, dep] at st
      have body : w_braid_paper_1 [sl 0 (.int w), o1, o2, o3, sl 8 (TI' goal), sl 9 (.dct true (kvs tab)), o6, o7, sl 9 (LL' later), sl 0 (IL M), sl 8 (sPV s), o11] = .ok (.nx [sl 0 (.int w), o1, o2, o3, sl 8 (TI' goal), sl 9 (.dct true (kvs tab)), o6, o7, sl 9 (LL' later), sl 0 (IL M), sl 8 (sPV s), sl 8 .non]) := by
        simp [w_braid_paper_1, st, f11]
      rw [body]
      exact scan_loop o1 o2 o3 o6 o7 M p hM hp r tab later (sl 8 (sPV s)) (sl 8 .non) ht (by omega) (by omega) rfl rfl
    | some B =>
      rw [h] at st
      simp only [oPV, dep] at st
      dsimp only
      have s11 : mAsg (.nm 11) (mCallE 3 F_stepped (mCons (mV 0) (mCons (mV 9) (mCons (mV 10) mNil)))) [sl 0 (.int w), o1, o2, o3, sl 8 (TI' goal), sl 9 (.dct true (kvs tab)), o6, o7, sl 9 (LL' later), sl 0 (IL M), sl 8 (sPV s), o11] = .ok (.nx [sl 0 (.int w), o1, o2, o3, sl 8 (TI' goal), sl 9 (.dct true (kvs tab)), o6, o7, sl 9 (LL' later), sl 0 (IL M), sl 8 (sPV s), sl 9 (IL B)]) := by
        simp [st, f11]
      have lk := look_tab B tab
      have lkM := look_tab M tab
      rw [ht] at lkM
      have ik := isKey_tab B
      have ikM := isKey_tab M
      have tst : mAnd (mTst (mBin gNotN (mV 11) (mC .non))) (mTst (mBin (gDIn true) (mFn gTupOf (mCons (mV 11) mNil)) (mV 5))) [sl 0 (.int w), o1, o2, o3, sl 8 (TI' goal), sl 9 (.dct true (kvs tab)), o6, o7, sl 9 (LL' later), sl 0 (IL M), sl 8 (sPV s), sl 9 (IL B)] = .ok (!(tlook tab B).isSome) := by
        have : (look (kvs tab) (TI' B)).isSome = (tlook tab B).isSome := by rw [lk, Option.isSome_map]
        rw [← this]
        simp only [ev_mAnd, ev_mTst, ev_mBin, ev_mV, ev_mC, ev_mFn, ev_mCons, ev_mNil, ev_bind, ev_gNotN, ev_ofO, ev_isNonL, ev_gTupOfL, ev_gDIn, List.getElem?_cons_succ, List.getElem?_cons_zero, Bool.not_false, if_true]
        rw [if_pos ik]; rfl
      cases ht2 : tlook tab B with
      | some z =>
        rw [ht2] at tst
        have body : w_braid_paper_1 [sl 0 (.int w), o1, o2, o3, sl 8 (TI' goal), sl 9 (.dct true (kvs tab)), o6, o7, sl 9 (LL' later), sl 0 (IL M), sl 8 (sPV s), o11] = .ok (.nx [sl 0 (.int w), o1, o2, o3, sl 8 (TI' goal), sl 9 (.dct true (kvs tab)), o6, o7, sl 9 (LL' later), sl 0 (IL M), sl 8 (sPV s), sl 9 (IL B)]) := by
          rw [w_braid_paper_1, seq_nx s11, ev_mIfS, tst, ev_liftT]
          rfl
        rw [body]
        simp only [Option.isSome_some, if_true]
        exact scan_loop o1 o2 o3 o6 o7 M p hM hp r tab later (sl 8 (sPV s)) (sl 9 (IL B)) ht (by omega) (by omega) rfl rfl
      | none =>
        rw [ht2] at tst
        have eg := eq_tups B goal
        have cat : mNew (mBinF gCat (mBin gDGet (mV 5) (mFn gTupOf (mCons (mV 9) mNil))) (mOfF (mLst (mCons (mV 10) mNil)))) [sl 0 (.int w), o1, o2, o3, sl 8 (TI' goal), sl 9 (.dct true (kvs tab)), o6, o7, sl 9 (LL' later), sl 0 (IL M), sl 8 (sPV s), sl 9 (IL B)] = .ok ((9, SL (p ++ [s])), [sl 0 (.int w), o1, o2, o3, sl 8 (TI' goal), sl 9 (.dct true (kvs tab)), o6, o7, sl 9 (LL' later), sl 0 (IL M), sl 8 (sPV s), sl 9 (IL B)]) := by
          have g : gDGet (.dct true (kvs tab)) (TI' M) = some (SL p) := by
            rw [ev_gDGet, if_pos ikM, lkM]; rfl
          have z : p.length + 1 ≤ 16777216 := by omega
          have hf := ss_flat p
          have hs := s_flat s
          generalize gDGet = GD at *
          simp [g, z, hgts_app, hf, hs]
        have rest : ∀ k : MS, mIfS (mAnd (mTst (mBin gNotN (mV 11) (mC .non))) (mTst (mBin (gDIn true) (mFn gTupOf (mCons (mV 11) mNil)) (mV 5)))) k mSkip [sl 0 (.int w), o1, o2, o3, sl 8 (TI' goal), sl 9 (.dct true (kvs tab)), o6, o7, sl 9 (LL' later), sl 0 (IL M), sl 8 (sPV s), sl 9 (IL B)] = k [sl 0 (.int w), o1, o2, o3, sl 8 (TI' goal), sl 9 (.dct true (kvs tab)), o6, o7, sl 9 (LL' later), sl 0 (IL M), sl 8 (sPV s), sl 9 (IL B)] := fun k => by
          rw [ev_mIfS, tst, ev_liftT]; rfl
        have tst2 : mTst (mBin gEq (mFn gTupOf (mCons (mV 11) mNil)) (mV 4)) [sl 0 (.int w), o1, o2, o3, sl 8 (TI' goal), sl 9 (.dct true (kvs tab)), o6, o7, sl 9 (LL' later), sl 0 (IL M), sl 8 (sPV s), sl 9 (IL B)] = .ok (decide (B = goal)) := by
          generalize gEq = GE at *
          simp [eg]
        simp only [Option.isSome_none, Bool.false_eq_true, if_false]
        by_cases hb : B = goal
        · rw [if_pos hb]
          left
          refine ⟨_, [sl 0 (.int w), o1, o2, o3, sl 8 (TI' goal), sl 9 (.dct true (kvs tab)), o6, o7, sl 9 (LL' later), sl 0 (IL M), sl 8 (sPV s), sl 9 (IL B)], rfl, ?_⟩
          have body : w_braid_paper_1 [sl 0 (.int w), o1, o2, o3, sl 8 (TI' goal), sl 9 (.dct true (kvs tab)), o6, o7, sl 9 (LL' later), sl 0 (IL M), sl 8 (sPV s), o11] = .ok (.rt 9 (SL (p ++ [s])) [sl 0 (.int w), o1, o2, o3, sl 8 (TI' goal), sl 9 (.dct true (kvs tab)), o6, o7, sl 9 (LL' later), sl 0 (IL M), sl 8 (sPV s), sl 9 (IL B)]) := by
            rw [w_braid_paper_1, seq_nx s11, rest]
            refine seq_rt ?_
            rw [ev_mIfS, tst2, ev_liftT, decide_eq_true hb, if_pos rfl, ev_mRet, cat]
            rfl
          rw [body]; rfl
        · rw [if_neg hb]
          have nl : ¬ ((kvs tab).length : Int) = 20000 := by
            have : (kvs tab).length = tab.length := by unfold kvs; rw [List.length_map]
            omega
          have kl : (kvs tab).length < 16777216 := by
            have : (kvs tab).length = tab.length := by unfold kvs; rw [List.length_map]
            omega
          have an := any_tab B tab
          rw [ht2] at an
          have pt := put_tab (p ++ [s]) ht2
          have body : w_braid_paper_1 [sl 0 (.int w), o1, o2, o3, sl 8 (TI' goal), sl 9 (.dct true (kvs tab)), o6, o7, sl 9 (LL' later), sl 0 (IL M), sl 8 (sPV s), o11] = .ok (.nx [sl 0 (.int w), o1, o2, o3, sl 8 (TI' goal), sl 9 (.dct true (kvs (tab ++ [(B, p ++ [s])]))), o6, o7, sl 9 (LL' (later ++ [B])), sl 0 (IL M), sl 8 (sPV s), none]) := by
            rw [w_braid_paper_1, seq_nx s11, rest]
            have a1 : mIfS (mTst (mBin gEq (mFn gTupOf (mCons (mV 11) mNil)) (mV 4))) (mRet (mNew (mBinF gCat (mBin gDGet (mV 5) (mFn gTupOf (mCons (mV 9) mNil))) (mOfF (mLst (mCons (mV 10) mNil)))))) mSkip [sl 0 (.int w), o1, o2, o3, sl 8 (TI' goal), sl 9 (.dct true (kvs tab)), o6, o7, sl 9 (LL' later), sl 0 (IL M), sl 8 (sPV s), sl 9 (IL B)] = .ok (.nx [sl 0 (.int w), o1, o2, o3, sl 8 (TI' goal), sl 9 (.dct true (kvs tab)), o6, o7, sl 9 (LL' later), sl 0 (IL M), sl 8 (sPV s), sl 9 (IL B)]) := by
              rw [ev_mIfS, tst2, ev_liftT, decide_eq_false hb]; rfl
            rw [seq_nx a1]
            have a2 : mIfS (mTst (mBin gEqI (mFn gLenDT (mCons (mV 5) mNil)) (mC g_MOST_LISTS))) (mRaise ("TooLarge" : PySem.Str) 0 [(("label" : PySem.Str), .c ("TooLarge" : PySem.Str))] mNil) mSkip [sl 0 (.int w), o1, o2, o3, sl 8 (TI' goal), sl 9 (.dct true (kvs tab)), o6, o7, sl 9 (LL' later), sl 0 (IL M), sl 8 (sPV s), sl 9 (IL B)] = .ok (.nx [sl 0 (.int w), o1, o2, o3, sl 8 (TI' goal), sl 9 (.dct true (kvs tab)), o6, o7, sl 9 (LL' later), sl 0 (IL M), sl 8 (sPV s), sl 9 (IL B)]) := by
              simp [g_MOST_LISTS, nl]
            rw [seq_nx a2]
            have a3 : mDPut 5 (mFn gTupOf (mCons (mV 11) mNil)) (mNew (mBinF gCat (mBin gDGet (mV 5) (mFn gTupOf (mCons (mV 9) mNil))) (mOfF (mLst (mCons (mV 10) mNil))))) [sl 0 (.int w), o1, o2, o3, sl 8 (TI' goal), sl 9 (.dct true (kvs tab)), o6, o7, sl 9 (LL' later), sl 0 (IL M), sl 8 (sPV s), sl 9 (IL B)] = .ok (.nx [sl 0 (.int w), o1, o2, o3, sl 8 (TI' goal), sl 9 (.dct true (kvs (tab ++ [(B, p ++ [s])]))), o6, o7, sl 9 (LL' later), sl 0 (IL M), sl 8 (sPV s), sl 9 (IL B)]) := by
              rw [ev_mDPut, cat]
              have kb : mFn gTupOf (mCons (mV 11) mNil) [sl 0 (.int w), o1, o2, o3, sl 8 (TI' goal), sl 9 (.dct true (kvs tab)), o6, o7, sl 9 (LL' later), sl 0 (IL M), sl 8 (sPV s), sl 9 (IL B)] = .ok (TI' B) := by simp
              simp only [ev_bind, kb]
              have c : isKey true (TI' B) = true ∧ (kvs tab).length < 16777216 ∧ (hgt (SL (p ++ [s])) = 0 ∨ ((kvs tab).any fun kv => keq kv.1 (TI' B)) = false) := ⟨ik, kl, .inr an⟩
              show ofNx (if isKey true (TI' B) = true ∧ (kvs tab).length < 16777216 ∧ (hgt (SL (p ++ [s])) = 0 ∨ ((kvs tab).any fun kv => keq kv.1 (TI' B)) = false) then some ([sl 0 (.int w), o1, o2, o3, sl 8 (TI' goal), sl 9 (.dct true (kvs tab)), o6, o7, sl 9 (LL' later), sl 0 (IL M), sl 8 (sPV s), sl 9 (IL B)].set 5 (some ⟨min 8 9 + 1, false, .dct true (dput (kvs tab) (TI' B) (SL (p ++ [s])))⟩)) else none) = _
              rw [if_pos c, pt]; rfl
            rw [seq_nx a3]
            have ll : later.length < 16777216 := by omega
            simp [ll]
          rw [body]
          exact scan_loop o1 o2 o3 o6 o7 M p hM hp r (tab ++ [(B, p ++ [s])]) (later ++ [B]) (sl 8 (sPV s)) none (tlook_app ht) (by simp; omega) (by simp; omega) rfl rfl
end
end M_ropebook_k36_papers_of_braids

set_option Elab.async false
set_option linter.all false
set_option maxRecDepth 100000
set_option maxHeartbeats 1000000
namespace M_ropebook_k36_papers_of_braids
open M PySem L2

theorem scan_grow {w : Int} {goal M : List Int} {p : List St} : ∀ {l : List St} {tab tab' : Tab} {later later' : List (List Int)}, scan w goal M p l tab later = .inr (tab', later') → ∃ t2 l2, tab' = tab ++ t2 ∧ later' = later ++ l2 ∧ t2.length ≤ l.length ∧ l2.length ≤ l.length ∧ (∀ B ∈ l2, ∃ s, stp w M s = some B ∧ tlook tab' B = some (p ++ [s]))
  | [], tab, tab', later, later', h => by
    unfold scan at h; cases h
    exact ⟨[], [], by simp, by simp, by simp, by simp, fun B hB => absurd hB (by simp)⟩
  | s :: r, tab, tab', later, later', h => by
    unfold scan at h
    cases hs : stp w M s with
    | none =>
      rw [hs] at h
      obtain ⟨t2, l2, a, b, c, d, e⟩ := scan_grow h
      exact ⟨t2, l2, a, b, by simp; omega, by simp; omega, e⟩
    | some B =>
      rw [hs] at h
      dsimp only at h
      split at h
      · obtain ⟨t2, l2, a, b, c, d, e⟩ := scan_grow h
        exact ⟨t2, l2, a, b, by simp; omega, by simp; omega, e⟩
      · rename_i hn
        split at h
        · cases h
        · obtain ⟨t2, l2, a, b, c, d, e⟩ := scan_grow h
          refine ⟨(B, p ++ [s]) :: t2, B :: l2, by rw [a]; simp, by rw [b]; simp, by simp; omega, by simp; omega, fun B' hB' => ?_⟩
          rcases List.mem_cons.1 hB' with rfl | hB'
          · refine ⟨s, hs, ?_⟩
            rw [a]
            refine tlook_app ?_
            have hn' : tlook tab B' = none := by
              cases q : tlook tab B' with
              | none => rfl
              | some z => rw [q] at hn; exact absurd rfl hn
            unfold tlook at hn' ⊢
            rw [Option.map_eq_none_iff] at hn'
            rw [List.find?_append, hn']
            simp
          · exact e B' hB'
def layer (w : Int) (goal : List Int) : List (List Int) → Tab → List (List Int) → Res
  | [], tab, later => .inr (tab, later)
  | M :: hs, tab, later => match scan w goal M ((tlook tab M).getD []) (pall w M) tab later with
    | .inl q => .inl q
    | .inr (t, l) => layer w goal hs t l
theorem pall_bound {w : Int} {M : List Int} (hw : 1 ≤ w) (hw2 : w ≤ 4) (hM : M.length ≤ 20) : (pall w M).length ≤ 200 := by
  rw [pall_len]
  have : (M.length + 1) * (2 * (w - 1).toNat) ≤ 21 * 6 := Nat.mul_le_mul (by omega) (by omega)
  omega
theorem layer_loop {w : Int} {goal : List Int} (hw : 1 ≤ w) (hw2 : w ≤ 4) (o1 o2 o3 o6 o7 : Option Slot) : ∀ (here : List (List Int)) (tab : Tab) (later : List (List Int)) (o9 o10 o11 : Option Slot), (∀ M ∈ here, M.length ≤ 20 ∧ ∃ p, tlook tab M = some p ∧ p.length ≤ 10) → tab.length + here.length * 200 < 20000 → later.length + here.length * 200 ≤ 20000 → frB o9 = true → frB o10 = true → frB o11 = true →
    (∃ q e, layer w goal here tab later = .inl q ∧ loopF (.nm 9) w_braid_paper_2 (here.map IL) [sl 0 (.int w), o1, o2, o3, sl 8 (TI' goal), sl 9 (.dct true (kvs tab)), o6, o7, sl 9 (LL' later), o9, o10, o11] = .ok (.rt 9 (SL q) e)) ∨
    ∃ tab' later' o9' o10' o11', frB o9' = true ∧ frB o10' = true ∧ frB o11' = true ∧ layer w goal here tab later = .inr (tab', later') ∧ loopF (.nm 9) w_braid_paper_2 (here.map IL) [sl 0 (.int w), o1, o2, o3, sl 8 (TI' goal), sl 9 (.dct true (kvs tab)), o6, o7, sl 9 (LL' later), o9, o10, o11] = .ok (.nx [sl 0 (.int w), o1, o2, o3, sl 8 (TI' goal), sl 9 (.dct true (kvs tab')), o6, o7, sl 9 (LL' later'), o9', o10', o11'])
  | [], tab, later, o9, o10, o11, _, _, _, f9, f10, f11 => .inr ⟨tab, later, o9, o10, o11, f9, f10, f11, rfl, by rw [List.map_nil, loopF]⟩
  | M :: hs, tab, later, o9, o10, o11, hh, ht, hl, f9, f10, f11 => by
    obtain ⟨hM, p, hp, pl⟩ := hh M List.mem_cons_self
    have pb := pall_bound hw hw2 hM
    simp only [List.length_cons] at ht hl
    rw [List.map_cons, loop_cons]
    have iz : itD (IL M) = 0 := by unfold itD; rw [if_neg (by simp)]
    have s9 : setT (.nm 9) (itD (IL M)) (IL M) [sl 0 (.int w), o1, o2, o3, sl 8 (TI' goal), sl 9 (.dct true (kvs tab)), o6, o7, sl 9 (LL' later), o9, o10, o11] = some [sl 0 (.int w), o1, o2, o3, sl 8 (TI' goal), sl 9 (.dct true (kvs tab)), o6, o7, sl 9 (LL' later), sl 0 (IL M), o10, o11] := by rw [iz]; simp [f9]
    rw [s9]
    dsimp only
    have sa := steps_ok (w := w) (L := M) (by omega) (by omega) (by omega)
    have sf := ss_flat (pall w M)
    have call : w_braid_paper_2 [sl 0 (.int w), o1, o2, o3, sl 8 (TI' goal), sl 9 (.dct true (kvs tab)), o6, o7, sl 9 (LL' later), sl 0 (IL M), o10, o11] = loopF (.nm 10) w_braid_paper_1 ((pall w M).map sPV) [sl 0 (.int w), o1, o2, o3, sl 8 (TI' goal), sl 9 (.dct true (kvs tab)), o6, o7, sl 9 (LL' later), sl 0 (IL M), o10, o11] := by
      rw [w_braid_paper_2]
      generalize w_braid_paper_1 = W1
      simp [sa, sf]
    rw [call]
    unfold layer
    rw [hp]
    simp only [Option.getD_some]
    rcases scan_loop (w := w) (goal := goal) o1 o2 o3 o6 o7 M p hM pl (pall w M) tab later o10 o11 hp (by omega) (by omega) f10 f11 with ⟨q, e, h1, h2⟩ | ⟨tab', later', o10', o11', g10, g11, h1, h2⟩
    · rw [h1, h2]
      exact .inl ⟨q, e, rfl, rfl⟩
    · rw [h1, h2]
      obtain ⟨t2, l2, rfl, rfl, c1, c2, _⟩ := scan_grow h1
      exact layer_loop hw hw2 o1 o2 o3 o6 o7 hs (tab ++ t2) (later ++ l2) (sl 0 (IL M)) o10' o11' (fun M' hM' => by
        obtain ⟨a, p', b, c⟩ := hh M' (List.mem_cons_of_mem _ hM')
        exact ⟨a, p', tlook_app b, c⟩) (by simp; omega) (by simp; omega) rfl g10 g11
/-! one turn of the search -/
theorem layer_grow {w : Int} {goal : List Int} : ∀ {here : List (List Int)} {tab tab' : Tab} {later later' : List (List Int)}, layer w goal here tab later = .inr (tab', later') → (∀ M ∈ here, (pall w M).length ≤ 200) → (∃ t2, tab' = tab ++ t2 ∧ t2.length ≤ here.length * 200) ∧ ∃ l2, later' = later ++ l2 ∧ l2.length ≤ here.length * 200
  | [], tab, tab', later, later', h, _ => by
    unfold layer at h; cases h
    exact ⟨⟨[], by simp, by simp⟩, [], by simp, by simp⟩
  | M :: hs, tab, tab', later, later', h, hp => by
    unfold layer at h
    split at h
    · cases h
    · rename_i t l hsc
      obtain ⟨t2, l2, rfl, rfl, c1, c2, _⟩ := scan_grow hsc
      have pb := hp M List.mem_cons_self
      obtain ⟨⟨t3, rfl, c3⟩, l3, rfl, c4⟩ := layer_grow h fun M' h' => hp M' (List.mem_cons_of_mem _ h')
      exact ⟨⟨t2 ++ t3, by simp, by simp; omega⟩, l2 ++ l3, by simp, by simp; omega⟩
theorem turn_ok {w : Int} {goal : List Int} (hw : 1 ≤ w) (hw2 : w ≤ 4) (o1 o2 o3 o7 : Option Slot) (d6 : Nat) (here : List (List Int)) (tab : Tab) (o8 o9 o10 o11 : Option Slot) (hg : tlook tab goal = none) (hh : ∀ M ∈ here, M.length ≤ 20 ∧ ∃ p, tlook tab M = some p ∧ p.length ≤ 10) (ht : tab.length + here.length * 200 < 20000) (hl : here.length * 200 ≤ 20000) (f8 : frB o8 = true) (f9 : frB o9 = true) (f10 : frB o10 = true) (f11 : frB o11 = true) :
    (∃ q e, layer w goal here tab [] = .inl q ∧ w_braid_paper_3 [sl 0 (.int w), o1, o2, o3, sl 8 (TI' goal), sl 9 (.dct true (kvs tab)), sl d6 (LL' here), o7, o8, o9, o10, o11] = .ok (.rt 9 (SL q) e)) ∨
    ∃ tab' later' o9' o10' o11', frB o9' = true ∧ frB o10' = true ∧ frB o11' = true ∧ layer w goal here tab [] = .inr (tab', later') ∧ w_braid_paper_3 [sl 0 (.int w), o1, o2, o3, sl 8 (TI' goal), sl 9 (.dct true (kvs tab)), sl d6 (LL' here), o7, o8, o9, o10, o11] = .ok (.nx [sl 0 (.int w), o1, o2, o3, sl 8 (TI' goal), sl 9 (.dct true (kvs tab')), sl 9 (LL' later'), o7, none, o9', o10', o11']) := by
  have lk := look_tab goal tab
  rw [hg] at lk
  have ik := isKey_tab goal
  have s1 : mIfS (mTst (mBin (gDIn false) (mV 4) (mV 5))) (mRet (mDTake 5 (mV 4))) mSkip [sl 0 (.int w), o1, o2, o3, sl 8 (TI' goal), sl 9 (.dct true (kvs tab)), sl d6 (LL' here), o7, o8, o9, o10, o11] = .ok (.nx [sl 0 (.int w), o1, o2, o3, sl 8 (TI' goal), sl 9 (.dct true (kvs tab)), sl d6 (LL' here), o7, o8, o9, o10, o11]) := by
    have t : mTst (mBin (gDIn false) (mV 4) (mV 5)) [sl 0 (.int w), o1, o2, o3, sl 8 (TI' goal), sl 9 (.dct true (kvs tab)), sl d6 (LL' here), o7, o8, o9, o10, o11] = .ok false := by
      simp only [ev_mTst, ev_mBin, ev_mV, List.getElem?_cons_succ, List.getElem?_cons_zero, ev_bind, ev_gDIn]
      rw [if_pos ik, lk]; rfl
    rw [ev_mIfS, t, ev_liftT]; rfl
  have s2 : mAsg (.nm 8) (mNew (mLst mNil)) [sl 0 (.int w), o1, o2, o3, sl 8 (TI' goal), sl 9 (.dct true (kvs tab)), sl d6 (LL' here), o7, o8, o9, o10, o11] = .ok (.nx [sl 0 (.int w), o1, o2, o3, sl 8 (TI' goal), sl 9 (.dct true (kvs tab)), sl d6 (LL' here), o7, sl 9 (LL' []), o9, o10, o11]) := by simp [f8]
  have s3 : mForL (.nm 9) (mMove 6) w_braid_paper_2 [sl 0 (.int w), o1, o2, o3, sl 8 (TI' goal), sl 9 (.dct true (kvs tab)), sl d6 (LL' here), o7, sl 9 (LL' []), o9, o10, o11] = loopF (.nm 9) w_braid_paper_2 (here.map IL) [sl 0 (.int w), o1, o2, o3, sl 8 (TI' goal), sl 9 (.dct true (kvs tab)), none, o7, sl 9 (LL' []), o9, o10, o11] := by
    generalize w_braid_paper_2 = W2
    simp
  have s123 : w_braid_paper_3 [sl 0 (.int w), o1, o2, o3, sl 8 (TI' goal), sl 9 (.dct true (kvs tab)), sl d6 (LL' here), o7, o8, o9, o10, o11] = seqR (loopF (.nm 9) w_braid_paper_2 (here.map IL) [sl 0 (.int w), o1, o2, o3, sl 8 (TI' goal), sl 9 (.dct true (kvs tab)), none, o7, sl 9 (LL' []), o9, o10, o11]) (mAsg (.nm 6) (mMove 8)) := by
    rw [w_braid_paper_3, seq_nx s1, seq_nx s2, ev_seq, s3]
  rw [s123]
  rcases layer_loop (goal := goal) hw hw2 o1 o2 o3 none o7 here tab [] o9 o10 o11 hh ht (by simpa using hl) f9 f10 f11 with ⟨q, e, h1, h2⟩ | ⟨tab', later', o9', o10', o11', g9, g10, g11, h1, h2⟩
  · rw [h2]
    exact .inl ⟨q, e, h1, rfl⟩
  · rw [h2]
    refine .inr ⟨tab', later', o9', o10', o11', g9, g10, g11, h1, ?_⟩
    simp
theorem turn_found {w : Int} {goal : List Int} {q : List St} (o1 o2 o3 o6 o7 : Option Slot) (tab : Tab) (o8 o9 o10 o11 : Option Slot) (hg : tlook tab goal = some q) : ∃ e, w_braid_paper_3 [sl 0 (.int w), o1, o2, o3, sl 8 (TI' goal), sl 9 (.dct true (kvs tab)), o6, o7, o8, o9, o10, o11] = .ok (.rt 8 (SL q) e) := by
  have lk := look_tab goal tab
  rw [hg] at lk
  have ik := isKey_tab goal
  have t : mTst (mBin (gDIn false) (mV 4) (mV 5)) [sl 0 (.int w), o1, o2, o3, sl 8 (TI' goal), sl 9 (.dct true (kvs tab)), o6, o7, o8, o9, o10, o11] = .ok true := by
    simp only [ev_mTst, ev_mBin, ev_mV, List.getElem?_cons_succ, List.getElem?_cons_zero, ev_bind, ev_gDIn]
    rw [if_pos ik, lk]; rfl
  have k : mDTake 5 (mV 4) [sl 0 (.int w), o1, o2, o3, sl 8 (TI' goal), sl 9 (.dct true (kvs tab)), o6, o7, o8, o9, o10, o11] = .ok ((8, SL q), [sl 0 (.int w), o1, o2, o3, sl 8 (TI' goal), none, o6, o7, o8, o9, o10, o11]) := by
    show (if isKey true (TI' goal) = true then (match look (kvs tab) (TI' goal) with | some p => Rs.ok ((8, p), _) | none => .stuck) else .stuck) = _
    rw [if_pos ik, lk]; rfl
  refine ⟨[sl 0 (.int w), o1, o2, o3, sl 8 (TI' goal), none, o6, o7, o8, o9, o10, o11], ?_⟩
  rw [w_braid_paper_3]
  refine seq_rt (d := 8) (p := SL q) (e := [sl 0 (.int w), o1, o2, o3, sl 8 (TI' goal), none, o6, o7, o8, o9, o10, o11]) ?_
  rw [ev_mIfS, t, ev_liftT, if_pos rfl, ev_mRet, k]; rfl
/-- the head of the search -/
theorem paper_head {w m : Int} {L G : List Int} (hw : 1 ≤ w) (hw2 : w ≤ 4) (hl : L.length ≤ 50) (hv : Vb w L) (hg : G.length ≤ 200) (hvg : Vb w G) (h0 : 0 ≤ m) (h6 : m ≤ 6) :
    b_braid_paper [sl 0 (.int w), sl 0 (IL L), sl 0 (IL G), sl 0 (.int m), none, none, none, none, none, none, none, none] = seqR (loopF (.nm 7) w_braid_paper_3 (rngs 0 m.toNat) [sl 0 (.int w), sl 0 (IL L), sl 0 (IL G), sl 0 (.int m), sl 8 (TI' G), sl 9 (.dct true (kvs [(L, [])])), sl 9 (LL' [L]), none, none, none, none, none]) (mRet (mDTakeG 5 (mV 4))) := by
  have c1 := braid_ok hw (by omega) (by omega) hv
  have c2 := braid_ok hw (by omega) hg hvg
  have n1 : ¬ m < 0 := by omega
  have n2 : ¬ 6 < m := by omega
  have c3 : F_check_between [.int m, .int 0, g_MOST_STEPS] = .ok (8, .non) := by
    simp [F_check_between, runM, b_check_between, slotsOf, List.replicate, g_MOST_STEPS, n1, n2]
  have ik := isKey_tab L
  have kr : rngOk m = true := rng_ok (by omega) (by omega)
  rw [b_braid_paper]
  have s1 : mDrop (mCall 2 F_check_braid (mCons (mV 0) (mCons (mV 1) mNil))) [sl 0 (.int w), sl 0 (IL L), sl 0 (IL G), sl 0 (.int m), none, none, none, none, none, none, none, none] = .ok (.nx [sl 0 (.int w), sl 0 (IL L), sl 0 (IL G), sl 0 (.int m), none, none, none, none, none, none, none, none]) := by simp [c1]
  rw [seq_nx s1]
  have s2 : mDrop (mCall 2 F_check_braid (mCons (mV 0) (mCons (mV 2) mNil))) [sl 0 (.int w), sl 0 (IL L), sl 0 (IL G), sl 0 (.int m), none, none, none, none, none, none, none, none] = .ok (.nx [sl 0 (.int w), sl 0 (IL L), sl 0 (IL G), sl 0 (.int m), none, none, none, none, none, none, none, none]) := by simp [c2]
  rw [seq_nx s2]
  have s3 : mDrop (mCall 3 F_check_between (mCons (mV 3) (mCons (mC (.int 0)) (mCons (mC g_MOST_STEPS) mNil)))) [sl 0 (.int w), sl 0 (IL L), sl 0 (IL G), sl 0 (.int m), none, none, none, none, none, none, none, none] = .ok (.nx [sl 0 (.int w), sl 0 (IL L), sl 0 (IL G), sl 0 (.int m), none, none, none, none, none, none, none, none]) := by simp [c3]
  rw [seq_nx s3]
  have s4 : mAsg (.nm 4) (mFlat (mFn gTupOf (mCons (mV 2) mNil))) [sl 0 (.int w), sl 0 (IL L), sl 0 (IL G), sl 0 (.int m), none, none, none, none, none, none, none, none] = .ok (.nx [sl 0 (.int w), sl 0 (IL L), sl 0 (IL G), sl 0 (.int m), sl 8 (TI' G), none, none, none, none, none, none, none]) := by simp
  rw [seq_nx s4]
  have s5 : mAsg (.nm 5) (mN (pDisp1 (mFn gTupOf (mCons (mV 1) mNil)) (pNew (mLst mNil)))) [sl 0 (.int w), sl 0 (IL L), sl 0 (IL G), sl 0 (.int m), sl 8 (TI' G), none, none, none, none, none, none, none] = .ok (.nx [sl 0 (.int w), sl 0 (IL L), sl 0 (IL G), sl 0 (.int m), sl 8 (TI' G), sl 9 (.dct true (kvs [(L, [])])), none, none, none, none, none, none]) := by
    have hh : hgt (.dct true [(TI' L, .lst [])]) ≤ 9 := by rw [hgt, hgtK, hgtK]; simp
    have pd : pDisp1 (mFn gTupOf (mCons (mV 1) mNil)) (pNew (mLst mNil)) [sl 0 (.int w), sl 0 (IL L), sl 0 (IL G), sl 0 (.int m), sl 8 (TI' G), none, none, none, none, none, none, none] = .ok (.dct true [(TI' L, .lst [])]) := by
      simp only [ev_pDisp1, ev_mFn, ev_mCons, ev_mV, List.getElem?_cons_succ, List.getElem?_cons_zero, ev_bind, ev_mNil, ev_gTupOfL, ev_ofO, ev_pNew, ev_mLst]
      rw [if_pos (show M.sizeOk ([] : List PV).length = true from rfl)]
      simp only [ev_bind, ev_hNil, if_true]
      rw [if_pos ik]
    rw [ev_mAsg, ev_mN, pd]
    simp only [ev_lift]
    rw [if_pos hh]
    simp [kvs]
  rw [seq_nx s5]
  have s6 : mAsg (.nm 6) (mELst (mECons (mNew (mFnF gList (mCons (mV 1) mNil))) mENil)) [sl 0 (.int w), sl 0 (IL L), sl 0 (IL G), sl 0 (.int m), sl 8 (TI' G), sl 9 (.dct true (kvs [(L, [])])), none, none, none, none, none, none] = .ok (.nx [sl 0 (.int w), sl 0 (IL L), sl 0 (IL G), sl 0 (.int m), sl 8 (TI' G), sl 9 (.dct true (kvs [(L, [])])), sl 9 (LL' [L]), none, none, none, none, none]) := by simp
  rw [seq_nx s6, ev_seq]
  congr 1
  generalize w_braid_paper_3 = W3
  simp [kr]
end M_ropebook_k36_papers_of_braids

set_option Elab.async false
set_option linter.all false
set_option maxRecDepth 100000
set_option maxHeartbeats 1000000
namespace M_ropebook_k36_papers_of_braids
open M PySem L2

/-! ### what the search finds -/
/-- the new ones of a row of steps, each with its first step -/
def dd (w : Int) (M : List Int) : List (List Int) → List St → List (St × List Int)
  | _, [] => []
  | seen, s :: r => match stp w M s with
    | none => dd w M seen r
    | some B => if B ∈ seen then dd w M seen r else (s, B) :: dd w M (seen ++ [B]) r
def hit (w : Int) (goal M : List Int) (l : List St) : Option St := l.find? fun s => decide (stp w M s = some goal)
theorem scan_spec {w : Int} {goal M : List Int} {p : List St} : ∀ {l : List St} {tab : Tab} {later : List (List Int)}, goal ∉ tab.map (·.1) →
    scan w goal M p l tab later = match hit w goal M l with
      | some s => .inl (p ++ [s])
      | none => .inr (tab ++ (dd w M (tab.map (·.1)) l).map (fun e => (e.2, p ++ [e.1])), later ++ (dd w M (tab.map (·.1)) l).map (·.2))
  | [], tab, later, _ => by simp [scan, hit, dd]
  | s :: r, tab, later, hg => by
    unfold scan hit dd
    rw [List.find?_cons]
    cases hs : stp w M s with
    | none =>
      have : (decide ((none : Option (List Int)) = some goal)) = false := by simp
      simp only [this]
      exact scan_spec hg
    | some B =>
      dsimp only
      by_cases hB : B ∈ tab.map (·.1)
      · have h1 : (tlook tab B).isSome = true := by
          cases q : tlook tab B with
          | none => exact absurd hB (tlook_none.1 q)
          | some z => rfl
        have h2 : B ≠ goal := fun z => hg (z ▸ hB)
        have h3 : decide (some B = some goal) = false := by simp [h2]
        rw [if_pos h1, if_pos hB, h3]
        exact scan_spec hg
      · have h1 : ¬ (tlook tab B).isSome = true := by rw [tlook_none.2 hB]; simp
        rw [if_neg h1, if_neg hB]
        by_cases hb : B = goal
        · rw [if_pos hb, show decide (some B = some goal) = true by simp [hb]]
        · rw [if_neg hb, show decide (some B = some goal) = false by simp [hb]]
          have hg' : goal ∉ (tab ++ [(B, p ++ [s])]).map (·.1) := by
            rw [List.map_append, List.mem_append]
            rintro (z | z)
            · exact hg z
            · simp at z; exact hb z.symm
          have ih := scan_spec (w := w) (M := M) (p := p) (l := r) (later := later ++ [B]) hg'
          rw [ih]
          unfold hit
          cases r.find? fun s => decide (stp w M s = some goal) with
          | some z => rfl
          | none =>
            simp only [List.map_append, List.map_cons, List.map_nil, List.append_assoc, List.singleton_append]
theorem findSome_congr {α β : Type} {f g : α → Option β} : ∀ {l : List α}, (∀ a ∈ l, f a = g a) → l.findSome? f = l.findSome? g
  | [], _ => rfl
  | a :: l, h => by rw [List.findSome?_cons, List.findSome?_cons, h a List.mem_cons_self, findSome_congr fun b hb => h b (List.mem_cons_of_mem _ hb)]
theorem layer_spec {w : Int} {goal : List Int} : ∀ {here : List (List Int)} {tab : Tab} {later : List (List Int)}, goal ∉ tab.map (·.1) → (∀ M ∈ here, (tlook tab M).isSome = true) →
    match here.findSome? fun M => (hit w goal M (pall w M)).map fun s => (tlook tab M).getD [] ++ [s] with
      | some q => layer w goal here tab later = .inl q
      | none => ∃ tab' later', layer w goal here tab later = .inr (tab', later') ∧ goal ∉ tab'.map (·.1)
  | [], tab, later, hg, _ => ⟨tab, later, rfl, hg⟩
  | M :: hs, tab, later, hg, hh => by
    unfold layer
    rw [List.findSome?_cons, scan_spec hg]
    cases hm : hit w goal M (pall w M) with
    | some s => rfl
    | none =>
      dsimp only [Option.map_none]
      have grow : ∀ M' ∈ hs, tlook (tab ++ (dd w M (tab.map (·.1)) (pall w M)).map (fun e => (e.2, (tlook tab M).getD [] ++ [e.1]))) M' = tlook tab M' := fun M' h' => by
        obtain ⟨p, hp⟩ := Option.isSome_iff_exists.1 (hh M' (List.mem_cons_of_mem _ h'))
        rw [hp, tlook_app hp]
      have dg : ∀ (l : List St) (seen : List (List Int)), hit w goal M l = none → goal ∉ (dd w M seen l).map (·.2) := by
        intro l
        induction l with
        | nil => intro seen _; simp [dd]
        | cons s r ih =>
          intro seen h
          unfold hit at h
          rw [List.find?_cons] at h
          split at h
          · cases h
          · rename_i hs
            unfold dd
            cases q : stp w M s with
            | none => exact ih seen h
            | some B =>
              dsimp only
              split
              · exact ih seen h
              · rw [List.map_cons, List.mem_cons]
                rintro (z | z)
                · rw [q] at hs; simp at hs; exact hs z.symm
                · exact ih _ h z
      have hg2 : goal ∉ (tab ++ (dd w M (tab.map (·.1)) (pall w M)).map (fun e => (e.2, (tlook tab M).getD [] ++ [e.1]))).map (·.1) := by
        rw [List.map_append, List.mem_append, List.map_map]
        rintro (z | z)
        · exact hg z
        · exact dg _ _ hm z
      have ih := layer_spec (w := w) (here := hs) (later := later ++ (dd w M (tab.map (·.1)) (pall w M)).map (·.2)) hg2 (fun M' h' => by rw [grow M' h']; exact hh M' (List.mem_cons_of_mem _ h'))
      have e : (hs.findSome? fun M' => (hit w goal M' (pall w M')).map fun s => (tlook (tab ++ (dd w M (tab.map (·.1)) (pall w M)).map (fun e => (e.2, (tlook tab M).getD [] ++ [e.1]))) M').getD [] ++ [s]) = hs.findSome? fun M' => (hit w goal M' (pall w M')).map fun s => (tlook tab M').getD [] ++ [s] := by
        refine findSome_congr fun M' h' => ?_
        rw [grow M' h']
      rw [e] at ih
      exact ih
end M_ropebook_k36_papers_of_braids

set_option Elab.async false
set_option linter.all false
set_option maxRecDepth 100000
set_option maxHeartbeats 1000000
namespace M_ropebook_k36_papers_of_braids
open M PySem L2

theorem hit_cand (w : Int) (G M : List Int) : hit w G M (pall w M) = ((cand w M).find? fun e => decide (e.2 = G)).map (·.1) := by
  unfold hit cand
  generalize pall w M = l
  induction l with
  | nil => rfl
  | cons s l ih =>
    rw [List.find?_cons, List.filterMap_cons]
    cases hs : stp w M s with
    | none => simpa using ih
    | some B =>
      simp only [Option.map_some]
      rw [List.find?_cons]
      by_cases h : B = G
      · simp [h]
      · have h1 : decide (some B = some G) = false := by simp [h]
        have h2 : decide (B = G) = false := by simp [h]
        rw [h1, h2]
        exact ih
theorem dd_cand {w : Int} {M : List Int} {g : St × List Int → Option (List St)} (hd : ∀ s s' B, g (s, B) = none → g (s', B) = none) : ∀ (l : List St) (seen : List (List Int)), (∀ B ∈ seen, ∀ s, g (s, B) = none) →
    (dd w M seen l).findSome? g = (l.filterMap fun s => (stp w M s).map fun B => (s, B)).findSome? g
  | [], _, _ => rfl
  | s :: r, seen, h => by
    unfold dd
    rw [List.filterMap_cons]
    cases hs : stp w M s with
    | none => exact dd_cand hd r seen h
    | some B =>
      simp only [Option.map_some]
      rw [List.findSome?_cons]
      by_cases hB : B ∈ seen
      · rw [if_pos hB, h B hB s]
        exact dd_cand hd r seen h
      · rw [if_neg hB, List.findSome?_cons]
        cases hg : g (s, B) with
        | some q => rfl
        | none =>
          refine dd_cand hd r (seen ++ [B]) fun B' hB' s' => ?_
          rcases List.mem_append.1 hB' with z | z
          · exact h B' z s'
          · rw [List.mem_singleton.1 z]; exact hd s s' B hg
theorem dd_look {w : Int} {M : List Int} {p : List St} : ∀ (l : List St) (tab : Tab) (e : St × List Int), e ∈ dd w M (tab.map (·.1)) l → tlook (tab ++ (dd w M (tab.map (·.1)) l).map fun e => (e.2, p ++ [e.1])) e.2 = some (p ++ [e.1])
  | [], tab, e, h => by simp [dd] at h
  | s :: r, tab, e, h => by
    unfold dd at h ⊢
    cases hs : stp w M s with
    | none => rw [hs] at h; exact dd_look r tab e h
    | some B =>
      rw [hs] at h
      dsimp only at h ⊢
      by_cases hB : B ∈ tab.map (·.1)
      · rw [if_pos hB] at h ⊢
        exact dd_look r tab e h
      · rw [if_neg hB] at h ⊢
        have k : (tab ++ [(B, p ++ [s])]).map (·.1) = tab.map (·.1) ++ [B] := by simp
        have e1 : tab ++ (((s, B) :: dd w M (tab.map (·.1) ++ [B]) r).map fun e => (e.2, p ++ [e.1])) = (tab ++ [(B, p ++ [s])]) ++ (dd w M ((tab ++ [(B, p ++ [s])]).map (·.1)) r).map fun e => (e.2, p ++ [e.1]) := by rw [k]; simp
        rw [e1]
        rcases List.mem_cons.1 h with z | z
        · subst z
          refine tlook_app ?_
          have hn := tlook_none.2 hB
          unfold tlook at hn ⊢
          rw [Option.map_eq_none_iff] at hn
          rw [List.find?_append, hn]
          simp
        · exact dd_look r (tab ++ [(B, p ++ [s])]) e (by rw [k]; exact z)
/-- what the law finds -/
def one (w : Int) (L G : List Int) : Option St := ((cand w L).find? fun e => decide (e.2 = G)).map (·.1)
def lfind (w : Int) (L G : List Int) : Option (List St) := if L = G then some [] else match one w L G with
  | some s => some [s]
  | none => (cand w L).findSome? fun e => (one w e.2 G).map fun s => [e.1, s]
theorem paper2_ok {w : Int} {L G : List Int} {q : List St} (hw : 1 ≤ w) (hw2 : w ≤ 4) (hl : L.length ≤ 8) (hv : Vb w L) (hg : G.length ≤ 200) (hvg : Vb w G) (h : lfind w L G = some q) : ∃ d, 1 ≤ d ∧ F_braid_paper [.int w, IL L, IL G, .int 2] = .ok (d, SL q) := by
  have hd := paper_head (m := 2) hw hw2 (by omega) hv hg hvg (by omega) (by omega)
  rw [show (2 : Int).toNat = 0 + 1 + 1 from rfl, rngs_succ, loop_cons] at hd
  have s7 : ∀ (x : Int) (o4 o5 o6 o7 o8 o9 o10 o11 : Option Slot), frB o7 = true → setT (.nm 7) (itD (.int x)) (.int x) [sl 0 (.int w), sl 0 (IL L), sl 0 (IL G), sl 0 (.int 2), o4, o5, o6, o7, o8, o9, o10, o11] = some [sl 0 (.int w), sl 0 (IL L), sl 0 (IL G), sl 0 (.int 2), o4, o5, o6, sl (itD (.int x)) (.int x), o8, o9, o10, o11] := fun x o4 o5 o6 o7 o8 o9 o10 o11 f => by simp [f]
  rw [s7 _ _ _ _ _ _ _ _ _ rfl] at hd
  dsimp only at hd
  have fin : ∀ {d : Nat} {p : PV} {e : LEnv}, b_braid_paper [sl 0 (.int w), sl 0 (IL L), sl 0 (IL G), sl 0 (.int 2), none, none, none, none, none, none, none, none] = .ok (.rt d p e) → F_braid_paper [.int w, IL L, IL G, .int 2] = .ok (d, p) := fun h => run_rt (b := b_braid_paper) h
  unfold lfind at h
  by_cases hLG : L = G
  · rw [if_pos hLG] at h
    cases h
    obtain ⟨e, he⟩ := turn_found (w := w) (goal := G) (q := []) (sl 0 (IL L)) (sl 0 (IL G)) (sl 0 (.int 2)) (sl 9 (LL' [L])) (sl (itD (.int 0)) (.int 0)) [(L, [])] none none none none (by unfold tlook; simp [hLG])
    rw [he] at hd
    exact ⟨8, by omega, fin hd⟩
  · rw [if_neg hLG] at h
    have hn : tlook [(L, [])] G = none := by unfold tlook; simp [hLG]
    have hL : tlook [(L, [])] L = some [] := by unfold tlook; simp
    have pb : (pall w L).length ≤ 78 := by
      rw [pall_len]
      have : (L.length + 1) * (2 * (w - 1).toNat) ≤ 9 * 6 := Nat.mul_le_mul (by omega) (by omega)
      omega
    have sc := scan_spec (w := w) (goal := G) (M := L) (p := []) (l := pall w L) (tab := [(L, [])]) (later := []) (by simp; exact fun z => hLG z.symm)
    have ly : layer w G [L] [(L, [])] [] = scan w G L [] (pall w L) [(L, [])] [] := by
      unfold layer
      rw [hL]
      simp only [Option.getD_some]
      cases scan w G L [] (pall w L) [(L, [])] [] with
      | inl q => rfl
      | inr z => rfl
    rw [hit_cand, show ((cand w L).find? fun e => decide (e.2 = G)).map (·.1) = one w L G from rfl] at sc
    have t0 := turn_ok (goal := G) hw hw2 (sl 0 (IL L)) (sl 0 (IL G)) (sl 0 (.int 2)) (sl (itD (.int 0)) (.int 0)) 9 [L] [(L, [])] none none none none hn (fun M hM => by
      rw [List.mem_singleton.1 hM]; exact ⟨by omega, [], hL, by simp⟩) (by simp) (by simp) rfl rfl rfl rfl
    cases h1 : one w L G with
    | some s =>
      rw [h1] at sc h
      cases h
      rw [ly, sc] at t0
      rcases t0 with ⟨q, e, a, b⟩ | ⟨tab', later', _, _, _, _, _, _, a, _⟩
      · cases a
        rw [b] at hd
        exact ⟨9, by omega, fin hd⟩
      · cases a
    | none =>
      rw [h1] at sc h
      dsimp only at sc h
      rcases t0 with ⟨q, e, a, b⟩ | ⟨tab', later', o9', o10', o11', g9, g10, g11, a, b⟩
      · rw [ly, sc] at a; cases a
      rw [ly, sc] at a
      cases a
      rw [b] at hd
      -- the second turn
      generalize hD : dd w L (([(L, [])] : Tab).map (·.1)) (pall w L) = D at *
      have dl : D.length ≤ 78 := by
        have : ∀ (l : List St) (seen : List (List Int)), (dd w L seen l).length ≤ l.length := by
          intro l
          induction l with
          | nil => intro seen; simp [dd]
          | cons s r ih =>
            intro seen
            unfold dd
            cases stp w L s with
            | none => have := ih seen; simp; omega
            | some B =>
              dsimp only
              split
              · have := ih seen; simp; omega
              · have := ih (seen ++ [B]); simp; omega
        have := this (pall w L) (([(L, [])] : Tab).map (·.1))
        rw [hD] at this
        omega
      have dm : ∀ e ∈ D, stp w L e.1 = some e.2 := by
        have : ∀ (l : List St) (seen : List (List Int)), ∀ e ∈ dd w L seen l, stp w L e.1 = some e.2 := by
          intro l
          induction l with
          | nil => intro seen e h; simp [dd] at h
          | cons s r ih =>
            intro seen e h
            unfold dd at h
            cases q : stp w L s with
            | none => rw [q] at h; exact ih seen e h
            | some B =>
              rw [q] at h
              dsimp only at h
              split at h
              · exact ih seen e h
              · rcases List.mem_cons.1 h with rfl | h
                · exact q
                · exact ih _ e h
        rw [← hD]; exact this _ _
      have lk : ∀ e ∈ D, tlook ([(L, [])] ++ D.map fun e => (e.2, [] ++ [e.1])) e.2 = some ([] ++ [e.1]) := fun e he => by
        have := dd_look (w := w) (M := L) (p := []) (pall w L) [(L, [])] e (by rw [hD]; exact he)
        rw [hD] at this
        exact this
      have gn : G ∉ D.map (·.2) := fun z => by
        obtain ⟨e, he, rfl⟩ := List.mem_map.1 z
        unfold one at h1
        rw [Option.map_eq_none_iff, List.find?_eq_none] at h1
        have hm : (e.1, e.2) ∈ cand w L := by
          unfold cand
          rw [List.mem_filterMap]
          have : ∀ (l : List St) (seen : List (List Int)), ∀ e ∈ dd w L seen l, e.1 ∈ l := by
            intro l
            induction l with
            | nil => intro seen e h; simp [dd] at h
            | cons s r ih =>
              intro seen e h
              unfold dd at h
              cases q : stp w L s with
              | none => rw [q] at h; exact List.mem_cons_of_mem _ (ih seen e h)
              | some B =>
                rw [q] at h
                dsimp only at h
                split at h
                · exact List.mem_cons_of_mem _ (ih seen e h)
                · rcases List.mem_cons.1 h with rfl | h
                  · exact List.mem_cons_self
                  · exact List.mem_cons_of_mem _ (ih _ e h)
          exact ⟨e.1, this _ _ e (by rw [hD]; exact he), by rw [dm e he]; rfl⟩
        exact h1 _ hm (by simp)
      have gt1 : tlook ([(L, [])] ++ D.map fun e => (e.2, [] ++ [e.1])) G = none := by
        rw [tlook_none, List.map_append, List.mem_append, List.map_map]
        rintro (z | z)
        · simp at z; exact hLG z.symm
        · exact gn z
      have hh : ∀ M ∈ [] ++ D.map (·.2), M.length ≤ 20 ∧ ∃ p, tlook ([(L, [])] ++ D.map fun e => (e.2, [] ++ [e.1])) M = some p ∧ p.length ≤ 10 := fun M hM => by
        rw [List.nil_append] at hM
        obtain ⟨e, he, rfl⟩ := List.mem_map.1 hM
        have := (stp_ok hv (dm e he)).2.1
        exact ⟨by omega, _, lk e he, by simp⟩
      have fs : ([] ++ D.map (fun e : St × List Int => e.2)).findSome? (fun M => (hit w G M (pall w M)).map fun s => (tlook ([(L, [])] ++ D.map fun e : St × List Int => (e.2, [] ++ [e.1])) M).getD [] ++ [s]) = some q := by
        rw [List.nil_append, List.findSome?_map]
        have e1 : D.findSome? ((fun M => (hit w G M (pall w M)).map fun s => (tlook ([(L, [])] ++ D.map fun e => (e.2, [] ++ [e.1])) M).getD [] ++ [s]) ∘ (fun e : St × List Int => e.2)) = D.findSome? fun e : St × List Int => (one w e.2 G).map fun s => [e.1, s] := by
          refine findSome_congr fun e he => ?_
          show (hit w G e.2 (pall w e.2)).map (fun s => (tlook _ e.2).getD [] ++ [s]) = _
          rw [lk e he, hit_cand]; rfl
        rw [e1, ← hD, ← h]
        unfold cand
        refine dd_cand (fun s s' B hg => ?_) (pall w L) _ fun B hB s => ?_
        · rw [Option.map_eq_none_iff] at hg ⊢
          exact hg
        · have : B = L := by simpa using hB
          subst this
          show (one w B G).map _ = none
          rw [h1]; rfl
      have lsp := layer_spec (w := w) (goal := G) (here := [] ++ D.map (·.2)) (tab := [(L, [])] ++ D.map fun e => (e.2, [] ++ [e.1])) (later := []) (tlook_none.1 gt1) (fun M hM => by
        obtain ⟨_, p, hp, _⟩ := hh M hM
        rw [hp]; rfl)
      rw [fs] at lsp
      dsimp only at lsp
      rw [ev_contN, rngs_succ, loop_cons, s7 _ _ _ _ _ _ _ _ _ rfl] at hd
      dsimp only at hd
      rcases turn_ok (goal := G) hw hw2 (sl 0 (IL L)) (sl 0 (IL G)) (sl 0 (.int 2)) (sl (itD (.int (0 + 1))) (.int (0 + 1))) 9 ([] ++ D.map (·.2)) ([(L, [])] ++ D.map fun e => (e.2, [] ++ [e.1])) none o9' o10' o11' gt1 hh (by simp; omega) (by simp; omega) rfl g9 g10 g11 with ⟨q', e, a, b⟩ | ⟨tab', later', _, _, _, _, _, _, a, _⟩
      · rw [lsp] at a
        cases a
        rw [b] at hd
        exact ⟨9, by omega, fin hd⟩
      · rw [lsp] at a; cases a
/-- not found in one step -/
theorem paper1_none {w : Int} {L G : List Int} (hw : 1 ≤ w) (hw2 : w ≤ 4) (hl : L.length ≤ 8) (hv : Vb w L) (hg : G.length ≤ 200) (hvg : Vb w G) (hLG : L ≠ G) (h1 : one w L G = none) : F_braid_paper [.int w, IL L, IL G, .int 1] = .ok (8, .non) := by
  have hd := paper_head (m := 1) hw hw2 (by omega) hv hg hvg (by omega) (by omega)
  rw [show (1 : Int).toNat = 0 + 1 from rfl, rngs_succ, loop_cons] at hd
  have s7 : setT (.nm 7) (itD (.int 0)) (.int 0) [sl 0 (.int w), sl 0 (IL L), sl 0 (IL G), sl 0 (.int 1), sl 8 (TI' G), sl 9 (.dct true (kvs [(L, [])])), sl 9 (LL' [L]), none, none, none, none, none] = some [sl 0 (.int w), sl 0 (IL L), sl 0 (IL G), sl 0 (.int 1), sl 8 (TI' G), sl 9 (.dct true (kvs [(L, [])])), sl 9 (LL' [L]), sl (itD (.int 0)) (.int 0), none, none, none, none] := by simp
  rw [s7] at hd
  dsimp only at hd
  have hn : tlook [(L, [])] G = none := by unfold tlook; simp [hLG]
  have hL : tlook [(L, [])] L = some [] := by unfold tlook; simp
  have sc := scan_spec (w := w) (goal := G) (M := L) (p := []) (l := pall w L) (tab := [(L, [])]) (later := []) (by simp; exact fun z => hLG z.symm)
  have ly : layer w G [L] [(L, [])] [] = scan w G L [] (pall w L) [(L, [])] [] := by
    unfold layer
    rw [hL]
    simp only [Option.getD_some]
    cases scan w G L [] (pall w L) [(L, [])] [] with
    | inl q => rfl
    | inr z => rfl
  have lsp := layer_spec (w := w) (goal := G) (here := [L]) (tab := [(L, [])]) (later := []) (tlook_none.1 hn) (fun M hM => by rw [List.mem_singleton.1 hM, hL]; rfl)
  rw [hit_cand, show ((cand w L).find? fun e => decide (e.2 = G)).map (·.1) = one w L G from rfl] at sc
  rw [h1] at sc
  dsimp only at sc
  rcases turn_ok (goal := G) hw hw2 (sl 0 (IL L)) (sl 0 (IL G)) (sl 0 (.int 1)) (sl (itD (.int 0)) (.int 0)) 9 [L] [(L, [])] none none none none hn (fun M hM => by
      rw [List.mem_singleton.1 hM]; exact ⟨by omega, [], hL, by simp⟩) (by simp) (by simp) rfl rfl rfl rfl with ⟨q, e, a, b⟩ | ⟨tab', later', o9', o10', o11', g9, g10, g11, a, b⟩
  · rw [ly, sc] at a; cases a
  · rw [b, ev_contN, rngs_zero] at hd
    have gn : tlook tab' G = none := by
      rw [List.findSome?_cons, hit_cand, show ((cand w L).find? fun e => decide (e.2 = G)).map (·.1) = one w L G from rfl, h1] at lsp
      simp only [Option.map_none, List.findSome?_nil] at lsp
      obtain ⟨t', l', e1, e2⟩ := lsp
      rw [a] at e1
      cases e1
      exact tlook_none.2 e2
    have lk := look_tab G tab'
    rw [gn] at lk
    have ik := isKey_tab G
    refine run_rt (b := b_braid_paper) (e := [sl 0 (.int w), sl 0 (IL L), sl 0 (IL G), sl 0 (.int 1), sl 8 (TI' G), none, sl 9 (LL' later'), sl (itD (.int 0)) (.int 0), none, o9', o10', o11']) (hd.trans ?_)
    show mRet (mDTakeG 5 (mV 4)) _ = _
    rw [ev_mRet]
    have k : mDTakeG 5 (mV 4) [sl 0 (.int w), sl 0 (IL L), sl 0 (IL G), sl 0 (.int 1), sl 8 (TI' G), sl 9 (.dct true (kvs tab')), sl 9 (LL' later'), sl (itD (.int 0)) (.int 0), none, o9', o10', o11'] = .ok ((8, .non), [sl 0 (.int w), sl 0 (IL L), sl 0 (IL G), sl 0 (.int 1), sl 8 (TI' G), none, sl 9 (LL' later'), sl (itD (.int 0)) (.int 0), none, o9', o10', o11']) := by
      show (if isKey true (TI' G) = true then Rs.ok ((8, (look (kvs tab') (TI' G)).getD .non), _) else .stuck) = _
      rw [if_pos ik, lk]; rfl
    rw [k]; rfl
theorem paper_range {w m : Int} {L G : List Int} (hw : 1 ≤ w) (hw2 : w ≤ 4) (hl : L.length ≤ 50) (hv : Vb w L) (hg : G.length ≤ 200) (hvg : Vb w G) (hm : m < 0 ∨ 6 < m) : F_law_told [.int 1, .int w, IL L, IL G, .int m] = .ok (8, .tup [.str ("range" : Str), .int m]) := by
  have c1 := braid_ok hw (by omega) (by omega) hv
  have c2 := braid_ok hw (by omega) hg hvg
  have c3 : F_check_between [.int m, .int 0, g_MOST_STEPS] = .exc ⟨"OutOfRange", [("value", .int m), ("label", .str "OutOfRange")]⟩ := by
    rcases hm with h | h
    · simp [F_check_between, runM, b_check_between, slotsOf, List.replicate, g_MOST_STEPS, h, mRaise, fps, fvP]
    · have : ¬ m < 0 := by omega
      simp [F_check_between, runM, b_check_between, slotsOf, List.replicate, g_MOST_STEPS, h, this, mRaise, fps, fvP]
  have p : F_braid_paper [.int w, IL L, IL G, .int m] = .exc ⟨"OutOfRange", [("value", .int m), ("label", .str "OutOfRange")]⟩ := by
    simp [F_braid_paper, runM, b_braid_paper, slotsOf, List.replicate, c1, c2, c3]
  have ne : ¬ ("OutOfRange" : Str) = ("BadStep" : Str) := by decide
  simp [F_law_told, runM, b_law_told, slotsOf, List.replicate, p, handle, m_BadStep, m_OutOfRange, mRetX, mExf, z_OutOfRange, ne, noXS]
theorem told_paper {w m : Int} {L G : List Int} {p : PV} {d : Nat} (h : F_braid_paper [.int w, IL L, IL G, .int m] = .ok (d, p)) (hp : hgt p ≤ d) (hp8 : hgt p ≤ 8) : ∃ d', F_law_told [.int 1, .int w, IL L, IL G, .int m] = .ok (d', .tup [.str ("value" : Str), p]) ∧ hgt p ≤ d' := by
  refine ⟨min 8 (min d 8), ?_, ?_⟩
  · simp [F_law_told, runM, b_law_told, slotsOf, List.replicate, h, hp]
  · omega
end M_ropebook_k36_papers_of_braids

set_option Elab.async false
set_option linter.all false
set_option maxRecDepth 100000
set_option maxHeartbeats 1000000
namespace M_ropebook_k36_papers_of_braids
open M PySem L2

/-! ### the law's braid -/
def letter (p : Int) : Int := (if p.fmod 2 = 0 then 1 else -1) * (1 + p.fdiv 2)
theorem letter_ok {w p : Int} (hw : 2 ≤ w) (h0 : 0 ≤ p) (h1 : p < 2 * (w - 1)) : letter p ≠ 0 ∧ ((letter p).natAbs : Int) < w := by
  unfold letter
  have e1 : p.fdiv 2 = p / 2 := Int.fdiv_eq_ediv_of_nonneg _ (by omega)
  rw [e1]
  split <;> omega
theorem pick_loop {w : Int} (o0 o1 o2 o3 o4 o7 : Option Slot) : ∀ (ps : List Int) (acc : List Int) (o6 : Option Slot), (∀ p ∈ ps, 0 ≤ p ∧ p < 100) → acc.length + ps.length ≤ 1000 → frB o6 = true →
    ∃ o6', loopF (.nm 6) w_law_braid_1 (ps.map .int) [o0, o1, o2, o3, o4, sl 9 (IL acc), o6, o7] = .ok (.nx [o0, o1, o2, o3, o4, sl 9 (IL (acc ++ ps.map letter)), o6', o7])
  | [], acc, o6, _, _, f6 => ⟨o6, by rw [List.map_nil, loopF]; simp⟩
  | p :: ps, acc, o6, hp, hl, f6 => by
    simp only [List.length_cons] at hl
    obtain ⟨o6', q⟩ := pick_loop (w := w) o0 o1 o2 o3 o4 o7 ps (acc ++ [letter p]) (sl (itD (.int p)) (.int p)) (fun x hx => hp x (List.mem_cons_of_mem _ hx)) (by simp; omega) rfl
    refine ⟨o6', ?_⟩
    rw [List.map_cons, loop_cons]
    have s6 : setT (.nm 6) (itD (.int p)) (.int p) [o0, o1, o2, o3, o4, sl 9 (IL acc), o6, o7] = some [o0, o1, o2, o3, o4, sl 9 (IL acc), sl (itD (.int p)) (.int p), o7] := by simp [f6]
    rw [s6]
    dsimp only
    obtain ⟨p0, p1⟩ := hp p List.mem_cons_self
    have cm : cMod p 2 = true := mod_ok (by omega)
    have cd : cDiv p 2 = true := div_ok (by omega) (by omega)
    have at2 : atI [PV.int 1, PV.int (-1)] (p.fmod 2) = some (.int (if p.fmod 2 = 0 then 1 else -1)) := by
      have r := fm_lt (a := p) (b := 2) (by omega)
      have : p.fmod 2 = 0 ∨ p.fmod 2 = 1 := by omega
      rcases this with h | h <;> rw [h] <;> rfl
    have km : cMul (if p.fmod 2 = 0 then 1 else -1) (1 + p.fdiv 2) = true := mul_ok (.inl (by split <;> omega))
    have z : acc.length < 16777216 := by omega
    have body : w_law_braid_1 [o0, o1, o2, o3, o4, sl 9 (IL acc), sl (itD (.int p)) (.int p), o7] = .ok (.nx [o0, o1, o2, o3, o4, sl 9 (IL (acc ++ [letter p])), sl (itD (.int p)) (.int p), o7]) := by
      simp [w_law_braid_1, cm, cd, at2, km, z, letter]
    rw [body]
    show loopF (.nm 6) w_law_braid_1 (ps.map .int) _ = _
    rw [q, List.map_cons, List.append_assoc]; rfl
theorem lbraid_ok (c : Int) (hc : 0 ≤ c) : ∃ (w : Int) (L : List Int), F_law_braid [.int c, .int 4, .int 4] = .ok (8, .tup [.int w, IL L]) ∧ 2 ≤ w ∧ w ≤ 4 ∧ L.length ≤ 4 ∧ Vb w L := by
  obtain ⟨rs, dr, dl, dv⟩ := draw_ok c [3, 5] (by simp) (by simp)
  have v0 := dv 0 (by rw [dl]; simp) (by simp)
  have v1 := dv 1 (by rw [dl]; simp) (by simp)
  obtain ⟨a, n, rfl⟩ : ∃ a n, rs = [a, n] := by
    match rs, dl with
    | [a, n], _ => exact ⟨a, n, rfl⟩
  simp only [List.getElem_cons_zero, List.getElem_cons_succ] at v0 v1
  obtain ⟨m, rfl⟩ : ∃ m : Nat, n = m := ⟨n.toNat, by omega⟩
  have f5 : ∀ x, cDiv x 5 = true := fun x => div_ok (by omega) (by omega)
  obtain ⟨ps, dr2, dl2, dv2⟩ := draw_ok (c.fdiv 5 + 3) (List.replicate m (2 * (2 + a - 1))) (by intro l hl; rw [List.mem_replicate] at hl; omega) (by simp; omega)
  simp only [List.length_replicate] at dl2
  have pv : ∀ p ∈ ps, 0 ≤ p ∧ p < 2 * (2 + a - 1) := fun p hp => by
    obtain ⟨i, hi, rfl⟩ := List.getElem_of_mem hp
    have := dv2 i hi (by rw [List.length_replicate]; omega)
    rw [List.getElem_replicate] at this
    exact this
  have kr : rngOk (m : Int) = true := rng_ok (by omega) (by omega)
  have a0 : ∀ p q : PV, atI [p, q] 0 = some p := fun _ _ => rfl
  have a1 : ∀ p q : PV, atI [p, q] 1 = some q := fun _ _ => rfl
  obtain ⟨o6, q⟩ := pick_loop (w := 2 + a) (sl 0 (.int c)) (sl 0 (.int 4)) (sl 0 (.int 4)) (sl 9 (.lst [.int a, .int m])) (sl 8 (.int (2 + a))) none ps [] none (fun p hp => by have := pv p hp; omega) (by simp; omega) rfl
  refine ⟨2 + a, ps.map letter, ?_, by omega, by omega, by simp; omega, fun x hx => ?_⟩
  · have cc : mComp [7] (.nm 7) (mRng1 (mCons (mBin gIxL (mV 3) (mC (.int 1))) mNil)) mYes (mBin gMul (mC (.int 2)) (mBin gSub (mV 4) (mC (.int 1)))) [sl 0 (.int c), sl 0 (.int 4), sl 0 (.int 4), sl 9 (.lst [.int a, .int m]), sl 8 (.int (2 + a)), sl 9 (IL []), none, none] = .ok ((List.replicate m (2 * (2 + a - 1))).map .int) := by
      have e : (List.replicate m (2 * (2 + a - 1))).map PV.int = (rngs 0 m).map fun _ => PV.int (2 * (2 + a - 1)) := by
        unfold rngs
        rw [List.map_map, List.map_replicate]
        exact (List.eq_replicate_iff.2 ⟨by simp, fun b hb => by simp at hb; exact hb.2.symm⟩).symm
      rw [e]
      have km : cMul 2 (2 + a - 1) = true := mul_ok (.inl (by omega))
      refine comp_ok (ps := rngs 0 m) (by simp [a1, kr]) (by unfold rngs; simp; omega) fun p _ => ⟨_, by simp [wipeE]; rfl, rfl, by simp [km], by simp⟩
    refine run_rt (b := b_law_braid) (e := [sl 0 (.int c), sl 0 (.int 4), sl 0 (.int 4), sl 9 (.lst [.int a, .int m]), sl 8 (.int (2 + a)), none, o6, none]) ?_
    show b_law_braid [sl 0 (.int c), sl 0 (.int 4), sl 0 (.int 4), none, none, none, none, none] = _
    rw [b_law_braid]
    have s1 : mAsg (.nm 3) (mCallE 2 F_law_draw (mCons (mV 0) (mCons (mOfF (mLst (mCons (mBin gSub (mV 1) (mC (.int 1))) (mCons (mBin gAdd (mV 2) (mC (.int 1))) mNil)))) mNil))) [sl 0 (.int c), sl 0 (.int 4), sl 0 (.int 4), none, none, none, none, none] = .ok (.nx [sl 0 (.int c), sl 0 (.int 4), sl 0 (.int 4), sl 9 (.lst [.int a, .int m]), none, none, none, none]) := by
      simp only [List.map_cons, List.map_nil] at dr
      simp [dr]
    rw [seq_nx s1]
    have s2 : mAsg (.nm 4) (mFlat (mBin gAdd (mC (.int 2)) (mBin gIxL (mV 3) (mC (.int 0))))) [sl 0 (.int c), sl 0 (.int 4), sl 0 (.int 4), sl 9 (.lst [.int a, .int m]), none, none, none, none] = .ok (.nx [sl 0 (.int c), sl 0 (.int 4), sl 0 (.int 4), sl 9 (.lst [.int a, .int m]), sl 8 (.int (2 + a)), none, none, none]) := by simp [a0]
    rw [seq_nx s2]
    have s3 : mAsg (.nm 5) (mNew (mLst mNil)) [sl 0 (.int c), sl 0 (.int 4), sl 0 (.int 4), sl 9 (.lst [.int a, .int m]), sl 8 (.int (2 + a)), none, none, none] = .ok (.nx [sl 0 (.int c), sl 0 (.int 4), sl 0 (.int 4), sl 9 (.lst [.int a, .int m]), sl 8 (.int (2 + a)), sl 9 (IL []), none, none]) := by simp
    rw [seq_nx s3]
    have cl : mCallE 2 F_law_draw (mCons (mBin gAdd (mBin gDiv (mV 0) (mC (.int 5))) (mC (.int 3))) (mCons (mOfF (mComp [7] (.nm 7) (mRng1 (mCons (mBin gIxL (mV 3) (mC (.int 1))) mNil)) mYes (mBin gMul (mC (.int 2)) (mBin gSub (mV 4) (mC (.int 1)))))) mNil)) [sl 0 (.int c), sl 0 (.int 4), sl 0 (.int 4), sl 9 (.lst [.int a, .int m]), sl 8 (.int (2 + a)), sl 9 (IL []), none, none] = .ok ((9, IL ps), [sl 0 (.int c), sl 0 (.int 4), sl 0 (.int 4), sl 9 (.lst [.int a, .int m]), sl 8 (.int (2 + a)), sl 9 (IL []), none, none]) := by
      rw [ev_mCallE, ev_mCons, ev_mCons, ev_mOfF, cc]
      simp only [ev_mBin, ev_mV, ev_mC, List.getElem?_cons_zero, ev_bind, ev_gDiv, f5, if_true, ev_ofO, ev_gAdd, ev_mNil]
      rw [ev_callR, if_pos (by rfl), dr2]
      simp
    have s4 : mForL (.nm 6) (mCallE 2 F_law_draw (mCons (mBin gAdd (mBin gDiv (mV 0) (mC (.int 5))) (mC (.int 3))) (mCons (mOfF (mComp [7] (.nm 7) (mRng1 (mCons (mBin gIxL (mV 3) (mC (.int 1))) mNil)) mYes (mBin gMul (mC (.int 2)) (mBin gSub (mV 4) (mC (.int 1)))))) mNil))) w_law_braid_1 [sl 0 (.int c), sl 0 (.int 4), sl 0 (.int 4), sl 9 (.lst [.int a, .int m]), sl 8 (.int (2 + a)), sl 9 (IL []), none, none] = .ok (.nx [sl 0 (.int c), sl 0 (.int 4), sl 0 (.int 4), sl 9 (.lst [.int a, .int m]), sl 8 (.int (2 + a)), sl 9 (IL (ps.map letter)), o6, none]) := by
      rw [ev_mForL, cl]
      exact q
    rw [seq_nx s4]
    simp
  · obtain ⟨p, hp, rfl⟩ := List.mem_map.1 hx
    have := pv p hp
    exact letter_ok (by omega) this.1 this.2

/-! ### steps as data -/
def sPy : St → PyData
  | .sw k => .tuple [.str ("swap" : Str), .int k]
  | .th k => .tuple [.str ("three" : Str), .int k]
  | .ou k => .tuple [.str ("out" : Str), .int k]
  | .ins k i => .tuple [.str ("in" : Str), .int k, .int i]
theorem sPy_ok (s : St) : py (sPV s) = some (sPy s) := by cases s <;> rfl
theorem sPys_ok : ∀ l : List St, pys (l.map sPV) = some (l.map sPy)
  | [] => rfl
  | s :: l => by rw [List.map_cons, pys, sPy_ok, sPys_ok l]; rfl
theorem so1 : PyData.strOk ("swap" : Str) = true := by kernel_rfl
theorem so2 : PyData.strOk ("three" : Str) = true := by kernel_rfl
theorem so3 : PyData.strOk ("out" : Str) = true := by kernel_rfl
theorem so4 : PyData.strOk ("in" : Str) = true := by kernel_rfl
theorem so5 : PyData.strOk ("value" : Str) = true := by kernel_rfl
theorem sLay (s : St) : (sPy s).canLay0 = true := by cases s <;> simp [sPy, PyData.canLay0, PyData.canLayAll0, so1, so2, so3, so4]
theorem sLays : ∀ l : List St, PyData.canLayAll0 (l.map sPy) = true
  | [] => rfl
  | s :: l => by rw [List.map_cons, PyData.canLayAll0, sLay, sLays l]; rfl
theorem sDep (s : St) : (sPy s).depth = 1 := by cases s <;> simp [sPy, PyData.depth, PyData.depthAll]
theorem sDeps : ∀ l : List St, PyData.depthAll (l.map sPy) ≤ 1
  | [] => by simp [PyData.depthAll]
  | s :: l => by rw [List.map_cons, PyData.depthAll, sDep]; have := sDeps l; omega
theorem ne1 : ¬ ("swap" : Str) = ("three" : Str) := by decide
theorem ne2 : ¬ ("swap" : Str) = ("out" : Str) := by decide
theorem ne3 : ¬ ("swap" : Str) = ("in" : Str) := by decide
theorem ne4 : ¬ ("three" : Str) = ("out" : Str) := by decide
theorem ne5 : ¬ ("three" : Str) = ("in" : Str) := by decide
theorem ne6 : ¬ ("out" : Str) = ("in" : Str) := by decide
theorem sEqv (s t : St) : PyData.eqv (sPy s) (sPy t) = decide (s = t) := by
  rw [Bool.eq_iff_iff]
  have := ne1; have := ne2; have := ne3; have := ne4; have := ne5; have := ne6
  cases s <;> cases t <;> simp [sPy, PyData.eqv, PyData.eqvAll, *] <;> (try exact fun h => absurd h.symm ‹_›)
theorem anyS (s : St) : ∀ l : List St, anyEqv (sPy s) (l.map sPy) = decide (s ∈ l)
  | [] => rfl
  | t :: l => by
    rw [List.map_cons, anyEqv, sEqv, anyS s l, Bool.eq_iff_iff]
    simp only [Bool.or_eq_true, decide_eq_true_eq, List.mem_cons]
    exact ⟨fun h => h.imp Eq.symm id, fun h => h.imp Eq.symm id⟩
theorem in_steps (s : St) (l : List St) : gInD false (sPV s) (SL l) = some (.bl (decide (s ∈ l))) := by
  have h1 : SeqAt.shaped (sPy s) = true := by
    unfold SeqAt.shaped
    rw [sDep, sLay]; rfl
  have h2 : SeqAt.shaped (.list (l.map sPy)) = true := by
    unfold SeqAt.shaped
    have d := sDeps l
    have : PyData.depth (.list (l.map sPy)) ≤ 2 := by simp [PyData.depth]; omega
    have lay : PyData.canLay0 (.list (l.map sPy)) = true := by simp [PyData.canLay0, sLays]
    rw [lay]
    simp
    omega
  have p2 : py (SL l) = some (.list (l.map sPy)) := by rw [py, sPys_ok]; rfl
  unfold gInD
  rw [sPy_ok, p2]
  simp only [h1, h2, Bool.and_self, if_true, anyS]
  rfl
theorem val_steps (q : List St) : pyOk (.tup [.str ("value" : Str), SL q]) := by
  refine ⟨.tuple [.str ("value" : Str), .list (q.map sPy)], ?_, ?_⟩
  · rw [py, pys, py, pys, py, pys, sPys_ok]; rfl
  · unfold SeqAt.shaped
    have d := sDeps q
    have : PyData.depth (.tuple [.str ("value" : Str), .list (q.map sPy)]) ≤ 3 := by simp [PyData.depth, PyData.depthAll]; omega
    have lay : PyData.canLay0 (.tuple [.str ("value" : Str), .list (q.map sPy)]) = true := by simp [PyData.canLay0, PyData.canLayAll0, sLays, so5]
    rw [lay]
    simp
    omega
theorem val_ints (B : List Int) : pyOk (.tup [.str ("value" : Str), IL B]) := by
  refine ⟨.tuple [.str ("value" : Str), .list (B.map .int)], ?_, ?_⟩
  · rw [py, pys, py, pys, py, pys, pys_ints]; rfl
  · unfold SeqAt.shaped
    have lay : PyData.canLay0 (.tuple [.str ("value" : Str), .list (B.map .int)]) = true := by simp [PyData.canLay0, PyData.canLayAll0, lay_ints, so5]
    rw [lay]
    simp [PyData.depth, PyData.depthAll, dep_ints]
/-! ### steps that can be done -/
theorem pl_of {w i : Int} (h1 : i ≠ 0) (h2 : (i.natAbs : Int) < w) : i ∈ pl w := by
  unfold pl
  rw [List.mem_flatMap]
  refine ⟨(i.natAbs : Int), mem_nums.2 ⟨by omega, by omega⟩, ?_⟩
  by_cases h : i < 0
  · have : i = -((i.natAbs : Nat) : Int) := by omega
    rw [← this]; simp
  · have : i = ((i.natAbs : Nat) : Int) := by omega
    rw [← this]; simp
theorem mem_lall {w : Int} {L : List Int} (s : St) : s ∈ lall w L ↔ (stp w L s).isSome = true := by
  rw [lall_filter, List.mem_filter]
  refine ⟨fun h => h.2, fun h => ⟨?_, h⟩⟩
  unfold pall
  cases s with
  | sw k =>
    rw [stp_sw] at h
    split at h
    · rename_i c
      exact List.mem_append_left _ (List.mem_append_left _ (List.mem_append_left _ (List.mem_map.2 ⟨k, mem_ri.2 ⟨c.1, by omega⟩, rfl⟩)))
    · cases h
  | th k =>
    rw [stp_th] at h
    split at h
    · rename_i c
      exact List.mem_append_left _ (List.mem_append_left _ (List.mem_append_right _ (List.mem_map.2 ⟨k, mem_ri.2 ⟨c.1, by omega⟩, rfl⟩)))
    · cases h
  | ou k =>
    rw [stp_ou] at h
    split at h
    · rename_i c
      exact List.mem_append_left _ (List.mem_append_right _ (List.mem_map.2 ⟨k, mem_ri.2 ⟨c.1, by omega⟩, rfl⟩))
    · cases h
  | ins k i =>
    rw [stp_in] at h
    split at h
    · rename_i c
      exact List.mem_append_right _ (List.mem_flatMap.2 ⟨k, mem_ri.2 ⟨c.1, by omega⟩, List.mem_map.2 ⟨i, pl_of c.2.2.1 c.2.2.2, rfl⟩⟩)
    · cases h
/-! ### what is found is right -/
theorem one_some {w : Int} {L G : List Int} {s : St} (h : one w L G = some s) : stp w L s = some G := by
  unfold one at h
  rw [Option.map_eq_some_iff] at h
  obtain ⟨⟨s', B⟩, h1, h2⟩ := h
  cases h2
  have hm := List.mem_of_find?_eq_some h1
  have hp := List.find?_some h1
  rw [decide_eq_true_eq] at hp
  rw [cand_mem hm]
  exact congrArg some hp
theorem one_of {w : Int} {L G : List Int} {s : St} (h : (s, G) ∈ cand w L) : (one w L G).isSome = true := by
  unfold one
  rw [Option.isSome_map, List.find?_isSome]
  exact ⟨_, h, by simp⟩
theorem find_run {w : Int} {L G : List Int} {q : List St} (h : lfind w L G = some q) : runS w L q = some G ∧ q.length ≤ 2 := by
  unfold lfind at h
  split at h
  · rename_i e; cases h; subst e; exact ⟨rfl, by simp⟩
  · split at h
    · rename_i s hs
      cases h
      refine ⟨?_, by simp⟩
      unfold runS
      rw [one_some hs]; rfl
    · obtain ⟨⟨s, B⟩, hm, h2⟩ := List.exists_of_findSome?_eq_some h
      rw [Option.map_eq_some_iff] at h2
      obtain ⟨s2, h3, rfl⟩ := h2
      refine ⟨?_, by simp⟩
      unfold runS
      rw [cand_mem hm]
      show runS w B [s2] = some G
      unfold runS
      rw [one_some h3]; rfl
end M_ropebook_k36_papers_of_braids

set_option Elab.async false
set_option linter.all false
set_option maxRecDepth 100000
set_option maxHeartbeats 1000000
namespace M_ropebook_k36_papers_of_braids
open M PySem L2

/-! ### six tries of a step -/
def st4 (a b c : Int) : St := if a = 0 then .sw (b - 1) else if a = 1 then .th (b - 1) else if a = 2 then .ou (b - 1) else .ins (b - 1) (c - 4)
theorem at4 {a b c : Int} (h0 : 0 ≤ a) (h1 : a < 4) : atI [PV.tup [.str ("swap" : Str), .int (b - 1)], .tup [.str ("three" : Str), .int (b - 1)], .tup [.str ("out" : Str), .int (b - 1)], .tup [.str ("in" : Str), .int (b - 1), .int (c - 4)]] a = some (sPV (st4 a b c)) := by
  have : a = 0 ∨ a = 1 ∨ a = 2 ∨ a = 3 := by omega
  rcases this with rfl | rfl | rfl | rfl <;> rfl
theorem try_body {w c1 k a b c : Int} {L : List Int} (o0 o1 : Option Slot) (o7 o8 o9 o10 o11 o12 o13 o14 o15 o16 o6 : Option Slot) (sc : PV) (hw : 2 ≤ w) (hw2 : w ≤ 4) (hl : L.length ≤ 4) (hv : Vb w L) (h1 : F_law_cell [sc, .int 1] = .ok (8, .int c1)) (hk : 0 ≤ k ∧ k < 6)
    (dr : F_law_draw [.int ((c1.natAbs : Int) + 17 * k), .lst [.int 4, .int 7, .int 9]] = .ok (9, .lst [.int a, .int b, .int c])) (ha : 0 ≤ a ∧ a < 4) (f11 : frB o11 = true) (f12 : frB o12 = true) (f13 : frB o13 = true) :
    ∃ o13', frB o13' = true ∧ w_law_5 [sl 0 sc, o1, sl 8 (.int w), sl 0 (IL L), sl 9 (SL (lall w L)), sl (itD (.int k)) (.int k), o6, o7, o8, o9, o10, o11, o12, o13, o14, o15, o16] = .ok (.nx [sl 0 sc, o1, sl 8 (.int w), sl 0 (IL L), sl 9 (SL (lall w L)), sl (itD (.int k)) (.int k), o6, o7, o8, o9, o10, sl 9 (.lst [.int a, .int b, .int c]), sl 8 (sPV (st4 a b c)), o13', o14, o15, o16]) := by
  have km : cMul 17 k = true := mul_ok (.inl (by omega))
  have b0 : ∀ p q r : PV, atI [p, q, r] 0 = some p := fun _ _ _ => rfl
  have b1 : ∀ p q r : PV, atI [p, q, r] 1 = some q := fun _ _ _ => rfl
  have b2 : ∀ p q r : PV, atI [p, q, r] 2 = some r := fun _ _ _ => rfl
  have s1 : mAsg (.nm 11) (mCallE 2 F_law_draw (mCons (mBin gAdd (mFn gAbs (mCons (mCall 2 F_law_cell (mCons (mV 0) (mCons (mC (.int 1)) mNil))) mNil)) (mBin gMul (mC (.int 17)) (mV 5))) (mCons (mOfF (mLst (mCons (mC (.int 4)) (mCons (mC (.int 7)) (mCons (mC (.int 9)) mNil))))) mNil))) [sl 0 sc, o1, sl 8 (.int w), sl 0 (IL L), sl 9 (SL (lall w L)), sl (itD (.int k)) (.int k), o6, o7, o8, o9, o10, o11, o12, o13, o14, o15, o16] = .ok (.nx [sl 0 sc, o1, sl 8 (.int w), sl 0 (IL L), sl 9 (SL (lall w L)), sl (itD (.int k)) (.int k), o6, o7, o8, o9, o10, sl 9 (.lst [.int a, .int b, .int c]), o12, o13, o14, o15, o16]) := by
    simp [h1, km, dr, f11]
  rw [w_law_5, seq_nx s1]
  have x4 := at4 (b := b) (c := c) ha.1 ha.2
  have sf := s_flat (st4 a b c)
  generalize st4 a b c = s at x4 sf ⊢
  have s2 : mAsg (.nm 12) (mFlat (mBin gIxL (mOfF (mLst (mCons (mTup (mCons (mC (.str ("swap" : PySem.Str))) (mCons (mBin gSub (mBin gIxL (mV 11) (mC (.int 1))) (mC (.int 1))) mNil))) (mCons (mTup (mCons (mC (.str ("three" : PySem.Str))) (mCons (mBin gSub (mBin gIxL (mV 11) (mC (.int 1))) (mC (.int 1))) mNil))) (mCons (mTup (mCons (mC (.str ("out" : PySem.Str))) (mCons (mBin gSub (mBin gIxL (mV 11) (mC (.int 1))) (mC (.int 1))) mNil))) (mCons (mTup (mCons (mC (.str ("in" : PySem.Str))) (mCons (mBin gSub (mBin gIxL (mV 11) (mC (.int 1))) (mC (.int 1))) (mCons (mBin gSub (mBin gIxL (mV 11) (mC (.int 2))) (mC (.int 4))) mNil)))) mNil)))))) (mBin gIxL (mV 11) (mC (.int 0))))) [sl 0 sc, o1, sl 8 (.int w), sl 0 (IL L), sl 9 (SL (lall w L)), sl (itD (.int k)) (.int k), o6, o7, o8, o9, o10, sl 9 (.lst [.int a, .int b, .int c]), o12, o13, o14, o15, o16] = .ok (.nx [sl 0 sc, o1, sl 8 (.int w), sl 0 (IL L), sl 9 (SL (lall w L)), sl (itD (.int k)) (.int k), o6, o7, o8, o9, o10, sl 9 (.lst [.int a, .int b, .int c]), sl 8 (sPV s), o13, o14, o15, o16]) := by
    simp [b0, b1, b2, x4, sf, f12]
  rw [seq_nx s2]
  have s3 : mAsg (.nm 13) (mFlat (mTup (mCons (mC (.str ("step" : PySem.Str))) (mCons (mC (.int 0)) mNil)))) [sl 0 sc, o1, sl 8 (.int w), sl 0 (IL L), sl 9 (SL (lall w L)), sl (itD (.int k)) (.int k), o6, o7, o8, o9, o10, sl 9 (.lst [.int a, .int b, .int c]), sl 8 (sPV s), o13, o14, o15, o16] = .ok (.nx [sl 0 sc, o1, sl 8 (.int w), sl 0 (IL L), sl 9 (SL (lall w L)), sl (itD (.int k)) (.int k), o6, o7, o8, o9, o10, sl 9 (.lst [.int a, .int b, .int c]), sl 8 (sPV s), sl 8 (.tup [.str ("step" : Str), .int 0]), o14, o15, o16]) := by
    simp [f13]
  rw [seq_nx s3]
  have ins := in_steps s (lall w L)
  have st := stepped_ok (w := w) (L := L) s (by omega)
  have lf : gList [IL L] = some (L.map .int) := rfl
  cases hs : stp w L s with
  | none =>
    have nm : ¬ s ∈ lall w L := fun z => by have := (mem_lall s).1 z; rw [hs] at this; cases this
    rw [decide_eq_false nm] at ins
    rw [hs] at st
    have tn := told_none (by omega) (by omega) (by omega) hv st
    have gn : gNe (.tup [.str ("step" : Str), .int 0]) (.tup [.str ("step" : Str), .int 0]) = some (.bl false) := by kernel_rfl
    refine ⟨sl 8 (.tup [.str ("step" : Str), .int 0]), rfl, ?_⟩
    generalize gInD false = GI at *
    generalize gNe = GN at *
    simp [ins, tn, gn]
  | some B =>
    have nm : s ∈ lall w L := (mem_lall s).2 (by rw [hs]; rfl)
    rw [decide_eq_true nm] at ins
    rw [hs] at st
    obtain ⟨d, ts⟩ := told_some (by omega) (by omega) (by omega) hv st
    have ls := lstepped_ok (by omega) hs
    have gn := gNe_same (val_ints B)
    refine ⟨sl 8 (.tup [.str ("value" : Str), IL B]), rfl, ?_⟩
    generalize gInD false = GI at *
    generalize gNe = GN at *
    simp [ins, ts, gn, ls]
theorem try_loop {w c1 : Int} {L : List Int} (o1 : Option Slot) (o7 o8 o9 o10 o14 o15 o16 o6 : Option Slot) (sc : PV) (hw : 2 ≤ w) (hw2 : w ≤ 4) (hl : L.length ≤ 4) (hv : Vb w L) (h1 : F_law_cell [sc, .int 1] = .ok (8, .int c1)) : ∀ (m : Nat) (j : Int) (o5 o11 o12 o13 : Option Slot), 0 ≤ j → j + m ≤ 6 → frB o5 = true → frB o11 = true → frB o12 = true → frB o13 = true →
    ∃ o5' o11' o12' o13', frB o5' = true ∧ frB o11' = true ∧ frB o12' = true ∧ frB o13' = true ∧ loopF (.nm 5) w_law_5 (rngs j m) [sl 0 sc, o1, sl 8 (.int w), sl 0 (IL L), sl 9 (SL (lall w L)), o5, o6, o7, o8, o9, o10, o11, o12, o13, o14, o15, o16] = .ok (.nx [sl 0 sc, o1, sl 8 (.int w), sl 0 (IL L), sl 9 (SL (lall w L)), o5', o6, o7, o8, o9, o10, o11', o12', o13', o14, o15, o16])
  | 0, j, o5, o11, o12, o13, _, _, f5, f11, f12, f13 => ⟨o5, o11, o12, o13, f5, f11, f12, f13, by rw [rngs_zero, loopF]⟩
  | m + 1, j, o5, o11, o12, o13, h0, h6, f5, f11, f12, f13 => by
    obtain ⟨rs, dr, dl, dv⟩ := draw_ok ((c1.natAbs : Int) + 17 * j) [4, 7, 9] (by simp) (by simp)
    have v0 := dv 0 (by rw [dl]; simp) (by simp)
    obtain ⟨a, b, c, rfl⟩ : ∃ a b c, rs = [a, b, c] := by
      match rs, dl with
      | [a, b, c], _ => exact ⟨a, b, c, rfl⟩
    simp only [List.getElem_cons_zero] at v0
    obtain ⟨o13', g13, bd⟩ := try_body (k := j) (o0 := none) o1 o7 o8 o9 o10 o11 o12 o13 o14 o15 o16 o6 sc hw hw2 hl hv h1 ⟨h0, by omega⟩ dr v0 f11 f12 f13
    obtain ⟨o5', o11', o12', o13'', g5, g11, g12, g13', q⟩ := try_loop o1 o7 o8 o9 o10 o14 o15 o16 o6 sc hw hw2 hl hv h1 m (j + 1) (sl (itD (.int j)) (.int j)) (sl 9 (.lst [.int a, .int b, .int c])) (sl 8 (sPV (st4 a b c))) o13' (by omega) (by omega) rfl rfl rfl g13
    refine ⟨o5', o11', o12', o13'', g5, g11, g12, g13', ?_⟩
    rw [rngs_succ, loop_cons]
    have s5 : setT (.nm 5) (itD (.int j)) (.int j) [sl 0 sc, o1, sl 8 (.int w), sl 0 (IL L), sl 9 (SL (lall w L)), o5, o6, o7, o8, o9, o10, o11, o12, o13, o14, o15, o16] = some [sl 0 sc, o1, sl 8 (.int w), sl 0 (IL L), sl 9 (SL (lall w L)), sl (itD (.int j)) (.int j), o6, o7, o8, o9, o10, o11, o12, o13, o14, o15, o16] := by simp [f5]
    rw [s5]
    dsimp only
    rw [bd]
    exact q
/-! ### the other braid -/
def Rch (w : Int) (L : List Int) : Nat → List Int → Prop
  | 0, G => G = L
  | n + 1, G => ∃ M s, Rch w L n M ∧ (s, G) ∈ cand w M
theorem cand_of {w : Int} {L B : List Int} {s : St} (h : stp w L s = some B) : (s, B) ∈ cand w L := by
  unfold cand
  rw [List.mem_filterMap]
  have : s ∈ lall w L := (mem_lall s).2 (by rw [h]; rfl)
  rw [lall_filter, List.mem_filter] at this
  exact ⟨s, this.1, by rw [h]; rfl⟩
theorem other_loop {w c3 : Int} {L : List Int} (o1 o3 o4 o7 o8 o9 o10 o11 o12 o13 o15 o16 : Option Slot) (sc : PV) (hw : 2 ≤ w) (hw2 : w ≤ 4) (h3 : F_law_cell [sc, .int 3] = .ok (8, .int c3)) : ∀ (m : Nat) (j : Int) (G : List Int) (d6 n : Nat) (o5 o14 : Option Slot), 0 ≤ j → j + m ≤ 10 → Rch w L n G → Vb w G → G.length + 2 * m ≤ 30 → frB o5 = true → frB o14 = true →
    ∃ G' d' o5' o14', Rch w L (n + m) G' ∧ Vb w G' ∧ G'.length ≤ G.length + 2 * m ∧ frB o5' = true ∧ frB o14' = true ∧ loopF (.nm 5) w_law_4 (rngs j m) [sl 0 sc, o1, sl 8 (.int w), o3, o4, o5, sl d6 (IL G), o7, o8, o9, o10, o11, o12, o13, o14, o15, o16] = .ok (.nx [sl 0 sc, o1, sl 8 (.int w), o3, o4, o5', sl d' (IL G'), o7, o8, o9, o10, o11, o12, o13, o14', o15, o16])
  | 0, j, G, d6, n, o5, o14, _, _, r, v, l, f5, f14 => ⟨G, d6, o5, o14, r, v, by omega, f5, f14, by rw [rngs_zero, loopF]⟩
  | m + 1, j, G, d6, n, o5, o14, h0, h10, r, v, l, f5, f14 => by
    have ls := lsteps_ok (w := w) (L := G) (by omega) (by omega) (by omega)
    have pos : 0 < (lall w G).length := by
      have : St.ins 0 1 ∈ lall w G := by
        rw [mem_lall, stp_in, if_pos ⟨by omega, by omega, by omega, by show ((1 : Int).natAbs : Int) < w; omega⟩]; rfl
      exact List.length_pos_of_mem this
    have rr := fm_lt (a := c3 + 11 * j) (b := ((lall w G).length : Int)) (by omega)
    obtain ⟨i, hi⟩ : ∃ i : Nat, (c3 + 11 * j).fmod ((lall w G).length : Int) = i := ⟨((c3 + 11 * j).fmod ((lall w G).length : Int)).toNat, by omega⟩
    have hil : i < (lall w G).length := by omega
    have at1 : atI ((lall w G).map sPV) ((c3 + 11 * j).fmod ((lall w G).length : Int)) = some (sPV (lall w G)[i]) := atI_of hi (by simp [hil])
    have hm := (mem_lall (w := w) (L := G) (lall w G)[i]).1 (List.getElem_mem hil)
    obtain ⟨B, hB⟩ := Option.isSome_iff_exists.1 hm
    have lst := lstepped_ok (by omega) hB
    obtain ⟨vB, lB, _⟩ := stp_ok v hB
    obtain ⟨G', d', o5', o14', r', v', l', g5, g14, q⟩ := other_loop (L := L) o1 o3 o4 o7 o8 o9 o10 o11 o12 o13 o15 o16 sc hw hw2 h3 m (j + 1) B 9 (n + 1) (sl (itD (.int j)) (.int j)) (sl 9 (SL (lall w G))) (by omega) (by omega) ⟨G, _, r, cand_of hB⟩ vB (by omega) rfl rfl
    refine ⟨G', d', o5', o14', by rw [show n + (m + 1) = n + 1 + m by omega]; exact r', v', by omega, g5, g14, ?_⟩
    rw [rngs_succ, loop_cons]
    have s5 : setT (.nm 5) (itD (.int j)) (.int j) [sl 0 sc, o1, sl 8 (.int w), o3, o4, o5, sl d6 (IL G), o7, o8, o9, o10, o11, o12, o13, o14, o15, o16] = some [sl 0 sc, o1, sl 8 (.int w), o3, o4, sl (itD (.int j)) (.int j), sl d6 (IL G), o7, o8, o9, o10, o11, o12, o13, o14, o15, o16] := by simp [f5]
    rw [s5]
    dsimp only
    have cm : ∀ x, cMod x ((lall w G).length : Int) = true := fun x => mod_ok (by omega)
    have km : cMul 11 j = true := mul_ok (.inl (by omega))
    have sf := ss_flat (lall w G)
    have body : w_law_4 [sl 0 sc, o1, sl 8 (.int w), o3, o4, sl (itD (.int j)) (.int j), sl d6 (IL G), o7, o8, o9, o10, o11, o12, o13, o14, o15, o16] = .ok (.nx [sl 0 sc, o1, sl 8 (.int w), o3, o4, sl (itD (.int j)) (.int j), sl 9 (IL B), o7, o8, o9, o10, o11, o12, o13, sl 9 (SL (lall w G)), o15, o16]) := by
      rw [w_law_4]
      have t1 : mAsg (.nm 14) (mCallE 2 F_law_all_steps (mCons (mV 2) (mCons (mV 6) mNil))) [sl 0 sc, o1, sl 8 (.int w), o3, o4, sl (itD (.int j)) (.int j), sl d6 (IL G), o7, o8, o9, o10, o11, o12, o13, o14, o15, o16] = .ok (.nx [sl 0 sc, o1, sl 8 (.int w), o3, o4, sl (itD (.int j)) (.int j), sl d6 (IL G), o7, o8, o9, o10, o11, o12, o13, sl 9 (SL (lall w G)), o15, o16]) := by
        simp [ls, sf, f14]
      rw [seq_nx t1]
      generalize (lall w G)[i] = s at at1 lst
      have ln : ((lall w G).map sPV).length = (lall w G).length := List.length_map _
      simp [h3, km, cm, at1, lst]
    rw [body]
    exact q
end M_ropebook_k36_papers_of_braids

set_option Elab.async false
set_option linter.all false
set_option maxRecDepth 100000
set_option maxHeartbeats 1000000
namespace M_ropebook_k36_papers_of_braids
open M PySem L2

abbrev Row := List St × List Int
def rPV (r : Row) : PV := .tup [SL r.1, IL r.2]
abbrev RL (rows : List Row) : PV := .lst (rows.map rPV)
def fPV : Option (List St) → PV
  | none => .non
  | some q => SL q
def fnd (G : List Int) (rows : List Row) : Option (List St) → Option (List St)
  | some q => some q
  | none => (rows.find? fun r => decide (r.2 = G)).map (·.1)
theorem r_hgt (r : Row) : hgt (rPV r) = 1 := by
  have := ss_flat r.1
  simp [rPV, this]
theorem rs_hgt : ∀ l : List Row, hgts (l.map rPV) ≤ 1
  | [] => by simp
  | r :: l => by rw [List.map_cons, ev_hCons, r_hgt]; have := rs_hgt l; omega
theorem rows_loop {G : List Int} (o0 o1 o2 o3 o4 o5 o7 o9 o10 o11 o12 o13 o14 o16 : Option Slot) (d6 : Nat) : ∀ (rows : List Row) (f : Option (List St)) (df : Nat) (o15 : Option Slot), frB o15 = true →
    ∃ df' o15', frB o15' = true ∧ loopF (.nm 15) w_law_2 (rows.map rPV) [o0, o1, o2, o3, o4, o5, sl d6 (IL G), o7, sl df (fPV f), o9, o10, o11, o12, o13, o14, o15, o16] = .ok (.nx [o0, o1, o2, o3, o4, o5, sl d6 (IL G), o7, sl df' (fPV (fnd G rows f)), o9, o10, o11, o12, o13, o14, o15', o16])
  | [], f, df, o15, f15 => ⟨df, o15, f15, by rw [List.map_nil, loopF]; cases f <;> rfl⟩
  | r :: rows, f, df, o15, f15 => by
    rw [List.map_cons, loop_cons]
    have iz : itD (rPV r) = 0 := by unfold itD; rw [if_neg (by rw [r_hgt]; omega)]
    have s15 : setT (.nm 15) (itD (rPV r)) (rPV r) [o0, o1, o2, o3, o4, o5, sl d6 (IL G), o7, sl df (fPV f), o9, o10, o11, o12, o13, o14, o15, o16] = some [o0, o1, o2, o3, o4, o5, sl d6 (IL G), o7, sl df (fPV f), o9, o10, o11, o12, o13, o14, sl 0 (rPV r), o16] := by rw [iz]; simp [f15]
    rw [s15]
    dsimp only
    have eq := eq_ints r.2 G
    have a0 : ∀ p q : PV, atI [p, q] 0 = some p := fun _ _ => rfl
    have a1 : ∀ p q : PV, atI [p, q] 1 = some q := fun _ _ => rfl
    cases f with
    | some q =>
      have body : w_law_2 [o0, o1, o2, o3, o4, o5, sl d6 (IL G), o7, sl df (fPV (some q)), o9, o10, o11, o12, o13, o14, sl 0 (rPV r), o16] = .ok (.nx [o0, o1, o2, o3, o4, o5, sl d6 (IL G), o7, sl df (fPV (some q)), o9, o10, o11, o12, o13, o14, sl 0 (rPV r), o16]) := by
        simp [w_law_2, fPV]
      rw [body]
      exact rows_loop o0 o1 o2 o3 o4 o5 o7 o9 o10 o11 o12 o13 o14 o16 d6 rows (some q) df (sl 0 (rPV r)) rfl
    | none =>
      by_cases h : r.2 = G
      · have body : w_law_2 [o0, o1, o2, o3, o4, o5, sl d6 (IL G), o7, sl df (fPV none), o9, o10, o11, o12, o13, o14, sl 0 (rPV r), o16] = .ok (.nx [o0, o1, o2, o3, o4, o5, sl d6 (IL G), o7, sl 0 (fPV (some r.1)), o9, o10, o11, o12, o13, o14, sl 0 (rPV r), o16]) := by
          rw [decide_eq_true h] at eq
          rw [w_law_2]
          have t : mAnd (mTst (mBin gIsN (mV 8) (mC .non))) (mTst (mBin gEq (mBin gIxT (mV 15) (mC (.int 1))) (mV 6))) [o0, o1, o2, o3, o4, o5, sl d6 (IL G), o7, sl df (fPV none), o9, o10, o11, o12, o13, o14, sl 0 (rPV r), o16] = .ok true := by
            generalize gEq = GE at *
            simp [fPV, rPV, a1, eq]
          rw [ev_mIfS, t, ev_liftT, if_pos rfl]
          have k : mFrzIx 15 (mC (.int 0)) [o0, o1, o2, o3, o4, o5, sl d6 (IL G), o7, sl df (fPV none), o9, o10, o11, o12, o13, o14, sl 0 (rPV r), o16] = .ok ((0, SL r.1), [o0, o1, o2, o3, o4, o5, sl d6 (IL G), o7, sl df (fPV none), o9, o10, o11, o12, o13, o14, sl 0 (rPV r), o16]) := rfl
          rw [ev_mAsg, k]
          simp [fPV]
        rw [body]
        obtain ⟨df', o15', g, q⟩ := rows_loop (G := G) o0 o1 o2 o3 o4 o5 o7 o9 o10 o11 o12 o13 o14 o16 d6 rows (some r.1) 0 (sl 0 (rPV r)) rfl
        refine ⟨df', o15', g, ?_⟩
        have e : fnd G (r :: rows) none = fnd G rows (some r.1) := by
          show ((r :: rows).find? fun r => decide (r.2 = G)).map (·.1) = some r.1
          rw [List.find?_cons, decide_eq_true h]; rfl
        rw [e]
        exact q
      · have body : w_law_2 [o0, o1, o2, o3, o4, o5, sl d6 (IL G), o7, sl df (fPV none), o9, o10, o11, o12, o13, o14, sl 0 (rPV r), o16] = .ok (.nx [o0, o1, o2, o3, o4, o5, sl d6 (IL G), o7, sl df (fPV none), o9, o10, o11, o12, o13, o14, sl 0 (rPV r), o16]) := by
          rw [decide_eq_false h] at eq
          rw [w_law_2]
          have t : mAnd (mTst (mBin gIsN (mV 8) (mC .non))) (mTst (mBin gEq (mBin gIxT (mV 15) (mC (.int 1))) (mV 6))) [o0, o1, o2, o3, o4, o5, sl d6 (IL G), o7, sl df (fPV none), o9, o10, o11, o12, o13, o14, sl 0 (rPV r), o16] = .ok false := by
            generalize gEq = GE at *
            simp [fPV, rPV, a1, eq]
          rw [ev_mIfS, t, ev_liftT]; rfl
        rw [body]
        obtain ⟨df', o15', g, q⟩ := rows_loop (G := G) o0 o1 o2 o3 o4 o5 o7 o9 o10 o11 o12 o13 o14 o16 d6 rows none df (sl 0 (rPV r)) rfl
        refine ⟨df', o15', g, ?_⟩
        have e : fnd G (r :: rows) none = fnd G rows none := by
          show ((r :: rows).find? fun r => decide (r.2 = G)).map (·.1) = (rows.find? fun r => decide (r.2 = G)).map (·.1)
          rw [List.find?_cons, decide_eq_false h]
        rw [e]
        exact q
/-- the rows one step longer -/
def nxt (w : Int) (r : Row) : List Row := (cand w r.2).map fun e => (r.1 ++ [e.1], e.2)
theorem compN_list {t : Tg} {me : MP PV} {env : LEnv} {α : Type} {f g : α → PV} : ∀ {l : List α}, (∀ a ∈ l, ∃ e, setT t 0 (f a) env = some e ∧ me e = .ok (g a)) → compN t mYes me env (l.map f) = some (l.map g)
  | [], _ => by rw [List.map_nil, compN]; rfl
  | a :: l, h => by
    obtain ⟨e, h1, h2⟩ := h a List.mem_cons_self
    rw [List.map_cons, compN, h1]
    simp only [Option.bind_some, ev_mYes, noX, if_true, h2, compN_list (fun b hb => h b (List.mem_cons_of_mem _ hb)), Option.map_some, List.map_cons]
theorem cand_bound {w : Int} {M : List Int} (hw : 1 ≤ w) (hw2 : w ≤ 4) (hM : M.length ≤ 20) : (cand w M).length ≤ 200 := Nat.le_trans (cand_len w M) (pall_bound hw hw2 hM)
theorem next_body {w : Int} (hw : 1 ≤ w) (hw2 : w ≤ 4) (o0 o1 o3 o4 o5 o6 o7 o8 o9 o10 o11 o12 o13 o14 : Option Slot) (r : Row) (acc : List Row) (d : Nat) (hr : r.2.length ≤ 20) (hp : r.1.length ≤ 10) (ha : acc.length + 200 ≤ 20000) :
    ∃ d', w_law_1 [o0, o1, sl 8 (.int w), o3, o4, o5, o6, o7, o8, o9, o10, o11, o12, o13, o14, sl 0 (rPV r), sl d (RL acc)] = .ok (.nx [o0, o1, sl 8 (.int w), o3, o4, o5, o6, o7, o8, o9, o10, o11, o12, o13, o14, sl 0 (rPV r), sl d' (RL (acc ++ nxt w r))]) := by
  have ls := lsteps_ok (w := w) (L := r.2) (by omega) (by omega) (by omega)
  have cb := cand_bound (M := r.2) hw hw2 hr
  have a0 : ∀ p q : PV, atI [p, q] 0 = some p := fun _ _ => rfl
  have a1 : ∀ p q : PV, atI [p, q] 1 = some q := fun _ _ => rfl
  have nl : (nxt w r).length = (cand w r.2).length := List.length_map _
  have comp : ∀ o16 : Option Slot, pComp [12] (.nm 12) (mIt itL (mCall 2 F_law_all_steps (mCons (mV 2) (mCons (mBin gIxT (mV 15) (mC (.int 1))) mNil)))) mYes (pTup (mCons (pNew (mBinF gCat (mBin gIxT (mV 15) (mC (.int 0))) (mOfF (mLst (mCons (mV 12) mNil))))) (mCons (pCall 2 F_law_stepped (mCons (mBin gIxT (mV 15) (mC (.int 1))) (mCons (mV 12) mNil))) mNil))) [o0, o1, sl 8 (.int w), o3, o4, o5, o6, o7, o8, o9, o10, o11, o12, o13, o14, sl 0 (rPV r), o16] = .ok (RL (nxt w r)) := by
    intro o16
    have it : mIt itL (mCall 2 F_law_all_steps (mCons (mV 2) (mCons (mBin gIxT (mV 15) (mC (.int 1))) mNil))) [o0, o1, sl 8 (.int w), o3, o4, o5, o6, o7, o8, o9, o10, o11, o12, o13, o14, sl 0 (rPV r), o16] = .ok ((cand w r.2).map fun e => sPV e.1) := by
      have e : (lall w r.2).map sPV = (cand w r.2).map fun e => sPV e.1 := by rw [cand_fst, List.map_map]; rfl
      rw [← e]
      simp [rPV, a1, ls]
    unfold pComp
    rw [it]
    have c : compN (.nm 12) mYes (pTup (mCons (pNew (mBinF gCat (mBin gIxT (mV 15) (mC (.int 0))) (mOfF (mLst (mCons (mV 12) mNil))))) (mCons (pCall 2 F_law_stepped (mCons (mBin gIxT (mV 15) (mC (.int 1))) (mCons (mV 12) mNil))) mNil))) (wipeE [o0, o1, sl 8 (.int w), o3, o4, o5, o6, o7, o8, o9, o10, o11, o12, o13, o14, sl 0 (rPV r), o16] [12]) ((cand w r.2).map fun e => sPV e.1) = some ((nxt w r).map rPV) := by
      unfold nxt
      rw [List.map_map]
      refine compN_list (f := fun e : St × List Int => sPV e.1) (g := fun e : St × List Int => rPV (r.1 ++ [e.1], e.2)) fun e he => ⟨[o0, o1, sl 8 (.int w), o3, o4, o5, o6, o7, o8, o9, o10, o11, sl 0 (sPV e.1), o13, o14, sl 0 (rPV r), o16], by simp [wipeE], ?_⟩
      have lst := lstepped_ok (w := w) (by omega) (cand_mem (s := e.1) (B := e.2) he)
      have z : r.1.length + 1 ≤ 16777216 := by omega
      have hf := ss_flat r.1
      have hs := s_flat e.1
      have y2 : ∀ p q : PV, M.sizeOk [p, q].length = true := fun _ _ => rfl
      simp [rPV, a0, a1, lst, z, hgts_app, hf, hs]
    simp only [ev_bind]
    rw [c]
    simp only [Option.bind_some]
    rw [if_pos (show M.sizeOk ((nxt w r).map rPV).length = true from by rw [List.length_map, nl]; exact sz_ok (by omega))]
    rfl
  have h1 := rs_hgt (nxt w r)
  have hh : hgt (RL (nxt w r)) ≤ 9 := by rw [ev_hLst]; omega
  have z : M.sizeOk (((acc.map rPV)).length + ((nxt w r).map rPV).length) = true := decide_eq_true (by rw [List.length_map, List.length_map, nl]; omega)
  refine ⟨0 - 1 + 1, ?_⟩
  rw [w_law_1, ev_mAsg, ev_mECat, ev_eMap, ev_mECons]
  have fz : mFrz 16 [o0, o1, sl 8 (.int w), o3, o4, o5, o6, o7, o8, o9, o10, o11, o12, o13, o14, sl 0 (rPV r), sl d (RL acc)] = .ok ((0, RL acc), [o0, o1, sl 8 (.int w), o3, o4, o5, o6, o7, o8, o9, o10, o11, o12, o13, o14, sl 0 (rPV r), sl 0 (RL acc)]) := by simp
  rw [fz]
  simp only [ev_bind]
  rw [ev_eMap, ev_mECons, ev_mN, comp]
  simp only [ev_lift]
  rw [if_pos hh]
  simp only [ev_bind, ev_mENil, ev_eMap]
  have gc : gCatE (min 0 (min 9 8), [RL acc, RL (nxt w r)]) = some (0 - 1 + 1, RL (acc ++ nxt w r)) := by
    rw [ev_gCatE, if_pos z]
    show some (0 - 1 + 1, PV.lst (acc.map rPV ++ (nxt w r).map rPV)) = some (0 - 1 + 1, PV.lst ((acc ++ nxt w r).map rPV))
    rw [List.map_append]
  simp only [gc]
  simp
theorem next_loop {w : Int} (hw : 1 ≤ w) (hw2 : w ≤ 4) (o0 o1 o3 o4 o5 o6 o7 o8 o9 o10 o11 o12 o13 o14 : Option Slot) : ∀ (rows acc : List Row) (d : Nat) (o15 : Option Slot), (∀ r ∈ rows, r.2.length ≤ 20 ∧ r.1.length ≤ 10) → acc.length + rows.length * 200 ≤ 19000 → frB o15 = true →
    ∃ d' o15', frB o15' = true ∧ loopF (.nm 15) w_law_1 (rows.map rPV) [o0, o1, sl 8 (.int w), o3, o4, o5, o6, o7, o8, o9, o10, o11, o12, o13, o14, o15, sl d (RL acc)] = .ok (.nx [o0, o1, sl 8 (.int w), o3, o4, o5, o6, o7, o8, o9, o10, o11, o12, o13, o14, o15', sl d' (RL (acc ++ rows.flatMap (nxt w)))])
  | [], acc, d, o15, _, _, f15 => ⟨d, o15, f15, by rw [List.map_nil, loopF]; simp⟩
  | r :: rows, acc, d, o15, hr, ha, f15 => by
    simp only [List.length_cons] at ha
    obtain ⟨r1, r2⟩ := hr r List.mem_cons_self
    obtain ⟨d', body⟩ := next_body hw hw2 o0 o1 o3 o4 o5 o6 o7 o8 o9 o10 o11 o12 o13 o14 r acc d r1 r2 (by omega)
    have nl : (nxt w r).length ≤ 200 := by unfold nxt; rw [List.length_map]; exact cand_bound hw hw2 r1
    obtain ⟨d'', o15', g, q⟩ := next_loop hw hw2 o0 o1 o3 o4 o5 o6 o7 o8 o9 o10 o11 o12 o13 o14 rows (acc ++ nxt w r) d' (sl 0 (rPV r)) (fun r' h' => hr r' (List.mem_cons_of_mem _ h')) (by simp; omega) rfl
    refine ⟨d'', o15', g, ?_⟩
    rw [List.map_cons, loop_cons]
    have iz : itD (rPV r) = 0 := by unfold itD; rw [if_neg (by rw [r_hgt]; omega)]
    have s15 : setT (.nm 15) (itD (rPV r)) (rPV r) [o0, o1, sl 8 (.int w), o3, o4, o5, o6, o7, o8, o9, o10, o11, o12, o13, o14, o15, sl d (RL acc)] = some [o0, o1, sl 8 (.int w), o3, o4, o5, o6, o7, o8, o9, o10, o11, o12, o13, o14, sl 0 (rPV r), sl d (RL acc)] := by rw [iz]; simp [f15]
    rw [s15]
    dsimp only
    rw [body]
    show loopF (.nm 15) w_law_1 (rows.map rPV) _ = _
    rw [q, List.flatMap_cons, List.append_assoc]
def nrows (w : Int) (rows : List Row) (f : Option (List St)) (k : Int) : List Row := if f = none ∧ k < 2 then rows.flatMap (nxt w) else []
/-- one length -/
theorem len_turn {w k : Int} {G : List Int} (hw : 1 ≤ w) (hw2 : w ≤ 4) (o0 o1 o3 o4 o5 o10 o11 o12 o13 o14 o15 o16 : Option Slot) (d6 d7 df : Nat) (rows : List Row) (f : Option (List St)) (hr : ∀ r ∈ rows, r.2.length ≤ 20 ∧ r.1.length ≤ 10) (hl : rows.length * 200 ≤ 19000 ∨ 2 ≤ k) (f15 : frB o15 = true) (f16 : frB o16 = true) :
    ∃ d7' df' o15', frB o15' = true ∧ w_law_3 [o0, o1, sl 8 (.int w), o3, o4, o5, sl d6 (IL G), sl d7 (RL rows), sl df (fPV f), sl (itD (.int k)) (.int k), o10, o11, o12, o13, o14, o15, o16] = .ok (.nx [o0, o1, sl 8 (.int w), o3, o4, o5, sl d6 (IL G), sl d7' (RL (nrows w rows (fnd G rows f) k)), sl df' (fPV (fnd G rows f)), sl (itD (.int k)) (.int k), o10, o11, o12, o13, o14, o15', none]) := by
  obtain ⟨df', o15', g15, q1⟩ := rows_loop (G := G) o0 o1 (sl 8 (.int w)) o3 o4 o5 (sl 0 (RL rows)) (sl (itD (.int k)) (.int k)) o10 o11 o12 o13 o14 o16 d6 rows f df o15 f15
  generalize fnd G rows f = f' at q1 ⊢
  have s1 : mForL (.nm 15) (mFrz 7) w_law_2 [o0, o1, sl 8 (.int w), o3, o4, o5, sl d6 (IL G), sl d7 (RL rows), sl df (fPV f), sl (itD (.int k)) (.int k), o10, o11, o12, o13, o14, o15, o16] = .ok (.nx [o0, o1, sl 8 (.int w), o3, o4, o5, sl d6 (IL G), sl 0 (RL rows), sl df' (fPV f'), sl (itD (.int k)) (.int k), o10, o11, o12, o13, o14, o15', o16]) := by
    rw [← q1]
    generalize w_law_2 = W
    simp
  have s2 : mAsg (.nm 16) (mNew (mLst mNil)) [o0, o1, sl 8 (.int w), o3, o4, o5, sl d6 (IL G), sl 0 (RL rows), sl df' (fPV f'), sl (itD (.int k)) (.int k), o10, o11, o12, o13, o14, o15', o16] = .ok (.nx [o0, o1, sl 8 (.int w), o3, o4, o5, sl d6 (IL G), sl 0 (RL rows), sl df' (fPV f'), sl (itD (.int k)) (.int k), o10, o11, o12, o13, o14, o15', sl 9 (RL [])]) := by simp [f16]
  by_cases hc : f' = none ∧ k < 2
  · obtain ⟨hf, hk⟩ := hc
    subst hf
    obtain ⟨d', o15'', g15', q2⟩ := next_loop hw hw2 o0 o1 o3 o4 o5 (sl d6 (IL G)) none (sl df' (fPV none)) (sl (itD (.int k)) (.int k)) o10 o11 o12 o13 o14 rows [] 9 o15' hr (by rcases hl with h | h; simpa using h; omega) g15
    have s3 : mIfS (mAnd (mTst (mBin gIsN (mV 8) (mC .non))) (mTst (mBin gLt (mV 9) (mC (.int 2))))) (mForL (.nm 15) (mMove 7) w_law_1) mSkip [o0, o1, sl 8 (.int w), o3, o4, o5, sl d6 (IL G), sl 0 (RL rows), sl df' (fPV none), sl (itD (.int k)) (.int k), o10, o11, o12, o13, o14, o15', sl 9 (RL [])] = .ok (.nx [o0, o1, sl 8 (.int w), o3, o4, o5, sl d6 (IL G), none, sl df' (fPV none), sl (itD (.int k)) (.int k), o10, o11, o12, o13, o14, o15'', sl d' (RL ([] ++ rows.flatMap (nxt w)))]) := by
      rw [← q2]
      generalize w_law_1 = W
      simp [fPV, hk]
    refine ⟨d', df', o15'', g15', ?_⟩
    rw [w_law_3, seq_nx s1, seq_nx s2, seq_nx s3]
    have e : nrows w rows none k = [] ++ rows.flatMap (nxt w) := by unfold nrows; rw [if_pos ⟨rfl, hk⟩]; rfl
    rw [e]
    simp
  · have s3 : mIfS (mAnd (mTst (mBin gIsN (mV 8) (mC .non))) (mTst (mBin gLt (mV 9) (mC (.int 2))))) (mForL (.nm 15) (mMove 7) w_law_1) mSkip [o0, o1, sl 8 (.int w), o3, o4, o5, sl d6 (IL G), sl 0 (RL rows), sl df' (fPV f'), sl (itD (.int k)) (.int k), o10, o11, o12, o13, o14, o15', sl 9 (RL [])] = .ok (.nx [o0, o1, sl 8 (.int w), o3, o4, o5, sl d6 (IL G), sl 0 (RL rows), sl df' (fPV f'), sl (itD (.int k)) (.int k), o10, o11, o12, o13, o14, o15', sl 9 (RL [])]) := by
      generalize w_law_1 = W
      cases f' with
      | some q => simp [fPV]
      | none =>
        have hk : ¬ k < 2 := fun z => hc ⟨rfl, z⟩
        simp [fPV, hk]
    refine ⟨9, df', o15', g15, ?_⟩
    rw [w_law_3, seq_nx s1, seq_nx s2, seq_nx s3]
    have e : nrows w rows f' k = [] := by unfold nrows; rw [if_neg hc]
    rw [e]
    simp
end M_ropebook_k36_papers_of_braids

set_option Elab.async false
set_option linter.all false
set_option maxRecDepth 100000
set_option maxHeartbeats 1000000
namespace M_ropebook_k36_papers_of_braids
open M PySem L2

/-! ### three lengths are enough -/
theorem nxt_find (w : Int) (r : Row) (G : List Int) : ((nxt w r).find? fun r => decide (r.2 = G)).map (·.1) = (one w r.2 G).map fun s => r.1 ++ [s] := by
  unfold nxt one
  rw [List.find?_map]
  rw [Option.map_map, Option.map_map]
  rfl
theorem nxts_find (w : Int) (G : List Int) : ∀ rows : List Row, ((rows.flatMap (nxt w)).find? fun r => decide (r.2 = G)).map (·.1) = rows.findSome? fun r => (one w r.2 G).map fun s => r.1 ++ [s]
  | [] => rfl
  | r :: rows => by
    rw [List.flatMap_cons, List.find?_append, List.findSome?_cons]
    have h1 := nxt_find w r G
    have h2 := nxts_find w G rows
    cases e : (nxt w r).find? fun r => decide (r.2 = G) with
    | some z => rw [e] at h1; rw [← h1]; rfl
    | none => rw [e] at h1; rw [← h1]; simpa using h2
def rows1 (w : Int) (L G : List Int) : List Row := nrows w [([], L)] (fnd G [([], L)] none) 0
def f1 (w : Int) (L G : List Int) : Option (List St) := fnd G (rows1 w L G) (fnd G [([], L)] none)
def rows2 (w : Int) (L G : List Int) : List Row := nrows w (rows1 w L G) (f1 w L G) 1
def f2 (w : Int) (L G : List Int) : Option (List St) := fnd G (rows2 w L G) (f1 w L G)
theorem f2_lfind (w : Int) (L G : List Int) : f2 w L G = lfind w L G := by
  unfold lfind
  by_cases h : L = G
  · rw [if_pos h]
    have e0 : fnd G [([], L)] none = some [] := by simp [fnd, h]
    unfold f2 f1
    rw [e0]; rfl
  · rw [if_neg h]
    have e0 : fnd G [([], L)] none = none := by simp [fnd, h]
    have r1 : rows1 w L G = nxt w ([], L) := by
      unfold rows1 nrows
      rw [e0, if_pos ⟨rfl, by omega⟩]
      simp
    have e1 : f1 w L G = (one w L G).map fun s => [s] := by
      unfold f1
      rw [e0, r1]
      exact nxt_find w ([], L) G
    cases ho : one w L G with
    | some s =>
      rw [ho] at e1
      unfold f2
      rw [e1]; rfl
    | none =>
      rw [ho] at e1
      have r2 : rows2 w L G = (nxt w ([], L)).flatMap (nxt w) := by
        unfold rows2 nrows
        rw [e1, if_pos ⟨rfl, by omega⟩, r1]
      unfold f2
      rw [e1, r2]
      show (((nxt w ([], L)).flatMap (nxt w)).find? fun r => decide (r.2 = G)).map (·.1) = _
      rw [nxts_find]
      unfold nxt
      rw [List.findSome?_map]
      rfl
theorem lfind_some {w : Int} {L G : List Int} : ∀ {n : Nat}, n ≤ 2 → Rch w L n G → ∃ q, lfind w L G = some q := by
  intro n hn h
  rw [← Option.isSome_iff_exists]
  unfold lfind
  by_cases e : L = G
  · rw [if_pos e]; rfl
  · rw [if_neg e]
    have : n = 0 ∨ n = 1 ∨ n = 2 := by omega
    cases ho : one w L G with
    | some s => rfl
    | none =>
      rcases this with rfl | rfl | rfl
      · exact absurd h.symm e
      · obtain ⟨M, s, rfl, hc⟩ := h
        have := one_of hc
        rw [ho] at this; cases this
      · obtain ⟨M2, s2, ⟨M, s, rfl, hc⟩, hc2⟩ := h
        show (List.findSome? _ _).isSome = true
        rw [List.findSome?_isSome_iff]
        exact ⟨(s, M2), hc, by rw [Option.isSome_map]; exact one_of hc2⟩
theorem nxt_in {w : Int} {r r' : Row} (hv : Vb w r.2) (h : r' ∈ nxt w r) : Vb w r'.2 ∧ r'.2.length ≤ r.2.length + 2 ∧ r'.1.length = r.1.length + 1 := by
  unfold nxt at h
  obtain ⟨⟨s, B⟩, he, rfl⟩ := List.mem_map.1 h
  obtain ⟨a, b, _⟩ := stp_ok hv (cand_mem he)
  exact ⟨a, b, by simp⟩
theorem rows1_in {w : Int} {L G : List Int} (hv : Vb w L) (r : Row) (h : r ∈ rows1 w L G) : Vb w r.2 ∧ r.2.length ≤ L.length + 2 ∧ r.1.length = 1 := by
  unfold rows1 nrows at h
  split at h
  · simp at h
    exact nxt_in hv h
  · cases h
theorem rows1_len {w : Int} {L G : List Int} (hw : 1 ≤ w) (hw2 : w ≤ 4) (hl : L.length ≤ 4) : (rows1 w L G).length ≤ 60 := by
  unfold rows1 nrows
  split
  · have e : ([([], L)] : List Row).flatMap (nxt w) = nxt w ([], L) := by simp
    rw [e]
    unfold nxt
    rw [List.length_map]
    refine Nat.le_trans (cand_len w L) ?_
    rw [pall_len]
    have : (L.length + 1) * (2 * (w - 1).toNat) ≤ 5 * 6 := Nat.mul_le_mul (by omega) (by omega)
    omega
  · simp
theorem rows2_in {w : Int} {L G : List Int} (hv : Vb w L) (r : Row) (h : r ∈ rows2 w L G) : Vb w r.2 ∧ r.2.length ≤ L.length + 4 ∧ r.1.length = 2 := by
  unfold rows2 nrows at h
  split at h
  · obtain ⟨r1, h1, h2⟩ := List.mem_flatMap.1 h
    obtain ⟨a, b, c⟩ := rows1_in hv r1 h1
    obtain ⟨a2, b2, c2⟩ := nxt_in a h2
    exact ⟨a2, by omega, by omega⟩
  · cases h
theorem cont_nx (e : LEnv) (f : MS) : contR (.ok (.nx e)) f = f e := rfl
theorem it_int (k : Int) : itD (.int k) = 8 := rfl
/-- the three lengths -/
theorem len_loop {w : Int} {L G : List Int} (hw : 1 ≤ w) (hw2 : w ≤ 4) (hl : L.length ≤ 4) (hv : Vb w L) (o0 o1 o3 o4 o5 o9 o10 o11 o12 o13 o14 o15 o16 : Option Slot) (d6 d7 df : Nat) (f9 : frB o9 = true) (f15 : frB o15 = true) (f16 : frB o16 = true) :
    ∃ d7' df' o15' rows, frB o15' = true ∧ loopF (.nm 9) w_law_3 (rngs 0 3) [o0, o1, sl 8 (.int w), o3, o4, o5, sl d6 (IL G), sl d7 (RL [([], L)]), sl df (fPV none), o9, o10, o11, o12, o13, o14, o15, o16] = .ok (.nx [o0, o1, sl 8 (.int w), o3, o4, o5, sl d6 (IL G), sl d7' (RL rows), sl df' (fPV (lfind w L G)), sl 8 (.int 2), o10, o11, o12, o13, o14, o15', none]) := by
  obtain ⟨da, fa, oa, ga, ta⟩ := len_turn (w := w) (k := 0) (G := G) hw hw2 o0 o1 o3 o4 o5 o10 o11 o12 o13 o14 o15 o16 d6 d7 df [([], L)] none (fun r h => by rw [List.mem_singleton] at h; subst h; exact ⟨by show L.length ≤ 20; omega, by simp⟩) (.inl (by simp)) f15 f16
  have l1 := rows1_len (G := G) hw hw2 hl
  obtain ⟨db, fb, ob, gb, tb⟩ := len_turn (w := w) (k := 1) (G := G) hw hw2 o0 o1 o3 o4 o5 o10 o11 o12 o13 o14 oa none d6 da fa (rows1 w L G) (fnd G [([], L)] none) (fun r h => by have := rows1_in hv r h; omega) (.inl (by omega)) ga rfl
  obtain ⟨dc, fc, oc, gc, tc⟩ := len_turn (w := w) (k := 2) (G := G) hw hw2 o0 o1 o3 o4 o5 o10 o11 o12 o13 o14 ob none d6 db fb (rows2 w L G) (f1 w L G) (fun r h => by have := rows2_in hv r h; omega) (.inr (by omega)) gb rfl
  rw [it_int] at ta tb tc
  refine ⟨dc, fc, oc, nrows w (rows2 w L G) (fnd G (rows2 w L G) (f1 w L G)) 2, gc, ?_⟩
  have e : rngs 0 3 = [.int 0, .int 1, .int 2] := rfl
  rw [e, ← f2_lfind]
  have st : ∀ (k : Int) (o6 o7 o8 o9 o15 o16 : Option Slot), frB o9 = true → setT (.nm 9) (itD (.int k)) (.int k) [o0, o1, sl 8 (.int w), o3, o4, o5, o6, o7, o8, o9, o10, o11, o12, o13, o14, o15, o16] = some [o0, o1, sl 8 (.int w), o3, o4, o5, o6, o7, o8, sl 8 (.int k), o10, o11, o12, o13, o14, o15, o16] := fun k _ _ _ _ _ _ h => by rw [it_int]; simp [h]
  rw [loop_cons, st _ _ _ _ _ _ _ f9]
  dsimp only
  rw [ta]
  rw [cont_nx]
  rw [loop_cons, st _ _ _ _ _ _ _ rfl]
  dsimp only
  have tb' := tb
  unfold rows1 at tb'
  unfold rows1 at tb
  rw [tb']
  rw [cont_nx]
  rw [loop_cons, st _ _ _ _ _ _ _ rfl]
  dsimp only
  unfold rows2 f1 rows1 at tc
  rw [tc]
  unfold f2 rows2 f1 rows1
  rfl
theorem runS_app (w : Int) (s : St) : ∀ (q : List St) (L : List Int), runS w L (q ++ [s]) = (runS w L q).bind fun B => stp w B s
  | [], L => by
    show (stp w L s).bind (fun B => some B) = stp w L s
    cases stp w L s <;> rfl
  | a :: q, L => by
    show ((stp w L a).bind fun B => runS w B (q ++ [s])) = ((stp w L a).bind fun B => runS w B q).bind fun B => stp w B s
    cases stp w L a with
    | none => rfl
    | some B => exact runS_app w s q B
end M_ropebook_k36_papers_of_braids

set_option Elab.async false
set_option linter.all false
set_option maxRecDepth 100000
set_option maxHeartbeats 1000000
namespace M_ropebook_k36_papers_of_braids
open M PySem L2

theorem py_range (i : Int) : pyOk (.tup [.str ("range" : Str), .int i]) := by
  refine ⟨.tuple [.str ("range" : Str), .int i], rfl, ?_⟩
  unfold SeqAt.shaped
  simp [PyData.canLay0, PyData.canLayAll0, PyData.depth, PyData.depthAll]
  decide +kernel
theorem py_non : pyOk (.tup [.str ("value" : Str), .non]) := ⟨_, rfl, by decide +kernel⟩
theorem tup_hgt (q : List St) : hgt (.tup [.str ("value" : Str), SL q]) = 1 := by
  have := ss_flat q
  simp [this]
theorem law_true (ns : List Int) : ∃ d, F_law [.scr (ns.map .int)] = .ok (d, .bl true) := by
  obtain ⟨c0, h0⟩ := cell_ok ns 0
  obtain ⟨c1, h1⟩ := cell_ok ns 1
  obtain ⟨c2, h2⟩ := cell_ok ns 2
  obtain ⟨c3, h3⟩ := cell_ok ns 3
  have h0 : F_law_cell [.scr (ns.map .int), .int 0] = .ok (8, .int c0) := h0
  have h1 : F_law_cell [.scr (ns.map .int), .int 1] = .ok (8, .int c1) := h1
  have h2 : F_law_cell [.scr (ns.map .int), .int 2] = .ok (8, .int c2) := h2
  have h3 : F_law_cell [.scr (ns.map .int), .int 3] = .ok (8, .int c3) := h3
  obtain ⟨w, L, lb, hw, hw2, hl, hv⟩ := lbraid_ok (c0.natAbs : Int) (by omega)
  have a0 : ∀ p q : PV, atI [p, q] 0 = some p := fun _ _ => rfl
  have ls := lsteps_ok (w := w) (L := L) (by omega) (by omega) (by omega)
  have sf := ss_flat (lall w L)
  have k6 : rngOk 6 = true := rng_ok (by omega) (by omega)
  have k3 : rngOk 3 = true := rng_ok (by omega) (by omega)
  have cm : ∀ x, cMod x 3 = true := fun x => mod_ok (by omega)
  have r3 := fm_lt (a := c2) (b := 3) (by omega)
  obtain ⟨m, hm⟩ : ∃ m : Nat, c2.fmod 3 = m := ⟨(c2.fmod 3).toNat, by omega⟩
  rw [hm] at r3
  have km : rngOk (m : Int) = true := rng_ok (by omega) (by omega)
  suffices h : ∃ e, b_law [sl 0 (.scr (ns.map .int)), none, none, none, none, none, none, none, none, none, none, none, none, none, none, none, none] = .ok (.rt 8 (.bl true) e) by
    obtain ⟨e, h⟩ := h
    exact ⟨8, run_rt h⟩
  rw [b_law]
  have s0 : (mAsg (.nm 1) (mCallE 3 F_law_braid (mCons (mFn gAbs (mCons (mCall 2 F_law_cell (mCons (mV 0) (mCons (mC (.int 0)) mNil))) mNil)) (mCons (mC (.int 4)) (mCons (mC (.int 4)) mNil))))) [sl 0 (.scr (ns.map .int)), none, none, none, none, none, none, none, none, none, none, none, none, none, none, none, none] = .ok (.nx [sl 0 (.scr (ns.map .int)), sl 8 (.tup [.int w, IL L]), none, none, none, none, none, none, none, none, none, none, none, none, none, none, none]) := by
    generalize F_law_cell = FC at *
    generalize F_law_braid = FB at *
    simp [h0, lb]
  rw [seq_nx s0]
  clear s0
  have s1 : (mAsg (.nm 2) (mFlat (mBin gIxT (mV 1) (mC (.int 0))))) [sl 0 (.scr (ns.map .int)), sl 8 (.tup [.int w, IL L]), none, none, none, none, none, none, none, none, none, none, none, none, none, none, none] = .ok (.nx [sl 0 (.scr (ns.map .int)), sl 8 (.tup [.int w, IL L]), sl 8 (.int w), none, none, none, none, none, none, none, none, none, none, none, none, none, none]) := by
    simp [a0]
  rw [seq_nx s1]
  clear s1
  have s2 : (mAsg (.nm 3) (mFrzIx 1 (mC (.int 1)))) [sl 0 (.scr (ns.map .int)), sl 8 (.tup [.int w, IL L]), sl 8 (.int w), none, none, none, none, none, none, none, none, none, none, none, none, none, none] = .ok (.nx [sl 0 (.scr (ns.map .int)), sl 0 (.tup [.int w, IL L]), sl 8 (.int w), sl 0 (IL L), none, none, none, none, none, none, none, none, none, none, none, none, none]) := by
    have k : mFrzIx 1 (mC (.int 1)) [sl 0 (.scr (ns.map .int)), sl 8 (.tup [.int w, IL L]), sl 8 (.int w), none, none, none, none, none, none, none, none, none, none, none, none, none, none] = .ok ((0, IL L), [sl 0 (.scr (ns.map .int)), sl 0 (.tup [.int w, IL L]), sl 8 (.int w), none, none, none, none, none, none, none, none, none, none, none, none, none, none]) := rfl
    rw [ev_mAsg, k]
    simp
  rw [seq_nx s2]
  clear s2
  have s3 : (mAsg (.nm 4) (mCallE 2 F_law_all_steps (mCons (mV 2) (mCons (mV 3) mNil)))) [sl 0 (.scr (ns.map .int)), sl 0 (.tup [.int w, IL L]), sl 8 (.int w), sl 0 (IL L), none, none, none, none, none, none, none, none, none, none, none, none, none] = .ok (.nx [sl 0 (.scr (ns.map .int)), sl 0 (.tup [.int w, IL L]), sl 8 (.int w), sl 0 (IL L), sl 9 (SL (lall w L)), none, none, none, none, none, none, none, none, none, none, none, none]) := by
    generalize F_law_all_steps = FA at *
    simp [ls, sf]
  rw [seq_nx s3]
  clear s3
  obtain ⟨o5, o11, o12, o13, g5, g11, g12, g13, q⟩ := try_loop (w := w) (c1 := c1) (L := L) (sl 0 (.tup [.int w, IL L])) none none none none none none none none (.scr (ns.map .int)) hw hw2 hl hv h1 6 0 none none none none (by omega) (by omega) rfl rfl rfl rfl
  have s4 : (mForR1 (.nm 5) (mCons (mC (.int 6)) mNil)  w_law_5) [sl 0 (.scr (ns.map .int)), sl 0 (.tup [.int w, IL L]), sl 8 (.int w), sl 0 (IL L), sl 9 (SL (lall w L)), none, none, none, none, none, none, none, none, none, none, none, none] = .ok (.nx [sl 0 (.scr (ns.map .int)), sl 0 (.tup [.int w, IL L]), sl 8 (.int w), sl 0 (IL L), sl 9 (SL (lall w L)), o5, none, none, none, none, none, o11, o12, o13, none, none, none]) := by
    rw [← q]
    generalize w_law_5 = W
    simp [k6]
  rw [seq_nx s4]
  clear s4
  have s5 : (mAsg (.nm 6) (mFrz 3)) [sl 0 (.scr (ns.map .int)), sl 0 (.tup [.int w, IL L]), sl 8 (.int w), sl 0 (IL L), sl 9 (SL (lall w L)), o5, none, none, none, none, none, o11, o12, o13, none, none, none] = .ok (.nx [sl 0 (.scr (ns.map .int)), sl 0 (.tup [.int w, IL L]), sl 8 (.int w), sl 0 (IL L), sl 9 (SL (lall w L)), o5, sl 0 (IL L), none, none, none, none, o11, o12, o13, none, none, none]) := by
    simp
  rw [seq_nx s5]
  clear s5
  obtain ⟨G, d6, o5', o14, rch, hvg, hg, g5', g14, q2⟩ := other_loop (w := w) (c3 := c3) (L := L) (sl 0 (.tup [.int w, IL L])) (sl 0 (IL L)) (sl 9 (SL (lall w L))) none none none none o11 o12 o13 none none (.scr (ns.map .int)) hw hw2 h3 m 0 L 0 0 o5 none (by omega) (by omega) rfl hv (by omega) g5 rfl
  have s6 : (mForR1 (.nm 5) (mCons (mBin gMod (mFn gInt (mCons (mCall 2 F_law_cell (mCons (mV 0) (mCons (mC (.int 2)) mNil))) mNil)) (mC (.int 3))) mNil)  w_law_4) [sl 0 (.scr (ns.map .int)), sl 0 (.tup [.int w, IL L]), sl 8 (.int w), sl 0 (IL L), sl 9 (SL (lall w L)), o5, sl 0 (IL L), none, none, none, none, o11, o12, o13, none, none, none] = .ok (.nx [sl 0 (.scr (ns.map .int)), sl 0 (.tup [.int w, IL L]), sl 8 (.int w), sl 0 (IL L), sl 9 (SL (lall w L)), o5', sl d6 (IL G), none, none, none, none, o11, o12, o13, o14, none, none]) := by
    rw [← q2]
    generalize w_law_4 = W
    generalize F_law_cell = FC at *
    simp [h2, cm, hm, km]
  rw [seq_nx s6]
  clear s6
  have hg8 : G.length ≤ 8 := by omega
  have s7 : (mAsg (.nm 7) (mELst (mECons (mETup (mECons (mNew (mLst mNil)) (mECons (mFrz 3) mENil))) mENil))) [sl 0 (.scr (ns.map .int)), sl 0 (.tup [.int w, IL L]), sl 8 (.int w), sl 0 (IL L), sl 9 (SL (lall w L)), o5', sl d6 (IL G), none, none, none, none, o11, o12, o13, o14, none, none] = .ok (.nx [sl 0 (.scr (ns.map .int)), sl 0 (.tup [.int w, IL L]), sl 8 (.int w), sl 0 (IL L), sl 9 (SL (lall w L)), o5', sl d6 (IL G), sl 1 (RL [([], L)]), none, none, none, o11, o12, o13, o14, none, none]) := by
    simp [rPV]
  rw [seq_nx s7]
  clear s7
  have s8 : (mAsg (.nm 8) (mFlat (mC .non))) [sl 0 (.scr (ns.map .int)), sl 0 (.tup [.int w, IL L]), sl 8 (.int w), sl 0 (IL L), sl 9 (SL (lall w L)), o5', sl d6 (IL G), sl 1 (RL [([], L)]), none, none, none, o11, o12, o13, o14, none, none] = .ok (.nx [sl 0 (.scr (ns.map .int)), sl 0 (.tup [.int w, IL L]), sl 8 (.int w), sl 0 (IL L), sl 9 (SL (lall w L)), o5', sl d6 (IL G), sl 1 (RL [([], L)]), sl 8 .non, none, none, o11, o12, o13, o14, none, none]) := by
    simp
  rw [seq_nx s8]
  clear s8
  obtain ⟨d7, df, o15, rows, g15, q3⟩ := len_loop (w := w) (L := L) (G := G) (by omega) hw2 hl hv (sl 0 (.scr (ns.map .int))) (sl 0 (.tup [.int w, IL L])) (sl 0 (IL L)) (sl 9 (SL (lall w L))) o5' none none o11 o12 o13 o14 none none d6 1 8 rfl rfl rfl
  obtain ⟨q, lf⟩ := lfind_some (w := w) (L := L) (G := G) (n := 0 + m) (by omega) rch
  rw [lf] at q3
  have s9 : (mForR1 (.nm 9) (mCons (mC (.int 3)) mNil)  w_law_3) [sl 0 (.scr (ns.map .int)), sl 0 (.tup [.int w, IL L]), sl 8 (.int w), sl 0 (IL L), sl 9 (SL (lall w L)), o5', sl d6 (IL G), sl 1 (RL [([], L)]), sl 8 .non, none, none, o11, o12, o13, o14, none, none] = .ok (.nx [sl 0 (.scr (ns.map .int)), sl 0 (.tup [.int w, IL L]), sl 8 (.int w), sl 0 (IL L), sl 9 (SL (lall w L)), o5', sl d6 (IL G), sl d7 (RL rows), sl df (SL q), sl 8 (.int 2), none, o11, o12, o13, o14, o15, none]) := by
    refine Eq.trans ?_ q3
    generalize w_law_3 = W
    simp [k3, fPV]
  rw [seq_nx s9]
  clear s9
  obtain ⟨run, ql⟩ := find_run lf
  have sfq := ss_flat q
  obtain ⟨d, d1, bp⟩ := paper2_ok (by omega) hw2 (by omega) hv (by omega) hvg lf
  have hq : hgt (SL q) = 1 := by simp [sfq]
  obtain ⟨d10, tp, hd10⟩ := told_paper bp (by omega) (by omega)
  have n1 := gNe_same (val_steps q)
  have n2 := gNe_same py_non
  have n3 := gNe_same (py_range 7)
  have n4 := gNe_same (py_range (-1))
  have e1 : gEq (.tup [.str ("step" : Str), .int 0]) (.tup [.str ("step" : Str), .int 0]) = some (.bl true) := by kernel_rfl
  have p1 : F_check_braid_paper [.int w, IL L, IL G, SL q] = .ok (8, .bl true) := by
    have := paper_check (w := w) (L := L) (G := G) (r := q) (by omega) (by omega) (by omega) hv (by omega) hvg (by omega)
    rw [decide_eq_true run] at this
    exact this
  have v1 : ∀ A : List Int, Vb w A → Vb w (A ++ [1]) := fun A h x hx => by
    rcases List.mem_append.1 hx with hx | hx
    · exact h x hx
    · rw [List.mem_singleton] at hx; subst hx; exact ⟨by omega, by show ((1 : Int).natAbs : Int) < w; omega⟩
  have m1 : ∀ A : List Int, (A ++ [1]).map PV.int = A.map .int ++ [.int 1] := fun A => by simp
  have ne1 : ∀ A : List Int, A ≠ A ++ [1] := fun A h => by have := congrArg List.length h; simp at this
  have p2 : F_check_braid_paper [.int w, IL L, .lst (G.map .int ++ [.int 1]), SL q] = .ok (8, .bl false) := by
    have := paper_check (w := w) (L := L) (G := G ++ [1]) (r := q) (by omega) (by omega) (by omega) hv (by simp; omega) (v1 G hvg) (by omega)
    rw [decide_eq_false (by rw [run]; exact fun h => ne1 G (Option.some.inj h))] at this
    rw [← m1]
    exact this
  have p3 : F_check_braid_paper [.int w, IL L, IL G, .lst (q.map sPV ++ [.tup [.str ("out" : Str), .int 99]])] = .ok (8, .bl false) := by
    have := paper_check (w := w) (L := L) (G := G) (r := q ++ [.ou 99]) (by omega) (by omega) (by omega) hv (by omega) hvg (by simp; omega)
    rw [decide_eq_false (by rw [runS_app, run]; show ¬ stp w G (.ou 99) = some G; rw [stp_ou, if_neg (by omega)]; exact fun h => by cases h)] at this
    have mm : (q ++ [St.ou 99]).map sPV = q.map sPV ++ [.tup [.str ("out" : Str), .int 99]] := by rw [List.map_append]; rfl
    rw [← mm]
    exact this
  have z1 : G.length + 1 ≤ 16777216 := by omega
  have z2 : q.length + 1 ≤ 16777216 := by omega
  have z3 : L.length + 1 ≤ 16777216 := by omega
  have on : one w L (L ++ [1]) = none := by
    cases h : one w L (L ++ [1]) with
    | none => rfl
    | some s =>
      obtain ⟨_, _, par⟩ := stp_ok hv (one_some h)
      simp at par
      omega
  have b1 := paper1_none (w := w) (L := L) (G := L ++ [1]) (by omega) hw2 (by omega) hv (by simp; omega) (v1 L hv) (ne1 L) on
  obtain ⟨dn, t1', _⟩ := told_paper b1 (by simp) (by simp)
  have t1 : F_law_told [.int 1, .int w, IL L, .lst (L.map .int ++ [.int 1]), .int 1] = .ok (dn, .tup [.str ("value" : Str), .non]) := by
    rw [← m1]
    exact t1'
  have t2 := paper_range (w := w) (m := 7) (L := L) (G := G) (by omega) hw2 (by omega) hv (by omega) hvg (by omega)
  have t3 := paper_range (w := w) (m := -1) (L := L) (G := G) (by omega) hw2 (by omega) hv (by omega) hvg (by omega)
  have t4 := told_none (w := w) (L := L) (by omega) (by omega) (by omega) hv knot_ok
  have t5 : F_law_told [.int 0, .int w, IL L, .tup [.str ("in" : Str), .int 0, .int 0], .int 0] = .ok (8, .tup [.str ("step" : Str), .int 0]) := by
    refine told_none (by omega) (by omega) (by omega) hv ?_
    have := stepped_ok (w := w) (L := L) (.ins 0 0) (by omega)
    rw [stp_in, if_neg (by omega)] at this
    exact this
  have s10 : (mAsg (.nm 10) (mCallE 5 F_law_told (mCons (mC (.int 1)) (mCons (mV 2) (mCons (mV 3) (mCons (mV 6) (mCons (mC (.int 2)) mNil))))))) [sl 0 (.scr (ns.map .int)), sl 0 (.tup [.int w, IL L]), sl 8 (.int w), sl 0 (IL L), sl 9 (SL (lall w L)), o5', sl d6 (IL G), sl d7 (RL rows), sl df (SL q), sl 8 (.int 2), none, o11, o12, o13, o14, o15, none] = .ok (.nx [sl 0 (.scr (ns.map .int)), sl 0 (.tup [.int w, IL L]), sl 8 (.int w), sl 0 (IL L), sl 9 (SL (lall w L)), o5', sl d6 (IL G), sl d7 (RL rows), sl df (SL q), sl 8 (.int 2), sl d10 (.tup [.str ("value" : Str), SL q]), o11, o12, o13, o14, o15, none]) := by
    generalize F_law_told = FT at *
    have hd : 1 ≤ d10 := by omega
    simp [tp, hd, sfq]
  rw [seq_nx s10]
  clear s10
  have s11 : (mIfS (mOr (mTst (mBin gNe (mV 10) (mTup (mCons (mC (.str ("value" : PySem.Str))) (mCons (mV 8) mNil))))) (mTst (mBin (gIsB true) (mCall 4 F_check_braid_paper (mCons (mV 2) (mCons (mV 3) (mCons (mV 6) (mCons (mV 8) mNil))))) (mC (.bl true)))))  (mRet (mFlat (mC (.bl false))))  mSkip) [sl 0 (.scr (ns.map .int)), sl 0 (.tup [.int w, IL L]), sl 8 (.int w), sl 0 (IL L), sl 9 (SL (lall w L)), o5', sl d6 (IL G), sl d7 (RL rows), sl df (SL q), sl 8 (.int 2), sl d10 (.tup [.str ("value" : Str), SL q]), o11, o12, o13, o14, o15, none] = .ok (.nx [sl 0 (.scr (ns.map .int)), sl 0 (.tup [.int w, IL L]), sl 8 (.int w), sl 0 (IL L), sl 9 (SL (lall w L)), o5', sl d6 (IL G), sl d7 (RL rows), sl df (SL q), sl 8 (.int 2), sl d10 (.tup [.str ("value" : Str), SL q]), o11, o12, o13, o14, o15, none]) := by
    generalize F_law_told = FT at *
    generalize F_check_braid_paper = FP at *
    generalize gNe = GN at *
    simp [n1, p1, a0]
  rw [seq_nx s11]
  clear s11
  have s12 : (mIfS (mOr (mTst (mBin (gIsB true) (mCall 4 F_check_braid_paper (mCons (mV 2) (mCons (mV 3) (mCons (mOfF (mBinF gCat (mV 6) (mOfF (mLst (mCons (mC (.int 1)) mNil))))) (mCons (mV 8) mNil))))) (mC (.bl false)))) (mTst (mBin (gIsB true) (mCall 4 F_check_braid_paper (mCons (mV 2) (mCons (mV 3) (mCons (mV 6) (mCons (mOfF (mBinF gCat (mV 8) (mOfF (mLst (mCons (mTup (mCons (mC (.str ("out" : PySem.Str))) (mCons (mC (.int 99)) mNil))) mNil))))) mNil))))) (mC (.bl false)))))  (mRet (mFlat (mC (.bl false))))  mSkip) [sl 0 (.scr (ns.map .int)), sl 0 (.tup [.int w, IL L]), sl 8 (.int w), sl 0 (IL L), sl 9 (SL (lall w L)), o5', sl d6 (IL G), sl d7 (RL rows), sl df (SL q), sl 8 (.int 2), sl d10 (.tup [.str ("value" : Str), SL q]), o11, o12, o13, o14, o15, none] = .ok (.nx [sl 0 (.scr (ns.map .int)), sl 0 (.tup [.int w, IL L]), sl 8 (.int w), sl 0 (IL L), sl 9 (SL (lall w L)), o5', sl d6 (IL G), sl d7 (RL rows), sl df (SL q), sl 8 (.int 2), sl d10 (.tup [.str ("value" : Str), SL q]), o11, o12, o13, o14, o15, none]) := by
    generalize F_law_told = FT at *
    generalize F_check_braid_paper = FP at *
    generalize gNe = GN at *
    simp [p2, p3, z1, z2, sfq]
  rw [seq_nx s12]
  clear s12
  have s13 : (mIfS (mOr (mTst (mBin gNe (mCall 5 F_law_told (mCons (mC (.int 1)) (mCons (mV 2) (mCons (mV 3) (mCons (mOfF (mBinF gCat (mV 3) (mOfF (mLst (mCons (mC (.int 1)) mNil))))) (mCons (mC (.int 1)) mNil)))))) (mTup (mCons (mC (.str ("value" : PySem.Str))) (mCons (mC .non) mNil))))) (mOr (mTst (mBin gNe (mCall 5 F_law_told (mCons (mC (.int 1)) (mCons (mV 2) (mCons (mV 3) (mCons (mV 6) (mCons (mC (.int 7)) mNil)))))) (mTup (mCons (mC (.str ("range" : PySem.Str))) (mCons (mC (.int 7)) mNil))))) (mTst (mBin gNe (mCall 5 F_law_told (mCons (mC (.int 1)) (mCons (mV 2) (mCons (mV 3) (mCons (mV 6) (mCons (mUn gNeg (mC (.int 1))) mNil)))))) (mTup (mCons (mC (.str ("range" : PySem.Str))) (mCons (mUn gNeg (mC (.int 1))) mNil)))))))  (mRet (mFlat (mC (.bl false))))  mSkip) [sl 0 (.scr (ns.map .int)), sl 0 (.tup [.int w, IL L]), sl 8 (.int w), sl 0 (IL L), sl 9 (SL (lall w L)), o5', sl d6 (IL G), sl d7 (RL rows), sl df (SL q), sl 8 (.int 2), sl d10 (.tup [.str ("value" : Str), SL q]), o11, o12, o13, o14, o15, none] = .ok (.nx [sl 0 (.scr (ns.map .int)), sl 0 (.tup [.int w, IL L]), sl 8 (.int w), sl 0 (IL L), sl 9 (SL (lall w L)), o5', sl d6 (IL G), sl d7 (RL rows), sl df (SL q), sl 8 (.int 2), sl d10 (.tup [.str ("value" : Str), SL q]), o11, o12, o13, o14, o15, none]) := by
    generalize F_law_told = FT at *
    generalize F_check_braid_paper = FP at *
    generalize gNe = GN at *
    simp [t1, t2, t3, n2, n3, n4, z3]
  rw [seq_nx s13]
  clear s13
  refine ⟨[sl 0 (.scr (ns.map .int)), sl 0 (.tup [.int w, IL L]), sl 8 (.int w), sl 0 (IL L), sl 9 (SL (lall w L)), o5', sl d6 (IL G), sl d7 (RL rows), sl df (SL q), sl 8 (.int 2), sl d10 (.tup [.str ("value" : Str), SL q]), o11, o12, o13, o14, o15, none], ?_⟩
  generalize F_law_told = FT at *
  generalize gEq = GE at *
  simp [t4, t5, e1]
end M_ropebook_k36_papers_of_braids


set_option Elab.async false
set_option linter.all false
set_option maxRecDepth 100000
set_option maxHeartbeats 4000000
namespace M_ropebook_k36_papers_of_braids
open M PySem PySem.Spec PyProof.Rows L2

def topS (i : Nat) : Stmt := PySem.Challenge.pw_ropebook_k36_papers_of_braids.main.body.getD i (.Pass ⟨0, 0, 0, 0⟩)
abbrev s_law_draw : Stmt := topS 28
theorem sc_law_draw : FnScope N_law_draw ["cell", "limits"] (defScope s_law_draw) := ⟨rfl, rfl, rfl, by decide +kernel, rfl, by decide +kernel, by decide +kernel⟩
abbrev s_law_braid : Stmt := topS 29
theorem sc_law_braid : FnScope N_law_braid ["cell", "most_strands", "most_letters"] (defScope s_law_braid) := ⟨rfl, rfl, rfl, by decide +kernel, rfl, by decide +kernel, by decide +kernel⟩
abbrev s_law_all_steps : Stmt := topS 30
theorem sc_law_all_steps : FnScope N_law_all_steps ["wide", "letters"] (defScope s_law_all_steps) := ⟨rfl, rfl, rfl, by decide +kernel, rfl, by decide +kernel, by decide +kernel⟩
abbrev s_check_between : Stmt := topS 7
theorem sc_check_between : FnScope N_check_between ["value", "least", "most"] (defScope s_check_between) := ⟨rfl, rfl, rfl, by decide +kernel, rfl, by decide +kernel, by decide +kernel⟩
abbrev s_check_strands : Stmt := topS 11
theorem sc_check_strands : FnScope N_check_strands ["strands"] (defScope s_check_strands) := ⟨rfl, rfl, rfl, by decide +kernel, rfl, by decide +kernel, by decide +kernel⟩
abbrev s_check_braid : Stmt := topS 12
theorem sc_check_braid : FnScope N_check_braid ["strands", "letters"] (defScope s_check_braid) := ⟨rfl, rfl, rfl, by decide +kernel, rfl, by decide +kernel, by decide +kernel⟩
abbrev s_all_letters : Stmt := topS 13
theorem sc_all_letters : FnScope N_all_letters ["strands"] (defScope s_all_letters) := ⟨rfl, rfl, rfl, by decide +kernel, rfl, by decide +kernel, by decide +kernel⟩
abbrev s_all_steps : Stmt := topS 23
theorem sc_all_steps : FnScope N_all_steps ["strands", "letters"] (defScope s_all_steps) := ⟨rfl, rfl, rfl, by decide +kernel, rfl, by decide +kernel, by decide +kernel⟩
abbrev s_swapped : Stmt := topS 17
theorem sc_swapped : FnScope N_swapped ["letters", "at"] (defScope s_swapped) := ⟨rfl, rfl, rfl, by decide +kernel, rfl, by decide +kernel, by decide +kernel⟩
abbrev s_changed_three : Stmt := topS 18
theorem sc_changed_three : FnScope N_changed_three ["letters", "at"] (defScope s_changed_three) := ⟨rfl, rfl, rfl, by decide +kernel, rfl, by decide +kernel, by decide +kernel⟩
abbrev s_left_out : Stmt := topS 19
theorem sc_left_out : FnScope N_left_out ["letters", "at"] (defScope s_left_out) := ⟨rfl, rfl, rfl, by decide +kernel, rfl, by decide +kernel, by decide +kernel⟩
abbrev s_put_in : Stmt := topS 20
theorem sc_put_in : FnScope N_put_in ["strands", "letters", "at", "letter"] (defScope s_put_in) := ⟨rfl, rfl, rfl, by decide +kernel, rfl, by decide +kernel, by decide +kernel⟩
abbrev s_stepped : Stmt := topS 21
theorem sc_stepped : FnScope N_stepped ["strands", "letters", "step"] (defScope s_stepped) := ⟨rfl, rfl, rfl, by decide +kernel, rfl, by decide +kernel, by decide +kernel⟩
abbrev s_braid_paper : Stmt := topS 24
theorem sc_braid_paper : FnScope N_braid_paper ["strands", "first", "second", "most"] (defScope s_braid_paper) := ⟨rfl, rfl, rfl, by decide +kernel, rfl, by decide +kernel, by decide +kernel⟩
abbrev s_step_braid : Stmt := topS 22
theorem sc_step_braid : FnScope N_step_braid ["strands", "letters", "step"] (defScope s_step_braid) := ⟨rfl, rfl, rfl, by decide +kernel, rfl, by decide +kernel, by decide +kernel⟩
abbrev s_law_told : Stmt := topS 32
theorem sc_law_told : FnScope N_law_told ["way", "wide", "a", "b", "c"] (defScope s_law_told) := ⟨rfl, rfl, rfl, by decide +kernel, rfl, by decide +kernel, by decide +kernel⟩
abbrev s_law_stepped : Stmt := topS 31
theorem sc_law_stepped : FnScope N_law_stepped ["letters", "step"] (defScope s_law_stepped) := ⟨rfl, rfl, rfl, by decide +kernel, rfl, by decide +kernel, by decide +kernel⟩
abbrev s_law_cell : Stmt := topS 27
theorem sc_law_cell : FnScope N_law_cell ["script", "k"] (defScope s_law_cell) := ⟨rfl, rfl, rfl, by decide +kernel, rfl, by decide +kernel, by decide +kernel⟩
abbrev s_check_braid_paper : Stmt := topS 25
theorem sc_check_braid_paper : FnScope N_check_braid_paper ["strands", "first", "second", "steps"] (defScope s_check_braid_paper) := ⟨rfl, rfl, rfl, by decide +kernel, rfl, by decide +kernel, by decide +kernel⟩
abbrev s_law : Stmt := topS 33
theorem sc_law : FnScope N_law ["script"] (defScope s_law) := ⟨rfl, rfl, rfl, by decide +kernel, rfl, by decide +kernel, by decide +kernel⟩
/-- what the top has written -/
structure Txt (K : PySem.W.Frag) (mg : Str → Option Value) : Prop where
  d_law_draw : DefM K mg "_law_draw" s_law_draw ["cell", "limits"]
  d_law_braid : DefM K mg "_law_braid" s_law_braid ["cell", "most_strands", "most_letters"]
  d_law_all_steps : DefM K mg "_law_all_steps" s_law_all_steps ["wide", "letters"]
  d_check_between : DefM K mg "check_between" s_check_between ["value", "least", "most"]
  d_check_strands : DefM K mg "check_strands" s_check_strands ["strands"]
  d_check_braid : DefM K mg "check_braid" s_check_braid ["strands", "letters"]
  d_all_letters : DefM K mg "all_letters" s_all_letters ["strands"]
  d_all_steps : DefM K mg "all_steps" s_all_steps ["strands", "letters"]
  d_swapped : DefM K mg "swapped" s_swapped ["letters", "at"]
  d_changed_three : DefM K mg "changed_three" s_changed_three ["letters", "at"]
  d_left_out : DefM K mg "left_out" s_left_out ["letters", "at"]
  d_put_in : DefM K mg "put_in" s_put_in ["strands", "letters", "at", "letter"]
  d_stepped : DefM K mg "stepped" s_stepped ["strands", "letters", "step"]
  d_braid_paper : DefM K mg "braid_paper" s_braid_paper ["strands", "first", "second", "most"]
  d_step_braid : DefM K mg "step_braid" s_step_braid ["strands", "letters", "step"]
  d_law_told : DefM K mg "_law_told" s_law_told ["way", "wide", "a", "b", "c"]
  d_law_stepped : DefM K mg "_law_stepped" s_law_stepped ["letters", "step"]
  d_law_cell : DefM K mg "_law_cell" s_law_cell ["script", "k"]
  d_check_braid_paper : DefM K mg "check_braid_paper" s_check_braid_paper ["strands", "first", "second", "steps"]
  d_law : DefM K mg "law" s_law ["script"]
  g_MOST_LETTERS : GlM K mg "MOST_LETTERS" g_MOST_LETTERS
  g_MOST_LISTS : GlM K mg "MOST_LISTS" g_MOST_LISTS
  g_MOST_STEPS : GlM K mg "MOST_STEPS" g_MOST_STEPS
  g_MOST_STRANDS : GlM K mg "MOST_STRANDS" g_MOST_STRANDS
  n_abs : mg "abs" = none
  n_int : mg "int" = none
  n_len : mg "len" = none
  n_list : mg "list" = none
  n_range : mg "range" = none
  n_tuple : mg "tuple" = none
  e_BadStep : ExM PySem.Challenge.pw_ropebook_k36_papers_of_braids K mg "BadStep" ["number"] [(("label" : PySem.Str), .c ("BadStep" : PySem.Str)), (("number" : PySem.Str), .a 0)]
  e_OutOfRange : ExM PySem.Challenge.pw_ropebook_k36_papers_of_braids K mg "OutOfRange" ["value"] [(("label" : PySem.Str), .c ("OutOfRange" : PySem.Str)), (("value" : PySem.Str), .a 0)]
  e_TooLarge : ExM PySem.Challenge.pw_ropebook_k36_papers_of_braids K mg "TooLarge" [] [(("label" : PySem.Str), .c ("TooLarge" : PySem.Str))]
  e_TooMany : ExM PySem.Challenge.pw_ropebook_k36_papers_of_braids K mg "TooMany" ["limit"] [(("label" : PySem.Str), .c ("TooMany" : PySem.Str)), (("limit" : PySem.Str), .a 0)]
  v_BadStep : ∃ C, mg "BadStep" = some (.ref C)
  x_BadStep : ∀ (nm : Str) (A B : Addr) (b : Bool), mg nm = some (.ref A) → mg "BadStep" = some (.ref B) → m_BadStep nm = some b → PySem.W.exmOne K (.ref A) (.ref B) = some b
  v_OutOfRange : ∃ C, mg "OutOfRange" = some (.ref C)
  x_OutOfRange : ∀ (nm : Str) (A B : Addr) (b : Bool), mg nm = some (.ref A) → mg "OutOfRange" = some (.ref B) → m_OutOfRange nm = some b → PySem.W.exmOne K (.ref A) (.ref B) = some b
  v_RopeError : ∃ C, mg "RopeError" = some (.ref C)
  x_RopeError : ∀ (nm : Str) (A B : Addr) (b : Bool), mg nm = some (.ref A) → mg "RopeError" = some (.ref B) → m_RopeError nm = some b → PySem.W.exmOne K (.ref A) (.ref B) = some b
  v_TooLarge : ∃ C, mg "TooLarge" = some (.ref C)
  x_TooLarge : ∀ (nm : Str) (A B : Addr) (b : Bool), mg nm = some (.ref A) → mg "TooLarge" = some (.ref B) → m_TooLarge nm = some b → PySem.W.exmOne K (.ref A) (.ref B) = some b
  f_BadStep_number : FldAll K mg z_BadStep ("number" : PySem.Str)
  f_OutOfRange_value : FldAll K mg z_OutOfRange ("value" : PySem.Str)
section
variable {w : World} {K : PySem.W.Frag} {mg : Str → Option Value} {base : Heap}
theorem cal_law_draw (T : Txt K mg) : CalM PySem.Challenge.pw_ropebook_k36_papers_of_braids w K mg base 1 "_law_draw" ["cell", "limits"] 2 F_law_draw := by
  refine cal_ok T.d_law_draw sc_law_draw 2 rfl (fun f cdv A outer s H E hr => ?_)
  have tk := takes_of (X := cxOf (L2.CX PySem.Challenge.pw_ropebook_k36_papers_of_braids w) PySem.Challenge.pw_ropebook_k36_papers_of_braids w K mg base N_law_draw "_law_draw" (defScope s_law_draw) f cdv A outer s H E) (E := E) rfl rfl rfl rfl
  have hp : PassesOwn _ _ _ (cxOf (L2.CX PySem.Challenge.pw_ropebook_k36_papers_of_braids w) PySem.Challenge.pw_ropebook_k36_papers_of_braids w K mg base N_law_draw "_law_draw" (defScope s_law_draw) f cdv A outer s H E).xe := passes_of rfl
  exact (sss_cons (ss_set (i := 2) (se_new (sp_lst sps_nil)) sc_law_draw.nd rfl (by first | exact .inl rfl | exact .inr rfl))
 (sss_cons (ss_set (i := 3) (se_flat (fn_sp v_abs (pe_callB call_abs (by rfl) T.n_abs (by first | rfl | decide +kernel) (sps_cons (sp_var (pv 0)) sps_nil)))) sc_law_draw.nd rfl (by first | exact .inl rfl | exact .inr rfl))
 (sss_cons (ss_set (i := 4) (se_flat (sp_cmp op_ge v_ge (sp_var (pv 3)) sp_int (nomark _))) sc_law_draw.nd rfl (by first | exact .inl rfl | exact .inr rfl))
 (sss_cons (ss_forR1 hp rfl (by rfl) T.n_range (sps_cons (fn_sp v_len (pe_callB call_len (by rfl) T.n_len PySem.boot_len (sps_cons (sp_var (pv 1)) sps_nil))) sps_nil) (sg_name (pg_name (i := 5) sc_law_draw.nd rfl (by first | exact .inl rfl | exact .inr rfl)))
 (sss_one (ss_if (spt_w (spw_and (spt_val (sp_var (pv 4))) (spw_and1 (spt_cmp op_ge v_ge (sp_var (pv 3)) (sp_ixL (sp_var (pv 1)) (sp_var (pv 5))) (nomark _)))))
 (sss_cons (ss_app (pv 2) (se_flat (sp_bin op_modN v_mod (fn_sp v_int (pe_callTy call_int1 (by rfl) T.n_int (by first | rfl | decide +kernel) (sps_cons (sp_var (pv 3)) sps_nil))) (sp_ixL (sp_var (pv 1)) (sp_var (pv 5))))))
 (sss_one (ss_set (i := 3) (se_flat (sp_bin op_fdivN v_div (sp_var (pv 3)) (sp_ixL (sp_var (pv 1)) (sp_var (pv 5))))) sc_law_draw.nd rfl (by first | exact .inl rfl | exact .inr rfl))))
 (sss_cons (ss_set (i := 6) (se_flat (sp_bin op_modN v_mod (fn_sp v_int (pe_callTy call_int1 (by rfl) T.n_int (by first | rfl | decide +kernel) (sps_cons (sp_bin op_add v_add (sp_bin op_mul v_mul (fn_sp v_abs (pe_callB call_abs (by rfl) T.n_abs (by first | rfl | decide +kernel) (sps_cons (sp_var (pv 0)) sps_nil))) sp_int) (sp_bin op_mul v_mul (sp_bin op_add v_add (sp_var (pv 5)) sp_int) sp_int)) sps_nil))) sp_int)) sc_law_draw.nd rfl (by first | exact .inl rfl | exact .inr rfl))
 (sss_cons (ss_set (i := 6) (se_flat (sp_bin op_modN v_mod (fn_sp v_int (pe_callTy call_int1 (by rfl) T.n_int (by first | rfl | decide +kernel) (sps_cons (sp_bin op_add v_add (sp_bin op_mul v_mul (sp_var (pv 6)) sp_int) (sp_bin op_mul v_mul (sp_bin op_add v_add (sp_var (pv 5)) sp_int) sp_int)) sps_nil))) sp_int)) sc_law_draw.nd rfl (by first | exact .inl rfl | exact .inr rfl))
 (sss_one (ss_app (pv 2) (se_flat (sp_bin op_modN v_mod (fn_sp v_int (pe_callTy call_int1 (by rfl) T.n_int (by first | rfl | decide +kernel) (sps_cons (sp_var (pv 6)) sps_nil))) (sp_ixL (sp_var (pv 1)) (sp_var (pv 5))))))))))))
 (sss_one (ss_ret (se_move (pv 2))))))))
theorem cal_law_braid (T : Txt K mg) : CalM PySem.Challenge.pw_ropebook_k36_papers_of_braids w K mg base 2 "_law_braid" ["cell", "most_strands", "most_letters"] 3 F_law_braid := by
  refine cal_ok T.d_law_braid sc_law_braid 3 rfl (fun f cdv A outer s H E hr => ?_)
  have tk := takes_of (X := cxOf (L2.CX PySem.Challenge.pw_ropebook_k36_papers_of_braids w) PySem.Challenge.pw_ropebook_k36_papers_of_braids w K mg base N_law_braid "_law_braid" (defScope s_law_braid) f cdv A outer s H E) (E := E) rfl rfl rfl rfl
  have hp : PassesOwn _ _ _ (cxOf (L2.CX PySem.Challenge.pw_ropebook_k36_papers_of_braids w) PySem.Challenge.pw_ropebook_k36_papers_of_braids w K mg base N_law_braid "_law_braid" (defScope s_law_braid) f cdv A outer s H E).xe := passes_of rfl
  exact (sss_cons (ss_set (i := 3) (se_cal (cal_law_draw T) tk hr (by decide) (sps_cons (sp_var (pv 0)) (sps_cons (sp_ofF (sp_lst (sps_cons (sp_bin op_sub v_sub (sp_var (pv 1)) sp_int) (sps_cons (sp_bin op_add v_add (sp_var (pv 2)) sp_int) sps_nil)))) sps_nil))) sc_law_braid.nd rfl (by first | exact .inl rfl | exact .inr rfl))
 (sss_cons (ss_set (i := 4) (se_flat (sp_bin op_add v_add sp_int (sp_ixL (sp_var (pv 3)) sp_int))) sc_law_braid.nd rfl (by first | exact .inl rfl | exact .inr rfl))
 (sss_cons (ss_set (i := 5) (se_new (sp_lst sps_nil)) sc_law_braid.nd rfl (by first | exact .inl rfl | exact .inr rfl))
 (sss_cons (ss_forL hp rfl (se_cal (cal_law_draw T) tk hr (by decide) (sps_cons (sp_bin op_add v_add (sp_bin op_fdivN v_div (sp_var (pv 0)) sp_int) sp_int) (sps_cons (sp_ofF (sp_lc (own := [(("k" : PySem.Str), 7)]) (t := (.nm 7)) rfl sc_law_braid.nd (si_rng1 (by rfl) T.n_range (sps_cons (sp_ixL (sp_var (pv 3)) sp_int) sps_nil)) (blkOk_by (N := N_law_braid) (sc := defScope s_law_braid) (by decide +kernel)) (by decide) (fun _ _ _ _ _ => (pgm_name (pg_name (i := 7) sc_law_braid.nd rfl (by first | exact .inl rfl | exact .inr rfl)))) (fun _ _ _ _ _ => spts_nil) (fun _ _ _ _ _ => (sp_bin op_mul v_mul sp_int (sp_bin op_sub v_sub (sp_var (pv 4)) sp_int))))) sps_nil))) (sg_name (pg_name (i := 6) sc_law_braid.nd rfl (by first | exact .inl rfl | exact .inr rfl)))
 (sss_one (ss_app (pv 5) (se_flat (sp_bin op_mul v_mul (sp_ixL (sp_ofF (sp_lst (sps_cons sp_int (sps_cons (sp_un un_neg v_neg sp_int) sps_nil)))) (sp_bin op_modN v_mod (fn_sp v_int (pe_callTy call_int1 (by rfl) T.n_int (by first | rfl | decide +kernel) (sps_cons (sp_var (pv 6)) sps_nil))) sp_int)) (sp_bin op_add v_add sp_int (sp_bin op_fdivN v_div (fn_sp v_int (pe_callTy call_int1 (by rfl) T.n_int (by first | rfl | decide +kernel) (sps_cons (sp_var (pv 6)) sps_nil))) sp_int)))))))
 (sss_one (ss_ret (se_tup (ses_cons (se_flat (sp_var (pv 4))) (ses_cons (se_move (pv 5)) ses_nil)))))))))
theorem cal_law_all_steps (T : Txt K mg) : CalM PySem.Challenge.pw_ropebook_k36_papers_of_braids w K mg base 1 "_law_all_steps" ["wide", "letters"] 2 F_law_all_steps := by
  refine cal_ok T.d_law_all_steps sc_law_all_steps 2 rfl (fun f cdv A outer s H E hr => ?_)
  have tk := takes_of (X := cxOf (L2.CX PySem.Challenge.pw_ropebook_k36_papers_of_braids w) PySem.Challenge.pw_ropebook_k36_papers_of_braids w K mg base N_law_all_steps "_law_all_steps" (defScope s_law_all_steps) f cdv A outer s H E) (E := E) rfl rfl rfl rfl
  have hp : PassesOwn _ _ _ (cxOf (L2.CX PySem.Challenge.pw_ropebook_k36_papers_of_braids w) PySem.Challenge.pw_ropebook_k36_papers_of_braids w K mg base N_law_all_steps "_law_all_steps" (defScope s_law_all_steps) f cdv A outer s H E).xe := passes_of rfl
  exact (sss_cons (ss_set (i := 2) (se_new (sp_lst sps_nil)) sc_law_all_steps.nd rfl (by first | exact .inl rfl | exact .inr rfl))
 (sss_cons (ss_forR1 hp rfl (by rfl) T.n_range (sps_cons (sp_bin op_sub v_sub (fn_sp v_len (pe_callB call_len (by rfl) T.n_len PySem.boot_len (sps_cons (sp_var (pv 1)) sps_nil))) sp_int) sps_nil) (sg_name (pg_name (i := 3) sc_law_all_steps.nd rfl (by first | exact .inl rfl | exact .inr rfl)))
 (sss_one (ss_if (spt_cmp op_gt v_gt (fn_sp v_abs (pe_callB call_abs (by rfl) T.n_abs (by first | rfl | decide +kernel) (sps_cons (sp_bin op_sub v_sub (fn_sp v_abs (pe_callB call_abs (by rfl) T.n_abs (by first | rfl | decide +kernel) (sps_cons (sp_ixL (sp_var (pv 1)) (sp_var (pv 3))) sps_nil))) (fn_sp v_abs (pe_callB call_abs (by rfl) T.n_abs (by first | rfl | decide +kernel) (sps_cons (sp_ixL (sp_var (pv 1)) (sp_bin op_add v_add (sp_var (pv 3)) sp_int)) sps_nil)))) sps_nil))) sp_int (nomark _))
 (sss_one (ss_app (pv 2) (se_flat (sp_tup (sps_cons sp_str (sps_cons (sp_var (pv 3)) sps_nil))))))
 sss_nil)))
 (sss_cons (ss_forR1 hp rfl (by rfl) T.n_range (sps_cons (sp_bin op_sub v_sub (fn_sp v_len (pe_callB call_len (by rfl) T.n_len PySem.boot_len (sps_cons (sp_var (pv 1)) sps_nil))) sp_int) sps_nil) (sg_name (pg_name (i := 3) sc_law_all_steps.nd rfl (by first | exact .inl rfl | exact .inr rfl)))
 (sss_cons (ss_set (i := 4) (se_flat (sp_ixL (sp_var (pv 1)) (sp_var (pv 3)))) sc_law_all_steps.nd rfl (by first | exact .inl rfl | exact .inr rfl))
 (sss_cons (ss_set (i := 5) (se_flat (sp_ixL (sp_var (pv 1)) (sp_bin op_add v_add (sp_var (pv 3)) sp_int))) sc_law_all_steps.nd rfl (by first | exact .inl rfl | exact .inr rfl))
 (sss_one (ss_if (spt_w (spw_and (spt_cmp op_eq v_eqI (sp_ixL (sp_var (pv 1)) (sp_bin op_add v_add (sp_var (pv 3)) sp_int)) (sp_var (pv 4)) (nomark _)) (spw_and (spt_cmp op_eq v_eqI (fn_sp v_abs (pe_callB call_abs (by rfl) T.n_abs (by first | rfl | decide +kernel) (sps_cons (sp_bin op_sub v_sub (fn_sp v_abs (pe_callB call_abs (by rfl) T.n_abs (by first | rfl | decide +kernel) (sps_cons (sp_var (pv 4)) sps_nil))) (fn_sp v_abs (pe_callB call_abs (by rfl) T.n_abs (by first | rfl | decide +kernel) (sps_cons (sp_var (pv 5)) sps_nil)))) sps_nil))) sp_int (nomark _)) (spw_and1 (spt_cmp (op_eqD hr.units) v_eq (sp_cmp op_gt v_gt (sp_var (pv 4)) sp_int (nomark _)) (sp_cmp op_gt v_gt (sp_var (pv 5)) sp_int (nomark _)) (nomark _))))))
 (sss_one (ss_app (pv 2) (se_flat (sp_tup (sps_cons sp_str (sps_cons (sp_var (pv 3)) sps_nil))))))
 sss_nil)))))
 (sss_cons (ss_forR1 hp rfl (by rfl) T.n_range (sps_cons (sp_bin op_sub v_sub (fn_sp v_len (pe_callB call_len (by rfl) T.n_len PySem.boot_len (sps_cons (sp_var (pv 1)) sps_nil))) sp_int) sps_nil) (sg_name (pg_name (i := 3) sc_law_all_steps.nd rfl (by first | exact .inl rfl | exact .inr rfl)))
 (sss_one (ss_if (spt_cmp op_eq v_eqI (sp_ixL (sp_var (pv 1)) (sp_var (pv 3))) (sp_un un_neg v_neg (sp_ixL (sp_var (pv 1)) (sp_bin op_add v_add (sp_var (pv 3)) sp_int))) (nomark _))
 (sss_one (ss_app (pv 2) (se_flat (sp_tup (sps_cons sp_str (sps_cons (sp_var (pv 3)) sps_nil))))))
 sss_nil)))
 (sss_cons (ss_forR1 hp rfl (by rfl) T.n_range (sps_cons (sp_bin op_add v_add (fn_sp v_len (pe_callB call_len (by rfl) T.n_len PySem.boot_len (sps_cons (sp_var (pv 1)) sps_nil))) sp_int) sps_nil) (sg_name (pg_name (i := 3) sc_law_all_steps.nd rfl (by first | exact .inl rfl | exact .inr rfl)))
 (sss_one (ss_forR2 hp rfl (by rfl) T.n_range (sps_cons sp_int (sps_cons (sp_var (pv 0)) sps_nil)) (sg_name (pg_name (i := 6) sc_law_all_steps.nd rfl (by first | exact .inl rfl | exact .inr rfl)))
 (sss_one (ss_set (i := 2) (se_new (sp_binF op_cat' v_cat (sp_var (pv 2)) (sp_ofF (sp_lst (sps_cons (sp_tup (sps_cons sp_str (sps_cons (sp_var (pv 3)) (sps_cons (sp_var (pv 6)) sps_nil)))) (sps_cons (sp_tup (sps_cons sp_str (sps_cons (sp_var (pv 3)) (sps_cons (sp_un un_neg v_neg (sp_var (pv 6))) sps_nil)))) sps_nil)))))) sc_law_all_steps.nd rfl (by first | exact .inl rfl | exact .inr rfl))))))
 (sss_one (ss_ret (se_move (pv 2)))))))))
theorem cal_check_between (T : Txt K mg) : CalM PySem.Challenge.pw_ropebook_k36_papers_of_braids w K mg base 2 "check_between" ["value", "least", "most"] 3 F_check_between := by
  refine cal_ok T.d_check_between sc_check_between 3 rfl (fun f cdv A outer s H E hr => ?_)
  have tk := takes_of (X := cxOf (L2.CX PySem.Challenge.pw_ropebook_k36_papers_of_braids w) PySem.Challenge.pw_ropebook_k36_papers_of_braids w K mg base N_check_between "check_between" (defScope s_check_between) f cdv A outer s H E) (E := E) rfl rfl rfl rfl
  have hp : PassesOwn _ _ _ (cxOf (L2.CX PySem.Challenge.pw_ropebook_k36_papers_of_braids w) PySem.Challenge.pw_ropebook_k36_papers_of_braids w K mg base N_check_between "check_between" (defScope s_check_between) f cdv A outer s H E).xe := passes_of rfl
  exact (sss_one (ss_if (spt_w (spw_or (spt_cmp op_lt v_lt (sp_var (pv 0)) (sp_var (pv 1)) (nomark _)) (spw_or1 (spt_cmp op_gt v_gt (sp_var (pv 0)) (sp_var (pv 2)) (nomark _)))))
 (sss_one (ss_raiseM T.e_OutOfRange (by simp) rfl tk hr (sps_cons (sp_var (pv 0)) sps_nil)))
 sss_nil))
theorem cal_check_strands (T : Txt K mg) : CalM PySem.Challenge.pw_ropebook_k36_papers_of_braids w K mg base 3 "check_strands" ["strands"] 1 F_check_strands := by
  refine cal_ok T.d_check_strands sc_check_strands 1 rfl (fun f cdv A outer s H E hr => ?_)
  have tk := takes_of (X := cxOf (L2.CX PySem.Challenge.pw_ropebook_k36_papers_of_braids w) PySem.Challenge.pw_ropebook_k36_papers_of_braids w K mg base N_check_strands "check_strands" (defScope s_check_strands) f cdv A outer s H E) (E := E) rfl rfl rfl rfl
  have hp : PassesOwn _ _ _ (cxOf (L2.CX PySem.Challenge.pw_ropebook_k36_papers_of_braids w) PySem.Challenge.pw_ropebook_k36_papers_of_braids w K mg base N_check_strands "check_strands" (defScope s_check_strands) f cdv A outer s H E).xe := passes_of rfl
  exact (sss_one (ss_drop (sp_cal (cal_check_between T) tk hr (by decide) (sps_cons (sp_var (pv 0)) (sps_cons sp_int (sps_cons (sp_gl T.g_MOST_STRANDS) sps_nil))))))
theorem cal_check_braid (T : Txt K mg) : CalM PySem.Challenge.pw_ropebook_k36_papers_of_braids w K mg base 4 "check_braid" ["strands", "letters"] 2 F_check_braid := by
  refine cal_ok T.d_check_braid sc_check_braid 2 rfl (fun f cdv A outer s H E hr => ?_)
  have tk := takes_of (X := cxOf (L2.CX PySem.Challenge.pw_ropebook_k36_papers_of_braids w) PySem.Challenge.pw_ropebook_k36_papers_of_braids w K mg base N_check_braid "check_braid" (defScope s_check_braid) f cdv A outer s H E) (E := E) rfl rfl rfl rfl
  have hp : PassesOwn _ _ _ (cxOf (L2.CX PySem.Challenge.pw_ropebook_k36_papers_of_braids w) PySem.Challenge.pw_ropebook_k36_papers_of_braids w K mg base N_check_braid "check_braid" (defScope s_check_braid) f cdv A outer s H E).xe := passes_of rfl
  exact (sss_cons (ss_drop (sp_cal (cal_check_strands T) tk hr (by decide) (sps_cons (sp_var (pv 0)) sps_nil)))
 (sss_cons (ss_forL hp rfl (se_frz (pv 1)) (sg_name (pg_name (i := 2) sc_check_braid.nd rfl (by first | exact .inl rfl | exact .inr rfl)))
 (sss_one (ss_if (spt_w (spw_or (spt_cmp op_eq v_eqI (sp_var (pv 2)) sp_int (nomark _)) (spw_or1 (spt_cmp op_ge v_ge (fn_sp v_abs (pe_callB call_abs (by rfl) T.n_abs (by first | rfl | decide +kernel) (sps_cons (sp_var (pv 2)) sps_nil))) (sp_var (pv 0)) (nomark _)))))
 (sss_one (ss_raiseM T.e_OutOfRange (by simp) rfl tk hr (sps_cons (sp_var (pv 2)) sps_nil)))
 sss_nil)))
 (sss_one (ss_if (spt_cmp op_gt v_gt (fn_sp v_len (pe_callB call_len (by rfl) T.n_len PySem.boot_len (sps_cons (sp_var (pv 1)) sps_nil))) (sp_gl T.g_MOST_LETTERS) (nomark _))
 (sss_one (ss_raiseM T.e_TooMany (by simp) rfl tk hr (sps_cons (sp_gl T.g_MOST_LETTERS) sps_nil)))
 sss_nil))))
theorem cal_all_letters (T : Txt K mg) : CalM PySem.Challenge.pw_ropebook_k36_papers_of_braids w K mg base 1 "all_letters" ["strands"] 1 F_all_letters := by
  refine cal_ok T.d_all_letters sc_all_letters 1 rfl (fun f cdv A outer s H E hr => ?_)
  have tk := takes_of (X := cxOf (L2.CX PySem.Challenge.pw_ropebook_k36_papers_of_braids w) PySem.Challenge.pw_ropebook_k36_papers_of_braids w K mg base N_all_letters "all_letters" (defScope s_all_letters) f cdv A outer s H E) (E := E) rfl rfl rfl rfl
  have hp : PassesOwn _ _ _ (cxOf (L2.CX PySem.Challenge.pw_ropebook_k36_papers_of_braids w) PySem.Challenge.pw_ropebook_k36_papers_of_braids w K mg base N_all_letters "all_letters" (defScope s_all_letters) f cdv A outer s H E).xe := passes_of rfl
  exact (sss_one (ss_ret (se_new (sp_lc2 (own := [(("number" : PySem.Str), 1), (("letter" : PySem.Str), 2)]) (t := (.nm 1)) (t1 := (.nm 2)) (vs1 := [2]) rfl sc_all_letters.nd (si_rng2 (by rfl) T.n_range (sps_cons sp_int (sps_cons (sp_var (pv 0)) sps_nil))) (blkOk_by (N := N_all_letters) (sc := defScope s_all_letters) (by decide +kernel)) (by decide) (by decide) (by decide) (fun _ _ _ _ _ => (pgm_name (pg_name (i := 1) sc_all_letters.nd rfl (by first | exact .inl rfl | exact .inr rfl)))) (fun _ _ _ _ _ => spts_nil) (fun _ _ _ _ _ => (si2_tup (sp_tup (sps_cons (sp_var (pv 1)) (sps_cons (sp_un un_neg v_neg (sp_var (pv 1))) sps_nil))))) (fun _ _ _ _ _ => (pgm_name (pg_name (i := 2) sc_all_letters.nd rfl (by first | exact .inl rfl | exact .inr rfl)))) (fun _ _ _ _ _ => spts_nil) (fun _ _ _ _ _ => (sp_var (pv 2)))))))
theorem cal_all_steps (T : Txt K mg) : CalM PySem.Challenge.pw_ropebook_k36_papers_of_braids w K mg base 2 "all_steps" ["strands", "letters"] 2 F_all_steps := by
  refine cal_ok T.d_all_steps sc_all_steps 2 rfl (fun f cdv A outer s H E hr => ?_)
  have tk := takes_of (X := cxOf (L2.CX PySem.Challenge.pw_ropebook_k36_papers_of_braids w) PySem.Challenge.pw_ropebook_k36_papers_of_braids w K mg base N_all_steps "all_steps" (defScope s_all_steps) f cdv A outer s H E) (E := E) rfl rfl rfl rfl
  have hp : PassesOwn _ _ _ (cxOf (L2.CX PySem.Challenge.pw_ropebook_k36_papers_of_braids w) PySem.Challenge.pw_ropebook_k36_papers_of_braids w K mg base N_all_steps "all_steps" (defScope s_all_steps) f cdv A outer s H E).xe := passes_of rfl
  exact (sss_cons (ss_set (i := 2) (se_rng (by rfl) T.n_range (sps_cons (fn_sp v_len (pe_callB call_len (by rfl) T.n_len PySem.boot_len (sps_cons (sp_var (pv 1)) sps_nil))) sps_nil)) sc_all_steps.nd rfl (by first | exact .inl rfl | exact .inr rfl))
 (sss_cons (ss_setLc2 (i := 3) (own := [(("word" : PySem.Str), 4), (("at" : PySem.Str), 5)]) (t := (.nm 4)) (t1 := (.nm 5)) (vs1 := [5]) rfl sc_all_steps.nd rfl rfl (sw_true rfl rfl rfl (by decide +kernel)) (si_tup (sp_tup (sps_cons sp_str (sps_cons sp_str (sps_cons sp_str sps_nil))))) (blkOk_by (N := N_all_steps) (sc := defScope s_all_steps) (by decide +kernel)) (by decide) (by decide) (by decide) (fun _ _ _ _ _ => (pgm_name (pg_name (i := 4) sc_all_steps.nd rfl (by first | exact .inl rfl | exact .inr rfl)))) (fun _ _ _ _ _ => spts_nil) (fun _ _ _ _ _ => (si2_rng (sp_var (pv 2)))) (fun _ _ _ _ _ => (pgm_name (pg_name (i := 5) sc_all_steps.nd rfl (by first | exact .inl rfl | exact .inr rfl)))) (fun _ _ _ _ _ => spts_nil) (fun _ _ _ _ _ => (sp_tup (sps_cons (sp_var (pv 4)) (sps_cons (sp_var (pv 5)) sps_nil)))))
 (sss_cons (ss_ext (pv 3) (se_new (sp_lc2 (own := [(("at" : PySem.Str), 5), (("letter" : PySem.Str), 6)]) (t := (.nm 5)) (t1 := (.nm 6)) (vs1 := [6]) rfl sc_all_steps.nd (si_rng1 (by rfl) T.n_range (sps_cons (sp_bin op_add v_add (fn_sp v_len (pe_callB call_len (by rfl) T.n_len PySem.boot_len (sps_cons (sp_var (pv 1)) sps_nil))) sp_int) sps_nil)) (blkOk_by (N := N_all_steps) (sc := defScope s_all_steps) (by decide +kernel)) (by decide) (by decide) (by decide) (fun _ _ _ _ _ => (pgm_name (pg_name (i := 5) sc_all_steps.nd rfl (by first | exact .inl rfl | exact .inr rfl)))) (fun _ _ _ _ _ => spts_nil) (fun _ _ _ _ _ => (si2_new (sn_cal (cal_all_letters T) takes_none5 hr (by decide) (sps_cons (sp_var (pv 0)) sps_nil)))) (fun _ _ _ _ _ => (pgm_name (pg_name (i := 6) sc_all_steps.nd rfl (by first | exact .inl rfl | exact .inr rfl)))) (fun _ _ _ _ _ => spts_nil) (fun _ _ _ _ _ => (sp_tup (sps_cons sp_str (sps_cons (sp_var (pv 5)) (sps_cons (sp_var (pv 6)) sps_nil))))))))
 (sss_one (ss_ret (se_move (pv 3)))))))
theorem cal_swapped (T : Txt K mg) : CalM PySem.Challenge.pw_ropebook_k36_papers_of_braids w K mg base 1 "swapped" ["letters", "at"] 2 F_swapped := by
  refine cal_ok T.d_swapped sc_swapped 2 rfl (fun f cdv A outer s H E hr => ?_)
  have tk := takes_of (X := cxOf (L2.CX PySem.Challenge.pw_ropebook_k36_papers_of_braids w) PySem.Challenge.pw_ropebook_k36_papers_of_braids w K mg base N_swapped "swapped" (defScope s_swapped) f cdv A outer s H E) (E := E) rfl rfl rfl rfl
  have hp : PassesOwn _ _ _ (cxOf (L2.CX PySem.Challenge.pw_ropebook_k36_papers_of_braids w) PySem.Challenge.pw_ropebook_k36_papers_of_braids w K mg base N_swapped "swapped" (defScope s_swapped) f cdv A outer s H E).xe := passes_of rfl
  exact (sss_cons (ss_if (spt_w (spw_or (spt_not (spt_chain op_le v_le op_lt v_lt sp_int (sp_var (pv 1)) (sp_bin op_sub v_sub (fn_sp v_len (pe_callB call_len (by rfl) T.n_len PySem.boot_len (sps_cons (sp_var (pv 0)) sps_nil))) sp_int))) (spw_or1 (spt_cmp op_lt v_lt (fn_sp v_abs (pe_callB call_abs (by rfl) T.n_abs (by first | rfl | decide +kernel) (sps_cons (sp_bin op_sub v_sub (fn_sp v_abs (pe_callB call_abs (by rfl) T.n_abs (by first | rfl | decide +kernel) (sps_cons (sp_ixL (sp_var (pv 0)) (sp_var (pv 1))) sps_nil))) (fn_sp v_abs (pe_callB call_abs (by rfl) T.n_abs (by first | rfl | decide +kernel) (sps_cons (sp_ixL (sp_var (pv 0)) (sp_bin op_add v_add (sp_var (pv 1)) sp_int)) sps_nil)))) sps_nil))) sp_int (nomark _)))))
 (sss_one (ss_ret (se_flat sp_non)))
 sss_nil)
 (sss_one (ss_ret (se_new (sp_binF op_cat' v_cat (sp_ofF (sp_binF op_cat' v_cat (sp_ofF (sp_slc (sp_var (pv 0)) spo_none (spo_some (sp_var (pv 1))))) (sp_ofF (sp_lst (sps_cons (sp_ixL (sp_var (pv 0)) (sp_bin op_add v_add (sp_var (pv 1)) sp_int)) (sps_cons (sp_ixL (sp_var (pv 0)) (sp_var (pv 1))) sps_nil)))))) (sp_ofF (sp_slc (sp_var (pv 0)) (spo_some (sp_bin op_add v_add (sp_var (pv 1)) sp_int)) spo_none)))))))
theorem cal_changed_three (T : Txt K mg) : CalM PySem.Challenge.pw_ropebook_k36_papers_of_braids w K mg base 1 "changed_three" ["letters", "at"] 2 F_changed_three := by
  refine cal_ok T.d_changed_three sc_changed_three 2 rfl (fun f cdv A outer s H E hr => ?_)
  have tk := takes_of (X := cxOf (L2.CX PySem.Challenge.pw_ropebook_k36_papers_of_braids w) PySem.Challenge.pw_ropebook_k36_papers_of_braids w K mg base N_changed_three "changed_three" (defScope s_changed_three) f cdv A outer s H E) (E := E) rfl rfl rfl rfl
  have hp : PassesOwn _ _ _ (cxOf (L2.CX PySem.Challenge.pw_ropebook_k36_papers_of_braids w) PySem.Challenge.pw_ropebook_k36_papers_of_braids w K mg base N_changed_three "changed_three" (defScope s_changed_three) f cdv A outer s H E).xe := passes_of rfl
  exact (sss_cons (ss_if (spt_not (spt_chain op_le v_le op_lt v_lt sp_int (sp_var (pv 1)) (sp_bin op_sub v_sub (fn_sp v_len (pe_callB call_len (by rfl) T.n_len PySem.boot_len (sps_cons (sp_var (pv 0)) sps_nil))) sp_int)))
 (sss_one (ss_ret (se_flat sp_non)))
 sss_nil)
 (sss_cons (ss_unl rfl (se_new (sp_slc (sp_var (pv 0)) (spo_some (sp_var (pv 1))) (spo_some (sp_bin op_add v_add (sp_var (pv 1)) sp_int)))) (sgs_cons (sg_name (pg_name (i := 2) sc_changed_three.nd rfl (by first | exact .inl rfl | exact .inr rfl))) (sgs_cons (sg_name (pg_name (i := 3) sc_changed_three.nd rfl (by first | exact .inl rfl | exact .inr rfl))) (sgs_cons (sg_name (pg_name (i := 4) sc_changed_three.nd rfl (by first | exact .inl rfl | exact .inr rfl))) sgs_nil))) rfl)
 (sss_cons (ss_if (spt_w (spw_or (spt_cmp op_ne v_neI (sp_var (pv 2)) (sp_var (pv 4)) (nomark _)) (spw_or (spt_cmp op_ne v_neI (fn_sp v_abs (pe_callB call_abs (by rfl) T.n_abs (by first | rfl | decide +kernel) (sps_cons (sp_bin op_sub v_sub (fn_sp v_abs (pe_callB call_abs (by rfl) T.n_abs (by first | rfl | decide +kernel) (sps_cons (sp_var (pv 2)) sps_nil))) (fn_sp v_abs (pe_callB call_abs (by rfl) T.n_abs (by first | rfl | decide +kernel) (sps_cons (sp_var (pv 3)) sps_nil)))) sps_nil))) sp_int (nomark _)) (spw_or1 (spt_cmp (op_neD hr.units) v_ne (sp_cmp op_gt v_gt (sp_var (pv 2)) sp_int (nomark _)) (sp_cmp op_gt v_gt (sp_var (pv 3)) sp_int (nomark _)) (nomark _))))))
 (sss_one (ss_ret (se_flat sp_non)))
 sss_nil)
 (sss_one (ss_ret (se_new (sp_binF op_cat' v_cat (sp_ofF (sp_binF op_cat' v_cat (sp_ofF (sp_slc (sp_var (pv 0)) spo_none (spo_some (sp_var (pv 1))))) (sp_ofF (sp_lst (sps_cons (sp_var (pv 3)) (sps_cons (sp_var (pv 2)) (sps_cons (sp_var (pv 3)) sps_nil))))))) (sp_ofF (sp_slc (sp_var (pv 0)) (spo_some (sp_bin op_add v_add (sp_var (pv 1)) sp_int)) spo_none)))))))))
theorem cal_left_out (T : Txt K mg) : CalM PySem.Challenge.pw_ropebook_k36_papers_of_braids w K mg base 1 "left_out" ["letters", "at"] 2 F_left_out := by
  refine cal_ok T.d_left_out sc_left_out 2 rfl (fun f cdv A outer s H E hr => ?_)
  have tk := takes_of (X := cxOf (L2.CX PySem.Challenge.pw_ropebook_k36_papers_of_braids w) PySem.Challenge.pw_ropebook_k36_papers_of_braids w K mg base N_left_out "left_out" (defScope s_left_out) f cdv A outer s H E) (E := E) rfl rfl rfl rfl
  have hp : PassesOwn _ _ _ (cxOf (L2.CX PySem.Challenge.pw_ropebook_k36_papers_of_braids w) PySem.Challenge.pw_ropebook_k36_papers_of_braids w K mg base N_left_out "left_out" (defScope s_left_out) f cdv A outer s H E).xe := passes_of rfl
  exact (sss_cons (ss_if (spt_w (spw_or (spt_not (spt_chain op_le v_le op_lt v_lt sp_int (sp_var (pv 1)) (sp_bin op_sub v_sub (fn_sp v_len (pe_callB call_len (by rfl) T.n_len PySem.boot_len (sps_cons (sp_var (pv 0)) sps_nil))) sp_int))) (spw_or1 (spt_cmp op_ne v_neI (sp_ixL (sp_var (pv 0)) (sp_var (pv 1))) (sp_un un_neg v_neg (sp_ixL (sp_var (pv 0)) (sp_bin op_add v_add (sp_var (pv 1)) sp_int))) (nomark _)))))
 (sss_one (ss_ret (se_flat sp_non)))
 sss_nil)
 (sss_one (ss_ret (se_new (sp_binF op_cat' v_cat (sp_ofF (sp_slc (sp_var (pv 0)) spo_none (spo_some (sp_var (pv 1))))) (sp_ofF (sp_slc (sp_var (pv 0)) (spo_some (sp_bin op_add v_add (sp_var (pv 1)) sp_int)) spo_none)))))))
theorem cal_put_in (T : Txt K mg) : CalM PySem.Challenge.pw_ropebook_k36_papers_of_braids w K mg base 1 "put_in" ["strands", "letters", "at", "letter"] 4 F_put_in := by
  refine cal_ok T.d_put_in sc_put_in 4 rfl (fun f cdv A outer s H E hr => ?_)
  have tk := takes_of (X := cxOf (L2.CX PySem.Challenge.pw_ropebook_k36_papers_of_braids w) PySem.Challenge.pw_ropebook_k36_papers_of_braids w K mg base N_put_in "put_in" (defScope s_put_in) f cdv A outer s H E) (E := E) rfl rfl rfl rfl
  have hp : PassesOwn _ _ _ (cxOf (L2.CX PySem.Challenge.pw_ropebook_k36_papers_of_braids w) PySem.Challenge.pw_ropebook_k36_papers_of_braids w K mg base N_put_in "put_in" (defScope s_put_in) f cdv A outer s H E).xe := passes_of rfl
  exact (sss_cons (ss_if (spt_w (spw_or (spt_not (spt_chain op_le v_le op_le v_le sp_int (sp_var (pv 2)) (fn_sp v_len (pe_callB call_len (by rfl) T.n_len PySem.boot_len (sps_cons (sp_var (pv 1)) sps_nil))))) (spw_or (spt_cmp op_eq v_eqI (sp_var (pv 3)) sp_int (nomark _)) (spw_or1 (spt_cmp op_ge v_ge (fn_sp v_abs (pe_callB call_abs (by rfl) T.n_abs (by first | rfl | decide +kernel) (sps_cons (sp_var (pv 3)) sps_nil))) (sp_var (pv 0)) (nomark _))))))
 (sss_one (ss_ret (se_flat sp_non)))
 sss_nil)
 (sss_one (ss_ret (se_new (sp_binF op_cat' v_cat (sp_ofF (sp_binF op_cat' v_cat (sp_ofF (sp_slc (sp_var (pv 1)) spo_none (spo_some (sp_var (pv 2))))) (sp_ofF (sp_lst (sps_cons (sp_var (pv 3)) (sps_cons (sp_un un_neg v_neg (sp_var (pv 3))) sps_nil)))))) (sp_ofF (sp_slc (sp_var (pv 1)) (spo_some (sp_var (pv 2))) spo_none)))))))
theorem cal_stepped (T : Txt K mg) : CalM PySem.Challenge.pw_ropebook_k36_papers_of_braids w K mg base 2 "stepped" ["strands", "letters", "step"] 3 F_stepped := by
  refine cal_ok T.d_stepped sc_stepped 3 rfl (fun f cdv A outer s H E hr => ?_)
  have tk := takes_of (X := cxOf (L2.CX PySem.Challenge.pw_ropebook_k36_papers_of_braids w) PySem.Challenge.pw_ropebook_k36_papers_of_braids w K mg base N_stepped "stepped" (defScope s_stepped) f cdv A outer s H E) (E := E) rfl rfl rfl rfl
  have hp : PassesOwn _ _ _ (cxOf (L2.CX PySem.Challenge.pw_ropebook_k36_papers_of_braids w) PySem.Challenge.pw_ropebook_k36_papers_of_braids w K mg base N_stepped "stepped" (defScope s_stepped) f cdv A outer s H E).xe := passes_of rfl
  exact (sss_cons (ss_set (i := 3) (se_flat (sp_ixT (sp_var (pv 2)) sp_int)) sc_stepped.nd rfl (by first | exact .inl rfl | exact .inr rfl))
 (sss_cons (ss_if (spt_cmp (op_eqD hr.units) v_eq (sp_var (pv 3)) sp_str (nomark _))
 (sss_one (ss_ret (se_cal (cal_swapped T) tk hr (by decide) (sps_cons (sp_var (pv 1)) (sps_cons (sp_ixT (sp_var (pv 2)) sp_int) sps_nil)))))
 sss_nil)
 (sss_cons (ss_if (spt_cmp (op_eqD hr.units) v_eq (sp_var (pv 3)) sp_str (nomark _))
 (sss_one (ss_ret (se_cal (cal_changed_three T) tk hr (by decide) (sps_cons (sp_var (pv 1)) (sps_cons (sp_ixT (sp_var (pv 2)) sp_int) sps_nil)))))
 sss_nil)
 (sss_cons (ss_if (spt_cmp (op_eqD hr.units) v_eq (sp_var (pv 3)) sp_str (nomark _))
 (sss_one (ss_ret (se_cal (cal_left_out T) tk hr (by decide) (sps_cons (sp_var (pv 1)) (sps_cons (sp_ixT (sp_var (pv 2)) sp_int) sps_nil)))))
 sss_nil)
 (sss_one (ss_ret (se_if (spt_cmp (op_eqD hr.units) v_eq (sp_var (pv 3)) sp_str (nomark _)) (se_cal (cal_put_in T) tk hr (by decide) (sps_cons (sp_var (pv 0)) (sps_cons (sp_var (pv 1)) (sps_cons (sp_ixT (sp_var (pv 2)) sp_int) (sps_cons (sp_ixT (sp_var (pv 2)) sp_int) sps_nil))))) (se_flat sp_non))))))))
theorem cal_braid_paper (T : Txt K mg) : CalM PySem.Challenge.pw_ropebook_k36_papers_of_braids w K mg base 5 "braid_paper" ["strands", "first", "second", "most"] 4 F_braid_paper := by
  refine cal_ok T.d_braid_paper sc_braid_paper 4 rfl (fun f cdv A outer s H E hr => ?_)
  have tk := takes_of (X := cxOf (L2.CX PySem.Challenge.pw_ropebook_k36_papers_of_braids w) PySem.Challenge.pw_ropebook_k36_papers_of_braids w K mg base N_braid_paper "braid_paper" (defScope s_braid_paper) f cdv A outer s H E) (E := E) rfl rfl rfl rfl
  have hp : PassesOwn _ _ _ (cxOf (L2.CX PySem.Challenge.pw_ropebook_k36_papers_of_braids w) PySem.Challenge.pw_ropebook_k36_papers_of_braids w K mg base N_braid_paper "braid_paper" (defScope s_braid_paper) f cdv A outer s H E).xe := passes_of rfl
  exact (sss_cons (ss_drop (sp_cal (cal_check_braid T) tk hr (by decide) (sps_cons (sp_var (pv 0)) (sps_cons (sp_var (pv 1)) sps_nil))))
 (sss_cons (ss_drop (sp_cal (cal_check_braid T) tk hr (by decide) (sps_cons (sp_var (pv 0)) (sps_cons (sp_var (pv 2)) sps_nil))))
 (sss_cons (ss_drop (sp_cal (cal_check_between T) tk hr (by decide) (sps_cons (sp_var (pv 3)) (sps_cons sp_int (sps_cons (sp_gl T.g_MOST_STEPS) sps_nil)))))
 (sss_cons (ss_set (i := 4) (se_flat (fn_sp v_tupOf (pe_callTy call_tuple_of (by rfl) T.n_tuple (by first | rfl | decide +kernel) (sps_cons (sp_var (pv 2)) sps_nil)))) sc_braid_paper.nd rfl (by first | exact .inl rfl | exact .inr rfl))
 (sss_cons (ss_set (i := 5) (se_n (sn_disp1 (hu0 hr) (fn_sp v_tupOf (pe_callTy call_tuple_of (by rfl) T.n_tuple (by first | rfl | decide +kernel) (sps_cons (sp_var (pv 1)) sps_nil))) (sn_new (sp_lst sps_nil)))) sc_braid_paper.nd rfl (by first | exact .inl rfl | exact .inr rfl))
 (sss_cons (ss_set (i := 6) (se_lst (ses_cons (se_new (fn_spF v_list (pe_callTy call_list_of (by rfl) T.n_list (by first | rfl | decide +kernel) (sps_cons (sp_var (pv 1)) sps_nil)))) ses_nil)) sc_braid_paper.nd rfl (by first | exact .inl rfl | exact .inr rfl))
 (sss_cons (ss_forR1 hp rfl (by rfl) T.n_range (sps_cons (sp_var (pv 3)) sps_nil) (sg_name (pg_name (i := 7) sc_braid_paper.nd rfl (by first | exact .inl rfl | exact .inr rfl)))
 (sss_cons (ss_if (spt_din (hu1 hr.units) (sp_var (pv 4)) (sp_var (pv 5)))
 (sss_one (ss_ret (se_dtake (hu1 hr.units) (pv 5) (sp_var (pv 4)))))
 sss_nil)
 (sss_cons (ss_set (i := 8) (se_new (sp_lst sps_nil)) sc_braid_paper.nd rfl (by first | exact .inl rfl | exact .inr rfl))
 (sss_cons (ss_forL hp rfl (se_move (pv 6)) (sg_name (pg_name (i := 9) sc_braid_paper.nd rfl (by first | exact .inl rfl | exact .inr rfl)))
 (sss_one (ss_forL hp rfl (se_cal (cal_all_steps T) tk hr (by decide) (sps_cons (sp_var (pv 0)) (sps_cons (sp_var (pv 9)) sps_nil))) (sg_name (pg_name (i := 10) sc_braid_paper.nd rfl (by first | exact .inl rfl | exact .inr rfl)))
 (sss_cons (ss_set (i := 11) (se_cal (cal_stepped T) tk hr (by decide) (sps_cons (sp_var (pv 0)) (sps_cons (sp_var (pv 9)) (sps_cons (sp_var (pv 10)) sps_nil)))) sc_braid_paper.nd rfl (by first | exact .inl rfl | exact .inr rfl))
 (sss_one (ss_if (spt_w (spw_and (spt_cmp op_notN v_notN (sp_var (pv 11)) sp_non (nomark _)) (spw_and1 (spt_dnotin (hu1 hr.units) (fn_sp v_tupOf (pe_callTy call_tuple_of (by rfl) T.n_tuple (by first | rfl | decide +kernel) (sps_cons (sp_var (pv 11)) sps_nil))) (sp_var (pv 5))))))
 (sss_cons (ss_if (spt_cmp (op_eqD hr.units) v_eq (fn_sp v_tupOf (pe_callTy call_tuple_of (by rfl) T.n_tuple (by first | rfl | decide +kernel) (sps_cons (sp_var (pv 11)) sps_nil))) (sp_var (pv 4)) (nomark _))
 (sss_one (ss_ret (se_new (sp_binF op_cat' v_cat (sp_dget (hu1 hr.units) (sp_var (pv 5)) (fn_sp v_tupOf (pe_callTy call_tuple_of (by rfl) T.n_tuple (by first | rfl | decide +kernel) (sps_cons (sp_var (pv 9)) sps_nil)))) (sp_ofF (sp_lst (sps_cons (sp_var (pv 10)) sps_nil)))))))
 sss_nil)
 (sss_cons (ss_if (spt_cmp op_eq v_eqI (fn_sp v_lenDT (pe_callB call_len_dT (by rfl) T.n_len PySem.boot_len (sps_cons (sp_var (pv 5)) sps_nil))) (sp_gl T.g_MOST_LISTS) (nomark _))
 (sss_one (ss_raiseM0 T.e_TooLarge (by simp) rfl tk hr))
 sss_nil)
 (sss_cons (ss_dput (hu1 hr.units) (pv 5) (fn_sp v_tupOf (pe_callTy call_tuple_of (by rfl) T.n_tuple (by first | rfl | decide +kernel) (sps_cons (sp_var (pv 11)) sps_nil))) (se_new (sp_binF op_cat' v_cat (sp_dget (hu1 hr.units) (sp_var (pv 5)) (fn_sp v_tupOf (pe_callTy call_tuple_of (by rfl) T.n_tuple (by first | rfl | decide +kernel) (sps_cons (sp_var (pv 9)) sps_nil)))) (sp_ofF (sp_lst (sps_cons (sp_var (pv 10)) sps_nil))))))
 (sss_one (ss_app (pv 8) (se_move (pv 11)))))))
 sss_nil))))))
 (sss_one (ss_set (i := 6) (se_move (pv 8)) sc_braid_paper.nd rfl (by first | exact .inl rfl | exact .inr rfl)))))))
 (sss_one (ss_ret (se_dtakeG (hu1 hr.units) (pv 5) (sp_var (pv 4)) ⟨by rfl, by rfl, by rfl, by rfl⟩))))))))))
theorem cal_step_braid (T : Txt K mg) : CalM PySem.Challenge.pw_ropebook_k36_papers_of_braids w K mg base 5 "step_braid" ["strands", "letters", "step"] 3 F_step_braid := by
  refine cal_ok T.d_step_braid sc_step_braid 3 rfl (fun f cdv A outer s H E hr => ?_)
  have tk := takes_of (X := cxOf (L2.CX PySem.Challenge.pw_ropebook_k36_papers_of_braids w) PySem.Challenge.pw_ropebook_k36_papers_of_braids w K mg base N_step_braid "step_braid" (defScope s_step_braid) f cdv A outer s H E) (E := E) rfl rfl rfl rfl
  have hp : PassesOwn _ _ _ (cxOf (L2.CX PySem.Challenge.pw_ropebook_k36_papers_of_braids w) PySem.Challenge.pw_ropebook_k36_papers_of_braids w K mg base N_step_braid "step_braid" (defScope s_step_braid) f cdv A outer s H E).xe := passes_of rfl
  exact (sss_cons (ss_drop (sp_cal (cal_check_braid T) tk hr (by decide) (sps_cons (sp_var (pv 0)) (sps_cons (sp_var (pv 1)) sps_nil))))
 (sss_cons (ss_set (i := 3) (se_cal (cal_stepped T) tk hr (by decide) (sps_cons (sp_var (pv 0)) (sps_cons (sp_ofF (fn_spF v_list (pe_callTy call_list_of (by rfl) T.n_list (by first | rfl | decide +kernel) (sps_cons (sp_var (pv 1)) sps_nil)))) (sps_cons (sp_var (pv 2)) sps_nil)))) sc_step_braid.nd rfl (by first | exact .inl rfl | exact .inr rfl))
 (sss_cons (ss_if (spt_cmp op_isN v_isN (sp_var (pv 3)) sp_non (nomark _))
 (sss_one (ss_raiseM T.e_BadStep (by simp) rfl tk hr (sps_cons sp_int sps_nil)))
 sss_nil)
 (sss_one (ss_ret (se_move (pv 3)))))))
theorem cal_law_told (T : Txt K mg) : CalM PySem.Challenge.pw_ropebook_k36_papers_of_braids w K mg base 6 "_law_told" ["way", "wide", "a", "b", "c"] 5 F_law_told := by
  obtain ⟨C_BadStep, hC_BadStep⟩ := T.v_BadStep
  obtain ⟨C_OutOfRange, hC_OutOfRange⟩ := T.v_OutOfRange
  obtain ⟨C_RopeError, hC_RopeError⟩ := T.v_RopeError
  obtain ⟨C_TooLarge, hC_TooLarge⟩ := T.v_TooLarge
  refine cal_ok T.d_law_told sc_law_told 5 rfl (fun f cdv A outer s H E hr => ?_)
  have tk := takes_of (X := cxOf (L2.CX PySem.Challenge.pw_ropebook_k36_papers_of_braids w) PySem.Challenge.pw_ropebook_k36_papers_of_braids w K mg base N_law_told "_law_told" (defScope s_law_told) f cdv A outer s H E) (E := E) rfl rfl rfl rfl
  have hp : PassesOwn _ _ _ (cxOf (L2.CX PySem.Challenge.pw_ropebook_k36_papers_of_braids w) PySem.Challenge.pw_ropebook_k36_papers_of_braids w K mg base N_law_told "_law_told" (defScope s_law_told) f cdv A outer s H E).xe := passes_of rfl
  exact (sss_one (ss_try rfl rfl tk (fun W pn xe tk2 hp2 => (sss_cons (ss_if (spt_cmp op_eq v_eqI (sp_var (pv 0)) sp_int (nomark _))
 (sss_one (ss_ret (se_tup (ses_cons (se_flat sp_str) (ses_cons (se_cal (cal_step_braid T) tk2 hr (by decide) (sps_cons (sp_var (pv 1)) (sps_cons (sp_var (pv 2)) (sps_cons (sp_var (pv 3)) sps_nil)))) ses_nil)))))
 sss_nil)
 (sss_one (ss_ret (se_tup (ses_cons (se_flat sp_str) (ses_cons (se_cal (cal_braid_paper T) tk2 hr (by decide) (sps_cons (sp_var (pv 1)) (sps_cons (sp_var (pv 2)) (sps_cons (sp_var (pv 3)) (sps_cons (sp_var (pv 4)) sps_nil))))) ses_nil))))))) (.cons (scl_ret (i := 5) ⟨by rfl, by decide, .inl hC_BadStep⟩ sc_law_told.nd rfl rfl (fun nm A b h1 h2 => T.x_BadStep nm A C_BadStep b h1 hC_BadStep h2) (sx_tup (sxs_cons (sx_of fun _ _ _ => sp_str) (sxs_cons (sx_fld (fun _ _ _ => pv 5) T.f_BadStep_number) sxs_nil)))) (.cons (scl_ret (i := 5) ⟨by rfl, by decide, .inl hC_OutOfRange⟩ sc_law_told.nd rfl rfl (fun nm A b h1 h2 => T.x_OutOfRange nm A C_OutOfRange b h1 hC_OutOfRange h2) (sx_tup (sxs_cons (sx_of fun _ _ _ => sp_str) (sxs_cons (sx_fld (fun _ _ _ => pv 5) T.f_OutOfRange_value) sxs_nil)))) (.cons (scl_bare ⟨by rfl, by decide, .inl hC_TooLarge⟩ (fun nm A b h1 h2 => T.x_TooLarge nm A C_TooLarge b h1 hC_TooLarge h2) (fun _ _ _ => (sss_one (ss_ret (se_flat (sp_tup (sps_cons sp_str (sps_cons sp_int sps_nil)))))))) (.cons (scl_bare ⟨by rfl, by decide, .inl hC_RopeError⟩ (fun nm A b h1 h2 => T.x_RopeError nm A C_RopeError b h1 hC_RopeError h2) (fun _ _ _ => (sss_one (ss_ret (se_flat (sp_tup (sps_cons sp_str (sps_cons sp_int sps_nil)))))))) SCls.nil))))))
theorem cal_law_stepped (T : Txt K mg) : CalM PySem.Challenge.pw_ropebook_k36_papers_of_braids w K mg base 1 "_law_stepped" ["letters", "step"] 2 F_law_stepped := by
  refine cal_ok T.d_law_stepped sc_law_stepped 2 rfl (fun f cdv A outer s H E hr => ?_)
  have tk := takes_of (X := cxOf (L2.CX PySem.Challenge.pw_ropebook_k36_papers_of_braids w) PySem.Challenge.pw_ropebook_k36_papers_of_braids w K mg base N_law_stepped "_law_stepped" (defScope s_law_stepped) f cdv A outer s H E) (E := E) rfl rfl rfl rfl
  have hp : PassesOwn _ _ _ (cxOf (L2.CX PySem.Challenge.pw_ropebook_k36_papers_of_braids w) PySem.Challenge.pw_ropebook_k36_papers_of_braids w K mg base N_law_stepped "_law_stepped" (defScope s_law_stepped) f cdv A outer s H E).xe := passes_of rfl
  exact (sss_cons (ss_set (i := 2) (se_flat (sp_ixT (sp_var (pv 1)) sp_int)) sc_law_stepped.nd rfl (by first | exact .inl rfl | exact .inr rfl))
 (sss_cons (ss_if (spt_cmp (op_eqD hr.units) v_eq (sp_ixT (sp_var (pv 1)) sp_int) sp_str (nomark _))
 (sss_one (ss_ret (se_new (sp_binF op_cat' v_cat (sp_ofF (sp_binF op_cat' v_cat (sp_ofF (sp_slc (sp_var (pv 0)) spo_none (spo_some (sp_var (pv 2))))) (sp_ofF (sp_lst (sps_cons (sp_ixL (sp_var (pv 0)) (sp_bin op_add v_add (sp_var (pv 2)) sp_int)) (sps_cons (sp_ixL (sp_var (pv 0)) (sp_var (pv 2))) sps_nil)))))) (sp_ofF (sp_slc (sp_var (pv 0)) (spo_some (sp_bin op_add v_add (sp_var (pv 2)) sp_int)) spo_none))))))
 sss_nil)
 (sss_cons (ss_if (spt_cmp (op_eqD hr.units) v_eq (sp_ixT (sp_var (pv 1)) sp_int) sp_str (nomark _))
 (sss_one (ss_ret (se_new (sp_binF op_cat' v_cat (sp_ofF (sp_binF op_cat' v_cat (sp_ofF (sp_slc (sp_var (pv 0)) spo_none (spo_some (sp_var (pv 2))))) (sp_ofF (sp_lst (sps_cons (sp_ixL (sp_var (pv 0)) (sp_bin op_add v_add (sp_var (pv 2)) sp_int)) (sps_cons (sp_ixL (sp_var (pv 0)) (sp_var (pv 2))) (sps_cons (sp_ixL (sp_var (pv 0)) (sp_bin op_add v_add (sp_var (pv 2)) sp_int)) sps_nil))))))) (sp_ofF (sp_slc (sp_var (pv 0)) (spo_some (sp_bin op_add v_add (sp_var (pv 2)) sp_int)) spo_none))))))
 sss_nil)
 (sss_cons (ss_if (spt_cmp (op_eqD hr.units) v_eq (sp_ixT (sp_var (pv 1)) sp_int) sp_str (nomark _))
 (sss_one (ss_ret (se_new (sp_binF op_cat' v_cat (sp_ofF (sp_slc (sp_var (pv 0)) spo_none (spo_some (sp_var (pv 2))))) (sp_ofF (sp_slc (sp_var (pv 0)) (spo_some (sp_bin op_add v_add (sp_var (pv 2)) sp_int)) spo_none))))))
 sss_nil)
 (sss_one (ss_ret (se_new (sp_binF op_cat' v_cat (sp_ofF (sp_binF op_cat' v_cat (sp_ofF (sp_slc (sp_var (pv 0)) spo_none (spo_some (sp_var (pv 2))))) (sp_ofF (sp_lst (sps_cons (sp_ixT (sp_var (pv 1)) sp_int) (sps_cons (sp_un un_neg v_neg (sp_ixT (sp_var (pv 1)) sp_int)) sps_nil)))))) (sp_ofF (sp_slc (sp_var (pv 0)) (spo_some (sp_var (pv 2))) spo_none))))))))))
theorem cal_law_cell (T : Txt K mg) : CalM PySem.Challenge.pw_ropebook_k36_papers_of_braids w K mg base 1 "_law_cell" ["script", "k"] 2 F_law_cell := by
  refine cal_ok T.d_law_cell sc_law_cell 2 rfl (fun f cdv A outer s H E hr => ?_)
  have tk := takes_of (X := cxOf (L2.CX PySem.Challenge.pw_ropebook_k36_papers_of_braids w) PySem.Challenge.pw_ropebook_k36_papers_of_braids w K mg base N_law_cell "_law_cell" (defScope s_law_cell) f cdv A outer s H E) (E := E) rfl rfl rfl rfl
  have hp : PassesOwn _ _ _ (cxOf (L2.CX PySem.Challenge.pw_ropebook_k36_papers_of_braids w) PySem.Challenge.pw_ropebook_k36_papers_of_braids w K mg base N_law_cell "_law_cell" (defScope s_law_cell) f cdv A outer s H E).xe := passes_of rfl
  exact (sss_cons (ss_if (spt_cmp op_lt v_lt (sp_var (pv 1)) (fn_sp v_len (pe_callB call_len (by rfl) T.n_len PySem.boot_len (sps_cons (sp_var (pv 0)) sps_nil))) (nomark _))
 (sss_one (ss_ret (se_flat (sp_ixL (sp_var (pv 0)) (sp_var (pv 1))))))
 sss_nil)
 (sss_one (ss_ret (se_flat sp_int))))
theorem cal_check_braid_paper (T : Txt K mg) : CalM PySem.Challenge.pw_ropebook_k36_papers_of_braids w K mg base 5 "check_braid_paper" ["strands", "first", "second", "steps"] 4 F_check_braid_paper := by
  refine cal_ok T.d_check_braid_paper sc_check_braid_paper 4 rfl (fun f cdv A outer s H E hr => ?_)
  have tk := takes_of (X := cxOf (L2.CX PySem.Challenge.pw_ropebook_k36_papers_of_braids w) PySem.Challenge.pw_ropebook_k36_papers_of_braids w K mg base N_check_braid_paper "check_braid_paper" (defScope s_check_braid_paper) f cdv A outer s H E) (E := E) rfl rfl rfl rfl
  have hp : PassesOwn _ _ _ (cxOf (L2.CX PySem.Challenge.pw_ropebook_k36_papers_of_braids w) PySem.Challenge.pw_ropebook_k36_papers_of_braids w K mg base N_check_braid_paper "check_braid_paper" (defScope s_check_braid_paper) f cdv A outer s H E).xe := passes_of rfl
  exact (sss_cons (ss_drop (sp_cal (cal_check_braid T) tk hr (by decide) (sps_cons (sp_var (pv 0)) (sps_cons (sp_var (pv 1)) sps_nil))))
 (sss_cons (ss_drop (sp_cal (cal_check_braid T) tk hr (by decide) (sps_cons (sp_var (pv 0)) (sps_cons (sp_var (pv 2)) sps_nil))))
 (sss_cons (ss_set (i := 4) (se_new (fn_spF v_list (pe_callTy call_list_of (by rfl) T.n_list (by first | rfl | decide +kernel) (sps_cons (sp_var (pv 1)) sps_nil)))) sc_check_braid_paper.nd rfl (by first | exact .inl rfl | exact .inr rfl))
 (sss_cons (ss_forL hp rfl (se_move (pv 3)) (sg_name (pg_name (i := 5) sc_check_braid_paper.nd rfl (by first | exact .inl rfl | exact .inr rfl)))
 (sss_cons (ss_set (i := 4) (se_cal (cal_stepped T) tk hr (by decide) (sps_cons (sp_var (pv 0)) (sps_cons (sp_var (pv 4)) (sps_cons (sp_var (pv 5)) sps_nil)))) sc_check_braid_paper.nd rfl (by first | exact .inl rfl | exact .inr rfl))
 (sss_one (ss_if (spt_cmp op_isN v_isN (sp_var (pv 4)) sp_non (nomark _))
 (sss_one (ss_ret (se_flat sp_bl)))
 sss_nil))))
 (sss_one (ss_ret (se_flat (sp_cmp (op_eqD hr.units) v_eq (sp_var (pv 4)) (sp_ofF (fn_spF v_list (pe_callTy call_list_of (by rfl) T.n_list (by first | rfl | decide +kernel) (sps_cons (sp_var (pv 2)) sps_nil)))) (nomark _)))))))))
theorem cal_law (T : Txt K mg) : CalM PySem.Challenge.pw_ropebook_k36_papers_of_braids w K mg base 7 "law" ["script"] 1 F_law := by
  refine cal_ok T.d_law sc_law 1 rfl (fun f cdv A outer s H E hr => ?_)
  have tk := takes_of (X := cxOf (L2.CX PySem.Challenge.pw_ropebook_k36_papers_of_braids w) PySem.Challenge.pw_ropebook_k36_papers_of_braids w K mg base N_law "law" (defScope s_law) f cdv A outer s H E) (E := E) rfl rfl rfl rfl
  have hp : PassesOwn _ _ _ (cxOf (L2.CX PySem.Challenge.pw_ropebook_k36_papers_of_braids w) PySem.Challenge.pw_ropebook_k36_papers_of_braids w K mg base N_law "law" (defScope s_law) f cdv A outer s H E).xe := passes_of rfl
  exact (sss_cons (ss_set (i := 1) (se_cal (cal_law_braid T) tk hr (by decide) (sps_cons (fn_sp v_abs (pe_callB call_abs (by rfl) T.n_abs (by first | rfl | decide +kernel) (sps_cons (sp_cal (cal_law_cell T) tk hr (by decide) (sps_cons (sp_var (pv 0)) (sps_cons sp_int sps_nil))) sps_nil))) (sps_cons sp_int (sps_cons sp_int sps_nil)))) sc_law.nd rfl (by first | exact .inl rfl | exact .inr rfl))
 (sss_cons (ss_set (i := 2) (se_flat (sp_ixT (sp_var (pv 1)) sp_int)) sc_law.nd rfl (by first | exact .inl rfl | exact .inr rfl))
 (sss_cons (ss_set (i := 3) (se_ixF (pv 1) sp_int) sc_law.nd rfl (by first | exact .inl rfl | exact .inr rfl))
 (sss_cons (ss_set (i := 4) (se_cal (cal_law_all_steps T) tk hr (by decide) (sps_cons (sp_var (pv 2)) (sps_cons (sp_var (pv 3)) sps_nil))) sc_law.nd rfl (by first | exact .inl rfl | exact .inr rfl))
 (sss_cons (ss_forR1 hp rfl (by rfl) T.n_range (sps_cons sp_int sps_nil) (sg_name (pg_name (i := 5) sc_law.nd rfl (by first | exact .inl rfl | exact .inr rfl)))
 (sss_cons (ss_set (i := 11) (se_cal (cal_law_draw T) tk hr (by decide) (sps_cons (sp_bin op_add v_add (fn_sp v_abs (pe_callB call_abs (by rfl) T.n_abs (by first | rfl | decide +kernel) (sps_cons (sp_cal (cal_law_cell T) tk hr (by decide) (sps_cons (sp_var (pv 0)) (sps_cons sp_int sps_nil))) sps_nil))) (sp_bin op_mul v_mul sp_int (sp_var (pv 5)))) (sps_cons (sp_ofF (sp_lst (sps_cons sp_int (sps_cons sp_int (sps_cons sp_int sps_nil))))) sps_nil))) sc_law.nd rfl (by first | exact .inl rfl | exact .inr rfl))
 (sss_cons (ss_set (i := 12) (se_flat (sp_ixL (sp_ofF (sp_lst (sps_cons (sp_tup (sps_cons sp_str (sps_cons (sp_bin op_sub v_sub (sp_ixL (sp_var (pv 11)) sp_int) sp_int) sps_nil))) (sps_cons (sp_tup (sps_cons sp_str (sps_cons (sp_bin op_sub v_sub (sp_ixL (sp_var (pv 11)) sp_int) sp_int) sps_nil))) (sps_cons (sp_tup (sps_cons sp_str (sps_cons (sp_bin op_sub v_sub (sp_ixL (sp_var (pv 11)) sp_int) sp_int) sps_nil))) (sps_cons (sp_tup (sps_cons sp_str (sps_cons (sp_bin op_sub v_sub (sp_ixL (sp_var (pv 11)) sp_int) sp_int) (sps_cons (sp_bin op_sub v_sub (sp_ixL (sp_var (pv 11)) sp_int) sp_int) sps_nil)))) sps_nil)))))) (sp_ixL (sp_var (pv 11)) sp_int))) sc_law.nd rfl (by first | exact .inl rfl | exact .inr rfl))
 (sss_cons (ss_set (i := 13) (se_flat (sp_tup (sps_cons sp_str (sps_cons sp_int sps_nil)))) sc_law.nd rfl (by first | exact .inl rfl | exact .inr rfl))
 (sss_cons (ss_if (spt_cmp (op_inD (hu65 hr)) v_inD (sp_var (pv 12)) (sp_var (pv 4)) (by rfl))
 (sss_one (ss_set (i := 13) (se_tup (ses_cons (se_flat sp_str) (ses_cons (se_cal (cal_law_stepped T) tk hr (by decide) (sps_cons (sp_var (pv 3)) (sps_cons (sp_var (pv 12)) sps_nil))) ses_nil))) sc_law.nd rfl (by first | exact .inl rfl | exact .inr rfl)))
 sss_nil)
 (sss_one (ss_if (spt_cmp (op_neD hr.units) v_ne (sp_cal (cal_law_told T) tk hr (by decide) (sps_cons sp_int (sps_cons (sp_var (pv 2)) (sps_cons (sp_ofF (fn_spF v_list (pe_callTy call_list_of (by rfl) T.n_list (by first | rfl | decide +kernel) (sps_cons (sp_var (pv 3)) sps_nil)))) (sps_cons (sp_var (pv 12)) (sps_cons sp_int sps_nil)))))) (sp_var (pv 13)) (nomark _))
 (sss_one (ss_ret (se_flat sp_bl)))
 sss_nil)))))))
 (sss_cons (ss_set (i := 6) (se_frz (pv 3)) sc_law.nd rfl (by first | exact .inl rfl | exact .inr rfl))
 (sss_cons (ss_forR1 hp rfl (by rfl) T.n_range (sps_cons (sp_bin op_modN v_mod (fn_sp v_int (pe_callTy call_int1 (by rfl) T.n_int (by first | rfl | decide +kernel) (sps_cons (sp_cal (cal_law_cell T) tk hr (by decide) (sps_cons (sp_var (pv 0)) (sps_cons sp_int sps_nil))) sps_nil))) sp_int) sps_nil) (sg_name (pg_name (i := 5) sc_law.nd rfl (by first | exact .inl rfl | exact .inr rfl)))
 (sss_cons (ss_set (i := 14) (se_cal (cal_law_all_steps T) tk hr (by decide) (sps_cons (sp_var (pv 2)) (sps_cons (sp_var (pv 6)) sps_nil))) sc_law.nd rfl (by first | exact .inl rfl | exact .inr rfl))
 (sss_one (ss_set (i := 6) (se_cal (cal_law_stepped T) tk hr (by decide) (sps_cons (sp_var (pv 6)) (sps_cons (sp_ixL (sp_var (pv 14)) (sp_bin op_modN v_mod (fn_sp v_int (pe_callTy call_int1 (by rfl) T.n_int (by first | rfl | decide +kernel) (sps_cons (sp_bin op_add v_add (sp_cal (cal_law_cell T) tk hr (by decide) (sps_cons (sp_var (pv 0)) (sps_cons sp_int sps_nil))) (sp_bin op_mul v_mul sp_int (sp_var (pv 5)))) sps_nil))) (fn_sp v_len (pe_callB call_len (by rfl) T.n_len PySem.boot_len (sps_cons (sp_var (pv 14)) sps_nil))))) sps_nil))) sc_law.nd rfl (by first | exact .inl rfl | exact .inr rfl)))))
 (sss_cons (ss_set (i := 7) (se_lst (ses_cons (se_tup (ses_cons (se_new (sp_lst sps_nil)) (ses_cons (se_frz (pv 3)) ses_nil))) ses_nil)) sc_law.nd rfl (by first | exact .inl rfl | exact .inr rfl))
 (sss_cons (ss_set (i := 8) (se_flat sp_non) sc_law.nd rfl (by first | exact .inl rfl | exact .inr rfl))
 (sss_cons (ss_forR1 hp rfl (by rfl) T.n_range (sps_cons sp_int sps_nil) (sg_name (pg_name (i := 9) sc_law.nd rfl (by first | exact .inl rfl | exact .inr rfl)))
 (sss_cons (ss_forL hp rfl (se_frz (pv 7)) (sg_name (pg_name (i := 15) sc_law.nd rfl (by first | exact .inl rfl | exact .inr rfl)))
 (sss_one (ss_if (spt_w (spw_and (spt_cmp op_isN v_isN (sp_var (pv 8)) sp_non (nomark _)) (spw_and1 (spt_cmp (op_eqD hr.units) v_eq (sp_ixT (sp_var (pv 15)) sp_int) (sp_var (pv 6)) (nomark _)))))
 (sss_one (ss_set (i := 8) (se_ixF (pv 15) sp_int) sc_law.nd rfl (by first | exact .inl rfl | exact .inr rfl)))
 sss_nil)))
 (sss_cons (ss_set (i := 16) (se_new (sp_lst sps_nil)) sc_law.nd rfl (by first | exact .inl rfl | exact .inr rfl))
 (sss_cons (ss_if (spt_w (spw_and (spt_cmp op_isN v_isN (sp_var (pv 8)) sp_non (nomark _)) (spw_and1 (spt_cmp op_lt v_lt (sp_var (pv 9)) sp_int (nomark _)))))
 (sss_one (ss_forL hp rfl (se_move (pv 7)) (sg_name (pg_name (i := 15) sc_law.nd rfl (by first | exact .inl rfl | exact .inr rfl)))
 (sss_one (ss_set (i := 16) (se_cat (se_frz (pv 16)) (se_n (sn_lc (own := [(("step" : PySem.Str), 12)]) (t := (.nm 12)) rfl sc_law.nd (si_list (sp_cal (cal_law_all_steps T) tk hr (by decide) (sps_cons (sp_var (pv 2)) (sps_cons (sp_ixT (sp_var (pv 15)) sp_int) sps_nil)))) (blkOk_by (N := N_law) (sc := defScope s_law) (by decide +kernel)) (by decide) (fun _ _ _ _ _ => (pgm_name (pg_name (i := 12) sc_law.nd rfl (by first | exact .inl rfl | exact .inr rfl)))) (fun _ _ _ _ _ => spts_nil) (fun _ _ _ _ _ => (sn_tup (sns_cons (sn_new (sp_binF op_cat' v_cat (sp_ixT (sp_var (pv 15)) sp_int) (sp_ofF (sp_lst (sps_cons (sp_var (pv 12)) sps_nil))))) (sns_cons (sn_cal (cal_law_stepped T) takes_none5 hr (by decide) (sps_cons (sp_ixT (sp_var (pv 15)) sp_int) (sps_cons (sp_var (pv 12)) sps_nil))) sns_nil))))))) sc_law.nd rfl (by first | exact .inl rfl | exact .inr rfl)))))
 sss_nil)
 (sss_one (ss_set (i := 7) (se_move (pv 16)) sc_law.nd rfl (by first | exact .inl rfl | exact .inr rfl)))))))
 (sss_cons (ss_set (i := 10) (se_cal (cal_law_told T) tk hr (by decide) (sps_cons sp_int (sps_cons (sp_var (pv 2)) (sps_cons (sp_var (pv 3)) (sps_cons (sp_var (pv 6)) (sps_cons sp_int sps_nil)))))) sc_law.nd rfl (by first | exact .inl rfl | exact .inr rfl))
 (sss_cons (ss_if (spt_w (spw_or (spt_cmp (op_neD hr.units) v_ne (sp_var (pv 10)) (sp_tup (sps_cons sp_str (sps_cons (sp_var (pv 8)) sps_nil))) (nomark _)) (spw_or1 (spt_cmp op_isnot_bl v_notB (sp_cal (cal_check_braid_paper T) tk hr (by decide) (sps_cons (sp_var (pv 2)) (sps_cons (sp_var (pv 3)) (sps_cons (sp_var (pv 6)) (sps_cons (sp_var (pv 8)) sps_nil))))) sp_bl (nomark _)))))
 (sss_one (ss_ret (se_flat sp_bl)))
 sss_nil)
 (sss_cons (ss_if (spt_w (spw_or (spt_cmp op_isnot_bl v_notB (sp_cal (cal_check_braid_paper T) tk hr (by decide) (sps_cons (sp_var (pv 2)) (sps_cons (sp_var (pv 3)) (sps_cons (sp_ofF (sp_binF op_cat' v_cat (sp_var (pv 6)) (sp_ofF (sp_lst (sps_cons sp_int sps_nil))))) (sps_cons (sp_var (pv 8)) sps_nil))))) sp_bl (nomark _)) (spw_or1 (spt_cmp op_isnot_bl v_notB (sp_cal (cal_check_braid_paper T) tk hr (by decide) (sps_cons (sp_var (pv 2)) (sps_cons (sp_var (pv 3)) (sps_cons (sp_var (pv 6)) (sps_cons (sp_ofF (sp_binF op_cat' v_cat (sp_var (pv 8)) (sp_ofF (sp_lst (sps_cons (sp_tup (sps_cons sp_str (sps_cons sp_int sps_nil))) sps_nil))))) sps_nil))))) sp_bl (nomark _)))))
 (sss_one (ss_ret (se_flat sp_bl)))
 sss_nil)
 (sss_cons (ss_if (spt_w (spw_or (spt_cmp (op_neD hr.units) v_ne (sp_cal (cal_law_told T) tk hr (by decide) (sps_cons sp_int (sps_cons (sp_var (pv 2)) (sps_cons (sp_var (pv 3)) (sps_cons (sp_ofF (sp_binF op_cat' v_cat (sp_var (pv 3)) (sp_ofF (sp_lst (sps_cons sp_int sps_nil))))) (sps_cons sp_int sps_nil)))))) (sp_tup (sps_cons sp_str (sps_cons sp_non sps_nil))) (nomark _)) (spw_or (spt_cmp (op_neD hr.units) v_ne (sp_cal (cal_law_told T) tk hr (by decide) (sps_cons sp_int (sps_cons (sp_var (pv 2)) (sps_cons (sp_var (pv 3)) (sps_cons (sp_var (pv 6)) (sps_cons sp_int sps_nil)))))) (sp_tup (sps_cons sp_str (sps_cons sp_int sps_nil))) (nomark _)) (spw_or1 (spt_cmp (op_neD hr.units) v_ne (sp_cal (cal_law_told T) tk hr (by decide) (sps_cons sp_int (sps_cons (sp_var (pv 2)) (sps_cons (sp_var (pv 3)) (sps_cons (sp_var (pv 6)) (sps_cons (sp_un un_neg v_neg sp_int) sps_nil)))))) (sp_tup (sps_cons sp_str (sps_cons (sp_un un_neg v_neg sp_int) sps_nil))) (nomark _))))))
 (sss_one (ss_ret (se_flat sp_bl)))
 sss_nil)
 (sss_one (ss_ret (se_flat (sp_and (sp_cmp (op_eqD hr.units) v_eq (sp_cal (cal_law_told T) tk hr (by decide) (sps_cons sp_int (sps_cons (sp_var (pv 2)) (sps_cons (sp_var (pv 3)) (sps_cons (sp_tup (sps_cons sp_str (sps_cons sp_int sps_nil))) (sps_cons sp_int sps_nil)))))) (sp_tup (sps_cons sp_str (sps_cons sp_int sps_nil))) (nomark _)) (sp_one (sp_cmp (op_eqD hr.units) v_eq (sp_cal (cal_law_told T) tk hr (by decide) (sps_cons sp_int (sps_cons (sp_var (pv 2)) (sps_cons (sp_var (pv 3)) (sps_cons (sp_tup (sps_cons sp_str (sps_cons sp_int (sps_cons sp_int sps_nil)))) (sps_cons sp_int sps_nil)))))) (sp_tup (sps_cons sp_str (sps_cons sp_int sps_nil))) (nomark _)))))))))))))))))))))
end
end M_ropebook_k36_papers_of_braids

set_option Elab.async false
set_option linter.all false
set_option maxRecDepth 100000
namespace M_ropebook_k36_papers_of_braids
open M PySem PySem.Spec PyProof.Rows L2
theorem fin {w : World} {K : PySem.W.Frag} {mg : Str → Option Value} {h : Heap} {fa : Addr} (X : K.In h) (G : h.Ns mainGlobals mg) (hmg : mg "law" = some (.ref fa)) (T : Txt K mg) :
    ∃ fd : FuncData, (∀ (s : Shared) (u : Value), BindsTo s fd ⟨[u], []⟩ [(("script" : Str), u)]) ∧ ∀ base : Heap, K.In base → base.Ns mainGlobals mg → FnOk PySem.Challenge.pw_ropebook_k36_papers_of_braids w K mg base (L2.CX PySem.Challenge.pw_ropebook_k36_papers_of_braids w) 7 fa fd ["script"] (spLaw K 63) :=
  law_end (st := s_law) (fun _ _ _ _ _ _ us hl => match us, hl with | [_], _ => rfl) rfl hmg T.d_law (fun base => cal_law (w := w) (base := base) T) fun ns _ => law_true ns
end M_ropebook_k36_papers_of_braids
open PySem PySem.W PyProof.Rows M M_ropebook_k36_papers_of_braids
set_option maxHeartbeats 0 in
theorem PySem.Challenge.cw_ropebook_k36_papers_of_braids_holds : PySem.Challenge.rw_ropebook_k36_papers_of_braids.Holds := by
  w_on; o_law; k_head; (case hw => w_witness2)
  k_fill
  refine L2.walk_of (l := PySem.Challenge.rw_ropebook_k36_papers_of_braids) (n := 63) (k := 7) (x := "script") (CX := fun w => L2.CX PySem.Challenge.rw_ropebook_k36_papers_of_braids.prog w) (sp := fun w => M.spLaw _ 63) rfl (by decide) rfl ⟨rfl, by decide, by decide⟩ (fun w h Y => PySem.W.kIn_of Y) ?F (fun _ _ a ns hl _ hS => ⟨a, ns, rfl, hS, hl, fun _ => rfl⟩) (fun _ _ _ _ _ h => no_cx h)
  case F =>
    intro w mg fa h KX G hmg
    refine fin KX G hmg ?_
    refine' ⟨?d_law_draw, ?d_law_braid, ?d_law_all_steps, ?d_check_between, ?d_check_strands, ?d_check_braid, ?d_all_letters, ?d_all_steps, ?d_swapped, ?d_changed_three, ?d_left_out, ?d_put_in, ?d_stepped, ?d_braid_paper, ?d_step_braid, ?d_law_told, ?d_law_stepped, ?d_law_cell, ?d_check_braid_paper, ?d_law, ?g_MOST_LETTERS, ?g_MOST_LISTS, ?g_MOST_STEPS, ?g_MOST_STRANDS, ?n_abs, ?n_int, ?n_len, ?n_list, ?n_range, ?n_tuple, ?e_BadStep, ?e_OutOfRange, ?e_TooLarge, ?e_TooMany, ?v_BadStep, ?x_BadStep, ?v_OutOfRange, ?x_OutOfRange, ?v_RopeError, ?x_RopeError, ?v_TooLarge, ?x_TooLarge, ?f_BadStep_number, ?f_OutOfRange_value⟩
    case d_law_draw =>
      refine' defM_mk KX G (fun _ _ _ _ _ _ us hl => match us, hl with | [_, _], _ => rfl) ?a ?l ?c ?k
      (case a => k_is); (case l => k_is); (case c => k_is); (case k => k_is)
    case d_law_braid =>
      refine' defM_mk KX G (fun _ _ _ _ _ _ us hl => match us, hl with | [_, _, _], _ => rfl) ?a ?l ?c ?k
      (case a => k_is); (case l => k_is); (case c => k_is); (case k => k_is)
    case d_law_all_steps =>
      refine' defM_mk KX G (fun _ _ _ _ _ _ us hl => match us, hl with | [_, _], _ => rfl) ?a ?l ?c ?k
      (case a => k_is); (case l => k_is); (case c => k_is); (case k => k_is)
    case d_check_between =>
      refine' defM_mk KX G (fun _ _ _ _ _ _ us hl => match us, hl with | [_, _, _], _ => rfl) ?a ?l ?c ?k
      (case a => k_is); (case l => k_is); (case c => k_is); (case k => k_is)
    case d_check_strands =>
      refine' defM_mk KX G (fun _ _ _ _ _ _ us hl => match us, hl with | [_], _ => rfl) ?a ?l ?c ?k
      (case a => k_is); (case l => k_is); (case c => k_is); (case k => k_is)
    case d_check_braid =>
      refine' defM_mk KX G (fun _ _ _ _ _ _ us hl => match us, hl with | [_, _], _ => rfl) ?a ?l ?c ?k
      (case a => k_is); (case l => k_is); (case c => k_is); (case k => k_is)
    case d_all_letters =>
      refine' defM_mk KX G (fun _ _ _ _ _ _ us hl => match us, hl with | [_], _ => rfl) ?a ?l ?c ?k
      (case a => k_is); (case l => k_is); (case c => k_is); (case k => k_is)
    case d_all_steps =>
      refine' defM_mk KX G (fun _ _ _ _ _ _ us hl => match us, hl with | [_, _], _ => rfl) ?a ?l ?c ?k
      (case a => k_is); (case l => k_is); (case c => k_is); (case k => k_is)
    case d_swapped =>
      refine' defM_mk KX G (fun _ _ _ _ _ _ us hl => match us, hl with | [_, _], _ => rfl) ?a ?l ?c ?k
      (case a => k_is); (case l => k_is); (case c => k_is); (case k => k_is)
    case d_changed_three =>
      refine' defM_mk KX G (fun _ _ _ _ _ _ us hl => match us, hl with | [_, _], _ => rfl) ?a ?l ?c ?k
      (case a => k_is); (case l => k_is); (case c => k_is); (case k => k_is)
    case d_left_out =>
      refine' defM_mk KX G (fun _ _ _ _ _ _ us hl => match us, hl with | [_, _], _ => rfl) ?a ?l ?c ?k
      (case a => k_is); (case l => k_is); (case c => k_is); (case k => k_is)
    case d_put_in =>
      refine' defM_mk KX G (fun _ _ _ _ _ _ us hl => match us, hl with | [_, _, _, _], _ => rfl) ?a ?l ?c ?k
      (case a => k_is); (case l => k_is); (case c => k_is); (case k => k_is)
    case d_stepped =>
      refine' defM_mk KX G (fun _ _ _ _ _ _ us hl => match us, hl with | [_, _, _], _ => rfl) ?a ?l ?c ?k
      (case a => k_is); (case l => k_is); (case c => k_is); (case k => k_is)
    case d_braid_paper =>
      refine' defM_mk KX G (fun _ _ _ _ _ _ us hl => match us, hl with | [_, _, _, _], _ => rfl) ?a ?l ?c ?k
      (case a => k_is); (case l => k_is); (case c => k_is); (case k => k_is)
    case d_step_braid =>
      refine' defM_mk KX G (fun _ _ _ _ _ _ us hl => match us, hl with | [_, _, _], _ => rfl) ?a ?l ?c ?k
      (case a => k_is); (case l => k_is); (case c => k_is); (case k => k_is)
    case d_law_told =>
      refine' defM_mk KX G (fun _ _ _ _ _ _ us hl => match us, hl with | [_, _, _, _, _], _ => rfl) ?a ?l ?c ?k
      (case a => k_is); (case l => k_is); (case c => k_is); (case k => k_is)
    case d_law_stepped =>
      refine' defM_mk KX G (fun _ _ _ _ _ _ us hl => match us, hl with | [_, _], _ => rfl) ?a ?l ?c ?k
      (case a => k_is); (case l => k_is); (case c => k_is); (case k => k_is)
    case d_law_cell =>
      refine' defM_mk KX G (fun _ _ _ _ _ _ us hl => match us, hl with | [_, _], _ => rfl) ?a ?l ?c ?k
      (case a => k_is); (case l => k_is); (case c => k_is); (case k => k_is)
    case d_check_braid_paper =>
      refine' defM_mk KX G (fun _ _ _ _ _ _ us hl => match us, hl with | [_, _, _, _], _ => rfl) ?a ?l ?c ?k
      (case a => k_is); (case l => k_is); (case c => k_is); (case k => k_is)
    case d_law =>
      refine' defM_mk KX G (fun _ _ _ _ _ _ us hl => match us, hl with | [_], _ => rfl) ?a ?l ?c ?k
      (case a => k_is); (case l => k_is); (case c => k_is); (case k => k_is)
    case g_MOST_LETTERS =>
      refine' glM_mk KX G ?a ?r
      (case a => k_is); (case r => kernel_rfl)
    case g_MOST_LISTS =>
      refine' glM_mk KX G ?a ?r
      (case a => k_is); (case r => kernel_rfl)
    case g_MOST_STEPS =>
      refine' glM_mk KX G ?a ?r
      (case a => k_is); (case r => kernel_rfl)
    case g_MOST_STRANDS =>
      refine' glM_mk KX G ?a ?r
      (case a => k_is); (case r => kernel_rfl)
    case n_abs =>
      refine' PySem.W.mg_none_of KX G ?a
      (case a => k_is)
    case n_int =>
      refine' PySem.W.mg_none_of KX G ?a
      (case a => k_is)
    case n_len =>
      refine' PySem.W.mg_none_of KX G ?a
      (case a => k_is)
    case n_list =>
      refine' PySem.W.mg_none_of KX G ?a
      (case a => k_is)
    case n_range =>
      refine' PySem.W.mg_none_of KX G ?a
      (case a => k_is)
    case n_tuple =>
      refine' PySem.W.mg_none_of KX G ?a
      (case a => k_is)
    case e_BadStep =>
      refine' exM_mk KX G ?aC ?xL ?hbm ?sa ?ga ?gg ?noN ?iC ?tC ?kC ?exC ?veC ?suC ?tp ?tyC ?hdC ?sup ?top ?few ?l ?cd ?lc ?ld ?sd ?st ?ha ?ha0 ?hv ?hf ?hb ?s1 ?s2 ?s3 ?s4 ?s5 ?s6 ?s7 ?s8 ?s9
      (case aC => k_is); (case xL => k_is); (case hbm => decide +kernel); (case sa => k_is); (case ga => k_is); (case gg => k_is)
      (case noN => exact List.forall_mem_cons.2 ⟨by k_is, List.forall_mem_cons.2 ⟨by k_is, fun _ h => nomatch h⟩⟩)
      (case iC => k_is); (case tC => k_is); (case kC => k_is); (case exC => k_is); (case veC => k_is); (case suC => ks_is); (case tp => k_is); (case tyC => k_is); (case hdC => k_is); (case sup => k_is)
      (case top => rfl); (case few => decide); (case l => k_is); (case cd => k_is); (case lc => k_is); (case ld => k_is)
      (case sd => first | exact .c | exact .a (i := 0) rfl); (case st => exact (.c (.a rfl .nil))); (case ha => rfl); (case ha0 => rfl); (case hv => rfl); (case hf => first | rfl | decide +kernel)
      (case hb => exact fun s us hu => match us, hu with | [_, _], _ => .of_eq rfl)
      (case s1 => rfl); (case s2 => rfl); (case s3 => rfl); (case s4 => decide +kernel); (case s5 => rfl); (case s6 => rfl); (case s7 => decide +kernel); (case s8 => decide +kernel); (case s9 => exact ⟨_, fun _ => rfl⟩)
    case e_OutOfRange =>
      refine' exM_mk KX G ?aC ?xL ?hbm ?sa ?ga ?gg ?noN ?iC ?tC ?kC ?exC ?veC ?suC ?tp ?tyC ?hdC ?sup ?top ?few ?l ?cd ?lc ?ld ?sd ?st ?ha ?ha0 ?hv ?hf ?hb ?s1 ?s2 ?s3 ?s4 ?s5 ?s6 ?s7 ?s8 ?s9
      (case aC => k_is); (case xL => k_is); (case hbm => decide +kernel); (case sa => k_is); (case ga => k_is); (case gg => k_is)
      (case noN => exact List.forall_mem_cons.2 ⟨by k_is, List.forall_mem_cons.2 ⟨by k_is, fun _ h => nomatch h⟩⟩)
      (case iC => k_is); (case tC => k_is); (case kC => k_is); (case exC => k_is); (case veC => k_is); (case suC => ks_is); (case tp => k_is); (case tyC => k_is); (case hdC => k_is); (case sup => k_is)
      (case top => rfl); (case few => decide); (case l => k_is); (case cd => k_is); (case lc => k_is); (case ld => k_is)
      (case sd => first | exact .c | exact .a (i := 0) rfl); (case st => exact (.c (.a rfl .nil))); (case ha => rfl); (case ha0 => rfl); (case hv => rfl); (case hf => first | rfl | decide +kernel)
      (case hb => exact fun s us hu => match us, hu with | [_, _], _ => .of_eq rfl)
      (case s1 => rfl); (case s2 => rfl); (case s3 => rfl); (case s4 => decide +kernel); (case s5 => rfl); (case s6 => rfl); (case s7 => decide +kernel); (case s8 => decide +kernel); (case s9 => exact ⟨_, fun _ => rfl⟩)
    case e_TooLarge =>
      refine' exM_mk KX G ?aC ?xL ?hbm ?sa ?ga ?gg ?noN ?iC ?tC ?kC ?exC ?veC ?suC ?tp ?tyC ?hdC ?sup ?top ?few ?l ?cd ?lc ?ld ?sd ?st ?ha ?ha0 ?hv ?hf ?hb ?s1 ?s2 ?s3 ?s4 ?s5 ?s6 ?s7 ?s8 ?s9
      (case aC => k_is); (case xL => k_is); (case hbm => decide +kernel); (case sa => k_is); (case ga => k_is); (case gg => k_is)
      (case noN => exact List.forall_mem_cons.2 ⟨by k_is, fun _ h => nomatch h⟩)
      (case iC => k_is); (case tC => k_is); (case kC => k_is); (case exC => k_is); (case veC => k_is); (case suC => ks_is); (case tp => k_is); (case tyC => k_is); (case hdC => k_is); (case sup => k_is)
      (case top => rfl); (case few => decide); (case l => k_is); (case cd => k_is); (case lc => k_is); (case ld => k_is)
      (case sd => first | exact .c | exact .a (i := 0) rfl); (case st => exact (.c .nil)); (case ha => rfl); (case ha0 => rfl); (case hv => rfl); (case hf => first | rfl | decide +kernel)
      (case hb => exact fun s us hu => match us, hu with | [_], _ => .of_eq rfl)
      (case s1 => rfl); (case s2 => rfl); (case s3 => rfl); (case s4 => decide +kernel); (case s5 => rfl); (case s6 => rfl); (case s7 => decide +kernel); (case s8 => decide +kernel); (case s9 => exact ⟨_, fun _ => rfl⟩)
    case e_TooMany =>
      refine' exM_mk KX G ?aC ?xL ?hbm ?sa ?ga ?gg ?noN ?iC ?tC ?kC ?exC ?veC ?suC ?tp ?tyC ?hdC ?sup ?top ?few ?l ?cd ?lc ?ld ?sd ?st ?ha ?ha0 ?hv ?hf ?hb ?s1 ?s2 ?s3 ?s4 ?s5 ?s6 ?s7 ?s8 ?s9
      (case aC => k_is); (case xL => k_is); (case hbm => decide +kernel); (case sa => k_is); (case ga => k_is); (case gg => k_is)
      (case noN => exact List.forall_mem_cons.2 ⟨by k_is, List.forall_mem_cons.2 ⟨by k_is, fun _ h => nomatch h⟩⟩)
      (case iC => k_is); (case tC => k_is); (case kC => k_is); (case exC => k_is); (case veC => k_is); (case suC => ks_is); (case tp => k_is); (case tyC => k_is); (case hdC => k_is); (case sup => k_is)
      (case top => rfl); (case few => decide); (case l => k_is); (case cd => k_is); (case lc => k_is); (case ld => k_is)
      (case sd => first | exact .c | exact .a (i := 0) rfl); (case st => exact (.c (.a rfl .nil))); (case ha => rfl); (case ha0 => rfl); (case hv => rfl); (case hf => first | rfl | decide +kernel)
      (case hb => exact fun s us hu => match us, hu with | [_, _], _ => .of_eq rfl)
      (case s1 => rfl); (case s2 => rfl); (case s3 => rfl); (case s4 => decide +kernel); (case s5 => rfl); (case s6 => rfl); (case s7 => decide +kernel); (case s8 => decide +kernel); (case s9 => exact ⟨_, fun _ => rfl⟩)
    case v_BadStep =>
      refine' vC_mk KX G ?a
      (case a => k_is)
    case x_BadStep =>
      intro nm A B b hA hB hb
      have eB := ref_eq hB (PySem.W.mg_of KX G (by k_is))
      subst eB
      unfold m_BadStep at hb
      split at hb
      · rename_i en
        subst en; cases hb
        have eA := ref_eq hA (PySem.W.mg_of KX G (by k_is))
        subst eA
        exact exm_of (by k_is) (by k_is) (by k_is) (by first | rfl | k_is)
      split at hb
      · rename_i en
        subst en; cases hb
        have eA := ref_eq hA (PySem.W.mg_of KX G (by k_is))
        subst eA
        exact exm_of (by k_is) (by k_is) (by k_is) (by first | rfl | k_is)
      split at hb
      · rename_i en
        subst en; cases hb
        have eA := ref_eq hA (PySem.W.mg_of KX G (by k_is))
        subst eA
        exact exm_of (by k_is) (by k_is) (by k_is) (by first | rfl | k_is)
      split at hb
      · rename_i en
        subst en; cases hb
        have eA := ref_eq hA (PySem.W.mg_of KX G (by k_is))
        subst eA
        exact exm_of (by k_is) (by k_is) (by k_is) (by first | rfl | k_is)
      cases hb
    case v_OutOfRange =>
      refine' vC_mk KX G ?a
      (case a => k_is)
    case x_OutOfRange =>
      intro nm A B b hA hB hb
      have eB := ref_eq hB (PySem.W.mg_of KX G (by k_is))
      subst eB
      unfold m_OutOfRange at hb
      split at hb
      · rename_i en
        subst en; cases hb
        have eA := ref_eq hA (PySem.W.mg_of KX G (by k_is))
        subst eA
        exact exm_of (by k_is) (by k_is) (by k_is) (by first | rfl | k_is)
      split at hb
      · rename_i en
        subst en; cases hb
        have eA := ref_eq hA (PySem.W.mg_of KX G (by k_is))
        subst eA
        exact exm_of (by k_is) (by k_is) (by k_is) (by first | rfl | k_is)
      split at hb
      · rename_i en
        subst en; cases hb
        have eA := ref_eq hA (PySem.W.mg_of KX G (by k_is))
        subst eA
        exact exm_of (by k_is) (by k_is) (by k_is) (by first | rfl | k_is)
      split at hb
      · rename_i en
        subst en; cases hb
        have eA := ref_eq hA (PySem.W.mg_of KX G (by k_is))
        subst eA
        exact exm_of (by k_is) (by k_is) (by k_is) (by first | rfl | k_is)
      cases hb
    case v_RopeError =>
      refine' vC_mk KX G ?a
      (case a => k_is)
    case x_RopeError =>
      intro nm A B b hA hB hb
      have eB := ref_eq hB (PySem.W.mg_of KX G (by k_is))
      subst eB
      unfold m_RopeError at hb
      split at hb
      · rename_i en
        subst en; cases hb
        have eA := ref_eq hA (PySem.W.mg_of KX G (by k_is))
        subst eA
        exact exm_of (by k_is) (by k_is) (by k_is) (by first | rfl | k_is)
      split at hb
      · rename_i en
        subst en; cases hb
        have eA := ref_eq hA (PySem.W.mg_of KX G (by k_is))
        subst eA
        exact exm_of (by k_is) (by k_is) (by k_is) (by first | rfl | k_is)
      split at hb
      · rename_i en
        subst en; cases hb
        have eA := ref_eq hA (PySem.W.mg_of KX G (by k_is))
        subst eA
        exact exm_of (by k_is) (by k_is) (by k_is) (by first | rfl | k_is)
      split at hb
      · rename_i en
        subst en; cases hb
        have eA := ref_eq hA (PySem.W.mg_of KX G (by k_is))
        subst eA
        exact exm_of (by k_is) (by k_is) (by k_is) (by first | rfl | k_is)
      cases hb
    case v_TooLarge =>
      refine' vC_mk KX G ?a
      (case a => k_is)
    case x_TooLarge =>
      intro nm A B b hA hB hb
      have eB := ref_eq hB (PySem.W.mg_of KX G (by k_is))
      subst eB
      unfold m_TooLarge at hb
      split at hb
      · rename_i en
        subst en; cases hb
        have eA := ref_eq hA (PySem.W.mg_of KX G (by k_is))
        subst eA
        exact exm_of (by k_is) (by k_is) (by k_is) (by first | rfl | k_is)
      split at hb
      · rename_i en
        subst en; cases hb
        have eA := ref_eq hA (PySem.W.mg_of KX G (by k_is))
        subst eA
        exact exm_of (by k_is) (by k_is) (by k_is) (by first | rfl | k_is)
      split at hb
      · rename_i en
        subst en; cases hb
        have eA := ref_eq hA (PySem.W.mg_of KX G (by k_is))
        subst eA
        exact exm_of (by k_is) (by k_is) (by k_is) (by first | rfl | k_is)
      split at hb
      · rename_i en
        subst en; cases hb
        have eA := ref_eq hA (PySem.W.mg_of KX G (by k_is))
        subst eA
        exact exm_of (by k_is) (by k_is) (by k_is) (by first | rfl | k_is)
      cases hb
    case f_BadStep_number =>
      refine List.forall_mem_cons.2 ⟨?_, fun _ h => nomatch h⟩
      · intro C hC
        have eC := ref_eq hC (PySem.W.mg_of KX G (by k_is))
        subst eC
        exact fldOk_mk (by k_is) (by k_is) (by k_is) (by k_is) (by k_is)
    case f_OutOfRange_value =>
      refine List.forall_mem_cons.2 ⟨?_, fun _ h => nomatch h⟩
      · intro C hC
        have eC := ref_eq hC (PySem.W.mg_of KX G (by k_is))
        subst eC
        exact fldOk_mk (by k_is) (by k_is) (by k_is) (by k_is) (by k_is)
