import PyProof.Rows.All
import Wide.All
import OpenK.AllK
import Wide.FinOn
import HandS.ForMost
import HandS.ForExc
import HandS.IsInst
import HandS.Style
import HandS.CallSlots
import HandS.Deep
import HandS.Strs
import HandS.TupAny
import HandS.Conv
import HandS.Wide
import HandS.TupLe
import HandS.SetFor
import PyProof.TupleOfSeq
import PyProof.Rows.SortShellAny
import HandS.ExcOwn
import HandS.ExcIs
import HandS.WordsExc
import KE.DataMinMax
import HandS.Iter
import PyProof.ZipIter
import HandS.Text
import HandS.Dict
import HandS.Call
import OpenK.KOps
import PyProof.AssignAttr
import PySem.Challenge.RW_popupsides_k99_repeated_calls
set_option Elab.async false
set_option autoImplicit false
set_option linter.all false
set_option maxHeartbeats 4000000
set_option maxRecDepth 100000
/-! Dl1: data, what a value represents, heaps that grow. -/
namespace Dl
open PySem L2

inductive D where
  | non | bl (b : Bool) | int (i : Int) | str (x : Str)
  | tup (ds : List D) | lst (ds : List D) | dic (kvs : List (Key × V)) | scr (ns : List Int) | fn (nm : Str) | exn (a : Addr) | tpl (ds : List D) | dlx (a : Addr) (kns : List (Int × List Int))
  | win (a : Addr) (p : D) (dn un : List D) | lsx (a : Addr) (ds : List D)

/-- a heap that keeps what is tracked -/
def Ex (H H' : Hp) : Prop := ∀ a o, H a = some o → H' a = some o
theorem Ex.refl (H : Hp) : Ex H H := fun _ _ h => h
theorem Ex.trans {H H1 H2 : Hp} (a : Ex H H1) (b : Ex H1 H2) : Ex H H2 := fun x o h => b x o (a x o h)
theorem Ex.new {H : Hp} {p : Addr} {o : HO} (h : H p = none) : Ex H (upd H p o) := fun a u e => by
  rw [upd_ne (ne_of_none e h)]
  exact e
theorem Ex.none {H H' : Hp} {p : Addr} (e : Ex H H') (h : H' p = none) : H p = none := by
  cases q : H p with
  | none => rfl
  | some o => rw [e p o q] at h; cases h
theorem Ex.rd {H H' : Hp} {a : Addr} {u : HO} (e : Ex H H') (h : Rd H a u) : Rd H' a u := by
  rcases h with h | ⟨o, h⟩
  · exact .inl (e a _ h)
  · exact .inr ⟨o, e a _ h⟩
theorem Ex.sqL {K : PySem.W.Frag} {H H' : Hp} {a : Addr} {xs : List V} (e : Ex H H') (h : SqL K H a xs) : SqL K H' a xs := by
  rcases h with h | h
  · exact .inl (e.rd h)
  · exact .inr h
theorem Ex.sqT {K : PySem.W.Frag} {H H' : Hp} {a : Addr} {xs : List V} (e : Ex H H') (h : SqT K H a xs) : SqT K H' a xs := by
  rcases h with h | h
  · exact .inl (e.rd h)
  · exact .inr h

/-- a dict with int keys whose values are lists of ints -/
def KRep (F : Hp) : List (Key × V) → List (Int × List Int) → Prop
  | [], [] => True
  | p :: r, q :: s => p.1 = Sum.inl q.1 ∧ (∃ b, p.2 = .ref b ∧ F b = some (.lst (q.2.map V.int))) ∧ KRep F r s
  | _, _ => False
theorem KRep.mo {F F' : Hp} (e : Ex F F') : ∀ {kvs : List (Key × V)} {kns : List (Int × List Int)}, KRep F kvs kns → KRep F' kvs kns
  | [], [], _ => trivial
  | p :: r, q :: s, h => ⟨h.1, by obtain ⟨b, h1, h2⟩ := h.2.1; exact ⟨b, h1, e _ _ h2⟩, KRep.mo e h.2.2⟩
  | [], _ :: _, h => h.elim
  | _ :: _, [], h => h.elim
/-- a tuple whose object is known to have no dict of its own -/
def PlT (F : Hp) (a : Addr) (xs : List V) : Prop := ∃ o : Obj, F a = some (.frz o (.tup xs)) ∧ o.cls = .type "tuple" ∧ o.dict = none
theorem Ex.plT {H H' : Hp} {a : Addr} {xs : List V} (e : Ex H H') (h : PlT H a xs) : PlT H' a xs := by
  obtain ⟨o, h1, h2⟩ := h
  exact ⟨o, e _ _ h1, h2⟩
section
variable (K : PySem.W.Frag) (mg : Str → Option Value) (F : Hp)
mutual
inductive Rep : V → D → Prop
  | non : Rep .non .non
  | bl (b : Bool) : Rep (.bl b) (.bl b)
  | int (i : Int) : Rep (.int i) (.int i)
  | str (x : Str) : Rep (.str x) (.str x)
  | tup {a : Addr} {xs : List V} {ds : List D} : SqT K F a xs → RepAll xs ds → Rep (.ref a) (.tup ds)
  | lst {a : Addr} {xs : List V} {ds : List D} : F a = some (.lst xs) → RepAll xs ds → Rep (.ref a) (.lst ds)
  | dic {a : Addr} {kvs : List (Key × V)} : F a = some (.dK kvs) → (kvs.all fun p => flatV p.2) = true → Rep (.ref a) (.dic kvs)
  | scr {a : Addr} {ns : List Int} : SqL K F a (ns.map V.int) → Rep (.ref a) (.scr ns)
  | fn {a : Addr} {nm : Str} : mg nm = some (.ref a) → Rep (.ref a) (.fn nm)
  | exn (a : Addr) : Rep (.ref a) (.exn a)
  | tpl {a : Addr} {xs : List V} {ds : List D} : PlT F a xs → RepAll xs ds → Rep (.ref a) (.tpl ds)
  | dlx {a : Addr} {kvs : List (Key × V)} {kns : List (Int × List Int)} : F a = some (.dK kvs) → KRep F kvs kns → Rep (.ref a) (.dlx a kns)
  | win {a C dx : Addr} {pv x y : V} {p : D} {dn un : List D} : mg "Window" = some (.ref C) → F a = some (.ins C dx [("present", pv), ("done", x), ("undone", y)]) → Rep pv p → Rep (.ref a) (.win a p dn un)
  | lsx {a : Addr} {xs : List V} {ds : List D} : F a = some (.lst xs) → RepAll xs ds → Rep (.ref a) (.lsx a ds)
inductive RepAll : List V → List D → Prop
  | nil : RepAll [] []
  | cons {v : V} {vs : List V} {d : D} {ds : List D} : Rep v d → RepAll vs ds → RepAll (v :: vs) (d :: ds)
end
end

section
variable {K : PySem.W.Frag} {mg : Str → Option Value} {F F' H H' : Hp}
mutual
theorem Rep.mono (e : Ex F F') : ∀ (d : D) (v : V), Rep K mg F v d → Rep K mg F' v d
  | .non, _, h => by cases h; exact .non
  | .bl b, _, h => by cases h; exact .bl b
  | .int i, _, h => by cases h; exact .int i
  | .str x, _, h => by cases h; exact .str x
  | .tup ds, _, h => by cases h with | tup hs ha => exact .tup (e.sqT hs) (RepAll.mono e ds _ ha)
  | .lst ds, _, h => by cases h with | lst hs ha => exact .lst (e _ _ hs) (RepAll.mono e ds _ ha)
  | .dic kvs, _, h => by cases h with | dic h1 h2 => exact .dic (e _ _ h1) h2
  | .scr ns, _, h => by cases h with | scr h1 => exact .scr (e.sqL h1)
  | .fn nm, _, h => by cases h with | fn h1 => exact .fn h1
  | .exn a, _, h => by cases h; exact .exn a
  | .tpl ds, _, h => by cases h with | tpl hs ha => exact .tpl (e.plT hs) (RepAll.mono e ds _ ha)
  | .dlx a kns, _, h => by cases h with | dlx hs hk => exact .dlx (e _ _ hs) (hk.mo e)
  | .win a p dn un, _, h => by cases h with | win h1 h2 h3 => exact .win h1 (e _ _ h2) (Rep.mono e p _ h3)
  | .lsx a ds, _, h => by cases h with | lsx hs ha => exact .lsx (e _ _ hs) (RepAll.mono e ds _ ha)
theorem RepAll.mono (e : Ex F F') : ∀ (ds : List D) (vs : List V), RepAll K mg F vs ds → RepAll K mg F' vs ds
  | [], _, h => by cases h; exact .nil
  | d :: ds, _, h => by cases h with | cons h1 h2 => exact .cons (Rep.mono e d _ h1) (RepAll.mono e ds _ h2)
end
theorem Rep.mo {d : D} {v : V} (h : Rep K mg F v d) (e : Ex F F') : Rep K mg F' v d := Rep.mono e d v h
theorem RepAll.mo {d : List D} {v : List V} (h : RepAll K mg F v d) (e : Ex F F') : RepAll K mg F' v d := RepAll.mono e d v h
theorem RepAll.length : ∀ {vs : List V} {ds : List D}, RepAll K mg F vs ds → vs.length = ds.length
  | _, [], h => by cases h; rfl
  | _, d :: ds, h => by cases h with | cons h1 h2 => rw [List.length_cons, List.length_cons, RepAll.length h2]
theorem RepAll.get : ∀ {vs : List V} {ds : List D} {i : Nat} {d : D}, RepAll K mg F vs ds → ds[i]? = some d → ∃ v, vs[i]? = some v ∧ Rep K mg F v d
  | _, [], _, _, _, h => by simp at h
  | _, d :: ds, 0, _, h, e => by
    cases h with
    | cons h1 h2 => simp at e; subst e; exact ⟨_, rfl, h1⟩
  | _, d :: ds, i + 1, _, h, e => by
    cases h with
    | cons h1 h2 =>
      obtain ⟨v, e1, r⟩ := RepAll.get (i := i) h2 (by simpa using e)
      exact ⟨v, by simpa using e1, r⟩
theorem RepAll.get' : ∀ {vs : List V} {ds : List D} {i : Nat} {v : V}, RepAll K mg F vs ds → vs[i]? = some v → ∃ d, ds[i]? = some d ∧ Rep K mg F v d
  | _, [], _, _, h, e => by cases h; simp at e
  | _, d :: ds, 0, _, h, e => by
    cases h with
    | cons h1 h2 => simp at e; subst e; exact ⟨_, rfl, h1⟩
  | _, d :: ds, i + 1, _, h, e => by
    cases h with
    | cons h1 h2 =>
      obtain ⟨v, e1, r⟩ := RepAll.get' (i := i) h2 (by simpa using e)
      exact ⟨v, by simpa using e1, r⟩
theorem RepAll.append : ∀ {vs ws : List V} {ds es : List D}, RepAll K mg F vs ds → RepAll K mg F ws es → RepAll K mg F (vs ++ ws) (ds ++ es)
  | _, _, [], _, h, g => by cases h; exact g
  | _, _, d :: ds, _, h, g => by cases h with | cons h1 h2 => exact .cons h1 (RepAll.append h2 g)
theorem RepAll.take : ∀ {vs : List V} {ds : List D} (n : Nat), RepAll K mg F vs ds → RepAll K mg F (vs.take n) (ds.take n)
  | _, _, 0, _ => .nil
  | _, [], _ + 1, h => by cases h; exact .nil
  | _, d :: ds, n + 1, h => by cases h with | cons h1 h2 => exact .cons h1 (RepAll.take n h2)
theorem RepAll.drop : ∀ {vs : List V} {ds : List D} (n : Nat), RepAll K mg F vs ds → RepAll K mg F (vs.drop n) (ds.drop n)
  | _, _, 0, h => h
  | _, [], _ + 1, h => by cases h; exact .nil
  | _, d :: ds, n + 1, h => by cases h with | cons h1 h2 => exact RepAll.drop n h2
theorem RepAll.reverse : ∀ {vs : List V} {ds : List D}, RepAll K mg F vs ds → RepAll K mg F vs.reverse ds.reverse
  | _, [], h => by cases h; exact .nil
  | _, d :: ds, h => by
    cases h with
    | cons h1 h2 => rw [List.reverse_cons, List.reverse_cons]; exact (RepAll.reverse h2).append (.cons h1 .nil)
theorem RepAll.eraseIdx : ∀ {vs : List V} {ds : List D} (i : Nat), RepAll K mg F vs ds → RepAll K mg F (vs.eraseIdx i) (ds.eraseIdx i)
  | _, [], _, h => by cases h; exact .nil
  | _, d :: ds, 0, h => by cases h with | cons h1 h2 => exact h2
  | _, d :: ds, i + 1, h => by cases h with | cons h1 h2 => exact .cons h1 (RepAll.eraseIdx i h2)
theorem RepAll.rep {vs : List V} {ds : List D} (h : RepAll K mg F vs ds) : ∀ k : Nat, RepAll K mg F (List.replicate k vs).flatten (List.replicate k ds).flatten
  | 0 => .nil
  | k + 1 => by rw [List.replicate_succ, List.replicate_succ, List.flatten_cons, List.flatten_cons]; exact h.append (RepAll.rep h k)
theorem RepAll.ints : ∀ (ns : List Int), RepAll K mg F (ns.map V.int) (ns.map D.int)
  | [] => .nil
  | n :: ns => .cons (.int n) (RepAll.ints ns)

/-! ### data without a list: it leans on tuples alone -/
mutual
def lf : D → Bool
  | .non => true
  | .bl _ => true
  | .int _ => true
  | .str _ => true
  | .fn _ => true
  | .exn _ => true
  | .tpl _ => false
  | .dlx _ _ => false
  | .win _ _ _ _ => false
  | .lsx _ _ => false
  | .tup ds => lfAll ds
  | .lst _ => false
  | .dic _ => false
  | .scr _ => false
def lfAll : List D → Bool
  | [] => true
  | d :: ds => lf d && lfAll ds
end
def Tups (F F' : Hp) : Prop := ∀ a xs, SqT K F a xs → SqT K F' a xs
mutual
theorem Rep.lf (e : Tups (K := K) F F') : ∀ (d : D) (v : V), Dl.lf d = true → Rep K mg F v d → Rep K mg F' v d
  | .non, _, _, h => by cases h; exact .non
  | .bl b, _, _, h => by cases h; exact .bl b
  | .int i, _, _, h => by cases h; exact .int i
  | .str x, _, _, h => by cases h; exact .str x
  | .tup ds, _, l, h => by
    cases h with
    | tup hs ha => exact .tup (e _ _ hs) (RepAll.lf e ds _ (by simpa [Dl.lf] using l) ha)
  | .fn nm, _, _, h => by cases h with | fn h1 => exact .fn h1
  | .exn a, _, _, h => by cases h; exact .exn a
  | .tpl ds, _, l, _ => by simp [Dl.lf] at l
  | .dlx _ _, _, l, _ => by simp [Dl.lf] at l
  | .win _ _ _ _, _, l, _ => by simp [Dl.lf] at l
  | .lsx _ _, _, l, _ => by simp [Dl.lf] at l
  | .lst ds, _, l, _ => by simp [Dl.lf] at l
  | .dic ds, _, l, _ => by simp [Dl.lf] at l
  | .scr ds, _, l, _ => by simp [Dl.lf] at l
theorem RepAll.lf (e : Tups (K := K) F F') : ∀ (ds : List D) (vs : List V), Dl.lfAll ds = true → RepAll K mg F vs ds → RepAll K mg F' vs ds
  | [], _, _, h => by cases h; exact .nil
  | d :: ds, _, l, h => by
    have l' : Dl.lf d = true ∧ Dl.lfAll ds = true := by simpa [Dl.lfAll] using l
    cases h with | cons h1 h2 => exact .cons (Rep.lf e d _ l'.1 h1) (RepAll.lf e ds _ l'.2 h2)
end

/-! ### the frozen part F inside H; both grow, the new of F is new to H -/
structure Grow (F H F' H' : Hp) : Prop where
  f : Ex F F'
  h : Ex H H'
  s : Ex F' H'
  n : ∀ a o, F' a = some o → F a = some o ∨ H a = none
theorem Grow.refl (e : Ex F H) : Grow F H F H := ⟨.refl _, .refl _, e, fun _ _ h => .inl h⟩
theorem Grow.trans {F1 H1 F2 H2 : Hp} (a : Grow F H F1 H1) (b : Grow F1 H1 F2 H2) : Grow F H F2 H2 :=
  ⟨a.f.trans b.f, a.h.trans b.h, b.s, fun x o e => (b.n x o e).elim (fun q => a.n x o q) fun q => .inr (a.h.none q)⟩
/-- a new object, in both -/
theorem Grow.both {p : Addr} {o : HO} (e : Ex F H) (h : H p = none) : Grow F H (upd F p o) (upd H p o) := by
  have hf : F p = none := e.none h
  refine ⟨.new hf, .new h, fun a u q => ?_, fun a u q => ?_⟩
  · by_cases ha : a = p
    · subst ha; rw [upd_same] at q ⊢; exact q
    · rw [upd_ne ha] at q ⊢; exact e a u q
  · by_cases ha : a = p
    · subst ha; exact .inr h
    · rw [upd_ne ha] at q; exact .inl q
/-- a new object, in H alone -/
theorem Grow.only {p : Addr} {o : HO} (e : Ex F H) (h : H p = none) : Grow F H F (upd H p o) :=
  ⟨.refl _, .new h, e.trans (.new h), fun _ _ q => .inl q⟩
/-- frozen afterwards -/
theorem Grow.freeze {p : Addr} {o : HO} (g : Grow F H F' H') (hp : H p = none) (h1 : F' p = none) (h2 : H' p = some o) : Grow F H (upd F' p o) H' :=
  ⟨g.f.trans (.new h1), g.h, fun a u q => by
    by_cases ha : a = p
    · subst ha; rw [upd_same] at q; cases q; exact h2
    · rw [upd_ne ha] at q; exact g.s a u q, fun a u q => by
    by_cases ha : a = p
    · subst ha; exact .inr hp
    · rw [upd_ne ha] at q; exact g.n a u q⟩
end
end Dl
/-! Dl2: readings that follow a plain function of the data; expressions. -/
namespace Dl
open PySem L2

abbrev Oe (α : Type) := Option (Except Str α)
abbrev Rho := List (Option D)
abbrev Sx := Rho → Oe D
abbrev Sb := Rho → Oe Bool
abbrev Sl := Rho → Oe (List D)
def bd {α β : Type} (o : Oe α) (f : α → Oe β) : Oe β :=
  match o with
  | some (.ok a) => f a
  | some (.error c) => some (.error c)
  | none => none
theorem bd_some {α β : Type} {o : Oe α} {f : α → Oe β} {r : Except Str β} (h : bd o f = some r) :
    (∃ a, o = some (.ok a) ∧ f a = some r) ∨ ∃ c, o = some (.error c) ∧ r = .error c := by
  unfold bd at h
  split at h
  · exact .inl ⟨_, rfl, h⟩
  · exact .inr ⟨_, rfl, (Option.some.inj h).symm⟩
  · cases h
def lift {α : Type} (o : Option α) : Oe α := o.map .ok
theorem lift_some {α : Type} {o : Option α} {r : Except Str α} (h : lift o = some r) : ∃ a, o = some a ∧ r = .ok a := by
  unfold lift at h
  cases o with
  | none => cases h
  | some a => exact ⟨a, rfl, (Option.some.inj h).symm⟩

/-- a kind of answer: F, H ahead, F', H' behind -/
structure Kd (β α : Type) where
  rep : Hp → Hp → Hp → β → α → Prop
  mono : ∀ {H H1 F' H' b a}, Ex H H1 → rep H1 F' H' b a → rep H F' H' b a

section
variable (K : PySem.W.Frag) (mg : Str → Option Value)
structure View (F H : Hp) (σ : St) (ρ : Rho) : Prop where
  e : Ex F H
  v : ∀ (i : Nat) (d : D), ρ[i]? = some (some d) → ∃ v, σ[i]? = some (some v) ∧ Rep K mg F v d
  l : ρ.length ≤ σ.length
def kV : Kd V D := ⟨fun _ F' _ v d => Rep K mg F' v d, fun _ h => h⟩
def kT : Kd Bool Bool := ⟨fun _ _ _ b a => b = a, fun _ h => h⟩
def kA : Kd (List V) (List D) := ⟨fun _ F' _ vs ds => RepAll K mg F' vs ds, fun _ h => h⟩
/-- a new list, not frozen -/
def kL : Kd V (List D) := ⟨fun H F' H' v ds => ∃ p xs, v = .ref p ∧ H p = none ∧ F' p = none ∧ H' p = some (.lst xs) ∧ RepAll K mg F' xs ds, fun e ⟨p, xs, a, b, c⟩ => ⟨p, xs, a, e.none b, c⟩⟩
def kO : Kd (Option Int) (Option Int) := ⟨fun _ _ _ b a => b = a, fun _ h => h⟩
variable (W : WX)
def FinX (F H : Hp) (σ : St) (c : Str) : Prop := ∀ C F' H', Grow F H F' H' → mg c = some (.ref C) → W (.ref C) none σ H'
variable {α β : Type}
def Fin (k : Kd β α) (F H : Hp) (σ : St) (r : Except Str α) (Q : β → Hp → Prop) : Prop :=
  match r with
  | .ok a => ∀ b F' H', Grow F H F' H' → k.rep H F' H' b a → Q b H'
  | .error c => FinX mg W F H σ c
def tK (k : Kd β α) (s : Rho → Oe α) : St → Hp → (β → Hp → Prop) → Prop := fun σ H Q =>
  ∃ ρ F r, View K mg F H σ ρ ∧ s ρ = some r ∧ Fin mg W k F H σ r Q
abbrev tS (s : Sx) : TE := tK K mg W (kV K mg) s
abbrev tT (s : Sb) : TT := tK K mg W kT s
abbrev tA (s : Sl) : TA := tK K mg W (kA K mg) s
abbrev tL (s : Sl) : TE := tK K mg W (kL K mg) s
end

section
variable {K : PySem.W.Frag} {mg : Str → Option Value} {W : WX} {α β γ δ ε ζ : Type} {F H F1 H1 : Hp} {σ : St} {ρ : Rho}
theorem View.mo (h : View K mg F H σ ρ) (g : Grow F H F1 H1) : View K mg F1 H1 σ ρ :=
  ⟨g.s, fun i d e => let ⟨v, e1, r⟩ := h.v i d e; ⟨v, e1, r.mo g.f⟩, h.l⟩
theorem Fin.mo {k : Kd β α} {r : Except Str α} {Q : β → Hp → Prop} (h : Fin mg W k F H σ r Q) (g : Grow F H F1 H1) : Fin mg W k F1 H1 σ r Q := by
  cases r with
  | ok a => exact fun b F' H' g' q => h b F' H' (g.trans g') (k.mono g.h q)
  | error c => exact fun C F' H' g' q => h C F' H' (g.trans g') q
theorem Fin.err {k : Kd β α} {k' : Kd δ γ} {c : Str} {Q : β → Hp → Prop} {Q' : δ → Hp → Prop} (h : Fin mg W k F H σ (.error c) Q) : Fin mg W k' F H σ (.error c) Q' := h
/-- a part is run, then the rest -/
theorem part {k : Kd β α} {k' : Kd δ γ} {s : Rho → Oe α} {f : α → Oe γ} {r : Except Str γ} {Q : β → Hp → Prop} {Q' : δ → Hp → Prop} (v : View K mg F H σ ρ) (e : bd (s ρ) f = some r) (fin : Fin mg W k' F H σ r Q')
    (h : ∀ a b F1 H1, s ρ = some (.ok a) → f a = some r → Grow F H F1 H1 → View K mg F1 H1 σ ρ → k.rep H F1 H1 b a → Fin mg W k' F1 H1 σ r Q' → Q b H1) : tK K mg W k s σ H Q := by
  rcases bd_some e with ⟨a, ea, e⟩ | ⟨c, ea, rfl⟩
  · exact ⟨ρ, F, .ok a, v, ea, fun b F1 H1 g q => h a b F1 H1 ea e g (v.mo g) q (fin.mo g)⟩
  · exact ⟨ρ, F, .error c, v, ea, fin⟩
/-- the last part -/
theorem whole {k : Kd β α} {s : Rho → Oe α} {r : Except Str α} {Q : β → Hp → Prop} (v : View K mg F H σ ρ) (e : s ρ = some r) (fin : Fin mg W k F H σ r Q) : tK K mg W k s σ H Q := ⟨ρ, F, r, v, e, fin⟩
end

/-! ### rules of the layer below, weakened -/
section
variable {X : Cx} {e : Expr} {es : List Expr} {st : Stmt} {sts : List Stmt}
theorem pe_imp {t t' : TE} (h : PE X e t) (i : ∀ σ H Q, t' σ H Q → t σ H Q) : PE X e t' := ⟨fun pins s σ H Q I q => h.run pins s σ H Q I (i σ H Q q)⟩
theorem pt_imp {t t' : TT} (h : PT X e t) (i : ∀ σ H Q, t' σ H Q → t σ H Q) : PT X e t' := ⟨fun pins s σ H Q I q => h.run pins s σ H Q I (i σ H Q q)⟩
theorem pw_imp {t t' : TT} (h : PW X e t) (i : ∀ σ H Q, t' σ H Q → t σ H Q) : PW X e t' := ⟨fun wh pins s σ H Q I q => h.run wh pins s σ H Q I (i σ H Q q)⟩
theorem pa_imp {t t' : TA} (h : PA X es t) (i : ∀ σ H Q, t' σ H Q → t σ H Q) : PA X es t' := ⟨fun pos pins s σ H Q I q => h.run pos pins s σ H Q I (i σ H Q q)⟩
theorem ps_imp {t t' : TS} (h : PS X st t) (i : ∀ D σ H, t' D σ H → t D σ H) : PS X st t' := ⟨fun pins s σ H D I q => h.run pins s σ H D I (i D σ H q)⟩
theorem pss_imp {t t' : TS} (h : PSs X sts t) (i : ∀ D σ H, t' D σ H → t D σ H) : PSs X sts t' := ⟨fun pins s σ H D I q => h.run pins s σ H D I (i D σ H q)⟩
theorem pts_imp {t t' : TT} (h : PTs X es t) (i : ∀ σ H Q, t' σ H Q → t σ H Q) : PTs X es t' := ⟨fun pins s σ H Q I q => h.run pins s σ H Q I (i σ H Q q)⟩
theorem po_imp {o : Option Expr} {t t' : TO} (h : PO X o t) (i : ∀ σ H Q, t' σ H Q → t σ H Q) : PO X o t' := ⟨fun pins s σ H Q I q => h.run pins s σ H Q I (i σ H Q q)⟩
end

/-! ### names, constants -/
section
variable {X : Cx} {W : WX} {pos : Pos}
def sV (i : Nat) : Sx := fun ρ => lift ((ρ[i]?).bind id)
def sC (d : D) : Sx := fun _ => some (.ok d)
theorem d_var (i : Nat) {x : Str} (hN : X.N[i]? = some x := by rfl) (hv : Vis X.env.scope x := by first | exact Or.inl rfl | exact Or.inr (Or.inl rfl) | exact Or.inr (Or.inr rfl)) (hd : (x == ("__debug__" : Str)) = false := by decide)
    (hcd : (x == ("__classdict__" : Str)) = false := by decide) : PE X (.Name x pos) (tS X.K X.mg W (sV i)) := by
  refine pe_imp (pe_var hN hv hd hcd) fun σ H Q ⟨ρ, F, r, v, e, fin⟩ => ?_
  obtain ⟨d, e1, rfl⟩ := lift_some e
  have e2 : ρ[i]? = some (some d) := by
    cases q : ρ[i]? with
    | none => rw [q] at e1; cases e1
    | some o => rw [q] at e1; exact congrArg some e1
  obtain ⟨u, e3, rp⟩ := v.v i d e2
  exact ⟨u, e3, fin u F H (.refl v.e) rp⟩
theorem d_const {e : Expr} {v : V} {d : D} (h : PE X e (tC v)) (hr : ∀ F, Rep X.K X.mg F v d) : PE X e (tS X.K X.mg W (sC d)) :=
  pe_imp h fun σ H Q ⟨ρ, F, r, v', e, fin⟩ => by cases e; exact fin v F H (.refl v'.e) (hr F)
theorem d_int {i j} : PE X (.Constant (.int i) j pos) (tS X.K X.mg W (sC (.int i))) := d_const pe_int fun _ => .int i
theorem d_bl {b j} : PE X (.Constant (.bool b) j pos) (tS X.K X.mg W (sC (.bl b))) := d_const pe_bl fun _ => .bl b
theorem d_non {j} : PE X (.Constant .none j pos) (tS X.K X.mg W (sC .non)) := d_const pe_non fun _ => .non
theorem d_str {x j} : PE X (.Constant (.str x) j pos) (tS X.K X.mg W (sC (.str x))) := d_const pe_str fun _ => .str x
/-- a constant of the module -/
theorem d_glob {x : Str} {v : V} {u : Value} {d : D} (hm : X.mg x = some u) (r : RelV v u) (hr : ∀ F, Rep X.K X.mg F v d) (hg : Gl X x := by rfl) (hd : (x == ("__debug__" : Str)) = false := by decide) : PE X (.Name x pos) (tS X.K X.mg W (sC d)) := d_const (pe_glob hg hm r hd) hr
/-- a def as a value -/
theorem d_fn {x : Str} {f : Addr} (hm : X.mg x = some (.ref f)) (hg : Gl X x := by rfl) (hd : (x == ("__debug__" : Str)) = false := by decide) : PE X (.Name x pos) (tS X.K X.mg W (sC (.fn x))) := d_const (pe_glob (v := .ref f) hg hm rfl hd) fun _ => .fn hm
end

/-! ### operators, by values -/
def sOp (f : D → D → Option D) (a b : Sx) : Sx := fun ρ => bd (a ρ) fun x => bd (b ρ) fun y => lift (f x y)
def sUn (f : D → Option D) (a : Sx) : Sx := fun ρ => bd (a ρ) fun x => lift (f x)
def Op2 (K : PySem.W.Frag) (mg : Str → Option Value) (r : R2) (f : D → D → Option D) : Prop :=
  ∀ F H x y dx dy dz (Q : VK), Ex F H → Rep K mg F x dx → Rep K mg F y dy → f dx dy = some dz → (∀ v F' H', Grow F H F' H' → Rep K mg F' v dz → Q v H') → r x y H Q
def Op1 (K : PySem.W.Frag) (mg : Str → Option Value) (r : V → Hp → VK → Prop) (f : D → Option D) : Prop :=
  ∀ F H x dx dz (Q : VK), Ex F H → Rep K mg F x dx → f dx = some dz → (∀ v F' H', Grow F H F' H' → Rep K mg F' v dz → Q v H') → r x H Q
def CallN (K : PySem.W.Frag) (mg : Str → Option Value) (r : List V → Hp → VK → Prop) (f : List D → Option D) : Prop :=
  ∀ F H xs ds dz (Q : VK), Ex F H → RepAll K mg F xs ds → f ds = some dz → (∀ v F' H', Grow F H F' H' → Rep K mg F' v dz → Q v H') → r xs H Q
section
variable {X : Cx} {W : WX} {pos : Pos} {a b c : Expr} {sa sb sc : Sx} {f : D → D → Option D} {r : R2}
theorem op_reads (hf : Op2 X.K X.mg r f) {σ : St} {H : Hp} {Q : VK} (h : tS X.K X.mg W (sOp f sa sb) σ H Q) : tOp r (tS X.K X.mg W sa) (tS X.K X.mg W sb) σ H Q := by
  obtain ⟨ρ, F, z, v, e, fin⟩ := h
  refine part v e fin fun dx x F1 H1 _ e g v1 rx fin1 => ?_
  refine part v1 e fin1 fun dy y F2 H2 _ e g2 v2 ry fin2 => ?_
  obtain ⟨dz, e', rfl⟩ := lift_some e
  exact hf F2 H2 x y dx dy dz Q v2.e (rx.mo g2.f) ry e' fin2
theorem d_op {op : Operator} (ho : OpR X (binaryOp op) r) (hf : Op2 X.K X.mg r f) (ha : PE X a (tS X.K X.mg W sa)) (hb : PE X b (tS X.K X.mg W sb)) : PE X (.BinOp a op b pos) (tS X.K X.mg W (sOp f sa sb)) :=
  pe_imp (pe_op ho ha hb) fun _ _ _ h => op_reads hf h
theorem d_cmp {op : CmpOp} (ho : OpR X (compareOp op) r) (hf : Op2 X.K X.mg r f) (ha : PE X a (tS X.K X.mg W sa)) (hb : PE X b (tS X.K X.mg W sb)) (hm : behindInMarks op b = false := by first | exact nomark _ | rfl) : PE X (.Compare a [op] [b] pos) (tS X.K X.mg W (sOp f sa sb)) :=
  pe_imp (pe_cmpR ho ha hb hm) fun _ _ _ h => op_reads hf h
theorem d_ix (hr : IxR X r) (hf : Op2 X.K X.mg r f) (ha : PE X a (tS X.K X.mg W sa)) (hb : PE X b (tS X.K X.mg W sb)) (hs : PlainIx b := by exact fun _ _ => rfl) : PE X (.Subscript a b pos) (tS X.K X.mg W (sOp f sa sb)) :=
  pe_imp (pe_ix hr ha hb hs) fun _ _ _ h => op_reads hf h
theorem d_un {op : UnaryOp} {r : V → Hp → VK → Prop} {f : D → Option D} (ho : UnR X (unaryOp op) r) (hf : Op1 X.K X.mg r f) (ha : PE X a (tS X.K X.mg W sa)) : PE X (.UnaryOp op a pos) (tS X.K X.mg W (sUn f sa)) := by
  refine pe_imp (pe_un ho ha) fun σ H Q ⟨ρ, F, z, v, e, fin⟩ => ?_
  refine part v e fin fun dx x F1 H1 _ e g v1 rx fin1 => ?_
  obtain ⟨dz, e', rfl⟩ := lift_some e
  exact hf F1 H1 x dx dz Q v1.e rx e' fin1

/-! ### argument lists, displays -/
def sNil : Sl := fun _ => some (.ok [])
def sCons (a : Sx) (l : Sl) : Sl := fun ρ => bd (a ρ) fun x => bd (l ρ) fun xs => some (.ok (x :: xs))
theorem da_nil : PA X [] (tA X.K X.mg W sNil) := pa_imp pa_nil fun σ H Q ⟨ρ, F, r, v, e, fin⟩ => by cases e; exact fin [] F H (.refl v.e) .nil
theorem da_cons {es : List Expr} {sl : Sl} (ha : PE X a (tS X.K X.mg W sa)) (hr : PA X es (tA X.K X.mg W sl)) (hs : starEach (a :: es) X.env = (false, eval a X.env) :: starEach es X.env := by rfl) : PA X (a :: es) (tA X.K X.mg W (sCons sa sl)) := by
  refine pa_imp (pa_cons ha hr hs) fun σ H Q ⟨ρ, F, z, v, e, fin⟩ => ?_
  refine part v e fin fun dx x F1 H1 _ e g v1 rx fin1 => ?_
  refine part v1 e fin1 fun ds xs F2 H2 _ e g2 v2 rs fin2 => ?_
  cases e
  exact fin2 (x :: xs) F2 H2 (.refl v2.e) (.cons (rx.mo g2.f) rs)
def okLen (n : Nat) : Bool := decide (n ≤ 1000000)
theorem okLen_line {n : Nat} (h : okLen n = true) : n ≤ sizeLine := Nat.le_trans (of_decide_eq_true h) (by decide)
def sTup (l : Sl) : Sx := fun ρ => bd (l ρ) fun ds => if okLen ds.length then some (.ok (.tup ds)) else none
theorem d_tup {es : List Expr} {x1} {sl : Sl} (h : PA X es (tA X.K X.mg W sl)) : PE X (.Tuple es x1 pos) (tS X.K X.mg W (sTup sl)) := by
  refine pe_imp (pe_tup h) fun σ H Q ⟨ρ, F, z, v, e, fin⟩ => ?_
  refine part v e fin fun ds xs F1 H1 _ e g v1 rs fin1 => ?_
  split at e
  · rename_i ho
    cases e
    refine ⟨by rw [rs.length]; exact okLen_line ho, fun p hp => ?_⟩
    exact fin1 (.ref p) _ _ (.both v1.e hp) (.tup (.inl (.inl upd_same)) (rs.mo (.new (v1.e.none hp))))
  · cases e
def sLst (l : Sl) : Sl := fun ρ => bd (l ρ) fun ds => if okLen ds.length then some (.ok ds) else none
theorem l_lst {es : List Expr} {sl : Sl} (h : PA X es (tA X.K X.mg W sl)) : PE X (.List es pos) (tL X.K X.mg W (sLst sl)) := by
  refine pe_imp (pe_lst h) fun σ H Q ⟨ρ, F, z, v, e, fin⟩ => ?_
  refine part v e fin fun ds xs F1 H1 _ e g v1 rs fin1 => ?_
  split at e
  · rename_i ho
    cases e
    refine ⟨by rw [rs.length]; exact okLen_line ho, fun p hp => ?_⟩
    exact fin1 (.ref p) F1 _ (.only v1.e hp) ⟨p, xs, rfl, hp, v1.e.none hp, upd_same, rs⟩
  · cases e
/-- a new list, frozen as it is -/
def sOfL (l : Sl) : Sx := fun ρ => bd (l ρ) fun ds => some (.ok (.lst ds))
theorem d_ofL {e : Expr} {sl : Sl} (h : PE X e (tL X.K X.mg W sl)) : PE X e (tS X.K X.mg W (sOfL sl)) := by
  refine pe_imp h fun σ H Q ⟨ρ, F, z, v, e, fin⟩ => ?_
  rcases bd_some e with ⟨ds, ea, e⟩ | ⟨c, ea, rfl⟩
  · cases e
    refine ⟨ρ, F, .ok ds, v, ea, fun b F1 H1 g ⟨p, xs, eb, hp, f1, h1, rs⟩ => ?_⟩
    subst eb
    exact fin (.ref p) _ H1 (g.freeze hp f1 h1) (.lst upd_same (rs.mo (.new f1)))
  · exact ⟨ρ, F, .error c, v, ea, fin⟩

/-! ### calls of built-ins, by values -/
def sCall (f : List D → Option D) (l : Sl) : Sx := fun ρ => bd (l ρ) fun ds => lift (f ds)
theorem call_reads {r : List V → Hp → VK → Prop} {f : List D → Option D} {sl : Sl} (hf : CallN X.K X.mg r f) {σ : St} {H : Hp} {Q : VK} (h : tS X.K X.mg W (sCall f sl) σ H Q) : tCB r (tA X.K X.mg W sl) σ H Q := by
  obtain ⟨ρ, F, z, v, e, fin⟩ := h
  refine part v e fin fun ds xs F1 H1 _ e g v1 rs fin1 => ?_
  obtain ⟨dz, e', rfl⟩ := lift_some e
  exact hf F1 H1 xs ds dz Q v1.e rs e' fin1
theorem d_callB {id : String} {r : List V → Hp → VK → Prop} {f : List D → Option D} {es : List Expr} {sl : Sl} {x : Str} {p : Pos} (hc : CallR X (.builtin id) r) (hf : CallN X.K X.mg r f) (hm : X.mg x = none) (hv : bootBuiltins x = some (.builtin id)) (ha : PA X (a :: es) (tA X.K X.mg W sl)) (hg : Gl X x := by rfl)
    (hn : x ≠ "__name__" := by decide) (hdb : (x == ("__debug__" : Str)) = false := by decide) (he : starEach (a :: es) X.env = (false, eval a X.env) :: starEach es X.env := by rfl) (hpl : (backTo pos (starEach es X.env)).any (·.1) = false := by rfl) :
    PE X (.Call (.Name x p) (a :: es) [] pos) (tS X.K X.mg W (sCall f sl)) :=
  pe_imp (pe_callB hc hg hm hv ha hn hdb he hpl) fun _ _ _ h => call_reads hf h
theorem d_callTy {T : String} {r : List V → Hp → VK → Prop} {f : List D → Option D} {es : List Expr} {sl : Sl} {x : Str} {p : Pos} (hc : CallR X (.type T) r) (hf : CallN X.K X.mg r f) (hm : X.mg x = none) (hv : bootBuiltins x = some (.type T)) (ha : PA X (a :: es) (tA X.K X.mg W sl)) (hg : Gl X x := by rfl)
    (hn : x ≠ "__name__" := by decide) (hdb : (x == ("__debug__" : Str)) = false := by decide) (he : starEach (a :: es) X.env = (false, eval a X.env) :: starEach es X.env := by rfl) (hpl : (backTo pos (starEach es X.env)).any (·.1) = false := by rfl) :
    PE X (.Call (.Name x p) (a :: es) [] pos) (tS X.K X.mg W (sCall f sl)) :=
  pe_imp (pe_callTy hc hg hm hv ha hn hdb he hpl) fun _ _ _ h => call_reads hf h
end
end Dl
/-! Dl3: operators of data. -/
namespace Dl
open PySem L2

/-! ### equality of data -/
def b2 (b : Bool) : Int := if b then 1 else 0
/-- data that may be compared, nested less than n deep -/
def okN : Nat → D → Bool
  | 0, _ => false
  | n + 1, d => match d with
    | .non => true
    | .bl _ => true
    | .int _ => true
    | .str x => PySem.PyData.canLay0 (.str x)
    | .tup ds => ds.all (okN n)
    | .lst ds => ds.all (okN n)
    | .scr _ => true
    | .dic _ => false
    | .fn _ => false
    | .exn _ => false
    | .tpl _ => false
    | .dlx _ _ => false
    | .win _ _ _ _ => false
    | .lsx _ _ => false
def all2 {α β : Type} (f : α → β → Bool) : List α → List β → Bool
  | [], [] => true
  | x :: xs, y :: ys => f x y && all2 f xs ys
  | _, _ => false
def eqN : Nat → D → D → Bool
  | 0, _, _ => false
  | n + 1, a, b => match a, b with
    | .non, .non => true
    | .bl x, .bl y => x == y
    | .bl x, .int j => b2 x == j
    | .int i, .bl y => i == b2 y
    | .int i, .int j => i == j
    | .str x, .str y => x == y
    | .tup xs, .tup ys => all2 (eqN n) xs ys
    | .lst xs, .lst ys => all2 (eqN n) xs ys
    | .scr ns, .scr ms => ns == ms
    | .scr ns, .lst ys => all2 (fun i d => eqN n (.int i) d) ns ys
    | .lst xs, .scr ms => all2 (fun d j => eqN n d (.int j)) xs ms
    | _, _ => false
mutual
def toPy : D → PyData
  | .non => .none
  | .bl b => .bool b
  | .int i => .int i
  | .str x => .str x
  | .tup ds => .tuple (toPys ds)
  | .lst ds => .list (toPys ds)
  | .scr ns => .list (ns.map .int)
  | .dic _ => .none
  | .fn _ => .none
  | .exn _ => .none
  | .tpl _ => .none
  | .dlx _ _ => .none
  | .win _ _ _ _ => .none
  | .lsx _ _ => .none
def toPys : List D → List PyData
  | [] => []
  | d :: ds => toPy d :: toPys ds
end
theorem canLayAll_ints : ∀ ns : List Int, PyData.canLayAll0 (ns.map PyData.int) = true
  | [] => by simp [PyData.canLayAll0]
  | n :: ns => by simp [PyData.canLayAll0, PyData.canLay0, canLayAll_ints ns]
theorem depthAll_ints : ∀ ns : List Int, PyData.depthAll (ns.map PyData.int) = 0
  | [] => by simp [PyData.depthAll]
  | n :: ns => by simp [PyData.depthAll, PyData.depth, depthAll_ints ns]
theorem ok_lay : ∀ (n : Nat) (d : D), okN n d = true → (toPy d).canLay0 = true ∧ (toPy d).depth ≤ n
  | 0, _, h => by simp [okN] at h
  | n + 1, d, h => by
    have rec_ : ∀ ds : List D, ds.all (okN n) = true → PyData.canLayAll0 (toPys ds) = true ∧ PyData.depthAll (toPys ds) ≤ n := by
      intro ds
      induction ds with
      | nil => intro _; simp [toPys, PyData.canLayAll0, PyData.depthAll]
      | cons d ds ih =>
        intro h
        rw [List.all_cons, Bool.and_eq_true] at h
        obtain ⟨h1, h2⟩ := ok_lay n d h.1
        obtain ⟨h3, h4⟩ := ih h.2
        refine ⟨by simp [toPys, PyData.canLayAll0, h1, h3], ?_⟩
        simp only [toPys, PyData.depthAll]; omega
    cases d with
    | non => simp [toPy, PyData.canLay0, PyData.depth]
    | bl b => simp [toPy, PyData.canLay0, PyData.depth]
    | int i => simp [toPy, PyData.canLay0, PyData.depth]
    | str x => exact ⟨by simpa [toPy, okN] using h, by simp [toPy, PyData.depth]⟩
    | tup ds =>
      obtain ⟨h1, h2⟩ := rec_ ds (by simpa [okN] using h)
      exact ⟨by simpa [toPy, PyData.canLay0] using h1, by simp only [toPy, PyData.depth]; omega⟩
    | lst ds =>
      obtain ⟨h1, h2⟩ := rec_ ds (by simpa [okN] using h)
      exact ⟨by simpa [toPy, PyData.canLay0] using h1, by simp only [toPy, PyData.depth]; omega⟩
    | scr ns => exact ⟨by simpa [toPy, PyData.canLay0] using canLayAll_ints ns, by simp only [toPy, PyData.depth, depthAll_ints]; omega⟩
    | dic _ => simp [okN] at h
    | fn _ => simp [okN] at h
    | exn _ => simp [okN] at h
    | tpl _ => simp [okN] at h
    | dlx _ _ => simp [okN] at h
    | win _ _ _ _ => simp [okN] at h
    | lsx _ _ => simp [okN] at h
theorem ok_shaped {n : Nat} (hn : n ≤ 64) {d : D} (h : okN n d = true) : SeqAt.shaped (toPy d) = true := by
  obtain ⟨h1, h2⟩ := ok_lay n d h
  show ((toPy d).canLay0 && decide ((toPy d).depth ≤ 64)) = true
  rw [Bool.and_eq_true]
  exact ⟨h1, decide_eq_true (by omega)⟩
theorem eqvAll_ints : ∀ ns ms : List Int, PyData.eqvAll (ns.map PyData.int) (ms.map PyData.int) = (ns == ms)
  | [], [] => by simp [PyData.eqvAll]
  | [], m :: ms => by simp [PyData.eqvAll]
  | n :: ns, [] => by simp [PyData.eqvAll]
  | n :: ns, m :: ms => by
    have e : (n :: ns == m :: ms) = (n == m && ns == ms) := rfl
    simp [PyData.eqvAll, PyData.eqv, eqvAll_ints ns ms, e]
theorem eqv_eqN : ∀ (n : Nat) (a b : D), okN n a = true → okN n b = true → PyData.eqv (toPy a) (toPy b) = eqN n a b
  | 0, _, _, h, _ => by simp [okN] at h
  | n + 1, a, b, ha, hb => by
    have rec_ : ∀ xs ys : List D, xs.all (okN n) = true → ys.all (okN n) = true → PyData.eqvAll (toPys xs) (toPys ys) = all2 (eqN n) xs ys := by
      intro xs
      induction xs with
      | nil => intro ys _ _; cases ys <;> simp [toPys, PyData.eqvAll, all2]
      | cons x xs ih =>
        intro ys h1 h2
        cases ys with
        | nil => simp [toPys, PyData.eqvAll, all2]
        | cons y ys =>
          rw [List.all_cons, Bool.and_eq_true] at h1 h2
          simp only [toPys, PyData.eqvAll, all2]
          rw [eqv_eqN n x y h1.1 h2.1, ih ys h1.2 h2.2]
    have recI : ∀ (ns : List Int) (ys : List D), ys.all (okN n) = true → PyData.eqvAll (ns.map PyData.int) (toPys ys) = all2 (fun i d => eqN n (.int i) d) ns ys := by
      intro ns
      induction ns with
      | nil => intro ys _; cases ys <;> simp [toPys, PyData.eqvAll, all2]
      | cons m ns ih =>
        intro ys h2
        cases ys with
        | nil => simp [toPys, PyData.eqvAll, all2]
        | cons y ys =>
          rw [List.all_cons, Bool.and_eq_true] at h2
          have hi : okN n (.int m) = true := by cases n with | zero => simp [okN] at h2 | succ k => rfl
          simp only [List.map_cons, toPys, PyData.eqvAll, all2]
          rw [← eqv_eqN n (.int m) y hi h2.1, ih ys h2.2]; rfl
    have recJ : ∀ (xs : List D) (ms : List Int), xs.all (okN n) = true → PyData.eqvAll (toPys xs) (ms.map PyData.int) = all2 (fun d j => eqN n d (.int j)) xs ms := by
      intro xs
      induction xs with
      | nil => intro ms _; cases ms <;> simp [toPys, PyData.eqvAll, all2]
      | cons x xs ih =>
        intro ms h1
        cases ms with
        | nil => simp [toPys, PyData.eqvAll, all2]
        | cons m ms =>
          rw [List.all_cons, Bool.and_eq_true] at h1
          have hi : okN n (.int m) = true := by cases n with | zero => simp [okN] at h1 | succ k => rfl
          simp only [List.map_cons, toPys, PyData.eqvAll, all2]
          rw [← eqv_eqN n x (.int m) h1.1 hi, ih ms h1.2]; rfl
    cases a <;> cases b <;> first
      | (simp [okN] at ha; done)
      | (simp [okN] at hb; done)
      | (simp [toPy, PyData.eqv, eqN, b2]; done)
      | (simp only [toPy, PyData.eqv, eqN]; exact rec_ _ _ (by simpa [okN] using ha) (by simpa [okN] using hb))
      | (simp only [toPy, PyData.eqv, eqN]; exact eqvAll_ints _ _)
      | (simp only [toPy, PyData.eqv, eqN]; exact recJ _ _ (by simpa [okN] using ha))
      | (simp only [toPy, PyData.eqv, eqN]; exact recI _ _ (by simpa [okN] using hb))
end Dl
/-! Dl4: operators of data, with their rules. -/
namespace Dl
open PySem L2
section
variable {K : PySem.W.Frag} {mg : Str → Option Value} {F H : Hp}
mutual
theorem Rep.dp : ∀ (n : Nat) (d : D) (v : V), okN n d = true → Rep K mg F v d → Dp K F v (toPy d)
  | 0, _, _, o, _ => by simp [okN] at o
  | n + 1, .non, _, _, h => by cases h; exact .non
  | n + 1, .bl b, _, _, h => by cases h; exact .bl b
  | n + 1, .int i, _, _, h => by cases h; exact .int i
  | n + 1, .str x, _, _, h => by cases h; exact .str x
  | n + 1, .tup ds, _, o, h => by cases h with | tup hs ha => exact .tup hs (RepAll.dp n ds _ (by simpa [okN] using o) ha)
  | n + 1, .lst ds, _, o, h => by cases h with | lst hs ha => exact .lst (.inl (.inl hs)) (RepAll.dp n ds _ (by simpa [okN] using o) ha)
  | n + 1, .scr ns, _, _, h => by
    cases h with
    | scr hs =>
      have : ∀ ns : List Int, DpAll K F (ns.map V.int) (ns.map PyData.int) := fun ns => by
        induction ns with
        | nil => exact .nil
        | cons n ns ih => exact .cons (.int n) ih
      exact .lst hs (this ns)
  | n + 1, .dic _, _, o, _ => by simp [okN] at o
  | n + 1, .fn _, _, o, _ => by simp [okN] at o
  | n + 1, .exn _, _, o, _ => by simp [okN] at o
  | n + 1, .tpl _, _, o, _ => by simp [okN] at o
  | n + 1, .dlx _ _, _, o, _ => by simp [okN] at o
  | n + 1, .win _ _ _ _, _, o, _ => by simp [okN] at o
  | n + 1, .lsx _ _, _, o, _ => by simp [okN] at o
theorem RepAll.dp : ∀ (n : Nat) (ds : List D) (vs : List V), (∀ x, x ∈ ds → okN n x = true) → RepAll K mg F vs ds → DpAll K F vs (toPys ds)
  | _, [], _, _, h => by cases h; exact .nil
  | n, d :: ds, _, o, h => by
    cases h with
    | cons h1 h2 => exact .cons (Rep.dp n d _ (o d List.mem_cons_self) h1) (RepAll.dp n ds _ (fun x q => o x (List.mem_cons_of_mem _ q)) h2)
end
mutual
theorem Dp.mono {F' : Hp} (e : Ex F F') : ∀ (d : PyData) (v : V), Dp K F v d → Dp K F' v d
  | .none, _, h => by cases h; exact .non
  | .bool b, _, h => by cases h; exact .bl b
  | .int i, _, h => by cases h; exact .int i
  | .str x, _, h => by cases h; exact .str x
  | .list ds, _, h => by cases h with | lst hs ha => exact .lst (e.sqL hs) (DpAll.mono e ds _ ha)
  | .tuple ds, _, h => by cases h with | tup hs ha => exact .tup (e.sqT hs) (DpAll.mono e ds _ ha)
  | .dict _, _, h => by cases h
theorem DpAll.mono {F' : Hp} (e : Ex F F') : ∀ (ds : List PyData) (vs : List V), DpAll K F vs ds → DpAll K F' vs ds
  | [], _, h => by cases h; exact .nil
  | d :: ds, _, h => by cases h with | cons h1 h2 => exact .cons (Dp.mono e d _ h1) (DpAll.mono e ds _ h2)
end
end

/-! ### numbers -/
def small64 (i : Int) : Bool := decide (-18446744073709551616 < i) && decide (i < 18446744073709551616)
def dAdd : D → D → Option D
  | .int i, .int j => some (.int (i + j))
  | .str x, .str y => if okLen (x.length + y.length) then some (.str (x ++ y)) else none
  | .tup xs, .tup ys => if okLen (xs.length + ys.length) then some (.tup (xs ++ ys)) else none
  | _, _ => none
def dSub : D → D → Option D
  | .int i, .int j => some (.int (i - j))
  | _, _ => none
def dMul : D → D → Option D
  | .int i, .int j => if small64 i || small64 j then some (.int (i * j)) else none
  | _, _ => none
def divOk (j : Int) : Bool := decide (0 < j) && decide (j < 1073741824 * 1073741824 * 1073741824)
def dDiv : D → D → Option D
  | .int i, .int j => if divOk j then some (.int (i / j)) else none
  | _, _ => none
def dMod : D → D → Option D
  | .int i, .int j => if decide (0 < j) then some (.int (i % j)) else none
  | _, _ => none
def dPow : D → D → Option D
  | .int i, .int j => if decide (0 ≤ j) && decide (j ≤ 1000) && small64 i && decide (i.natAbs < 18446744073709551616) then some (.int (i ^ j.toNat)) else none
  | _, _ => none
def dNeg : D → Option D
  | .int i => some (.int (-i))
  | _ => none
def dLt : D → D → Option D
  | .int i, .int j => some (.bl (decide (i < j)))
  | _, _ => none
def dLe : D → D → Option D
  | .int i, .int j => some (.bl (decide (i ≤ j)))
  | _, _ => none
def dGt : D → D → Option D
  | .int i, .int j => some (.bl (decide (j < i)))
  | _, _ => none
def dGe : D → D → Option D
  | .int i, .int j => some (.bl (decide (j ≤ i)))
  | _, _ => none
def dEq (a b : D) : Option D := if okN 10 a && okN 10 b then some (.bl (eqN 10 a b)) else none
def dNe (a b : D) : Option D := if okN 10 a && okN 10 b then some (.bl (!eqN 10 a b)) else none
def isN : D → Bool
  | .non => true
  | _ => false
def dIs : D → D → Option D
  | x, .non => some (.bl (isN x))
  | .bl a, .bl b => some (.bl (a == b))
  | _, _ => none
def dIsNot : D → D → Option D
  | x, .non => some (.bl (!isN x))
  | .bl a, .bl b => some (.bl (!(a == b)))
  | _, _ => none
/-- the items of a list or a tuple -/
def itemsOf : D → Option (List D)
  | .tup xs => some xs
  | .lst xs => some xs
  | _ => none
def flatD : D → Bool
  | .non => true
  | .bl _ => true
  | .int _ => true
  | .str _ => true
  | _ => false
def anyEq (x : D) (ys : List D) : Bool := ys.any fun y => eqN 10 y x
def inOf (x : D) : D → Option Bool
  | .tup ys => if flatD x && ys.all flatD then some (anyEq x ys) else none
  | .lst ys => if flatD x && ys.all flatD then some (anyEq x ys) else if okN 9 x && ys.all (okN 9) then some (anyEq x ys) else none
  | _ => none
def dIn (x y : D) : Option D := (inOf x y).map D.bl
def dNotIn (x y : D) : Option D := (inOf x y).map fun b => D.bl (!b)
def lookK (kvs : List (Key × V)) (k : Key) : Option V := (kvs.find? fun p => decide (p.1 = k)).map (·.2)
def dIx : D → D → Option D
  | .tup xs, .int i => atI xs i
  | .lst xs, .int i => atI xs i
  | .scr ns, .int i => (atI ns i).map D.int
  | _, _ => none
def dLen : List D → Option D
  | [.tup xs] => some (.int xs.length)
  | [.lst xs] => some (.int xs.length)
  | [.scr ns] => some (.int ns.length)
  | [.str x] => if okLen x.length then some (.int x.length) else none
  | _ => none
def dMax2 : List D → Option D
  | [.int i, .int j] => some (.int (if j > i then j else i))
  | _ => none
def dMin2 : List D → Option D
  | [.int i, .int j] => some (.int (if j < i then j else i))
  | _ => none
def dAbs : List D → Option D
  | [.int i] => some (.int (if i < 0 then -i else i))
  | _ => none
def blsOf : List D → Option (List Bool)
  | [] => some []
  | .bl b :: ds => (blsOf ds).map (b :: ·)
  | _ => none
def dAll : List D → Option D
  | [.lst xs] => (blsOf xs).map fun bs => .bl (bs.all id)
  | _ => none
def dAny : List D → Option D
  | [.lst xs] => (blsOf xs).map fun bs => .bl (bs.any id)
  | _ => none
def dTupleOf : List D → Option D
  | [.lst xs] => some (.tup xs)
  | [.tup xs] => some (.tup xs)
  | _ => none
/-- the built-in type's name of data -/
def tyName : D → Option String
  | .non => some "NoneType"
  | .bl _ => some "bool"
  | .int _ => some "int"
  | .str _ => some "str"
  | .tup _ => some "tuple"
  | .lst _ => some "list"
  | .dic _ => some "dict"
  | _ => none
def dIsInst (T : String) : D → Option D
  | d => match tyName d with
    | some t => (kitB t T).map D.bl
    | none => none

section
variable {X : Cx} {K : PySem.W.Frag} {mg : Str → Option Value}
abbrev rAddD (K : PySem.W.Frag) : R2 := fun x y H Q => ((∃ i j, x = .int i ∧ y = .int j ∧ Q (.int (i + j)) H) ∨ (∃ i j, x = .str i ∧ y = .str j ∧ i.length + j.length ≤ sizeLine ∧ Q (.str (i ++ j)) H)) ∨ rCatA K x y H Q
theorem op_addD : OpR X (binaryOp .Add) (rAddD X.K) := (op_add.or op_add_str).or op_catA
theorem RepAll.nil_iff {F : Hp} {vs : List V} {ds : List D} (h : RepAll K mg F vs ds) : vs = [] ↔ ds = [] := by
  cases h <;> simp
theorem o_add : Op2 K mg (rAddD K) dAdd := by
  intro F H x y dx dy dz Q e rx ry hf q
  unfold dAdd at hf
  split at hf
  · cases hf; cases rx; cases ry
    exact .inl (.inl ⟨_, _, rfl, rfl, q _ F H (.refl e) (.int _)⟩)
  · split at hf
    · rename_i hl
      cases hf; cases rx; cases ry
      exact .inl (.inr ⟨_, _, rfl, rfl, okLen_line hl, q _ F H (.refl e) (.str _)⟩)
    · cases hf
  · split at hf
    · rename_i hl
      cases hf
      cases rx with
      | tup h1 r1 =>
        cases ry with
        | tup h2 r2 =>
          refine .inr ⟨_, _, _, _, rfl, rfl, e.sqT h1, e.sqT h2, by rw [r1.length, r2.length]; exact okLen_line hl, fun z => ?_, fun _ z => ?_, fun _ _ p hp => ?_⟩
          · have z2 := r1.nil_iff.mp z
            subst z2
            exact q _ F H (.refl e) (.tup h2 (by simpa using r2))
          · have z2 := r2.nil_iff.mp z
            subst z2
            exact q _ F H (.refl e) (.tup h1 (by simpa using r1))
          · exact q _ _ _ (.both e hp) (.tup (.inl (.inl upd_same)) ((r1.append r2).mo (.new (e.none hp))))
    · cases hf
  · cases hf
theorem o_int2 {g : Int → Int → Int} {f : D → D → Option D} (h : ∀ x y z, f x y = some z → ∃ i j, x = .int i ∧ y = .int j ∧ z = .int (g i j)) : Op2 K mg (rI0 fun i j => .int (g i j)) f := by
  intro F H x y dx dy dz Q e rx ry hf q
  obtain ⟨i, j, rfl, rfl, rfl⟩ := h _ _ _ hf
  cases rx; cases ry
  exact ⟨i, j, rfl, rfl, q _ F H (.refl e) (.int _)⟩
theorem o_cmp2 {g : Int → Int → Bool} {f : D → D → Option D} (h : ∀ x y z, f x y = some z → ∃ i j, x = .int i ∧ y = .int j ∧ z = .bl (g i j)) : Op2 K mg (rI0 fun i j => .bl (g i j)) f := by
  intro F H x y dx dy dz Q e rx ry hf q
  obtain ⟨i, j, rfl, rfl, rfl⟩ := h _ _ _ hf
  cases rx; cases ry
  exact ⟨i, j, rfl, rfl, q _ F H (.refl e) (.bl _)⟩
theorem o_intC {C : Int → Int → Prop} {g : Int → Int → Int} {f : D → D → Option D} (h : ∀ x y z, f x y = some z → ∃ i j, x = .int i ∧ y = .int j ∧ C i j ∧ z = .int (g i j)) : Op2 K mg (rI C fun i j => .int (g i j)) f := by
  intro F H x y dx dy dz Q e rx ry hf q
  obtain ⟨i, j, rfl, rfl, c, rfl⟩ := h _ _ _ hf
  cases rx; cases ry
  exact ⟨i, j, rfl, rfl, c, q _ F H (.refl e) (.int _)⟩
theorem o_sub : Op2 K mg (rI0 fun i j => .int (i - j)) dSub := o_int2 fun x y z h => by
  unfold dSub at h; split at h
  · cases h; exact ⟨_, _, rfl, rfl, rfl⟩
  · cases h
theorem o_lt : Op2 K mg (rI0 fun i j => .bl (decide (i < j))) dLt := o_cmp2 fun x y z h => by
  unfold dLt at h; split at h
  · cases h; exact ⟨_, _, rfl, rfl, rfl⟩
  · cases h
theorem o_le : Op2 K mg (rI0 fun i j => .bl (decide (i ≤ j))) dLe := o_cmp2 fun x y z h => by
  unfold dLe at h; split at h
  · cases h; exact ⟨_, _, rfl, rfl, rfl⟩
  · cases h
theorem o_gt : Op2 K mg (rI0 fun i j => .bl (decide (j < i))) dGt := o_cmp2 fun x y z h => by
  unfold dGt at h; split at h
  · cases h; exact ⟨_, _, rfl, rfl, rfl⟩
  · cases h
theorem o_ge : Op2 K mg (rI0 fun i j => .bl (decide (j ≤ i))) dGe := o_cmp2 fun x y z h => by
  unfold dGe at h; split at h
  · cases h; exact ⟨_, _, rfl, rfl, rfl⟩
  · cases h
theorem small_of {i : Int} (h : small64 i = true) : -(2 ^ 64) < i ∧ i < 2 ^ 64 := by
  unfold small64 at h
  rw [Bool.and_eq_true, decide_eq_true_eq, decide_eq_true_eq] at h
  exact ⟨by omega, by omega⟩
theorem o_mul : Op2 K mg (rI CMul fun i j => .int (i * j)) dMul := o_intC fun x y z h => by
  unfold dMul at h; split at h
  · split at h
    · rename_i c
      cases h
      rw [Bool.or_eq_true] at c
      exact ⟨_, _, rfl, rfl, c.imp small_of small_of, rfl⟩
    · cases h
  · cases h
theorem o_div : Op2 K mg (rI CDivW fun i j => .int (i / j)) dDiv := o_intC fun x y z h => by
  unfold dDiv at h; split at h
  · split at h
    · rename_i c
      cases h
      unfold divOk at c
      rw [Bool.and_eq_true, decide_eq_true_eq, decide_eq_true_eq] at c
      refine ⟨_, _, rfl, rfl, wide_div (b := 90) c.1 ?_ (by decide) (by decide), rfl⟩
      have e : (2 : Nat) ^ 90 = 1073741824 * 1073741824 * 1073741824 := by decide
      omega
    · cases h
  · cases h
theorem o_mod : Op2 K mg (rI (fun _ j => 0 < j) fun i j => .int (i % j)) dMod := o_intC fun x y z h => by
  unfold dMod at h; split at h
  · split at h
    · rename_i c
      cases h
      exact ⟨_, _, rfl, rfl, of_decide_eq_true c, rfl⟩
    · cases h
  · cases h
theorem o_pow : Op2 K mg (rI CPow fun i j => .int (i ^ j.toNat)) dPow := o_intC fun x y z h => by
  unfold dPow at h; split at h
  · split at h
    · rename_i c
      cases h
      simp only [Bool.and_eq_true, decide_eq_true_eq] at c
      exact ⟨_, _, rfl, rfl, ⟨c.1.1.1, by omega, by have := c.2; omega⟩, rfl⟩
    · cases h
  · cases h
theorem o_neg : Op1 K mg (rU fun i => .int (-i)) dNeg := by
  intro F H x dx dz Q e rx hf q
  unfold dNeg at hf; split at hf
  · cases hf; cases rx
    exact ⟨_, rfl, q _ F H (.refl e) (.int _)⟩
  · cases hf
theorem o_eq : Op2 K mg (rEqD K) dEq := by
  intro F H x y dx dy dz Q e rx ry hf q
  unfold dEq at hf
  split at hf
  · rename_i c
    cases hf
    rw [Bool.and_eq_true] at c
    refine ⟨_, _, Dp.mono e _ _ (Rep.dp 10 _ _ c.1 rx), Dp.mono e _ _ (Rep.dp 10 _ _ c.2 ry), ok_shaped (by decide) c.1, ok_shaped (by decide) c.2, ?_⟩
    rw [eqv_eqN 10 _ _ c.1 c.2]
    exact q _ F H (.refl e) (.bl _)
  · cases hf
theorem o_ne : Op2 K mg (rNeD K) dNe := by
  intro F H x y dx dy dz Q e rx ry hf q
  unfold dNe at hf
  split at hf
  · rename_i c
    cases hf
    rw [Bool.and_eq_true] at c
    refine ⟨_, _, Dp.mono e _ _ (Rep.dp 10 _ _ c.1 rx), Dp.mono e _ _ (Rep.dp 10 _ _ c.2 ry), ok_shaped (by decide) c.1, ok_shaped (by decide) c.2, ?_⟩
    rw [eqv_eqN 10 _ _ c.1 c.2]
    exact q _ F H (.refl e) (.bl _)
  · cases hf
theorem isN_rep {F : Hp} {x : V} {d : D} (r : Rep K mg F x d) : decide (x = .non) = isN d := by
  cases r <;> simp [isN]
abbrev rIsD : R2 := fun x y H Q => (y = .non ∧ Q (.bl (decide (x = .non))) H) ∨ (∃ a b, x = .bl a ∧ y = .bl b ∧ Q (.bl (decide (a = b))) H)
abbrev rIsNotD : R2 := fun x y H Q => (y = .non ∧ Q (.bl (!decide (x = .non))) H) ∨ (∃ a b, x = .bl a ∧ y = .bl b ∧ Q (.bl (!decide (a = b))) H)
theorem op_isD : OpR X (compareOp .Is) rIsD := op_isN.or op_is_bl
theorem op_isNotD : OpR X (compareOp .IsNot) rIsNotD := op_notN.or op_isnot_bl
theorem o_is : Op2 K mg rIsD dIs := by
  intro F H x y dx dy dz Q e rx ry hf q
  unfold dIs at hf; split at hf
  · cases hf; cases ry
    exact .inl ⟨rfl, by rw [isN_rep rx]; exact q _ F H (.refl e) (.bl _)⟩
  · cases hf; cases rx; cases ry
    exact .inr ⟨_, _, rfl, rfl, by rw [← Bool.beq_eq_decide_eq]; exact q _ F H (.refl e) (.bl _)⟩
  · cases hf
theorem o_isnot : Op2 K mg rIsNotD dIsNot := by
  intro F H x y dx dy dz Q e rx ry hf q
  unfold dIsNot at hf; split at hf
  · cases hf; cases ry
    exact .inl ⟨rfl, by rw [isN_rep rx]; exact q _ F H (.refl e) (.bl _)⟩
  · cases hf; cases rx; cases ry
    exact .inr ⟨_, _, rfl, rfl, by rw [← Bool.beq_eq_decide_eq]; exact q _ F H (.refl e) (.bl _)⟩
  · cases hf

/-! ### in -/
theorem flat_rep {F : Hp} {x : V} {d : D} (r : Rep K mg F x d) (h : flatD d = true) : flatV x = true := by
  cases r <;> simp_all [flatD, flatV]
theorem flat_all {F : Hp} : ∀ {xs : List V} {ds : List D}, RepAll K mg F xs ds → ds.all flatD = true → xs.all flatV = true
  | _, [], h, _ => by cases h; rfl
  | _, d :: ds, h, o => by
    cases h with
    | cons h1 h2 =>
      rw [List.all_cons, Bool.and_eq_true] at o ⊢
      exact ⟨flat_rep h1 o.1, flat_all h2 o.2⟩
theorem eqV_rep {F : Hp} {x y : V} {d c : D} (r : Rep K mg F x d) (r' : Rep K mg F y c) (h : flatD d = true) (h' : flatD c = true) : eqV y x = eqN 10 c d := by
  cases r <;> cases r' <;> first | (simp [flatD] at h; done) | (simp [flatD] at h'; done) | simp [eqV, eqN, b2]
theorem inV_rep {F : Hp} {x : V} {d : D} (r : Rep K mg F x d) (h : flatD d = true) : ∀ {xs : List V} {ds : List D}, RepAll K mg F xs ds → ds.all flatD = true → inV x xs = anyEq d ds
  | _, [], g, _ => by cases g; rfl
  | _, c :: ds, g, o => by
    cases g with
    | cons h1 h2 =>
      rw [List.all_cons, Bool.and_eq_true] at o
      have ih := inV_rep r h h2 o.2
      unfold inV anyEq at ih ⊢
      rw [List.any_cons, List.any_cons, ih, eqV_rep r h1 h o.1]
theorem toPys_eq : ∀ ds : List D, toPys ds = ds.map toPy
  | [] => by simp [toPys]
  | d :: ds => by simp [toPys, toPys_eq ds]
theorem ok_up : ∀ (n : Nat) (d : D), okN n d = true → okN (n + 1) d = true
  | 0, _, h => by simp [okN] at h
  | n + 1, d, h => by
    cases d <;> first
      | exact h
      | (simp only [okN, List.all_eq_true] at h ⊢; intro x hx; exact ok_up n x (h x hx))
theorem any_eqv {d : D} (hd : okN 9 d = true) : ∀ ds : List D, ds.all (okN 9) = true → ((toPys ds).any fun z => PyData.eqv z (toPy d)) = anyEq d ds
  | [], _ => by simp [toPys, anyEq]
  | c :: ds, h => by
    rw [List.all_cons, Bool.and_eq_true] at h
    have ih := any_eqv hd ds h.2
    unfold anyEq at ih ⊢
    rw [toPys, List.any_cons, List.any_cons, ih, eqv_eqN 10 c d (ok_up 9 c h.1) (ok_up 9 d hd)]
abbrev rInB (K : PySem.W.Frag) : R2 := fun x y H Q => rIn K false x y H Q ∨ rInD K x y H Q
abbrev rNotInB (K : PySem.W.Frag) : R2 := fun x y H Q => rIn K true x y H Q ∨ rNotInD K x y H Q
theorem op_inB (hu : X.A.units + 65 < cLine) : OpR X (compareOp .In) (rInB X.K) := op_in_seq.or (op_inD hu)
theorem op_notInB (hu : X.A.units + 65 < cLine) : OpR X (compareOp .NotIn) (rNotInB X.K) := op_notIn_seq.or (op_notInD hu)
theorem in_cases {F H : Hp} {x y : V} {dx dy : D} {b : Bool} (e : Ex F H) (rx : Rep K mg F x dx) (ry : Rep K mg F y dy) (h : inOf dx dy = some b) :
    (∃ p xs, y = .ref p ∧ (SqL K H p xs ∨ SqT K H p xs) ∧ flatV x = true ∧ xs.all flatV = true ∧ inV x xs = b) ∨
    (∃ d ds, Dp K H x d ∧ Dp K H y (.list ds) ∧ SeqAt.shaped d = true ∧ SeqAt.shaped (.list ds) = true ∧ (ds.any fun z => PyData.eqv z d) = b) := by
  unfold inOf at h
  split at h
  · split at h
    · rename_i ys c
      rw [Bool.and_eq_true] at c
      cases h
      cases ry with
      | tup h1 r1 => exact .inl ⟨_, _, rfl, .inr (e.sqT h1), flat_rep rx c.1, flat_all r1 c.2, inV_rep rx c.1 r1 c.2⟩
    · cases h
  · split at h
    · rename_i ys c
      rw [Bool.and_eq_true] at c
      cases h
      cases ry with
      | lst h1 r1 => exact .inl ⟨_, _, rfl, .inl (e.sqL (.inl (.inl h1))), flat_rep rx c.1, flat_all r1 c.2, inV_rep rx c.1 r1 c.2⟩
    · split at h
      · rename_i ys _ c
        rw [Bool.and_eq_true] at c
        cases h
        have o : okN 10 (.lst ys) = true := c.2
        exact .inr ⟨_, _, Dp.mono e _ _ (Rep.dp 9 _ _ c.1 rx), Dp.mono e _ _ (by have := Rep.dp 10 _ _ o ry; simpa [toPy] using this), ok_shaped (by decide) c.1, by have := ok_shaped (by decide) o; simpa [toPy] using this, any_eqv c.1 ys c.2⟩
      · cases h
  · cases h
theorem o_in : Op2 K mg (rInB K) dIn := by
  intro F H x y dx dy dz Q e rx ry hf q
  unfold dIn at hf
  obtain ⟨b, hb, rfl⟩ := Option.map_eq_some_iff.mp hf
  have fin := q (.bl b) F H (.refl e) (.bl b)
  rcases in_cases e rx ry hb with ⟨p, xs, e1, e2, e3, e4, e5⟩ | ⟨d, ds, e1, e2, e3, e4, e5⟩
  · exact .inl ⟨p, xs, e1, e2, e3, e4, by rw [e5]; exact fin⟩
  · exact .inr ⟨d, ds, e1, e2, e3, e4, by rw [e5]; exact fin⟩
theorem o_notin : Op2 K mg (rNotInB K) dNotIn := by
  intro F H x y dx dy dz Q e rx ry hf q
  unfold dNotIn at hf
  obtain ⟨b, hb, rfl⟩ := Option.map_eq_some_iff.mp hf
  have fin := q (.bl (!b)) F H (.refl e) (.bl (!b))
  rcases in_cases e rx ry hb with ⟨p, xs, e1, e2, e3, e4, e5⟩ | ⟨d, ds, e1, e2, e3, e4, e5⟩
  · exact .inl ⟨p, xs, e1, e2, e3, e4, by rw [e5]; exact fin⟩
  · exact .inr ⟨d, ds, e1, e2, e3, e4, by rw [e5]; exact fin⟩

/-! ### subscripts -/
theorem atI_rep {F : Hp} {xs : List V} {ds : List D} {i : Int} {d : D} (r : RepAll K mg F xs ds) (h : atI ds i = some d) : ∃ v, atI xs i = some v ∧ Rep K mg F v d := by
  unfold atI at h ⊢
  rw [r.length]
  obtain ⟨j, hj, e⟩ := Option.bind_eq_some_iff.mp h
  obtain ⟨v, e2, rv⟩ := r.get e
  exact ⟨v, by rw [hj]; exact e2, rv⟩
theorem atI_map {ns : List Int} {i : Int} {n : Int} (h : atI ns i = some n) : atI (ns.map V.int) i = some (.int n) := by
  unfold atI at h ⊢
  obtain ⟨j, hj, e⟩ := Option.bind_eq_some_iff.mp h
  rw [List.length_map, hj]
  show (ns.map V.int)[j]? = _
  rw [List.getElem?_map, e]; rfl
abbrev rIxB (K : PySem.W.Frag) : R2 := fun x y H Q => rIxL K x y H Q ∨ rIxT K x y H Q
theorem ix_B : IxR X (rIxB X.K) := ix_list.or ix_tup
theorem o_ix : Op2 K mg (rIxB K) dIx := by
  intro F H x y dx dy dz Q e rx ry hf q
  unfold dIx at hf
  split at hf
  · cases ry
    cases rx with
    | tup h1 r1 =>
      obtain ⟨v, e2, rv⟩ := atI_rep r1 hf
      exact .inr ⟨_, _, _, v, rfl, rfl, e.sqT h1, e2, q v F H (.refl e) rv⟩
  · cases ry
    cases rx with
    | lst h1 r1 =>
      obtain ⟨v, e2, rv⟩ := atI_rep r1 hf
      exact .inl ⟨_, _, _, v, rfl, rfl, e.sqL (.inl (.inl h1)), e2, q v F H (.refl e) rv⟩
  · obtain ⟨n, hn, rfl⟩ := Option.map_eq_some_iff.mp hf
    cases ry
    cases rx with
    | scr h1 => exact .inl ⟨_, _, _, _, rfl, rfl, e.sqL h1, atI_map hn, q _ F H (.refl e) (.int n)⟩
  · cases hf

/-! ### calls -/
abbrev rLenB (K : PySem.W.Frag) : List V → Hp → VK → Prop := fun xs H Q => (∃ p ys, xs = [.ref p] ∧ (SqL K H p ys ∨ SqT K H p ys) ∧ Q (.int ys.length) H) ∨ (∃ z, xs = [.str z] ∧ z.length ≤ sizeLine ∧ Q (.int z.length) H)
theorem cr_len : CallR X (.builtin "len") (rLenB X.K) := call_len_seq.or call_len_str
theorem RepAll.one {F : Hp} {xs : List V} {d : D} (h : RepAll K mg F xs [d]) : ∃ v, xs = [v] ∧ Rep K mg F v d := by
  cases h with | cons h1 h2 => cases h2; exact ⟨_, rfl, h1⟩
theorem RepAll.two {F : Hp} {xs : List V} {d c : D} (h : RepAll K mg F xs [d, c]) : ∃ v u, xs = [v, u] ∧ Rep K mg F v d ∧ Rep K mg F u c := by
  cases h with
  | cons h1 h2 =>
    obtain ⟨u, rfl, h3⟩ := h2.one
    exact ⟨_, u, rfl, h1, h3⟩
theorem c_len : CallN K mg (rLenB K) dLen := by
  intro F H xs ds dz Q e rs hf q
  unfold dLen at hf
  split at hf
  · cases hf
    obtain ⟨v, rfl, r⟩ := rs.one
    cases r with
    | tup h1 r1 => exact .inl ⟨_, _, rfl, .inr (e.sqT h1), by rw [r1.length]; exact q _ F H (.refl e) (.int _)⟩
  · cases hf
    obtain ⟨v, rfl, r⟩ := rs.one
    cases r with
    | lst h1 r1 => exact .inl ⟨_, _, rfl, .inl (e.sqL (.inl (.inl h1))), by rw [r1.length]; exact q _ F H (.refl e) (.int _)⟩
  · cases hf
    obtain ⟨v, rfl, r⟩ := rs.one
    cases r with
    | scr h1 => exact .inl ⟨_, _, rfl, .inl (e.sqL h1), by rw [List.length_map]; exact q _ F H (.refl e) (.int _)⟩
  · split at hf
    · rename_i hl
      cases hf
      obtain ⟨v, rfl, r⟩ := rs.one
      cases r
      exact .inr ⟨_, rfl, okLen_line hl, q _ F H (.refl e) (.int _)⟩
    · cases hf
  · cases hf
theorem c_max2 : CallN K mg (fun xs H Q => ∃ i j, xs = [.int i, .int j] ∧ Q (.int (if j > i then j else i)) H) dMax2 := by
  intro F H xs ds dz Q e rs hf q
  unfold dMax2 at hf
  split at hf
  · cases hf
    obtain ⟨v, u, rfl, r1, r2⟩ := rs.two
    cases r1; cases r2
    exact ⟨_, _, rfl, q _ F H (.refl e) (.int _)⟩
  · cases hf
theorem c_min2 : CallN K mg (fun xs H Q => ∃ i j, xs = [.int i, .int j] ∧ Q (.int (if j < i then j else i)) H) dMin2 := by
  intro F H xs ds dz Q e rs hf q
  unfold dMin2 at hf
  split at hf
  · cases hf
    obtain ⟨v, u, rfl, r1, r2⟩ := rs.two
    cases r1; cases r2
    exact ⟨_, _, rfl, q _ F H (.refl e) (.int _)⟩
  · cases hf
theorem c_abs : CallN K mg (fun xs H Q => ∃ i, xs = [.int i] ∧ Q (.int (if i < 0 then -i else i)) H) dAbs := by
  intro F H xs ds dz Q e rs hf q
  unfold dAbs at hf
  split at hf
  · cases hf
    obtain ⟨v, rfl, r⟩ := rs.one
    cases r
    exact ⟨_, rfl, q _ F H (.refl e) (.int _)⟩
  · cases hf
theorem bls_rep {F : Hp} : ∀ {ds : List D} {xs : List V} {bs : List Bool}, RepAll K mg F xs ds → blsOf ds = some bs → xs = bs.map V.bl
  | [], _, _, h, e => by cases h; cases e; rfl
  | d :: ds, _, _, h, e => by
    cases h with
    | cons h1 h2 =>
      cases d <;> first | (simp [blsOf] at e; done) | skip
      simp only [blsOf] at e
      obtain ⟨bs, e1, rfl⟩ := Option.map_eq_some_iff.mp e
      cases h1
      rw [bls_rep h2 e1]; rfl
theorem c_all : CallN K mg (rAll K) dAll := by
  intro F H xs ds dz Q e rs hf q
  unfold dAll at hf
  split at hf
  · obtain ⟨bs, eb, rfl⟩ := Option.map_eq_some_iff.mp hf
    obtain ⟨v, rfl, r⟩ := rs.one
    cases r with
    | lst h1 r1 => exact ⟨_, bs, rfl, e.sqL (.inl (.inl (by rw [← bls_rep r1 eb]; exact h1))), q _ F H (.refl e) (.bl _)⟩
  · cases hf
theorem c_any : CallN K mg (rAny K) dAny := by
  intro F H xs ds dz Q e rs hf q
  unfold dAny at hf
  split at hf
  · obtain ⟨bs, eb, rfl⟩ := Option.map_eq_some_iff.mp hf
    obtain ⟨v, rfl, r⟩ := rs.one
    cases r with
    | lst h1 r1 => exact ⟨_, bs, rfl, e.sqL (.inl (.inl (by rw [← bls_rep r1 eb]; exact h1))), q _ F H (.refl e) (.bl _)⟩
  · cases hf
theorem c_tupleOf : CallN K mg (fun xs H Q => ∃ p ys, xs = [.ref p] ∧ ((SqL K H p ys ∧ ∀ l, H l = none → Q (.ref l) (upd H l (.tup ys))) ∨ (SqT K H p ys ∧ Q (.ref p) H))) dTupleOf := by
  intro F H xs ds dz Q e rs hf q
  unfold dTupleOf at hf
  split at hf
  · cases hf
    obtain ⟨v, rfl, r⟩ := rs.one
    cases r with
    | lst h1 r1 => exact ⟨_, _, rfl, .inl ⟨e.sqL (.inl (.inl h1)), fun l hl => q _ _ _ (.both e hl) (.tup (.inl (.inl upd_same)) (r1.mo (.new (e.none hl))))⟩⟩
  · cases hf
    obtain ⟨v, rfl, r⟩ := rs.one
    cases r with
    | tup h1 r1 => exact ⟨_, _, rfl, .inr ⟨e.sqT h1, q _ F H (.refl e) (.tup h1 r1)⟩⟩
  · cases hf
end
end Dl
/-! Dl5: isinstance, chains, and / or / not, tests, calls of the program's own defs. -/
namespace Dl
open PySem L2
section
variable {X : Cx} {W : WX} {pos : Pos} {a b c : Expr} {sa sb sc : Sx}

/-! ### isinstance(x, T) -/
def tyInt : D → Option Bool
  | .int _ => some true
  | .bl _ => some true
  | .scr _ => none
  | .fn _ => none
  | .exn _ => none
  | .tpl _ => none
  | .dlx _ _ => none
  | .win _ _ _ _ => none
  | .lsx _ _ => none
  | _ => some false
def tyBool : D → Option Bool
  | .bl _ => some true
  | .scr _ => none
  | .fn _ => none
  | .exn _ => none
  | .tpl _ => none
  | .dlx _ _ => none
  | .win _ _ _ _ => none
  | .lsx _ _ => none
  | _ => some false
def tyStr : D → Option Bool
  | .str _ => some true
  | .scr _ => none
  | .fn _ => none
  | .exn _ => none
  | .tpl _ => none
  | .dlx _ _ => none
  | .win _ _ _ _ => none
  | .lsx _ _ => none
  | _ => some false
def tyTuple : D → Option Bool
  | .tup _ => some true
  | .scr _ => none
  | .fn _ => none
  | .exn _ => none
  | .tpl _ => none
  | .dlx _ _ => none
  | .win _ _ _ _ => none
  | .lsx _ _ => none
  | _ => some false
def tyList : D → Option Bool
  | .lst _ => some true
  | .scr _ => none
  | .fn _ => none
  | .exn _ => none
  | .tpl _ => none
  | .dlx _ _ => none
  | .win _ _ _ _ => none
  | .lsx _ _ => none
  | _ => some false
def dTy (g : D → Option Bool) : D → Option D := fun d => (g d).map D.bl
def TyIs (T : String) (g : D → Option Bool) : Prop := ∀ d b, g d = some b → ∃ t, tyName d = some t ∧ kitB t T = some b
theorem ty_int : TyIs "int" tyInt := by
  intro d b h
  cases d <;> simp only [tyInt, Option.some.injEq, reduceCtorEq] at h <;> subst h <;> exact ⟨_, rfl, by decide +kernel⟩
theorem ty_bool : TyIs "bool" tyBool := by
  intro d b h
  cases d <;> simp only [tyBool, Option.some.injEq, reduceCtorEq] at h <;> subst h <;> exact ⟨_, rfl, by decide +kernel⟩
theorem ty_str : TyIs "str" tyStr := by
  intro d b h
  cases d <;> simp only [tyStr, Option.some.injEq, reduceCtorEq] at h <;> subst h <;> exact ⟨_, rfl, by decide +kernel⟩
theorem ty_tuple : TyIs "tuple" tyTuple := by
  intro d b h
  cases d <;> simp only [tyTuple, Option.some.injEq, reduceCtorEq] at h <;> subst h <;> exact ⟨_, rfl, by decide +kernel⟩
theorem ty_list : TyIs "list" tyList := by
  intro d b h
  cases d <;> simp only [tyList, Option.some.injEq, reduceCtorEq] at h <;> subst h <;> exact ⟨_, rfl, by decide +kernel⟩
theorem ty_rep {K : PySem.W.Frag} {mg : Str → Option Value} {F H : Hp} {x : V} {d : D} {t : String} (e : Ex F H) (r : Rep K mg F x d) (h : tyName d = some t) : TyX K H x (.type t) := by
  cases r <;> simp only [tyName, Option.some.injEq, reduceCtorEq] at h
  · subst h; exact .base .non
  · subst h; exact .base (.bl _)
  · subst h; exact .base (.int _)
  · subst h; exact .base (.str _)
  · rename_i hs _
    subst h
    rcases e.sqT hs with (h | ⟨o, h⟩) | ⟨o, its, n, h1, h2, _⟩
    · exact .base (.tup h)
    · exact .fTuple h
    · exact .kTuple h1 h2
  · rename_i hs _
    subst h
    exact .base (.lst (e _ _ hs))
  · rename_i hs _
    subst h
    exact .base (.dK (e _ _ hs))
theorem d_isi {T : String} {x : Str} {g : D → Option Bool} {p p2 : Pos} (hT : TyIs T g) (hm : X.mg "isinstance" = none) (hmT : X.mg x = none) (hv : bootBuiltins x = some (.type T)) (ha : PE X a (tS X.K X.mg W sa)) (hg : Gl X "isinstance" := by rfl) (hgT : Gl X x := by rfl)
    (hb : bootBuiltins "isinstance" = some (.builtin "isinstance") := by decide +kernel) (hn : x ≠ "__name__" := by decide) (hd : (x == ("__debug__" : Str)) = false := by decide)
    (h1 : starEach [a, .Name x p2] X.env = (false, eval a X.env) :: starEach [.Name x p2] X.env := by rfl) (h2 : starEach [.Name x p2] X.env = (false, eval (.Name x p2) X.env) :: starEach [] X.env := by rfl)
    (hpl : (backTo pos (starEach [.Name x p2] X.env)).any (·.1) = false := by rfl) :
    PE X (.Call (.Name "isinstance" p) [a, .Name x p2] [] pos) (tS X.K X.mg W (sUn (dTy g) sa)) := by
  refine pe_imp (pe_callB call_isi hg hm hb (pa_cons ha (pa_cons (pe_bltn (v := .ty T) hgT hmT hv rfl hn hd) pa_nil h2) h1) (by decide) (by decide) h1 hpl) fun σ H Q ⟨ρ, F, z, v, e, fin⟩ => ?_
  refine part v e fin fun dx x F1 H1 _ e g v1 rx fin1 => ?_
  obtain ⟨dz, e', rfl⟩ := lift_some e
  unfold dTy at e'
  obtain ⟨b, eb, rfl⟩ := Option.map_eq_some_iff.mp e'
  obtain ⟨t, et, ek⟩ := hT _ _ eb
  exact ⟨x, .ty T, .type t, .type T, b, rfl, .ty T, ty_rep v1.e rx et, kit_ty ek, fin1 _ F1 H1 (.refl v1.e) (.bl b)⟩

/-! ### a < b < c -/
def sChain (f g : D → D → Option D) (a b c : Sx) : Sx := fun ρ => bd (a ρ) fun x => bd (b ρ) fun y => bd (lift (f x y)) fun z =>
  match z with
  | .bl true => bd (c ρ) fun w => lift (g y w)
  | .bl false => some (.ok (.bl false))
  | _ => none
theorem chain_reads {f g : D → D → Option D} {r r' : R2} (hf : Op2 X.K X.mg r f) (hg : Op2 X.K X.mg r' g) {σ : St} {H : Hp} {Q : VK} (h : tS X.K X.mg W (sChain f g sa sb sc) σ H Q) :
    tChain r r' (tS X.K X.mg W sa) (tS X.K X.mg W sb) (tS X.K X.mg W sc) σ H Q := by
  obtain ⟨ρ, F, z, v, e, fin⟩ := h
  refine part v e fin fun dx x F1 H1 _ e g1 v1 rx fin1 => ?_
  refine part v1 e fin1 fun dy y F2 H2 _ e g2 v2 ry fin2 => ?_
  rcases bd_some e with ⟨dz, ez, e⟩ | ⟨c, ez, _⟩
  · obtain ⟨dz', ez', e3⟩ := lift_some ez
    cases e3
    refine hf F2 H2 x y dx dy dz _ v2.e (rx.mo g2.f) ry ez' fun u F3 H3 g3 ru => ?_
    split at e
    · cases ru
      refine ⟨true, rfl, ?_⟩
      rw [if_pos rfl]
      refine part (v2.mo g3) e (fin2.mo g3) fun dw w F4 H4 _ e g4 v4 rw' fin4 => ?_
      obtain ⟨dq, eq, rfl⟩ := lift_some e
      exact hg F4 H4 y w dy dw dq Q v4.e ((ry.mo g3.f).mo g4.f) rw' eq fin4
    · cases ru
      cases e
      refine ⟨false, rfl, ?_⟩
      rw [if_neg Bool.false_ne_true]
      exact fin2 _ F3 H3 g3 (.bl false)
    · cases e
  · obtain ⟨_, _, e3⟩ := lift_some ez
    cases e3
theorem d_chain {op op' : CmpOp} {f g : D → D → Option D} {r r' : R2} (ho : OpR X (compareOp op) r) (hf : Op2 X.K X.mg r f) (ho' : OpR X (compareOp op') r') (hg : Op2 X.K X.mg r' g) (ha : PE X a (tS X.K X.mg W sa)) (hb : PE X b (tS X.K X.mg W sb)) (hc : PE X c (tS X.K X.mg W sc))
    (hm : lastMarks [op, op'] [b, c] = false := by with_unfolding_all rfl) : PE X (.Compare a [op, op'] [b, c] pos) (tS X.K X.mg W (sChain f g sa sb sc)) :=
  pe_imp (pe_chain ho ho' ha hb hc hm) fun _ _ _ h => chain_reads hf hg h

/-! ### and, or, not as values; a if t else b -/
def sAnd (a b : Sx) : Sx := fun ρ => bd (a ρ) fun x =>
  match x with
  | .bl true => b ρ
  | .bl false => some (.ok (.bl false))
  | _ => none
def sOr (a b : Sx) : Sx := fun ρ => bd (a ρ) fun x =>
  match x with
  | .bl true => some (.ok (.bl true))
  | .bl false => b ρ
  | _ => none
def dNot : D → Option D
  | .bl b => some (.bl (!b))
  | _ => none
variable {rest : List Expr}
theorem d_one {op} (h : PE X a (tS X.K X.mg W sa)) : PE X (.BoolOp op [a] pos) (tS X.K X.mg W sa) := pe_one h
theorem d_and (ha : PE X a (tS X.K X.mg W sa)) (hb : PE X (.BoolOp .And (b :: rest) pos) (tS X.K X.mg W sb)) : PE X (.BoolOp .And (a :: b :: rest) pos) (tS X.K X.mg W (sAnd sa sb)) := by
  refine pe_imp (pe_and ha hb) fun σ H Q ⟨ρ, F, z, v, e, fin⟩ => ?_
  refine part v e fin fun dx x F1 H1 _ e g1 v1 rx fin1 => ?_
  split at e
  · cases rx
    refine ⟨true, rfl, ?_⟩
    rw [if_pos rfl]
    exact whole v1 e fin1
  · cases rx; cases e
    refine ⟨false, rfl, ?_⟩
    rw [if_neg Bool.false_ne_true]
    exact fin1 _ F1 H1 (.refl v1.e) (.bl false)
  · cases e
theorem d_or (ha : PE X a (tS X.K X.mg W sa)) (hb : PE X (.BoolOp .Or (b :: rest) pos) (tS X.K X.mg W sb)) : PE X (.BoolOp .Or (a :: b :: rest) pos) (tS X.K X.mg W (sOr sa sb)) := by
  refine pe_imp (pe_or ha hb) fun σ H Q ⟨ρ, F, z, v, e, fin⟩ => ?_
  refine part v e fin fun dx x F1 H1 _ e g1 v1 rx fin1 => ?_
  split at e
  · cases rx; cases e
    refine ⟨true, rfl, ?_⟩
    rw [if_pos rfl]
    exact fin1 _ F1 H1 (.refl v1.e) (.bl true)
  · cases rx
    refine ⟨false, rfl, ?_⟩
    rw [if_neg Bool.false_ne_true]
    exact whole v1 e fin1
  · cases e
theorem d_not (ha : PE X a (tS X.K X.mg W sa)) : PE X (.UnaryOp .Not a pos) (tS X.K X.mg W (sUn dNot sa)) := by
  refine pe_imp (pe_not ha) fun σ H Q ⟨ρ, F, z, v, e, fin⟩ => ?_
  refine part v e fin fun dx x F1 H1 _ e g1 v1 rx fin1 => ?_
  obtain ⟨dz, e', rfl⟩ := lift_some e
  unfold dNot at e'
  split at e'
  · cases rx; cases e'
    exact ⟨_, rfl, fin1 _ F1 H1 (.refl v1.e) (.bl _)⟩
  · cases e'
def sIfE (t : Sb) (a b : Sx) : Sx := fun ρ => bd (t ρ) fun c => if c then a ρ else b ρ
theorem d_ifE {st : Sb} (hc : PT X c (tT X.K X.mg W st)) (ha : PE X a (tS X.K X.mg W sa)) (hb : PE X b (tS X.K X.mg W sb)) : PE X (.IfExp c a b pos) (tS X.K X.mg W (sIfE st sa sb)) := by
  refine pe_imp (pe_ifExp hc ha hb) fun σ H Q ⟨ρ, F, z, v, e, fin⟩ => ?_
  refine part v e fin fun t t' F1 H1 _ e g1 v1 rt fin1 => ?_
  cases rt
  cases t with
  | true => exact whole v1 e fin1
  | false => exact whole v1 e fin1

/-! ### tests -/
def toB (s : Sx) : Sb := fun ρ => bd (s ρ) fun d =>
  match d with
  | .bl b => some (.ok b)
  | _ => none
theorem toB_reads {σ : St} {H : Hp} {Q : Bool → Hp → Prop} (h : tT X.K X.mg W (toB sa) σ H Q) : tS X.K X.mg W sa σ H (fun x H1 => ∃ k, x = .bl k ∧ Q k H1) := by
  obtain ⟨ρ, F, z, v, e, fin⟩ := h
  refine part v e fin fun dx x F1 H1 _ e g1 v1 rx fin1 => ?_
  split at e
  · cases rx; cases e
    exact ⟨_, rfl, fin1 _ F1 H1 (.refl v1.e) rfl⟩
  · cases e
theorem t_val (h : PE X a (tS X.K X.mg W sa)) (he : ∀ whole, isTrue a X.env whole = (do let v ← whole; standAt a.pos; holding [v] (truthy v)) := by intro _; rfl) : PT X a (tT X.K X.mg W (toB sa)) :=
  pt_imp (pt_val h he) fun _ _ _ h => toB_reads h
theorem t_cmp {op : CmpOp} {r : R2} {f : D → D → Option D} (ho : OpR X (compareOp op) r) (hf : Op2 X.K X.mg r f) (ha : PE X a (tS X.K X.mg W sa)) (hb : PE X b (tS X.K X.mg W sb)) (hm : behindInMarks op b = false := by first | exact nomark _ | rfl) : PT X (.Compare a [op] [b] pos) (tT X.K X.mg W (toB (sOp f sa sb))) :=
  pt_imp (pt_cmpR ho ha hb hm) fun _ _ _ h => op_reads hf (toB_reads h)
theorem t_chain {op op' : CmpOp} {f g : D → D → Option D} {r r' : R2} (ho : OpR X (compareOp op) r) (hf : Op2 X.K X.mg r f) (ho' : OpR X (compareOp op') r') (hg : Op2 X.K X.mg r' g) (ha : PE X a (tS X.K X.mg W sa)) (hb : PE X b (tS X.K X.mg W sb)) (hc : PE X c (tS X.K X.mg W sc))
    (hm : lastMarks [op, op'] [b, c] = false := by with_unfolding_all rfl) : PT X (.Compare a [op, op'] [b, c] pos) (tT X.K X.mg W (toB (sChain f g sa sb sc))) :=
  pt_imp (pt_chain ho ho' ha hb hc hm) fun _ _ _ h => chain_reads hf hg (toB_reads h)
def bAnd (a b : Sb) : Sb := fun ρ => bd (a ρ) fun x => if x then b ρ else some (.ok false)
def bOr (a b : Sb) : Sb := fun ρ => bd (a ρ) fun x => if x then some (.ok true) else b ρ
def bNot (a : Sb) : Sb := fun ρ => bd (a ρ) fun x => some (.ok (!x))
variable {ba bb : Sb}
theorem w_and1 (ha : PT X a (tT X.K X.mg W ba)) : PW X (.BoolOp .And [a] pos) (tT X.K X.mg W ba) := pw_and1 ha
theorem w_or1 (ha : PT X a (tT X.K X.mg W ba)) : PW X (.BoolOp .Or [a] pos) (tT X.K X.mg W ba) := pw_or1 ha
theorem w_and (ha : PT X a (tT X.K X.mg W ba)) (hb : PW X (.BoolOp .And (b :: rest) pos) (tT X.K X.mg W bb)) : PW X (.BoolOp .And (a :: b :: rest) pos) (tT X.K X.mg W (bAnd ba bb)) := by
  refine pw_imp (pw_and ha hb) fun σ H Q ⟨ρ, F, z, v, e, fin⟩ => ?_
  refine part v e fin fun t t' F1 H1 _ e g1 v1 rt fin1 => ?_
  cases rt
  cases t with
  | true => exact whole v1 e fin1
  | false => cases e; exact fin1 _ F1 H1 (.refl v1.e) rfl
theorem w_or (ha : PT X a (tT X.K X.mg W ba)) (hb : PW X (.BoolOp .Or (b :: rest) pos) (tT X.K X.mg W bb)) : PW X (.BoolOp .Or (a :: b :: rest) pos) (tT X.K X.mg W (bOr ba bb)) := by
  refine pw_imp (pw_or ha hb) fun σ H Q ⟨ρ, F, z, v, e, fin⟩ => ?_
  refine part v e fin fun t t' F1 H1 _ e g1 v1 rt fin1 => ?_
  cases rt
  cases t with
  | true => cases e; exact fin1 _ F1 H1 (.refl v1.e) rfl
  | false => exact whole v1 e fin1
theorem t_w (h : PW X a (tT X.K X.mg W ba)) : PT X a (tT X.K X.mg W ba) := h.pt
theorem t_not (ha : PT X a (tT X.K X.mg W ba)) : PT X (.UnaryOp .Not a pos) (tT X.K X.mg W (bNot ba)) := by
  refine pt_imp (pt_not ha) fun σ H Q ⟨ρ, F, z, v, e, fin⟩ => ?_
  refine part v e fin fun t t' F1 H1 _ e g1 v1 rt fin1 => ?_
  cases rt
  cases e
  exact fin1 _ F1 H1 (.refl v1.e) rfl
end

/-! ### the program's own defs -/
def spOf (K : PySem.W.Frag) (mg : Str → Option Value) (n : Nat) (f : List D → Oe D) : Sp := fun vs H Q E =>
  ∃ F ds r, Ex F H ∧ RepAll K mg F vs ds ∧ ds.length = n ∧ f ds = some r ∧
    match r with
    | .ok d => ∀ v F' H', Grow F H F' H' → Rep K mg F' v d → Q v H'
    | .error c => ∀ C F' H', Grow F H F' H' → mg c = some (.ref C) → E (.ref C) none H'
/-- the def x of n parameters computes f -/
structure FnD (P : Program) (w : World) (K : PySem.W.Frag) (mg : Str → Option Value) (base : Heap) (k : Nat) (x : Str) (n : Nat) (f : List D → Oe D) : Prop where
  ex : ∃ (a : Addr) (fd : FuncData) (ps : List Str), FnOk P w K mg base (L2.CX P w) k a fd ps (spOf K mg n f) ∧ mg x = some (.ref a) ∧ PySem.W.keepIn K (.ref a) = true ∧ Binds K fd ps []
def sFn (n : Nat) (f : List D → Oe D) (l : Sl) : Sx := fun ρ => bd (l ρ) fun ds => if ds.length = n then f ds else none
section
variable {X : Cx} {W : WX} {pos p : Pos} {a : Expr} {es : List Expr} {sl : Sl} {k n : Nat} {x : Str} {f : List D → Oe D}
theorem d_call (G : FnD X.prog X.w X.K X.mg X.base k x n f) (hr : Room k X.A) (tk : Takes X W) (ha : PA X (a :: es) (tA X.K X.mg W sl)) (hg : Gl X x := by rfl) (hdb : (x == ("__debug__" : Str)) = false := by decide)
    (he : starEach (a :: es) X.env = (false, eval a X.env) :: starEach es X.env := by rfl) (hpl : (backTo pos (starEach es X.env)).any (·.1) = false := by rfl) :
    PE X (.Call (.Name x p) (a :: es) [] pos) (tS X.K X.mg W (sFn n f sl)) := by
  obtain ⟨fa, fd, ps, hF, hm, hk, hb⟩ := G.ex
  refine pe_imp (pe_callS hF hr hg hm hk hb (fun σ => passAt tk σ) ha hdb he hpl) fun σ H Q ⟨ρ, F, z, v, e, fin⟩ => ?_
  refine part v e fin fun ds xs F1 H1 _ e g v1 rs fin1 => ?_
  split at e
  · rename_i hn
    refine ⟨F1, ds, z, v1.e, rs, hn, e, ?_⟩
    cases z with
    | ok d => exact fun u F2 H2 g2 r2 => fin1 u F2 H2 g2 r2
    | error c => exact fun C F2 H2 g2 hc => fin1 C F2 H2 g2 hc
  · cases e
/-- a def without parameters, that raises nothing -/
def sFn0 (f : List D → Oe D) : Sx := fun _ =>
  match f [] with
  | some (.ok d) => some (.ok d)
  | _ => none
theorem d_call0 (G : FnD X.prog X.w X.K X.mg X.base k x 0 f) (hr : Room k X.A) (hg : Gl X x := by rfl) (hdb : (x == ("__debug__" : Str)) = false := by decide) :
    PE X (.Call (.Name x p) [] [] pos) (tS X.K X.mg W (sFn0 f)) := by
  obtain ⟨fa, fd, ps, hF, hm, hk, hb⟩ := G.ex
  refine pe_imp (pe_call0 hF hr hg hm hk hb .nil passL hdb) fun σ H Q ⟨ρ, F, z, v, e, fin⟩ => ?_
  unfold sFn0 at e
  split at e
  · rename_i d hd
    cases e
    exact ⟨F, [], .ok d, v.e, .nil, rfl, hd, fun u F2 H2 g2 r2 => fin u F2 H2 g2 r2⟩
  · cases e
end
end Dl
/-! Dl6: statements over slots; owned lists. -/
namespace Dl
open PySem L2

/-- a slot: not told, data that stands still, a list (a dict) that none but this slot holds -/
inductive SL where
  | no | dat (d : D) | own (d : D)
abbrev Sig := List SL
inductive Fl where
  | nx (ρ : Sig) | bk (ρ : Sig) | ct (ρ : Sig) | rt (d : D) | ex (c : Str) (ρ : Sig) | rs (d : D) (ρ : Sig)
abbrev Ss := Sig → Option Fl

/-- what an owned object that is not shown lets see: a dict's address -/
def xo : D → Option D
  | .dlx a _ => some (.exn a)
  | .win a _ _ _ => some (.exn a)
  | .lsx a _ => some (.exn a)
  | _ => none
def expoF (ms : List Nat) : Nat → Sig → Rho
  | _, [] => []
  | i, s :: r => (match s with
      | .no => none
      | .dat d => some d
      | .own d => if ms.contains i then some d else xo d) :: expoF ms (i + 1) r
def expo (ms : List Nat) (ρ : Sig) : Rho := expoF ms 0 ρ
def frzF (ms : List Nat) : Nat → Sig → Sig
  | _, [] => []
  | i, s :: r => (match s with
      | .own d => if ms.contains i then .dat d else .own d
      | s => s) :: frzF ms (i + 1) r
def frz (ms : List Nat) (ρ : Sig) : Sig := frzF ms 0 ρ
theorem expoF_get (ms : List Nat) : ∀ (ρ : Sig) (k i : Nat), (expoF ms k ρ)[i]? = (ρ[i]?).map fun s => match s with
      | .no => none
      | .dat d => some d
      | .own d => if ms.contains (k + i) then some d else xo d
  | [], k, i => by simp [expoF]
  | s :: r, k, 0 => by simp [expoF]
  | s :: r, k, i + 1 => by
    have e : k + 1 + i = k + (i + 1) := by omega
    simp only [expoF, List.getElem?_cons_succ]
    rw [expoF_get ms r (k + 1) i, e]
theorem frzF_get (ms : List Nat) : ∀ (ρ : Sig) (k i : Nat), (frzF ms k ρ)[i]? = (ρ[i]?).map fun s => match s with
      | .own d => if ms.contains (k + i) then .dat d else .own d
      | s => s
  | [], k, i => by simp [frzF]
  | s :: r, k, 0 => by simp [frzF]
  | s :: r, k, i + 1 => by
    have e : k + 1 + i = k + (i + 1) := by omega
    simp only [frzF, List.getElem?_cons_succ]
    rw [frzF_get ms r (k + 1) i, e]
theorem expo_length (ms : List Nat) (ρ : Sig) : (expo ms ρ).length = ρ.length := by
  unfold expo
  have : ∀ (ρ : Sig) (k : Nat), (expoF ms k ρ).length = ρ.length := fun ρ => by
    induction ρ with
    | nil => intro k; rfl
    | cons s r ih => intro k; simp [expoF, ih]
  exact this ρ 0
theorem frz_length (ms : List Nat) (ρ : Sig) : (frz ms ρ).length = ρ.length := by
  unfold frz
  have : ∀ (ρ : Sig) (k : Nat), (frzF ms k ρ).length = ρ.length := fun ρ => by
    induction ρ with
    | nil => intro k; rfl
    | cons s r ih => intro k; simp [frzF, ih]
  exact this ρ 0

section
variable (K : PySem.W.Frag) (mg : Str → Option Value)
/-- a window at a: what it shows, its two lists -/
structure WinAt (F H : Hp) (a : Addr) (p : D) (dn un : List D) : Prop where
  ex : ∃ (C dx : Addr) (pv : V) (dl ul : Addr) (xs ys : List V), mg "Window" = some (.ref C) ∧ H a = some (.ins C dx [("present", pv), ("done", .ref dl), ("undone", .ref ul)]) ∧ H dl = some (.lst xs) ∧ H ul = some (.lst ys) ∧ dl ≠ ul ∧ Rep K mg F pv p ∧ RepAll K mg F xs dn ∧ RepAll K mg F ys un
/-- the lists that an instance holds -/
def kids (H : Hp) (p : Addr) : List Addr := match H p with
  | some (.ins _ _ [_, (_, .ref x), (_, .ref y)]) => [x, y]
  | _ => []
def OwnAt (F H : Hp) (p : Addr) : D → Prop
  | .lst ds => ∃ xs, H p = some (.lst xs) ∧ RepAll K mg F xs ds
  | .dic kvs => H p = some (.dK kvs) ∧ (kvs.all fun q => flatV q.2) = true
  | .dlx a kns => p = a ∧ ∃ kvs, H p = some (.dK kvs) ∧ KRep F kvs kns
  | .lsx a ds => p = a ∧ ∃ xs, H p = some (.lst xs) ∧ RepAll K mg F xs ds
  | .win a q dn un => p = a ∧ WinAt K mg F H a q dn un
  | _ => False
def SlotOk (H0 F H : Hp) (σ : St) (i : Nat) : SL → Prop
  | .no => True
  | .dat d => ∃ v, σ[i]? = some (some v) ∧ Rep K mg F v d
  | .own d => ∃ p, σ[i]? = some (some (.ref p)) ∧ H0 p = none ∧ F p = none ∧ OwnAt K mg F H p d
/-- the lists of instances stand apart from all that is owned -/
def KdOk (H0 F H : Hp) (σ : St) (ρ : Sig) : Prop := ∀ (i : Nat) (d : D) (p : Addr), ρ[i]? = some (.own d) → σ[i]? = some (some (.ref p)) → ∀ x, x ∈ kids H p →
  H0 x = none ∧ F x = none ∧ (∃ o, H x = some o) ∧ ∀ (j : Nat) (e : D) (q : Addr), ρ[j]? = some (.own e) → σ[j]? = some (some (.ref q)) → x ≠ q ∧ (i ≠ j → x ∉ kids H q)
/-- the state behind the entry F0, H0 -/
structure StOk (F0 H0 F H : Hp) (σ : St) (ρ : Sig) : Prop where
  g : Grow F0 H0 F H
  s : ∀ (i : Nat) (s : SL), ρ[i]? = some s → SlotOk K mg H0 F H σ i s
  d : ∀ (i j : Nat) (d e : D) (p : Addr), i ≠ j → ρ[i]? = some (.own d) → ρ[j]? = some (.own e) → σ[i]? = some (some (.ref p)) → σ[j]? ≠ some (some (.ref p))
  len : ρ.length = σ.length
  kd : KdOk H0 F H σ ρ
end

section
variable {K : PySem.W.Frag} {mg : Str → Option Value} {F0 H0 F H F' H' : Hp} {σ : St} {ρ : Sig}
theorem kids_ins {C dx a dl ul : Addr} {pv : V} {s t u : Str} (h : H a = some (.ins C dx [(s, pv), (t, .ref dl), (u, .ref ul)])) : kids H a = [dl, ul] := by unfold kids; rw [h]
theorem kids_lst {p : Addr} {xs : List V} (h : H p = some (.lst xs)) : kids H p = [] := by unfold kids; rw [h]
theorem kids_dK {p : Addr} {xs : List (Key × V)} (h : H p = some (.dK xs)) : kids H p = [] := by unfold kids; rw [h]
theorem kids_eq {p : Addr} (h : H' p = H p) : kids H' p = kids H p := by unfold kids; rw [h]
theorem WinAt.mo {a : Addr} {p : D} {dn un : List D} (h : WinAt K mg F H a p dn un) (e : Ex F F') (e2 : ∀ x o, x ∈ a :: kids H a → H x = some o → H' x = some o) : WinAt K mg F' H' a p dn un := by
  obtain ⟨C, dx, pv, dl, ul, xs, ys, h1, h2, h3, h4, h5, h6, h7, h8⟩ := h.ex
  have hk := kids_ins h2
  exact ⟨C, dx, pv, dl, ul, xs, ys, h1, e2 _ _ List.mem_cons_self h2, e2 _ _ (by rw [hk]; simp) h3, e2 _ _ (by rw [hk]; simp) h4, h5, h6.mo e, h7.mo e, h8.mo e⟩
theorem OwnAt.keep {p : Addr} {d : D} (h : OwnAt K mg F H p d) (e : Ex F F') (e2 : ∀ x o, x ∈ p :: kids H p → H x = some o → H' x = some o) : OwnAt K mg F' H' p d := by
  cases d <;> first
    | exact h.elim
    | (obtain ⟨rfl, w⟩ := h; exact ⟨rfl, w.mo e e2⟩)
    | (obtain ⟨xs, h1, h2⟩ := h; exact ⟨xs, e2 _ _ List.mem_cons_self h1, RepAll.mo h2 e⟩)
    | (obtain ⟨h0, kvs, h1, h2⟩ := h; exact ⟨h0, kvs, e2 _ _ List.mem_cons_self h1, KRep.mo e h2⟩)
    | (obtain ⟨h0, kvs, h1, h2⟩ := h; exact ⟨h0, kvs, e2 _ _ List.mem_cons_self h1, RepAll.mo h2 e⟩)
    | exact ⟨e2 _ _ List.mem_cons_self h.1, h.2⟩
theorem OwnAt.mo {p : Addr} {d : D} (h : OwnAt K mg F H p d) (e : Ex F F') (e2 : Ex H H') : OwnAt K mg F' H' p d := h.keep e fun x o _ q => e2 x o q
theorem OwnAt.there {p : Addr} {d : D} (h : OwnAt K mg F H p d) : ∃ o, H p = some o ∧ ∀ xs, o ≠ .tup xs := by
  cases d <;> first
    | exact h.elim
    | (obtain ⟨rfl, w⟩ := h; obtain ⟨_, _, _, _, _, _, _, _, h2, _⟩ := w.ex; exact ⟨_, h2, fun _ q => nomatch q⟩)
    | (obtain ⟨xs, h1, h2⟩ := h; exact ⟨_, h1, fun _ q => nomatch q⟩)
    | (obtain ⟨h0, kvs, h1, h2⟩ := h; exact ⟨_, h1, fun _ q => nomatch q⟩)
    | exact ⟨_, h.1, fun _ q => nomatch q⟩
theorem OwnAt.nofrz {p : Addr} {d : D} (h : OwnAt K mg F H p d) : (∀ xs, ¬ Rd H p (.tup xs)) := by
  intro xs r
  cases d with
  | lst ds =>
    obtain ⟨ys, h1, _⟩ := h
    rcases r with r | ⟨o, r⟩ <;> rw [h1] at r <;> cases r
  | dic kvs =>
    have h1 : H p = some (.dK kvs) := h.1
    rcases r with r | ⟨o, r⟩ <;> rw [h1] at r <;> cases r
  | dlx a kns =>
    obtain ⟨_, kvs, h1, _⟩ := h
    rcases r with r | ⟨o, r⟩ <;> rw [h1] at r <;> cases r
  | lsx a ds =>
    obtain ⟨_, kvs, h1, _⟩ := h
    rcases r with r | ⟨o, r⟩ <;> rw [h1] at r <;> cases r
  | win a q dn un =>
    obtain ⟨rfl, w⟩ := h
    obtain ⟨_, _, _, _, _, _, _, _, h1, _⟩ := w.ex
    rcases r with r | ⟨o, r⟩ <;> rw [h1] at r <;> cases r
  | _ => exact h.elim
theorem OwnAt.rep {p : Addr} {d : D} {F2 : Hp} (h : OwnAt K mg F H p d) (e : Ex F F2) (e2 : F2 p = H p) : Rep K mg F2 (.ref p) d := by
  cases d with
  | lst ds =>
    obtain ⟨xs, h1, h2⟩ := h
    exact .lst (e2.trans h1) (h2.mo e)
  | dic kvs => exact .dic (e2.trans h.1) h.2
  | dlx a kns =>
    obtain ⟨rfl, kvs, h1, h2⟩ := h
    exact .dlx (e2.trans h1) (h2.mo e)
  | lsx a ds =>
    obtain ⟨rfl, kvs, h1, h2⟩ := h
    exact .lsx (e2.trans h1) (h2.mo e)
  | win a q dn un =>
    obtain ⟨rfl, w⟩ := h
    obtain ⟨_, _, _, _, _, _, _, h0, h1, _, _, _, h2, _⟩ := w.ex
    exact .win h0 (e2.trans h1) (h2.mo e)
  | _ => exact h.elim
/-- the addresses of the owned that are shown -/
def ownAddr (ms : List Nat) (i : Nat) : Option SL → Option (Option V) → Option Addr
  | some (.own _), some (some (.ref p)) => if ms.contains i then some p else none
  | _, _ => none
def ownAddrs (ms : List Nat) (ρ : Sig) (σ : St) : List Addr := (List.range ρ.length).filterMap fun (i : Nat) => ownAddr ms i (ρ[i]?) (σ[i]?)
theorem mem_ownAddrs {ms : List Nat} {p : Addr} : p ∈ ownAddrs ms ρ σ ↔ ∃ (i : Nat) (d : D), ρ[i]? = some (.own d) ∧ σ[i]? = some (some (.ref p)) ∧ ms.contains i = true := by
  unfold ownAddrs
  rw [List.mem_filterMap]
  constructor
  · rintro ⟨i, _, h⟩
    unfold ownAddr at h
    split at h
    · rename_i d q h1 h2
      split at h
      · cases h
        exact ⟨i, d, h1, h2, by assumption⟩
      · cases h
    · cases h
  · rintro ⟨i, d, h1, h2, h3⟩
    refine ⟨i, List.mem_range.mpr (List.getElem?_eq_some_iff.mp h1).1, ?_⟩
    rw [h1, h2]
    simp only [ownAddr, h3, if_true]
def addH (F H : Hp) (ps : List Addr) : Hp := fun a => if a ∈ ps then H a else F a
def delH (F : Hp) (ps : List Addr) : Hp := fun a => if a ∈ ps then none else F a
theorem addH_in {ps : List Addr} {a : Addr} (h : a ∈ ps) : addH F H ps a = H a := if_pos h
theorem addH_out {ps : List Addr} {a : Addr} (h : a ∉ ps) : addH F H ps a = F a := if_neg h
theorem delH_in {ps : List Addr} {a : Addr} (h : a ∈ ps) : delH F ps a = none := if_pos h
theorem delH_out {ps : List Addr} {a : Addr} (h : a ∉ ps) : delH F ps a = F a := if_neg h

theorem StOk.own (S : StOk K mg F0 H0 F H σ ρ) {ms : List Nat} {p : Addr} (h : p ∈ ownAddrs ms ρ σ) : H0 p = none ∧ F p = none ∧ ∃ d, OwnAt K mg F H p d := by
  obtain ⟨i, d, h1, h2, _⟩ := mem_ownAddrs.mp h
  obtain ⟨q, e, a, b, c⟩ := S.s i _ h1
  rw [h2] at e; cases e
  exact ⟨a, b, d, c⟩
theorem StOk.exAdd (S : StOk K mg F0 H0 F H σ ρ) (ms : List Nat) : Ex F (addH F H (ownAddrs ms ρ σ)) := fun a o e => by
  by_cases h : a ∈ ownAddrs ms ρ σ
  · rw [(S.own h).2.1] at e; cases e
  · rw [addH_out h]; exact e
theorem StOk.exAddH (S : StOk K mg F0 H0 F H σ ρ) (ms : List Nat) : Ex (addH F H (ownAddrs ms ρ σ)) H := fun a o e => by
  by_cases h : a ∈ ownAddrs ms ρ σ
  · rw [addH_in h] at e; exact e
  · rw [addH_out h] at e; exact S.g.s a o e
/-- what an expression sees -/
theorem StOk.view (S : StOk K mg F0 H0 F H σ ρ) (ms : List Nat) : View K mg (addH F H (ownAddrs ms ρ σ)) H σ (expo ms ρ) := by
  refine ⟨S.exAddH ms, fun i d e => ?_, by rw [expo_length, S.len]; exact Nat.le_refl _⟩
  unfold expo at e
  rw [expoF_get] at e
  obtain ⟨s, hs, e⟩ := Option.map_eq_some_iff.mp e
  cases s with
  | no => cases e
  | dat c =>
    cases e
    obtain ⟨v, e1, r⟩ := S.s i _ hs
    exact ⟨v, e1, r.mo (S.exAdd ms)⟩
  | own c =>
    have e : (if ms.contains (0 + i) = true then some c else xo c) = some d := e
    rw [Nat.zero_add] at e
    split at e
    · rename_i hm
      cases e
      obtain ⟨p, e1, _, _, o⟩ := S.s i _ hs
      exact ⟨.ref p, e1, o.rep (S.exAdd ms) (addH_in (mem_ownAddrs.mpr ⟨i, _, hs, e1, hm⟩))⟩
    · obtain ⟨p, e1, _, _, o⟩ := S.s i _ hs
      cases c <;> first | (cases e; done) | (cases e; obtain ⟨rfl, _⟩ := o; exact ⟨_, e1, .exn _⟩)
theorem StOk.notMem (S : StOk K mg F0 H0 F H σ ρ) {ms : List Nat} {i : Nat} {d : D} {p : Addr} (h : ρ[i]? = some (.own d)) (e : σ[i]? = some (some (.ref p))) (hm : ms.contains i = false) : p ∉ ownAddrs ms ρ σ := fun q => by
  obtain ⟨j, c, h1, h2, h3⟩ := mem_ownAddrs.mp q
  by_cases hij : i = j
  · subst hij; rw [hm] at h3; cases h3
  · exact S.d i j d c p hij h h1 e h2
theorem StOk.notNew (S : StOk K mg F0 H0 F H σ ρ) {ms : List Nat} (g : Grow (addH F H (ownAddrs ms ρ σ)) H F' H') {p : Addr} {d : D} (hF : F p = none) (o : OwnAt K mg F H p d) (n : p ∉ ownAddrs ms ρ σ) : F' p = none := by
  cases q : F' p with
  | none => rfl
  | some u =>
    rcases g.n p u q with z | z
    · rw [addH_out n, hF] at z; cases z
    · obtain ⟨w, hw, _⟩ := o.there
      rw [hw] at z; cases z
theorem KdOk.tr {σ' : St} {ρ' : Sig} (k : KdOk H0 F H σ ρ) (sub : ∀ (i : Nat) (d : D) (p : Addr), ρ'[i]? = some (.own d) → σ'[i]? = some (some (.ref p)) → ∃ d', ρ[i]? = some (.own d') ∧ σ[i]? = some (some (.ref p)))
    (hp : ∀ (i : Nat) (d : D) (p : Addr), ρ[i]? = some (.own d) → σ[i]? = some (some (.ref p)) → H' p = H p) (hx : ∀ x o, H x = some o → ∃ o, H' x = some o)
    (hF : ∀ x o, H x = some o → F x = none → (∀ (i : Nat) (d : D) (p : Addr), ρ[i]? = some (.own d) → σ[i]? = some (some (.ref p)) → x ≠ p) → F' x = none) : KdOk H0 F' H' σ' ρ' := fun i d p h1 h2 x hk => by
  obtain ⟨d', q1, q2⟩ := sub i d p h1 h2
  rw [kids_eq (hp i d' p q1 q2)] at hk
  obtain ⟨a, b, ⟨o, c⟩, e⟩ := k i d' p q1 q2 x hk
  refine ⟨a, hF x o c b fun j d2 q z1 z2 => (e j d2 q z1 z2).1, hx x o c, fun j d2 q z1 z2 => ?_⟩
  obtain ⟨d3, y1, y2⟩ := sub j d2 q z1 z2
  rw [kids_eq (hp j d3 q y1 y2)]
  exact e j d3 q y1 y2
theorem StOk.hp (S : StOk K mg F0 H0 F H σ ρ) (e : Ex H H') (i : Nat) (d : D) (p : Addr) (h : ρ[i]? = some (.own d)) (h2 : σ[i]? = some (some (.ref p))) : H' p = H p := by
  obtain ⟨q, e1, _, _, o⟩ := S.s i _ h
  rw [h2] at e1; cases e1
  obtain ⟨u, hu, _⟩ := o.there
  rw [hu, e _ _ hu]
/-- a new thing is none of what is owned, nor of its lists -/
theorem StOk.fresh (S : StOk K mg F0 H0 F H σ ρ) {p : Addr} (hp : H p = none) {j : Nat} {e : D} {q : Addr} (h : ρ[j]? = some (.own e)) (z : σ[j]? = some (some (.ref q))) : q ≠ p ∧ ∀ H' : Hp, Ex H H' → p ∉ kids H' q := by
  obtain ⟨q', e1, _, _, o⟩ := S.s j _ h
  rw [z] at e1; cases e1
  obtain ⟨u, hu, _⟩ := o.there
  refine ⟨fun w => (by rw [w, hp] at hu; cases hu), fun H' ee hk => ?_⟩
  rw [kids_eq (S.hp ee j _ q h z)] at hk
  obtain ⟨_, _, ⟨o, c⟩, _⟩ := S.kd j _ q h z p hk
  rw [hp] at c; cases c
/-- behind an expression: what it saw is frozen -/
theorem StOk.frozen (S : StOk K mg F0 H0 F H σ ρ) {ms : List Nat} (g : Grow (addH F H (ownAddrs ms ρ σ)) H F' H') : StOk K mg F0 H0 F' H' σ (frz ms ρ) := by
  have eF : Ex F F' := (S.exAdd ms).trans g.f
  refine ⟨⟨S.g.f.trans eF, S.g.h.trans g.h, g.s, fun a o e => ?_⟩, fun i s e => ?_, fun i j d e p hij h1 h2 h3 => ?_, by rw [frz_length]; exact S.len, ?_⟩
  · rcases g.n a o e with z | z
    · by_cases h : a ∈ ownAddrs ms ρ σ
      · exact .inr (S.own h).1
      · rw [addH_out h] at z; exact S.g.n a o z
    · exact .inr (S.g.h.none z)
  · unfold frz at e
    rw [frzF_get] at e
    obtain ⟨t, ht, e⟩ := Option.map_eq_some_iff.mp e
    cases t with
    | no => cases e; trivial
    | dat c =>
      cases e
      obtain ⟨v, e1, r⟩ := S.s i _ ht
      exact ⟨v, e1, r.mo eF⟩
    | own c =>
      have e : (if ms.contains (0 + i) = true then SL.dat c else SL.own c) = s := e
      rw [Nat.zero_add] at e
      obtain ⟨p, e1, a, b, o⟩ := S.s i _ ht
      split at e
      · rename_i hm
        cases e
        exact ⟨.ref p, e1, (o.rep (S.exAdd ms) (addH_in (mem_ownAddrs.mpr ⟨i, c, ht, e1, hm⟩))).mo g.f⟩
      · rename_i hm
        cases e
        exact ⟨p, e1, a, S.notNew g b o (S.notMem ht e1 (by simpa using hm)), o.mo eF g.h⟩
  · unfold frz at h1 h2
    rw [frzF_get] at h1 h2
    obtain ⟨t, ht, e1⟩ := Option.map_eq_some_iff.mp h1
    obtain ⟨u, hu, e2⟩ := Option.map_eq_some_iff.mp h2
    cases t with
    | own c =>
      cases u with
      | own c' => exact S.d i j c c' p hij ht hu h3
      | dat c' => cases e2
      | no => cases e2
    | dat c => cases e1
    | no => cases e1
  · refine S.kd.tr (fun i d p h1 h2 => ?_) (S.hp g.h) (fun x o h => ⟨o, g.h _ _ h⟩) fun x o h1 h2 h3 => ?_
    · unfold frz at h1
      rw [frzF_get] at h1
      obtain ⟨t, ht, e1⟩ := Option.map_eq_some_iff.mp h1
      cases t with
      | own c => exact ⟨c, ht, h2⟩
      | dat c => cases e1
      | no => cases e1
    · cases q : F' x with
      | none => rfl
      | some u =>
        rcases g.n x u q with z | z
        · rw [addH_out (fun w => by obtain ⟨i, d, q1, q2, _⟩ := mem_ownAddrs.mp w; exact h3 i d x q1 q2 rfl), h2] at z; cases z
        · rw [h1] at z; cases z
/-- .. where nothing of what it saw is kept -/
theorem StOk.seen (S : StOk K mg F0 H0 F H σ ρ) {ms : List Nat} (g : Grow (addH F H (ownAddrs ms ρ σ)) H F' H') : StOk K mg F0 H0 (delH F' (ownAddrs ms ρ σ)) H' σ ρ ∧ Ex F (delH F' (ownAddrs ms ρ σ)) ∧ Tups (K := K) F' (delH F' (ownAddrs ms ρ σ)) := by
  have eF : Ex F (delH F' (ownAddrs ms ρ σ)) := fun a o e => by
    by_cases h : a ∈ ownAddrs ms ρ σ
    · rw [(S.own h).2.1] at e; cases e
    · rw [delH_out h]; exact g.f a o (by rw [addH_out h]; exact e)
  refine ⟨⟨⟨S.g.f.trans eF, S.g.h.trans g.h, fun a o e => ?_, fun a o e => ?_⟩, fun i s e => ?_, S.d, S.len, S.kd.tr (fun i d p h1 h2 => ⟨d, h1, h2⟩) (S.hp g.h) (fun x o h => ⟨o, g.h _ _ h⟩) fun x o h1 h2 h3 => ?_⟩, eF, fun a xs h => ?_⟩
  · by_cases h : a ∈ ownAddrs ms ρ σ
    · rw [delH_in h] at e; cases e
    · rw [delH_out h] at e; exact g.s a o e
  · by_cases h : a ∈ ownAddrs ms ρ σ
    · rw [delH_in h] at e; cases e
    · rw [delH_out h] at e
      rcases g.n a o e with z | z
      · rw [addH_out h] at z; exact S.g.n a o z
      · exact .inr (S.g.h.none z)
  · cases s with
    | no => trivial
    | dat c =>
      obtain ⟨v, e1, r⟩ := S.s i _ e
      exact ⟨v, e1, r.mo eF⟩
    | own c =>
      obtain ⟨p, e1, a, b, o⟩ := S.s i _ e
      refine ⟨p, e1, a, ?_, o.mo eF g.h⟩
      by_cases h : p ∈ ownAddrs ms ρ σ
      · exact delH_in h
      · rw [delH_out h]; exact S.notNew g b o h
  · have hno : x ∉ ownAddrs ms ρ σ := fun w => by obtain ⟨i, d, q1, q2, _⟩ := mem_ownAddrs.mp w; exact h3 i d x q1 q2 rfl
    rw [delH_out hno]
    cases q : F' x with
    | none => rfl
    | some u =>
      rcases g.n x u q with z | z
      · rw [addH_out hno, h2] at z; cases z
      · rw [h1] at z; cases z
  · have go : ∀ u, F' a = some u → (u = .tup xs ∨ ∃ o, u = .frz o (.tup xs)) → delH F' (ownAddrs ms ρ σ) a = some u := fun u q hu => by
      by_cases hm : a ∈ ownAddrs ms ρ σ
      · obtain ⟨_, _, d, o⟩ := S.own hm
        have q2 : H' a = some u := g.s a u q
        exact (((o.mo (Ex.refl F) g.h).nofrz xs) (by
          rcases hu with rfl | ⟨w, rfl⟩
          · exact .inl q2
          · exact .inr ⟨w, q2⟩)).elim
      · rw [delH_out hm]; exact q
    rcases h with (h | ⟨o, h⟩) | h
    · exact .inl (.inl (go _ h (.inl rfl)))
    · exact .inl (.inr ⟨o, go _ h (.inr ⟨o, rfl⟩)⟩)
    · exact .inr h
/-- a slot takes data -/
theorem StOk.set (S : StOk K mg F0 H0 F H σ ρ) {i : Nat} {v : V} {d : D} (r : Rep K mg F v d) : StOk K mg F0 H0 F H (σ.set i (some v)) (ρ.set i (.dat d)) := by
  refine ⟨S.g, fun j s e => ?_, fun j k c e p hjk h1 h2 h3 => ?_, by rw [List.length_set, List.length_set]; exact S.len, S.kd.tr (fun j d2 p h1 h2 => ?_) (fun _ _ _ _ _ => rfl) (fun x o h => ⟨o, h⟩) fun x o h1 h2 h3 => h2⟩
  · by_cases hj : i = j
    · subst hj
      by_cases hi : i < ρ.length
      · rw [List.getElem?_set_self hi] at e
        cases e
        exact ⟨v, List.getElem?_set_self (by rw [← S.len]; exact hi), r⟩
      · rw [List.getElem?_eq_none (by rw [List.length_set]; omega)] at e; cases e
    · rw [List.getElem?_set_ne hj] at e
      have := S.s j s e
      cases s with
      | no => trivial
      | dat c => obtain ⟨u, e1, r1⟩ := this; exact ⟨u, by rw [List.getElem?_set_ne hj]; exact e1, r1⟩
      | own c => obtain ⟨p, e1, q⟩ := this; exact ⟨p, by rw [List.getElem?_set_ne hj]; exact e1, q⟩
  · by_cases hj : i = j
    · subst hj
      by_cases hi : i < ρ.length
      · rw [List.getElem?_set_self hi] at h1; cases h1
      · rw [List.getElem?_eq_none (by rw [List.length_set]; omega)] at h1; cases h1
    · by_cases hk : i = k
      · subst hk
        by_cases hi : i < ρ.length
        · rw [List.getElem?_set_self hi] at h2; cases h2
        · rw [List.getElem?_eq_none (by rw [List.length_set]; omega)] at h2; cases h2
      · rw [List.getElem?_set_ne hj] at h1 h3
        rw [List.getElem?_set_ne hk] at h2 ⊢
        exact S.d j k c e p hjk h1 h2 h3
  · by_cases hj : i = j
    · subst hj
      by_cases hi : i < ρ.length
      · rw [List.getElem?_set_self hi] at h1; cases h1
      · rw [List.getElem?_eq_none (by rw [List.length_set]; omega)] at h1; cases h1
    · rw [List.getElem?_set_ne hj] at h1 h2
      exact ⟨d2, h1, h2⟩
/-- .. an owned new object -/
theorem StOk.setOwn (S : StOk K mg F0 H0 F H σ ρ) {i : Nat} {p : Addr} {d : D} (h0 : H0 p = none) (hF : F p = none) (o : OwnAt K mg F H p d) (new : ∀ (j : Nat) (e : D), j ≠ i → ρ[j]? = some (.own e) → σ[j]? ≠ some (some (.ref p)))
    (nk : ∀ (j : Nat) (e : D) (q : Addr), j ≠ i → ρ[j]? = some (.own e) → σ[j]? = some (some (.ref q)) → p ∉ kids H q) (k0 : kids H p = [] := by first | exact kids_lst (by assumption) | exact kids_dK (by assumption) | exact kids_dK upd_same) : StOk K mg F0 H0 F H (σ.set i (some (.ref p))) (ρ.set i (.own d)) := by
  have own' : ∀ (j : Nat) (e : D) (q : Addr), (ρ.set i (.own d))[j]? = some (.own e) → (σ.set i (some (.ref p)))[j]? = some (some (.ref q)) → (i = j ∧ p = q) ∨ (j ≠ i ∧ ρ[j]? = some (.own e) ∧ σ[j]? = some (some (.ref q))) := fun j e q h1 h2 => by
    by_cases hj : i = j
    · subst hj
      by_cases hi : i < ρ.length
      · rw [List.getElem?_set_self (by rw [← S.len]; exact hi)] at h2
        cases h2
        exact .inl ⟨rfl, rfl⟩
      · rw [List.getElem?_eq_none (by rw [List.length_set]; omega)] at h1; cases h1
    · rw [List.getElem?_set_ne hj] at h1 h2
      exact .inr ⟨Ne.symm hj, h1, h2⟩
  refine ⟨S.g, fun j s e => ?_, fun j k c e q hjk h1 h2 h3 => ?_, by rw [List.length_set, List.length_set]; exact S.len, fun j c q h1 h2 x hk => ?_⟩
  · by_cases hj : i = j
    · subst hj
      by_cases hi : i < ρ.length
      · rw [List.getElem?_set_self hi] at e
        cases e
        exact ⟨p, List.getElem?_set_self (by rw [← S.len]; exact hi), h0, hF, o⟩
      · rw [List.getElem?_eq_none (by rw [List.length_set]; omega)] at e; cases e
    · rw [List.getElem?_set_ne hj] at e
      have := S.s j s e
      cases s with
      | no => trivial
      | dat c => obtain ⟨u, e1, r1⟩ := this; exact ⟨u, by rw [List.getElem?_set_ne hj]; exact e1, r1⟩
      | own c => obtain ⟨p, e1, q⟩ := this; exact ⟨p, by rw [List.getElem?_set_ne hj]; exact e1, q⟩
  · by_cases hj : i = j
    · subst hj
      by_cases hi : i < ρ.length
      · rw [List.getElem?_set_self (by rw [← S.len]; exact hi)] at h3
        cases h3
        rw [List.getElem?_set_ne hjk] at h2 ⊢
        exact new k e (Ne.symm hjk) h2
      · rw [List.getElem?_eq_none (by rw [List.length_set]; omega)] at h1; cases h1
    · by_cases hk : i = k
      · subst hk
        by_cases hi : i < ρ.length
        · rw [List.getElem?_set_self (by rw [← S.len]; exact hi)]
          rw [List.getElem?_set_ne hj] at h1 h3
          intro z
          cases z
          exact new j c (Ne.symm hj) h1 h3
        · rw [List.getElem?_eq_none (by rw [List.length_set]; omega)] at h2; cases h2
      · rw [List.getElem?_set_ne hj] at h1 h3
        rw [List.getElem?_set_ne hk] at h2 ⊢
        exact S.d j k c e q hjk h1 h2 h3
  · rcases own' j c q h1 h2 with ⟨rfl, rfl⟩ | ⟨hj, h1, h2⟩
    · rw [k0] at hk; cases hk
    · obtain ⟨a, b, c1, e1⟩ := S.kd j c q h1 h2 x hk
      refine ⟨a, b, c1, fun j2 e2 q2 z1 z2 => ?_⟩
      rcases own' j2 e2 q2 z1 z2 with ⟨rfl, rfl⟩ | ⟨hj2, z1, z2⟩
      · exact ⟨fun w => nk j c q hj h1 h2 (by rw [← w]; exact hk), fun _ => by rw [k0]; exact List.not_mem_nil⟩
      · exact e1 j2 e2 q2 z1 z2
/-- an owned object is written -/
theorem StOk.write (S : StOk K mg F0 H0 F H σ ρ) {i : Nat} {p : Addr} {d c : D} {o : HO} (h : ρ[i]? = some (.own c)) (hp : σ[i]? = some (some (.ref p))) (n : OwnAt K mg F (upd H p o) p d) (k0 : kids (upd H p o) p = [] := by first | exact kids_lst upd_same | exact kids_dK upd_same) : StOk K mg F0 H0 F (upd H p o) σ (ρ.set i (.own d)) := by
  obtain ⟨q, e, a, b, oc⟩ := S.s i _ h
  rw [hp] at e; cases e
  have hi : i < ρ.length := (List.getElem?_eq_some_iff.mp h).1
  refine ⟨⟨S.g.f, fun x u z => ?_, fun x u z => ?_, S.g.n⟩, fun j s e => ?_, fun j k c' e r hjk h1 h2 h3 => ?_, by rw [List.length_set]; exact S.len, fun j c' r h1 h2 x hk => ?_⟩
  · rw [upd_ne (fun w => by rw [w, a] at z; cases z)]; exact S.g.h x u z
  · rw [upd_ne (fun w => by rw [w, b] at z; cases z)]; exact S.g.s x u z
  · by_cases hj : i = j
    · subst hj
      rw [List.getElem?_set_self hi] at e
      cases e
      exact ⟨p, hp, a, b, n⟩
    · rw [List.getElem?_set_ne hj] at e
      have := S.s j s e
      cases s with
      | no => trivial
      | dat c => exact this
      | own c' =>
        obtain ⟨r, e1, q1, q2, q3⟩ := this
        refine ⟨r, e1, q1, q2, ?_⟩
        have ne : r ≠ p := fun w => by subst w; exact S.d i j c c' r hj h e hp e1
        refine q3.keep (Ex.refl F) fun x u hx hu => ?_
        rcases List.mem_cons.mp hx with rfl | hx
        · rw [upd_ne ne]; exact hu
        · rw [upd_ne ((S.kd j c' r e e1 x hx).2.2.2 i c p h hp).1]; exact hu
  · have key : ∀ (j : Nat) (x : D), (ρ.set i (.own d))[j]? = some (.own x) → ∃ y, ρ[j]? = some (.own y) := fun j x e => by
      by_cases hj : i = j
      · subst hj; exact ⟨c, h⟩
      · rw [List.getElem?_set_ne hj] at e; exact ⟨x, e⟩
    obtain ⟨y, h1'⟩ := key j _ h1
    obtain ⟨z, h2'⟩ := key k _ h2
    exact S.d j k y z r hjk h1' h2' h3
  · have key : ∀ (j : Nat) (x : D) (r : Addr), (ρ.set i (.own d))[j]? = some (.own x) → σ[j]? = some (some (.ref r)) → (i = j ∧ p = r) ∨ (j ≠ i ∧ ρ[j]? = some (.own x) ∧ r ≠ p) := fun j x r e z => by
      by_cases hj : i = j
      · subst hj
        rw [hp] at z
        cases z
        exact .inl ⟨rfl, rfl⟩
      · rw [List.getElem?_set_ne hj] at e
        exact .inr ⟨Ne.symm hj, e, fun w => by subst w; exact S.d i j c x r hj h e hp z⟩
    rcases key j c' r h1 h2 with ⟨rfl, rfl⟩ | ⟨hj, h1, hr⟩
    · rw [k0] at hk; cases hk
    · rw [kids_eq (H := H) (upd_ne hr)] at hk
      obtain ⟨a1, b1, ⟨u, c1⟩, e1⟩ := S.kd j c' r h1 h2 x hk
      have hx : x ≠ p := (e1 i c p h hp).1
      refine ⟨a1, b1, ⟨u, by rw [upd_ne hx]; exact c1⟩, fun j2 e2 q2 z1 z2 => ?_⟩
      rcases key j2 e2 q2 z1 z2 with ⟨rfl, rfl⟩ | ⟨hj2, z1, hr2⟩
      · exact ⟨hx, fun _ => by rw [k0]; exact List.not_mem_nil⟩
      · rw [kids_eq (H := H) (upd_ne hr2)]
        exact e1 j2 e2 q2 z1 z2
/-- a slot is forgotten -/
theorem StOk.drop (S : StOk K mg F0 H0 F H σ ρ) (i : Nat) : StOk K mg F0 H0 F H σ (ρ.set i .no) := by
  have key : ∀ (j : Nat) (s : SL), (ρ.set i .no)[j]? = some s → s = .no ∨ ρ[j]? = some s := fun j s e => by
    by_cases hj : i = j
    · subst hj
      by_cases hi : i < ρ.length
      · rw [List.getElem?_set_self hi] at e; cases e; exact .inl rfl
      · rw [List.getElem?_eq_none (by rw [List.length_set]; omega)] at e; cases e
    · rw [List.getElem?_set_ne hj] at e; exact .inr e
  refine ⟨S.g, fun j s e => ?_, fun j k c e p hjk h1 h2 h3 => ?_, by rw [List.length_set]; exact S.len, S.kd.tr (fun j d2 p h1 h2 => ?_) (fun _ _ _ _ _ => rfl) (fun x o h => ⟨o, h⟩) fun x o h1 h2 h3 => h2⟩
  · rcases key j s e with rfl | q
    · trivial
    · exact S.s j s q
  · rcases key j _ h1 with z | q1
    · cases z
    · rcases key k _ h2 with z | q2
      · cases z
      · exact S.d j k c e p hjk q1 q2 h3
  · rcases key j _ h1 with z | q1
    · cases z
    · exact ⟨d2, q1, h2⟩
/-- behind what changes a window alone -/
theorem StOk.wcall (S : StOk K mg F0 H0 F H σ ρ) {i : Nat} {a : Addr} {p p' : D} {dn un dn' un' : List D} (h : ρ[i]? = some (.own (.win a p dn un))) (g : Grow F (delH H (a :: kids H a)) F' H') (w : WinAt K mg F' H' a p' dn' un')
    (hf : ∀ x, x ∈ a :: kids H' a → F' x = none ∧ delH H (a :: kids H a) x = none) : StOk K mg F0 H0 F' H' σ (ρ.set i (.own (.win a p' dn' un'))) := by
  obtain ⟨a', hp, a0, aF, ha, _⟩ := S.s i _ h
  have ha2 := ha.symm
  subst ha2
  have hi : i < ρ.length := (List.getElem?_eq_some_iff.mp h).1
  have ka := S.kd i _ _ h hp
  -- what stands apart is kept
  have out : ∀ x o, x ∉ a :: kids H a → H x = some o → H' x = some o := fun x o hx e => g.h x o (by rw [delH_out hx]; exact e)
  have F0' : ∀ x o, H x = some o → F x = none → x ∉ a :: kids H a → F' x = none := fun x o hx hF hn => by
    cases q : F' x with
    | none => rfl
    | some u =>
      rcases g.n x u q with z | z
      · rw [hF] at z; cases z
      · rw [delH_out hn, hx] at z; cases z
  -- other owned things stand apart
  have oth : ∀ (j : Nat) (c : D) (q : Addr), j ≠ i → ρ[j]? = some (.own c) → σ[j]? = some (some (.ref q)) → ∀ x, x ∈ q :: kids H q → x ∉ a :: kids H a := fun j c q hj h1 h2 x hx hm => by
    have ne : q ≠ a := fun z => by subst z; exact S.d i j _ c q (Ne.symm hj) h h1 hp h2
    rcases List.mem_cons.mp hx with hxq | hx
    · rw [hxq] at hm
      rcases List.mem_cons.mp hm with z | hm
      · exact ne z
      · exact (ka q hm).2.2.2 j c q h1 h2 |>.1 rfl
    · obtain ⟨_, _, _, e⟩ := S.kd j c q h1 h2 x hx
      rcases List.mem_cons.mp hm with z | hm
      · exact (e i _ a h hp).1 z
      · exact (e i _ a h hp).2 hj hm
  have own' : ∀ (j : Nat) (c : D) (q : Addr), (ρ.set i (.own (.win a p' dn' un')))[j]? = some (.own c) → σ[j]? = some (some (.ref q)) → (i = j ∧ a = q) ∨ (j ≠ i ∧ ρ[j]? = some (.own c)) := fun j c q h1 h2 => by
    by_cases hj : i = j
    · subst hj
      rw [hp] at h2
      cases h2
      exact .inl ⟨rfl, rfl⟩
    · rw [List.getElem?_set_ne hj] at h1
      exact .inr ⟨Ne.symm hj, h1⟩
  have kq : ∀ (j : Nat) (c : D) (q : Addr), j ≠ i → ρ[j]? = some (.own c) → σ[j]? = some (some (.ref q)) → H' q = H q := fun j c q hj h1 h2 => by
    obtain ⟨q', e1, _, _, o⟩ := S.s j _ h1
    rw [h2] at e1; cases e1
    obtain ⟨u, hu, _⟩ := o.there
    rw [hu]
    exact out _ _ (oth j c _ hj h1 h2 _ List.mem_cons_self) hu
  have there' : ∀ x, x ∈ kids H' a → ∃ xs, H' x = some (.lst xs) := fun x hx => by
    obtain ⟨C, dx, pv, dl, ul, xs, ys, w1, w2, w3, w4, w5, _⟩ := w.ex
    rw [kids_ins w2] at hx
    simp only [List.mem_cons, List.not_mem_nil, or_false] at hx
    rcases hx with rfl | rfl
    · exact ⟨_, w3⟩
    · exact ⟨_, w4⟩
  have H0' : ∀ x, delH H (a :: kids H a) x = none → H0 x = none := fun x z => by
    by_cases hm : x ∈ a :: kids H a
    · rcases List.mem_cons.mp hm with rfl | hm
      · exact a0
      · exact (ka x hm).1
    · rw [delH_out hm] at z
      exact S.g.h.none z
  refine ⟨⟨S.g.f.trans g.f, fun x o e => ?_, g.s, fun x o e => ?_⟩, fun j s e => ?_, fun j k c e q hjk h1 h2 h3 => ?_, by rw [List.length_set]; exact S.len, fun j c q h1 h2 x hx => ?_⟩
  · refine out x o (fun hm => ?_) (S.g.h x o e)
    rcases List.mem_cons.mp hm with rfl | hm
    · rw [a0] at e; cases e
    · rw [(ka x hm).1] at e; cases e
  · rcases g.n x o e with z | z
    · exact S.g.n x o z
    · exact .inr (H0' x z)
  · by_cases hj : i = j
    · subst hj
      rw [List.getElem?_set_self hi] at e
      cases e
      exact ⟨a, hp, a0, (hf a List.mem_cons_self).1, rfl, w⟩
    · rw [List.getElem?_set_ne hj] at e
      have := S.s j s e
      cases s with
      | no => trivial
      | dat c => obtain ⟨v, e1, r⟩ := this; exact ⟨v, e1, r.mo g.f⟩
      | own c =>
        obtain ⟨q, e1, q1, q2, q3⟩ := this
        have ho := oth j c q (Ne.symm hj) e e1
        obtain ⟨u, hu, _⟩ := q3.there
        exact ⟨q, e1, q1, F0' q u hu q2 (ho q List.mem_cons_self), q3.keep g.f fun x o hx => out x o (ho x hx)⟩
  · rcases own' j c q h1 h3 with ⟨rfl, rfl⟩ | ⟨hj, h1⟩
    · intro z
      rcases own' k e a h2 z with ⟨rfl, _⟩ | ⟨hk, h2⟩
      · exact hjk rfl
      · exact S.d i k _ e a hjk h h2 hp z
    · intro z
      rcases own' k e q h2 z with ⟨rfl, rfl⟩ | ⟨hk, h2⟩
      · exact S.d j i c _ a hjk h1 h h3 hp
      · exact S.d j k c e q hjk h1 h2 h3 z
  · rcases own' j c q h1 h2 with ⟨rfl, rfl⟩ | ⟨hj, h1⟩
    · obtain ⟨xs, hxs⟩ := there' x hx
      have hz := hf x (List.mem_cons_of_mem _ hx)
      refine ⟨H0' x hz.2, hz.1, ⟨_, hxs⟩, fun k e q2 z1 z2 => ?_⟩
      rcases own' k e q2 z1 z2 with ⟨rfl, rfl⟩ | ⟨hk, z1⟩
      · refine ⟨fun z => ?_, fun z => absurd rfl z⟩
        obtain ⟨C, dx, pv, dl, ul, xs, ys, w1, w2, _⟩ := w.ex
        rw [z, w2] at hxs
        cases hxs
      · have ho := oth k e q2 hk z1 z2
        obtain ⟨q3, e1, _, _, o⟩ := S.s k _ z1
        rw [z2] at e1; cases e1
        obtain ⟨u, hu, _⟩ := o.there
        refine ⟨fun z => ?_, fun _ hm => ?_⟩
        · have := hz.2
          rw [z, delH_out (ho _ List.mem_cons_self), hu] at this
          cases this
        · rw [kids_eq (kq k e _ hk z1 z2)] at hm
          obtain ⟨_, _, ⟨u2, c2⟩, _⟩ := S.kd k e _ z1 z2 x hm
          have := hz.2
          rw [delH_out (ho _ (List.mem_cons_of_mem _ hm)), c2] at this
          cases this
    · rw [kids_eq (kq j c q hj h1 h2)] at hx
      have ho := oth j c q hj h1 h2 x (List.mem_cons_of_mem _ hx)
      obtain ⟨b1, b2, ⟨u, b3⟩, b4⟩ := S.kd j c q h1 h2 x hx
      refine ⟨b1, F0' x u b3 b2 ho, ⟨u, out x u ho b3⟩, fun k e q2 z1 z2 => ?_⟩
      rcases own' k e q2 z1 z2 with ⟨rfl, rfl⟩ | ⟨hk, z1⟩
      · refine ⟨(b4 i _ a h hp).1, fun _ hm => ?_⟩
        have := (hf x (List.mem_cons_of_mem _ hm)).2
        rw [delH_out ho, b3] at this
        cases this
      · rw [kids_eq (kq k e q2 hk z1 z2)]
        exact b4 k e q2 z1 z2
end
end Dl
/-! Dl7: statements. -/
namespace Dl
open PySem L2

section
variable (K : PySem.W.Frag) (mg : Str → Option Value) (W : WX)
def PostS (F0 H0 F : Hp) (fl : Fl) (D : Ends) : Prop :=
  match fl with
  | .nx ρ => ∀ σ F' H', StOk K mg F0 H0 F' H' σ ρ → Ex F F' → D.nx σ H'
  | .bk ρ => ∀ σ F' H', StOk K mg F0 H0 F' H' σ ρ → Ex F F' → D.bk σ H'
  | .ct ρ => ∀ σ F' H', StOk K mg F0 H0 F' H' σ ρ → Ex F F' → D.ct σ H'
  | .rt d => ∀ v F' H', Grow F0 H0 F' H' → Rep K mg F' v d → D.rt v H'
  | .rs d ρ => ∀ v σ F' H', StOk K mg F0 H0 F' H' σ ρ → Ex F F' → Rep K mg F' v d → D.rt v H'
  | .ex c ρ => ∀ C σ F' H', StOk K mg F0 H0 F' H' σ ρ → Ex F F' → mg c = some (.ref C) → W (.ref C) none σ H'
def tP (s : Ss) : TS := fun D σ H => ∃ F0 H0 ρ F fl, StOk K mg F0 H0 F H σ ρ ∧ s ρ = some fl ∧ PostS K mg W F0 H0 F fl D
end

def stp {α : Type} (ms : List Nat) (e : Rho → Oe α) (ρ : Sig) (k : α → Option Fl) : Option Fl :=
  match e (expo ms ρ) with
  | some (.ok a) => k a
  | some (.error c) => some (.ex c ρ)
  | none => none
def sSeq (a b : Ss) : Ss := fun ρ => match a ρ with
  | some (.nx ρ') => b ρ'
  | o => o
def sNext : Ss := fun ρ => some (.nx ρ)
def sBreak : Ss := fun ρ => some (.bk ρ)
def sCont : Ss := fun ρ => some (.ct ρ)
def killS : List Nat → Sig → Sig
  | [], ρ => ρ
  | i :: is, ρ => killS is (ρ.set i .no)
/-- slots that are not read any more are forgotten -/
def sAft (is : List Nat) (s : Ss) : Ss := fun ρ => match s ρ with
  | some (.nx ρ') => some (.nx (killS is ρ'))
  | some (.ct ρ') => some (.ct (killS is ρ'))
  | some (.bk ρ') => some (.bk (killS is ρ'))
  | o => o
def sSet (ms : List Nat) (i : Nat) (e : Sx) : Ss := fun ρ => stp ms e ρ fun d => some (.nx ((if lf d then ρ else frz ms ρ).set i (.dat d)))
def sSetL (ms : List Nat) (i : Nat) (e : Sl) : Ss := fun ρ => stp ms e ρ fun ds => some (.nx ((if lfAll ds then ρ else frz ms ρ).set i (.own (.lst ds))))
def sRet (ms : List Nat) (e : Sx) : Ss := fun ρ => stp ms e ρ fun d => some (.rt d)
def sRetN : Ss := fun _ => some (.rt .non)
def sDrop (ms : List Nat) (e : Sx) : Ss := fun ρ => stp ms e ρ fun _ => some (.nx ρ)
def sIf (ms : List Nat) (c : Sb) (a b : Ss) : Ss := fun ρ => stp ms c ρ fun t => if t then a ρ else b ρ
def sRaise (c : Str) : Ss := fun ρ => some (.ex c ρ)
def setD : Sig → List Nat → List D → Sig
  | ρ, i :: is, d :: ds => setD (ρ.set i (.dat d)) is ds
  | ρ, _, _ => ρ
def setV : St → List Nat → List V → St
  | σ, i :: is, v :: vs => setV (σ.set i (some v)) is vs
  | σ, _, _ => σ
def sUnp (ms : List Nat) (is : List Nat) (e : Sx) : Ss := fun ρ => stp ms e ρ fun d =>
  match d with
  | .tup ds => if ds.length = is.length then some (.nx (setD (if lf d then ρ else frz ms ρ) is ds)) else none
  | _ => none
def sApp (ms : List Nat) (i : Nat) (e : Sx) : Ss := fun ρ =>
  match ρ[i]? with
  | some (.own (.lst ds)) => stp ms e ρ fun d => if okLen (ds.length + 1) && (lf d || !ms.contains i) then some (.nx ((if lf d then ρ else frz ms ρ).set i (.own (.lst (ds ++ [d]))))) else none
  | _ => none
def sExt (ms : List Nat) (i : Nat) (e : Sx) : Ss := fun ρ =>
  match ρ[i]? with
  | some (.own (.lst ds)) => stp ms e ρ fun d =>
    match d with
    | .lst es => if okLen (ds.length + es.length) && (lfAll es || !ms.contains i) then some (.nx ((if lfAll es then ρ else frz ms ρ).set i (.own (.lst (ds ++ es))))) else none
    | _ => none
  | _ => none
/-- own j, own i: x_i.append(x_j.pop(e)) -/
def sAppPop (ms : List Nat) (i j : Nat) (e : Sx) : Ss := fun ρ =>
  match ρ[i]?, ρ[j]? with
  | some (.own (.lst ds)), some (.own (.lst es)) => if i = j then none else stp ms e ρ fun d =>
    match d with
    | .int n => if decide (0 ≤ n) && okLen (ds.length + 1) && okLen es.length then
        match es[n.toNat]? with
        | some c => some (.nx ((ρ.set j (.own (.lst (es.eraseIdx n.toNat)))).set i (.own (.lst (ds ++ [c])))))
        | none => none
      else none
    | _ => none
  | _, _ => none
abbrev Tgt := D → Sig → Option Sig
def tgN (i : Nat) : Tgt := fun d ρ => some (ρ.set i (.dat d))
def tgT (is : List Nat) : Tgt := fun d ρ =>
  match d with
  | .tup ds => if ds.length = is.length then some (setD ρ is ds) else none
  | _ => none
def forS (t : Tgt) (body : Ss) : List D → Ss
  | [], ρ => some (.nx ρ)
  | d :: ds, ρ =>
    match t d ρ with
    | none => none
    | some ρ1 => match body ρ1 with
      | some (.nx ρ2) => forS t body ds ρ2
      | some (.ct ρ2) => forS t body ds ρ2
      | some (.bk ρ2) => some (.nx ρ2)
      | o => o
def sFor (ms : List Nat) (it : Sl) (t : Tgt) (body : Ss) : Ss := fun ρ =>
  match it (expo ms ρ) with
  | some (.ok ds) => forS t body ds (frz ms ρ)
  | some (.error c) => some (.ex c ρ)
  | none => none
def whileS (ms : List Nat) (c : Sb) (body : Ss) : Nat → Ss
  | 0, _ => none
  | n + 1, ρ => stp ms c ρ fun b => if b then (match body ρ with
      | some (.nx ρ2) => whileS ms c body n ρ2
      | some (.ct ρ2) => whileS ms c body n ρ2
      | some (.bk ρ2) => some (.nx ρ2)
      | o => o) else some (.nx ρ)

section
variable {K : PySem.W.Frag} {mg : Str → Option Value} {W : WX} {F0 H0 F H F' H' : Hp} {σ : St} {ρ : Sig} {Dn : Ends}
theorem PostS.mo {fl : Fl} (h : PostS K mg W F0 H0 F fl Dn) (e : Ex F F') : PostS K mg W F0 H0 F' fl Dn := by
  cases fl with
  | nx ρ => exact fun σ F2 H2 s x => h σ F2 H2 s (e.trans x)
  | bk ρ => exact fun σ F2 H2 s x => h σ F2 H2 s (e.trans x)
  | ct ρ => exact fun σ F2 H2 s x => h σ F2 H2 s (e.trans x)
  | rt d => exact h
  | rs d ρ => exact fun v σ F2 H2 s x => h v σ F2 H2 s (e.trans x)
  | ex c ρ => exact fun C σ F2 H2 s x => h C σ F2 H2 s (e.trans x)
/-- an expression at the state -/
theorem stK {α β : Type} {k : Kd β α} {s : Rho → Oe α} {ms : List Nat} {g : α → Option Fl} {fl : Fl} {Q : β → Hp → Prop} (S : StOk K mg F0 H0 F H σ ρ) (e : stp ms s ρ g = some fl) (post : PostS K mg W F0 H0 F fl Dn)
    (h : ∀ a b F2 H1, g a = some fl → Grow (addH F H (ownAddrs ms ρ σ)) H F2 H1 → k.rep H F2 H1 b a → Q b H1) : tK K mg W k s σ H Q := by
  unfold stp at e
  split at e
  · rename_i a ea
    exact ⟨_, _, _, S.view ms, ea, fun b F2 H1 gr r => h a b F2 H1 e gr r⟩
  · rename_i c ea
    cases e
    refine ⟨_, _, _, S.view ms, ea, fun C F2 H1 gr hc => ?_⟩
    obtain ⟨S', e', _⟩ := S.seen gr
    exact post C σ _ H1 S' e' hc
  · cases e
theorem Rep.seen {ms : List Nat} {v : V} {d : D} (S : StOk K mg F0 H0 F H σ ρ) (gr : Grow (addH F H (ownAddrs ms ρ σ)) H F' H') (r : Rep K mg F' v d) :
    ∃ F2, StOk K mg F0 H0 F2 H' σ (if Dl.lf d = true then ρ else frz ms ρ) ∧ Ex F F2 ∧ Rep K mg F2 v d := by
  by_cases hl : Dl.lf d = true
  · obtain ⟨S', e', t⟩ := S.seen gr
    rw [if_pos hl]
    exact ⟨_, S', e', Rep.lf t d v hl r⟩
  · rw [if_neg hl]
    exact ⟨_, S.frozen gr, (S.exAdd ms).trans gr.f, r⟩
theorem RepAll.seen {ms : List Nat} {v : List V} {d : List D} (S : StOk K mg F0 H0 F H σ ρ) (gr : Grow (addH F H (ownAddrs ms ρ σ)) H F' H') (r : RepAll K mg F' v d) :
    ∃ F2, StOk K mg F0 H0 F2 H' σ (if Dl.lfAll d = true then ρ else frz ms ρ) ∧ Ex F F2 ∧ RepAll K mg F2 v d ∧ (∀ p, F' p = none → F2 p = none) := by
  by_cases hl : Dl.lfAll d = true
  · obtain ⟨S', e', t⟩ := S.seen gr
    rw [if_pos hl]
    refine ⟨_, S', e', RepAll.lf t d v hl r, fun p h => ?_⟩
    by_cases q : p ∈ ownAddrs ms ρ σ
    · exact delH_in q
    · rw [delH_out q]; exact h
  · rw [if_neg hl]
    exact ⟨_, S.frozen gr, (S.exAdd ms).trans gr.f, r, fun _ h => h⟩
theorem StOk.grow (S : StOk K mg F0 H0 F H σ ρ) (g : Grow F H F' H') : StOk K mg F0 H0 F' H' σ ρ := by
  refine ⟨S.g.trans g, fun i s e => ?_, S.d, S.len, S.kd.tr (fun i d p h1 h2 => ⟨d, h1, h2⟩) (S.hp g.h) (fun x o h => ⟨o, g.h _ _ h⟩) fun x o h1 h2 h3 => by
    cases q : F' x with
    | none => rfl
    | some u =>
      rcases g.n x u q with z | z
      · rw [h2] at z; cases z
      · rw [h1] at z; cases z⟩
  have := S.s i s e
  cases s with
  | no => trivial
  | dat c => obtain ⟨v, e1, r⟩ := this; exact ⟨v, e1, r.mo g.f⟩
  | own c =>
    obtain ⟨p, e1, a, b, o⟩ := this
    refine ⟨p, e1, a, ?_, o.mo g.f g.h⟩
    cases q : F' p with
    | none => rfl
    | some u =>
      rcases g.n p u q with z | z
      · rw [b] at z; cases z
      · obtain ⟨w, hw, _⟩ := o.there
        rw [hw] at z; cases z
theorem StOk.sets : ∀ (is : List Nat) {σ : St} {ρ : Sig} {vs : List V} {ds : List D}, StOk K mg F0 H0 F H σ ρ → RepAll K mg F vs ds → StOk K mg F0 H0 F H (setV σ is vs) (setD ρ is ds)
  | [], _, _, _, _, S, _ => by simpa only [setV, setD] using S
  | i :: is, σ, ρ, vs, ds, S, r => by
    cases r with
    | nil => simpa only [setV, setD] using S
    | cons r1 r2 => exact StOk.sets is (S.set r1) r2
theorem StOk.kill : ∀ (is : List Nat) {ρ : Sig}, StOk K mg F0 H0 F H σ ρ → StOk K mg F0 H0 F H σ (killS is ρ)
  | [], _, S => S
  | i :: is, _, S => StOk.kill is (S.drop i)
end

/-! ### the rules -/
section
variable {X : Cx} {W : WX} {pos : Pos} {e : Expr} {st : Stmt} {rest : List Stmt} {se : Sx} {sl : Sl} {a b : Ss}
theorem ss_nil : PSs X [] (tP X.K X.mg W sNext) := pss_imp pss_nil fun D σ H ⟨F0, H0, ρ, F, fl, S, e, post⟩ => by
  cases e
  exact post σ F H S (.refl F)
theorem seq_reads {D : Ends} {σ : St} {H : Hp} (h : tP X.K X.mg W (sSeq a b) D σ H) : tSeq (tP X.K X.mg W a) (tP X.K X.mg W b) D σ H := by
  obtain ⟨F0, H0, ρ, F, fl, S, e, post⟩ := h
  unfold sSeq at e
  show tP X.K X.mg W a { D with nx := tP X.K X.mg W b D } σ H
  split at e
  · rename_i ρ' ea
    exact ⟨F0, H0, ρ, F, _, S, ea, fun σ1 F1 H1 S1 e1 => ⟨F0, H0, ρ', F1, fl, S1, e, post.mo e1⟩⟩
  · rename_i o hn
    cases fl with
    | nx ρ' => exact absurd e (hn ρ')
    | _ => exact ⟨F0, H0, ρ, F, _, S, e, post⟩
theorem ss_cons (h1 : PS X st (tP X.K X.mg W a)) (h2 : PSs X rest (tP X.K X.mg W b)) : PSs X (st :: rest) (tP X.K X.mg W (sSeq a b)) := pss_imp (pss_cons h1 h2) fun _ _ _ h => seq_reads h
theorem ss_one (h1 : PS X st (tP X.K X.mg W a)) : PSs X [st] (tP X.K X.mg W a) := pss_one h1
theorem aft_reads {is : List Nat} {D : Ends} {σ : St} {H : Hp} (h : tP X.K X.mg W (sAft is a) D σ H) : tP X.K X.mg W a D σ H := by
  obtain ⟨F0, H0, ρ, F, fl, S, e, post⟩ := h
  unfold sAft at e
  split at e
  · rename_i ρ' ea; cases e; exact ⟨F0, H0, ρ, F, .nx ρ', S, ea, fun σ1 F1 H1 S1 e1 => post σ1 F1 H1 (S1.kill is) e1⟩
  · rename_i ρ' ea; cases e; exact ⟨F0, H0, ρ, F, .ct ρ', S, ea, fun σ1 F1 H1 S1 e1 => post σ1 F1 H1 (S1.kill is) e1⟩
  · rename_i ρ' ea; cases e; exact ⟨F0, H0, ρ, F, .bk ρ', S, ea, fun σ1 F1 H1 S1 e1 => post σ1 F1 H1 (S1.kill is) e1⟩
  · exact ⟨F0, H0, ρ, F, _, S, e, post⟩
theorem ss_aft (is : List Nat) (h : PSs X rest (tP X.K X.mg W a)) : PSs X rest (tP X.K X.mg W (sAft is a)) := pss_imp h fun _ _ _ h => aft_reads h
theorem s_aft (is : List Nat) (h : PS X st (tP X.K X.mg W a)) : PS X st (tP X.K X.mg W (sAft is a)) := ps_imp h fun _ _ _ h => aft_reads h
theorem s_pass : PS X (.Pass pos) (tP X.K X.mg W sNext) := ps_imp ps_pass fun D σ H ⟨F0, H0, ρ, F, fl, S, e, post⟩ => by cases e; exact post σ F H S (.refl F)
theorem s_break : PS X (.Break pos) (tP X.K X.mg W sBreak) := ps_imp ps_break fun D σ H ⟨F0, H0, ρ, F, fl, S, e, post⟩ => by cases e; exact post σ F H S (.refl F)
theorem s_cont : PS X (.Continue pos) (tP X.K X.mg W sCont) := ps_imp ps_continue fun D σ H ⟨F0, H0, ρ, F, fl, S, e, post⟩ => by cases e; exact post σ F H S (.refl F)
theorem s_retN : PS X (.Return none pos) (tP X.K X.mg W sRetN) := ps_imp ps_retN fun D σ H ⟨F0, H0, ρ, F, fl, S, e, post⟩ => by cases e; exact post .non F H S.g .non
theorem s_ret (ms : List Nat) (he : PE X e (tS X.K X.mg W se)) : PS X (.Return (some e) pos) (tP X.K X.mg W (sRet ms se)) := by
  refine ps_imp (ps_ret he) fun D σ H ⟨F0, H0, ρ, F, fl, S, e, post⟩ => ?_
  refine stK S e post fun d v F2 H1 e gr r => ?_
  cases e
  exact post v F2 H1 (S.frozen gr).g r
theorem s_drop (ms : List Nat) (he : PE X e (tS X.K X.mg W se)) (hs : swapsWith e none pos.line X.env = pure false := by rfl) : PS X (.Expr e pos) (tP X.K X.mg W (sDrop ms se)) := by
  refine ps_imp (ps_expr he hs) fun D σ H ⟨F0, H0, ρ, F, fl, S, e, post⟩ => ?_
  refine stK S e post fun d v F2 H1 e gr r => ?_
  cases e
  obtain ⟨S', e', _⟩ := S.seen gr
  exact post σ _ H1 S' e'
theorem s_if {c : Expr} {p q : List Stmt} {sc : Sb} (ms : List Nat) (hc : PT X c (tT X.K X.mg W sc)) (ha : PSs X p (tP X.K X.mg W a)) (hb : PSs X q (tP X.K X.mg W b)) : PS X (.If c p q pos) (tP X.K X.mg W (sIf ms sc a b)) := by
  refine ps_imp (ps_if hc ha hb) fun D σ H ⟨F0, H0, ρ, F, fl, S, e, post⟩ => ?_
  refine stK S e post fun t t' F2 H1 e gr r => ?_
  have r' : t' = t := r
  subst r'
  obtain ⟨S', e', _⟩ := S.seen gr
  cases t' with
  | true => exact ⟨F0, H0, ρ, _, fl, S', e, post.mo e'⟩
  | false => exact ⟨F0, H0, ρ, _, fl, S', e, post.mo e'⟩
/-- name = e, from what is under it -/
theorem asg_reads {i : Nat} {ms : List Nat} {D : Ends} {σ : St} {H : Hp} (h : tP X.K X.mg W (sSet ms i se) D σ H) : tAsg (tS X.K X.mg W se) (gName i) D σ H := by
  obtain ⟨F0, H0, ρ, F, fl, S, e, post⟩ := h
  refine stK S e post fun d v F2 H1 e gr r => ?_
  cases e
  obtain ⟨F3, S3, e3, r3⟩ := Rep.seen S gr r
  exact post _ F3 H1 (S3.set r3) e3
theorem asgL_reads {i : Nat} {ms : List Nat} {D : Ends} {σ : St} {H : Hp} (h : tP X.K X.mg W (sSetL ms i sl) D σ H) : tAsg (tL X.K X.mg W sl) (gName i) D σ H := by
  obtain ⟨F0, H0, ρ, F, fl, S, e, post⟩ := h
  refine stK S e post fun ds v F2 H1 e gr r => ?_
  cases e
  obtain ⟨p, xs, rfl, hp, hF, hH, rs⟩ := r
  obtain ⟨F3, S3, e3, r3, n3⟩ := RepAll.seen S gr rs
  have old : ∀ (j : Nat) (d : Dl.D), (if lfAll ds = true then ρ else frz ms ρ)[j]? = some (.own d) → ∃ c, ρ[j]? = some (.own c) := fun j d hj => by
    split at hj
    · exact ⟨d, hj⟩
    · unfold frz at hj
      rw [frzF_get] at hj
      obtain ⟨t, ht, q⟩ := Option.map_eq_some_iff.mp hj
      cases t with
      | own c => exact ⟨c, ht⟩
      | dat c => cases q
      | no => cases q
  refine post _ F3 H1 (S3.setOwn (S.g.h.none hp) (n3 p hF) ⟨xs, hH, r3⟩ (fun j d _ hj z => ?_) fun j d q _ hj z => ?_) e3
  · obtain ⟨c, hc⟩ := old j d hj
    exact (S.fresh hp hc z).1 rfl
  · obtain ⟨c, hc⟩ := old j d hj
    exact (S.fresh hp hc z).2 H1 gr.h
theorem s_setR {i : Nat} (ms : List Nat) (h : PS X st (tAsg (tS X.K X.mg W se) (gName i))) : PS X st (tP X.K X.mg W (sSet ms i se)) := ps_imp h fun _ _ _ h => asg_reads h
theorem s_setLR {i : Nat} (ms : List Nat) (h : PS X st (tAsg (tL X.K X.mg W sl) (gName i))) : PS X st (tP X.K X.mg W (sSetL ms i sl)) := ps_imp h fun _ _ _ h => asgL_reads h
theorem s_set {i : Nat} {x : Str} {pos' : Pos} (ms : List Nat) (hN : X.N.Nodup) (he : PE X e (tS X.K X.mg W se)) (hi : X.N[i]? = some x := by rfl) (hx : Loc X.env.scope x := by first | exact Or.inl rfl | exact Or.inr rfl) (hs : swapsWith e (some (.Name x pos')) pos.line X.env = pure false := by rfl)
    (hf : X.fn x = true ∨ X.env.scope.names.lookup x = some .local := by first | exact .inl rfl | exact .inr rfl | assumption) : PS X (.Assign [.Name x pos'] e pos) (tP X.K X.mg W (sSet ms i se)) := s_setR ms (ps_set hN hi hx he hs hf)
theorem s_setL {i : Nat} {x : Str} {pos' : Pos} (ms : List Nat) (hN : X.N.Nodup) (he : PE X e (tL X.K X.mg W sl)) (hi : X.N[i]? = some x := by rfl) (hx : Loc X.env.scope x := by first | exact Or.inl rfl | exact Or.inr rfl) (hs : swapsWith e (some (.Name x pos')) pos.line X.env = pure false := by rfl)
    (hf : X.fn x = true ∨ X.env.scope.names.lookup x = some .local := by first | exact .inl rfl | exact .inr rfl | assumption) : PS X (.Assign [.Name x pos'] e pos) (tP X.K X.mg W (sSetL ms i sl)) := s_setLR ms (ps_set hN hi hx he hs hf)
/-- names in a row -/
def gNs : List Nat → TGs
  | [] => gNil
  | i :: is => gCons (gName i) (gNs is)
theorem gNs_reads : ∀ (is : List Nat) {vs : List V} {σ : St} {H : Hp} {Q : St → Hp → Prop}, vs.length = is.length → Q (setV σ is vs) H → gNs is vs σ H Q
  | [], vs, σ, H, Q, hl, q => by
    have : vs = [] := List.eq_nil_of_length_eq_zero hl
    subst this
    exact ⟨rfl, q⟩
  | i :: is, vs, σ, H, Q, hl, q => by
    cases vs with
    | nil => cases hl
    | cons v vs => exact ⟨v, vs, rfl, gNs_reads is (by simpa using hl) q⟩
theorem g_nil : PGs X [] (gNs []) := pgs_nil
theorem g_cons {i : Nat} {is : List Nat} {x : Str} {es : List Expr} (hN : X.N.Nodup) (h : PGs X es (gNs is)) (hi : X.N[i]? = some x := by rfl) (hx : Loc X.env.scope x := by first | exact Or.inl rfl | exact Or.inr rfl)
    (hf : X.fn x = true ∨ X.env.scope.names.lookup x = some .local := by first | exact .inl rfl | exact .inr rfl | assumption)
    (hs : (assignEach (.Name x pos :: es) X.env).map (·.2) = assign (.Name x pos) X.env :: (assignEach es X.env).map (·.2) := by rfl) : PGs X (.Name x pos :: es) (gNs (i :: is)) := pgs_cons (pg_name hN hi hx hf) h hs
theorem s_unp {is : List Nat} {es : List Expr} {kk : Nat} {tpos : Pos} (ms : List Nat) (hc : X.calm = true) (hg : PGs X es (gNs is)) (he : PE X e (tS X.K X.mg W se)) (hn : (assignEach es X.env).length = is.length := by rfl) (hst : (assignEach es X.env).findIdx? (·.1) = none := by rfl)
    (hs : swapsWithSole [.Tuple es kk tpos] e pos.line X.env = pure false := by rfl) (hw : swappedStores [.Tuple es kk tpos] e X.env = pure none := by rfl) (h1 : (assignEach [.Tuple es kk tpos] X.env).map (·.2) = [assign (.Tuple es kk tpos) X.env] := by rfl) :
    PS X (.Assign [.Tuple es kk tpos] e pos) (tP X.K X.mg W (sUnp ms is se)) := by
  refine ps_imp (ps_asg he (pg_tup hc hg hn hst) hs hw h1) fun D σ H ⟨F0, H0, ρ, F, fl, S, e, post⟩ => ?_
  refine stK S e post fun d v F2 H1 e gr r => ?_
  split at e
  · rename_i ds
    split at e
    · rename_i hl
      cases e
      obtain ⟨F3, S3, e3, r3⟩ := Rep.seen S gr r
      cases r3 with
      | tup h1 rs =>
        refine ⟨_, _, rfl, S3.g.s.sqT h1, by rw [rs.length]; exact hl, gNs_reads is (by rw [rs.length]; exact hl) ?_⟩
        exact post _ F3 H1 (StOk.sets is S3 rs) e3
    · cases e
  · cases e
/-- raise X('..') -/
theorem s_raise {x m : Str} {C : Addr} {bmB : List Value} {B newId initId : String} {j : Nat} {p p2 pos2 : Pos} (hc : X.calm = true) (tk : Takes X W) (Fc : ExcBaseFacts B newId initId bmB) (q : PySem.W.excIn X.K C bmB newId = true) (gC : X.mg x = some (.ref C)) (kC : PySem.W.keepIn X.K (.ref C) = true) (r : Raises X (.ref C))
    (hg : Gl X x := by rfl) (hdb : (x == ("__debug__" : Str)) = false := by decide) : PS X (.Raise (some (.Call (.Name x p) [.Constant (.str m) j p2] [] pos)) none pos2) (tP X.K X.mg W (sRaise x)) := by
  refine ps_imp (ps_raise hc tk (pmk_own Fc q gC kC r hg hdb)) fun D σ H ⟨F0, H0, ρ, F, fl, S, e, post⟩ => ?_
  cases e
  exact post C σ F H S (.refl F) gC
end
end Dl
/-! Dl8: methods of owned lists, loops, comprehensions. -/
namespace Dl
open PySem L2

section
variable {X : Cx} {W : WX} {pos apos p1 : Pos} {e : Expr} {se : Sx} {i j : Nat} {x y : Str}
theorem frz_own {ms : List Nat} {ρ : Sig} {i : Nat} {d : D} (h : ρ[i]? = some (.own d)) (hm : ms.contains i = false) : (frz ms ρ)[i]? = some (.own d) := by
  unfold frz
  rw [frzF_get, h]
  show some (if ms.contains (0 + i) = true then SL.dat d else SL.own d) = _
  rw [Nat.zero_add, hm, if_neg Bool.false_ne_true]
theorem slot_after {b : Bool} {ms : List Nat} {ρ : Sig} {i : Nat} {d : D} (h : ρ[i]? = some (.own d)) (hm : (b || !ms.contains i) = true) : (if b = true then ρ else frz ms ρ)[i]? = some (.own d) := by
  cases b with
  | true => exact h
  | false => exact frz_own h (by simpa using hm)
/-- x.append(e) -/
theorem s_app (ms : List Nat) (he : PE X e (tS X.K X.mg W se)) (hN : X.N[i]? = some x := by rfl) (hv : Vis X.env.scope x := by first | exact Or.inl rfl | exact Or.inr (Or.inl rfl) | exact Or.inr (Or.inr rfl)) (hd : (x == ("__debug__" : Str)) = false := by decide)
    (hcd : (x == ("__classdict__" : Str)) = false := by decide) (h1 : attributeBase (.Name x p1) "append" X.env (eval (.Name x p1) X.env) = eval (.Name x p1) X.env := by rfl)
    (h2 : ((backTo pos (starEach [e] X.env)).all (fun x => !x.1) && (backToKw pos (keywordEach [] X.env)).all (fun x => x.1.isSome) && decide ([e].length + ([] : List Keyword).length + (if ([] : List Keyword).isEmpty then 0 else 1) < 30)) = true := by rfl)
    (h3 : (apos.endLine == pos.line) = true := by rfl) (h4 : starEach [e] X.env = (false, eval e X.env) :: starEach [] X.env := by rfl) (h5 : (backTo pos (starEach [] X.env)).any (·.1) = false := by rfl) {spos : Pos}
    (hs : swapsWith (.Call (.Attribute (.Name x p1) "append" apos) [e] [] pos) none spos.line X.env = pure false := by rfl) :
    PS X (.Expr (.Call (.Attribute (.Name x p1) "append" apos) [e] [] pos) spos) (tP X.K X.mg W (sApp ms i se)) := by
  refine ps_imp (ps_expr (pe_bm PySem.F.plainAttrs_list PySem.F.slot_list_append PySem.F.type_list_append mt_append (pe_var (i := i) hN hv hd hcd) (pa_cons he pa_nil h4) h1 h2 h3 h4 h5) hs) fun D σ H ⟨F0, H0, ρ, F, fl, S, e, post⟩ => ?_
  unfold sApp at e
  split at e
  · rename_i ds hρ
    obtain ⟨p, hp, _, _, xs, hx, rx⟩ := S.s i _ hρ
    refine ⟨.ref p, hp, .inl ⟨rfl, xs, .inl (.inl hx)⟩, ?_⟩
    refine stK S e post fun d v F2 H1 e gr r => ?_
    split at e
    · rename_i c
      rw [Bool.and_eq_true] at c
      cases e
      obtain ⟨F3, S3, e3, r3⟩ := Rep.seen S gr r
      have hx1 : H1 p = some (.lst xs) := gr.h _ _ hx
      refine ⟨p, xs, v, rfl, rfl, hx1, Nat.lt_of_lt_of_le (Nat.lt_succ_self _) (by rw [rx.length]; exact okLen_line c.1), ?_⟩
      exact post σ F3 _ (S3.write (slot_after hρ c.2) hp ⟨xs ++ [v], upd_same, (rx.mo e3).append (.cons r3 .nil)⟩) e3
    · cases e
  · cases e
/-- x.extend(e) -/
theorem s_ext (ms : List Nat) (he : PE X e (tS X.K X.mg W se)) (hN : X.N[i]? = some x := by rfl) (hv : Vis X.env.scope x := by first | exact Or.inl rfl | exact Or.inr (Or.inl rfl) | exact Or.inr (Or.inr rfl)) (hd : (x == ("__debug__" : Str)) = false := by decide)
    (hcd : (x == ("__classdict__" : Str)) = false := by decide) (h1 : attributeBase (.Name x p1) "extend" X.env (eval (.Name x p1) X.env) = eval (.Name x p1) X.env := by rfl)
    (h2 : ((backTo pos (starEach [e] X.env)).all (fun x => !x.1) && (backToKw pos (keywordEach [] X.env)).all (fun x => x.1.isSome) && decide ([e].length + ([] : List Keyword).length + (if ([] : List Keyword).isEmpty then 0 else 1) < 30)) = true := by rfl)
    (h3 : (apos.endLine == pos.line) = true := by rfl) (h4 : starEach [e] X.env = (false, eval e X.env) :: starEach [] X.env := by rfl) (h5 : (backTo pos (starEach [] X.env)).any (·.1) = false := by rfl) {spos : Pos}
    (hs : swapsWith (.Call (.Attribute (.Name x p1) "extend" apos) [e] [] pos) none spos.line X.env = pure false := by rfl) :
    PS X (.Expr (.Call (.Attribute (.Name x p1) "extend" apos) [e] [] pos) spos) (tP X.K X.mg W (sExt ms i se)) := by
  refine ps_imp (ps_expr (pe_bm PySem.F.plainAttrs_list PySem.F.slot_list_extend PySem.F.type_list_extend mt_extend (pe_var (i := i) hN hv hd hcd) (pa_cons he pa_nil h4) h1 h2 h3 h4 h5) hs) fun D σ H ⟨F0, H0, ρ, F, fl, S, e, post⟩ => ?_
  unfold sExt at e
  split at e
  · rename_i ds hρ
    obtain ⟨p, hp, _, _, xs, hx, rx⟩ := S.s i _ hρ
    refine ⟨.ref p, hp, .inl ⟨rfl, xs, .inl (.inl hx)⟩, ?_⟩
    refine stK S e post fun d v F2 H1 e gr r => ?_
    split at e
    · rename_i es
      split at e
      · rename_i c
        rw [Bool.and_eq_true] at c
        cases e
        cases r with
        | lst hb rb =>
          obtain ⟨F3, S3, e3, r3, _⟩ := RepAll.seen S gr rb
          have hx1 : H1 p = some (.lst xs) := gr.h _ _ hx
          refine ⟨p, _, xs, _, rfl, rfl, hx1, gr.s _ _ hb, by rw [rx.length, rb.length]; exact okLen_line c.1, ?_⟩
          exact post σ F3 _ (S3.write (slot_after hρ c.2) hp ⟨_, upd_same, (rx.mo e3).append r3⟩) e3
      · cases e
    · cases e
  · cases e
/-- x.append(y.pop(e)) -/
theorem s_appPop {q1 : Pos} {aq cq : Pos} (ms : List Nat) (he : PE X e (tS X.K X.mg W se)) (hN : X.N[i]? = some x := by rfl) (hv : Vis X.env.scope x := by first | exact Or.inl rfl | exact Or.inr (Or.inl rfl) | exact Or.inr (Or.inr rfl)) (hd : (x == ("__debug__" : Str)) = false := by decide)
    (hcd : (x == ("__classdict__" : Str)) = false := by decide) (hN' : X.N[j]? = some y := by rfl) (hv' : Vis X.env.scope y := by first | exact Or.inl rfl | exact Or.inr (Or.inl rfl) | exact Or.inr (Or.inr rfl)) (hd' : (y == ("__debug__" : Str)) = false := by decide)
    (hcd' : (y == ("__classdict__" : Str)) = false := by decide) (h1 : attributeBase (.Name x p1) "append" X.env (eval (.Name x p1) X.env) = eval (.Name x p1) X.env := by rfl)
    (h2 : ((backTo pos (starEach [.Call (.Attribute (.Name y q1) "pop" aq) [e] [] cq] X.env)).all (fun x => !x.1) && (backToKw pos (keywordEach [] X.env)).all (fun x => x.1.isSome) && decide ([Expr.Call (.Attribute (.Name y q1) "pop" aq) [e] [] cq].length + ([] : List Keyword).length + (if ([] : List Keyword).isEmpty then 0 else 1) < 30)) = true := by rfl)
    (h3 : (apos.endLine == pos.line) = true := by rfl) (h4 : starEach [.Call (.Attribute (.Name y q1) "pop" aq) [e] [] cq] X.env = (false, eval (.Call (.Attribute (.Name y q1) "pop" aq) [e] [] cq) X.env) :: starEach [] X.env := by rfl) (h5 : (backTo pos (starEach [] X.env)).any (·.1) = false := by rfl)
    (k1 : attributeBase (.Name y q1) "pop" X.env (eval (.Name y q1) X.env) = eval (.Name y q1) X.env := by rfl)
    (k2 : ((backTo cq (starEach [e] X.env)).all (fun x => !x.1) && (backToKw cq (keywordEach [] X.env)).all (fun x => x.1.isSome) && decide ([e].length + ([] : List Keyword).length + (if ([] : List Keyword).isEmpty then 0 else 1) < 30)) = true := by rfl)
    (k3 : (aq.endLine == cq.line) = true := by rfl) (k4 : starEach [e] X.env = (false, eval e X.env) :: starEach [] X.env := by rfl) (k5 : (backTo cq (starEach [] X.env)).any (·.1) = false := by rfl) {spos : Pos}
    (hs : swapsWith (.Call (.Attribute (.Name x p1) "append" apos) [.Call (.Attribute (.Name y q1) "pop" aq) [e] [] cq] [] pos) none spos.line X.env = pure false := by rfl) :
    PS X (.Expr (.Call (.Attribute (.Name x p1) "append" apos) [.Call (.Attribute (.Name y q1) "pop" aq) [e] [] cq] [] pos) spos) (tP X.K X.mg W (sAppPop ms i j se)) := by
  refine ps_imp (ps_expr (pe_bm PySem.F.plainAttrs_list PySem.F.slot_list_append PySem.F.type_list_append mt_append (pe_var (i := i) hN hv hd hcd)
    (pa_cons (pe_bm PySem.F.plainAttrs_list PySem.F.slot_list_pop PySem.F.type_list_pop mt_popAt (pe_var (i := j) hN' hv' hd' hcd') (pa_cons he pa_nil k4) k1 k2 k3 k4 k5) pa_nil h4) h1 h2 h3 h4 h5) hs) fun D σ H ⟨F0, H0, ρ, F, fl, S, e, post⟩ => ?_
  unfold sAppPop at e
  split at e
  · rename_i ds es hρ hρ'
    split at e
    · cases e
    · rename_i hij
      obtain ⟨p, hp, _, _, xs, hx, rx⟩ := S.s i _ hρ
      obtain ⟨q, hq, _, _, ys, hy, ry⟩ := S.s j _ hρ'
      refine ⟨.ref p, hp, .inl ⟨rfl, xs, .inl (.inl hx)⟩, ?_⟩
      refine ⟨.ref q, hq, .inl ⟨rfl, ys, .inl (.inl hy)⟩, ?_⟩
      refine stK S e post fun d v F2 H1 e gr r => ?_
      split at e
      · rename_i n
        split at e
        · rename_i c
          simp only [Bool.and_eq_true, decide_eq_true_eq] at c
          split at e
          · rename_i z hz
            cases e
            cases r
            obtain ⟨u, hu, ru⟩ := ry.get hz
            obtain ⟨S1, e1, _⟩ := S.seen gr
            have hpq : q ≠ p := fun w => by subst w; exact S.d i j _ _ q hij hρ hρ' hp hq
            have hx1 : H1 p = some (.lst xs) := gr.h _ _ hx
            have hy1 : H1 q = some (.lst ys) := gr.h _ _ hy
            have hlt : n.toNat < ys.length := (List.getElem?_eq_some_iff.mp hu).1
            have hle : es.length ≤ 1000000 := of_decide_eq_true c.2
            rw [← ry.length] at hle
            refine ⟨q, ys, n, n.toNat, u, rfl, rfl, hy1, by omega, by omega, ?_, hu, ?_⟩
            · exact (ixN_seq (n := ys.length) (i := n) (j := n.toNat) (by unfold ixN; rw [if_pos c.1.1, if_pos (by omega)])).1
            · refine ⟨p, xs, u, rfl, rfl, by rw [upd_ne (Ne.symm hpq)]; exact hx1, Nat.lt_of_lt_of_le (Nat.lt_succ_self _) (by rw [rx.length]; exact okLen_line c.1.2), ?_⟩
              have S2 := S1.write (o := .lst (ys.eraseIdx n.toNat)) (d := .lst (es.eraseIdx n.toNat)) hρ' hq ⟨_, upd_same, (ry.mo e1).eraseIdx _⟩
              refine post σ _ _ (S2.write (d := .lst (ds ++ [z])) (c := .lst ds) (i := i) (p := p) ?_ hp ⟨xs ++ [u], upd_same, (rx.mo e1).append (.cons (ru.mo e1) .nil)⟩) e1
              rw [List.getElem?_set_ne (Ne.symm hij)]; exact hρ
          · cases e
        · cases e
      · cases e
  · cases e
end

/-! ### what is walked -/
section
variable (K : PySem.W.Frag) (mg : Str → Option Value)
def Wk (J : It) (F : Hp) (ds : List D) : Prop := ∀ (i : Nat) (F' H : Hp), Ex F F' → Ex F' H →
  (∀ d, ds[i]? = some d → J.go i H ∧ ∀ x H', J.yld i H x H' → ∃ Fn, Grow F' H Fn H' ∧ Rep K mg Fn x d) ∧ (ds.length ≤ i → J.stop i H)
def kI : Kd It (List D) := ⟨fun _ F' _ J ds => Wk K mg J F' ds, fun _ h => h⟩
abbrev tI (W : WX) (s : Sl) : TI := tK K mg W (kI K mg) s
end
section
variable {K : PySem.W.Frag} {mg : Str → Option Value}
theorem wk_list {F : Hp} {a : Addr} {xs : List V} {ds : List D} (h : SqL K F a xs) (r : RepAll K mg F xs ds) : (∀ (i : Nat) (F' H : Hp), Ex F F' → Ex F' H → ds.length ≤ i → (Itl K a).stop i H) ∧ (∀ (i : Nat) (F' H : Hp) (d : D), Ex F F' → Ex F' H → ds[i]? = some d → ∃ v, xs[i]? = some v ∧ Rep K mg F v d ∧ SqL K H a xs) :=
  ⟨fun i F' H e e' hl => ⟨xs, (e.trans e').sqL h, by rw [r.length]; exact hl⟩, fun i F' H d e e' hd => by
    obtain ⟨v, hv, rv⟩ := r.get hd
    exact ⟨v, hv, rv, (e.trans e').sqL h⟩⟩
theorem Wk.list {F : Hp} {a : Addr} {xs : List V} {ds : List D} (h : SqL K F a xs) (r : RepAll K mg F xs ds) : Wk K mg (Itl K a) F ds := fun i F' H e e' =>
  ⟨fun d hd => by
    obtain ⟨v, hv, rv, hs⟩ := (wk_list h r).2 i F' H d e e' hd
    refine ⟨⟨xs, v, hs, hv⟩, fun x H' y => ?_⟩
    obtain ⟨rfl, y⟩ := y
    have := y xs hs
    rw [hv] at this; cases this
    exact ⟨F', .refl e', rv.mo e⟩, fun hl => (wk_list h r).1 i F' H e e' hl⟩
theorem Wk.tup {F : Hp} {a : Addr} {xs : List V} {ds : List D} (h : SqT K F a xs) (r : RepAll K mg F xs ds) : Wk K mg (Itt K a) F ds := fun i F' H e e' =>
  ⟨fun d hd => by
    obtain ⟨v, hv, rv⟩ := r.get hd
    refine ⟨⟨xs, v, (e.trans e').sqT h, hv⟩, fun x H' y => ?_⟩
    obtain ⟨rfl, y⟩ := y
    have := y xs ((e.trans e').sqT h)
    rw [hv] at this; cases this
    exact ⟨F', .refl e', rv.mo e⟩, fun hl => ⟨xs, (e.trans e').sqT h, by rw [r.length]; exact hl⟩⟩
def rgD (lo : Int) (n : Nat) : List D := (List.range n).map fun (i : Nat) => .int (lo + i)
theorem rgD_get {lo : Int} {n i : Nat} {d : D} (h : (rgD lo n)[i]? = some d) : i < n ∧ d = .int (lo + i) := by
  unfold rgD at h
  rw [List.getElem?_map] at h
  obtain ⟨j, hj, e⟩ := Option.map_eq_some_iff.mp h
  obtain ⟨hl, e2⟩ := List.getElem?_eq_some_iff.mp hj
  rw [List.length_range] at hl
  rw [List.getElem_range] at e2
  subst e2
  exact ⟨hl, e.symm⟩
theorem rgD_length (lo : Int) (n : Nat) : (rgD lo n).length = n := by unfold rgD; rw [List.length_map, List.length_range]
theorem Wk.range {F : Hp} (lo : Int) (n : Nat) : Wk K mg (Itr lo n) F (rgD lo n) := fun i F' H e e' =>
  ⟨fun d hd => by
    obtain ⟨hi, rfl⟩ := rgD_get hd
    refine ⟨hi, fun x H' y => ?_⟩
    obtain ⟨rfl, rfl⟩ := y
    exact ⟨F', .refl e', .int _⟩, fun hl => by rw [rgD_length] at hl; exact hl⟩
/-- enumerate(list) -/
def enD : Nat → List D → List D
  | _, [] => []
  | k, d :: ds => .tup [.int (k : Nat), d] :: enD (k + 1) ds
theorem enD_get : ∀ (ds : List D) (k i : Nat) (d : D), (enD k ds)[i]? = some d → ∃ c, ds[i]? = some c ∧ d = .tup [.int ((k + i : Nat) : Int), c]
  | [], k, i, d, h => by simp [enD] at h
  | c :: ds, k, 0, d, h => by simp [enD] at h; exact ⟨c, rfl, by rw [← h]; simp⟩
  | c :: ds, k, i + 1, d, h => by
    simp only [enD, List.getElem?_cons_succ] at h
    obtain ⟨b, h1, h2⟩ := enD_get ds (k + 1) i d h
    exact ⟨b, by simpa using h1, by rw [h2, show k + 1 + i = k + (i + 1) by omega]⟩
theorem enD_length : ∀ (ds : List D) (k : Nat), (enD k ds).length = ds.length
  | [], _ => rfl
  | _ :: ds, k => by simp [enD, enD_length ds]
theorem Wk.enum {F : Hp} {a : Addr} {xs : List V} {ds : List D} (h : SqL K F a xs) (r : RepAll K mg F xs ds) : Wk K mg (Ite K a) F (enD 0 ds) := fun i F' H e e' =>
  ⟨fun d hd => by
    obtain ⟨c, hc, rfl⟩ := enD_get ds 0 i d hd
    obtain ⟨v, hv, rv, hs⟩ := (wk_list h r).2 i F' H c e e' hc
    refine ⟨⟨xs, v, hs, hv⟩, fun x H' y => ?_⟩
    obtain ⟨T, z, rfl, hT, rfl, y⟩ := y
    have := y xs hs
    rw [hv] at this; cases this
    refine ⟨_, .both e' hT, .tup (.inl (.inl upd_same)) (.cons ?_ (.cons ((rv.mo e).mo (.new (e'.none hT))) .nil))⟩
    rw [Nat.zero_add]; exact .int _, fun hl => (wk_list h r).1 i F' H e e' (by rw [enD_length] at hl; exact hl)⟩
end
def sSeqItems (e : Sx) : Sl := fun ρ => bd (e ρ) fun d => lift (itemsOf d)
def sRange (l : Sl) : Sl := fun ρ => bd (l ρ) fun ds =>
  match ds with
  | [.int j] => if decide (-1000000 ≤ j) && decide (j ≤ 1000000) then some (.ok (rgD 0 j.toNat)) else none
  | [.int i, .int j] => if decide (-1000000 ≤ i) && decide (i ≤ 1000000) && decide (-1000000 ≤ j) && decide (j ≤ 1000000) then some (.ok (rgD i (j - i).toNat)) else none
  | _ => none
def sEnum (l : Sl) : Sl := fun ρ => bd (l ρ) fun ds =>
  match ds with
  | [.lst es] => some (.ok (enD 0 es))
  | _ => none
section
variable {X : Cx} {W : WX} {tg e e2 : Expr} {se : Sx} {sl : Sl} {pos p : Pos}
theorem i_seq (he : PE X e (tS X.K X.mg W se)) : PI X tg e (tI X.K X.mg W (sSeqItems se)) := by
  refine ⟨fun pins s σ H R I ⟨ρ, F, r, v, hq, fin⟩ => ?_⟩
  have key : ∀ d, se ρ = some (.ok d) → ∀ ds, itemsOf d = some ds → r = .ok ds → wpAny (model X.prog X.w) X.A (eval e X.env) (fun v s1 => wpAny (model X.prog X.w) X.A (pyIter v) (PIE X pins σ tg R) X.xe s1) X.xe s := by
    intro d ed ds hi hr
    subst hr
    cases d <;> first | (cases hi; done) | skip
    · cases hi
      refine (pi_tup he).run pins s σ H R I ?_
      refine ⟨ρ, F, .ok (.tup ds), v, ed, fun b F1 H1 g rb => ?_⟩
      cases rb with
      | tup h1 rs => exact ⟨_, rfl, ⟨_, g.s.sqT h1⟩, fin _ F1 H1 g (Wk.tup h1 rs)⟩
    · cases hi
      refine (pi_list he).run pins s σ H R I ?_
      refine ⟨ρ, F, .ok (.lst ds), v, ed, fun b F1 H1 g rb => ?_⟩
      cases rb with
      | lst h1 rs => exact ⟨_, rfl, ⟨_, .inl (.inl (g.s _ _ h1))⟩, fin _ F1 H1 g (Wk.list (.inl (.inl h1)) rs)⟩
  rcases bd_some hq with ⟨d, ed, e'⟩ | ⟨c, ed, rfl⟩
  · obtain ⟨ds, hi, hr⟩ := lift_some e'
    exact key d ed ds hi hr
  · refine (pi_list he).run pins s σ H R I ?_
    exact ⟨ρ, F, .error c, v, ed, fin⟩
theorem i_range1 (hm : X.mg "range" = none) (ha : PA X [e] (tA X.K X.mg W sl)) (hg : Gl X "range" := by rfl) (hs : starEach [e] X.env = [(false, eval e X.env)] := by rfl) (h1 : ∀ ρ ds, sl ρ = some (.ok ds) → ds.length = 1) : PI X tg (.Call (.Name "range" p) [e] [] pos) (tI X.K X.mg W (sRange sl)) := by
  refine ⟨fun pins s σ H R I ⟨ρ, F, r, v, e, fin⟩ => (pi_range1 hg hm ha hs).run pins s σ H R I ?_⟩
  refine part v e fin fun ds xs F1 H1 es e g v1 rs fin1 => ?_
  split at e
  · rename_i j
    split at e
    · rename_i c
      simp only [Bool.and_eq_true, decide_eq_true_eq] at c
      cases e
      obtain ⟨u, rfl, ru⟩ := rs.one
      cases ru
      exact ⟨j, rfl, by omega, by omega, fin1 _ F1 H1 (.refl v1.e) (Wk.range 0 _)⟩
    · cases e
  · have := h1 ρ _ es
    cases this
  · cases e
theorem i_range2 (hm : X.mg "range" = none) (ha : PA X [e, e2] (tA X.K X.mg W sl)) (hg : Gl X "range" := by rfl) (hs : starEach [e, e2] X.env = [(false, eval e X.env), (false, eval e2 X.env)] := by rfl) (hs2 : starEach [e2] X.env = [(false, eval e2 X.env)] := by rfl) (h1 : ∀ ρ ds, sl ρ = some (.ok ds) → ds.length = 2) : PI X tg (.Call (.Name "range" p) [e, e2] [] pos) (tI X.K X.mg W (sRange sl)) := by
  refine ⟨fun pins s σ H R I ⟨ρ, F, r, v, e, fin⟩ => (pi_range2 hg hm ha hs hs2).run pins s σ H R I ?_⟩
  refine part v e fin fun ds xs F1 H1 es e g v1 rs fin1 => ?_
  split at e
  · have := h1 ρ _ es
    cases this
  · rename_i i j
    split at e
    · rename_i c
      simp only [Bool.and_eq_true, decide_eq_true_eq] at c
      cases e
      obtain ⟨u, w, rfl, ru, rw'⟩ := rs.two
      cases ru; cases rw'
      exact ⟨i, j, rfl, ⟨by omega, by omega, by omega, by omega⟩, fin1 _ F1 H1 (.refl v1.e) (Wk.range i _)⟩
    · cases e
  · cases e
theorem len_cons1 {a : Sx} : ∀ ρ ds, sCons a sNil ρ = some (.ok ds) → ds.length = 1 := fun ρ ds h => by
  rcases bd_some h with ⟨x, _, h⟩ | ⟨c, _, h⟩
  · rcases bd_some h with ⟨xs, hx, h⟩ | ⟨c, _, h⟩
    · cases hx; cases h; rfl
    · cases h
  · cases h
theorem len_cons2 {a b : Sx} : ∀ ρ ds, sCons a (sCons b sNil) ρ = some (.ok ds) → ds.length = 2 := fun ρ ds h => by
  rcases bd_some h with ⟨x, _, h⟩ | ⟨c, _, h⟩
  · rcases bd_some h with ⟨xs, hx, h⟩ | ⟨c, _, h⟩
    · have := len_cons1 ρ xs hx
      cases h; simp [this]
    · cases h
  · cases h
theorem i_enum {elts : List Expr} {kk : Nat} {tpos : Pos} (hm : X.mg "enumerate" = none) (ha : PA X [e] (tA X.K X.mg W sl)) (hg : Gl X "enumerate" := by rfl) (hs : starEach [e] X.env = [(false, eval e X.env)] := by rfl) : PI X (.Tuple elts kk tpos) (.Call (.Name "enumerate" p) [e] [] pos) (tI X.K X.mg W (sEnum sl)) := by
  refine ⟨fun pins s σ H R I ⟨ρ, F, r, v, e, fin⟩ => (pi_enum hg hm ha hs).run pins s σ H R I ?_⟩
  refine part v e fin fun ds xs F1 H1 es e g v1 rs fin1 => ?_
  split at e
  · cases e
    obtain ⟨u, rfl, ru⟩ := rs.one
    cases ru with
    | lst h1 rl => exact ⟨_, _, rfl, .inl (.inl (v1.e _ _ h1)), fin1 _ F1 H1 (.refl v1.e) (Wk.enum (.inl (.inl h1)) rl)⟩
  · cases e
end
end Dl
/-! Dl9: for, while, list comprehensions, a def's body. -/
namespace Dl
open PySem L2

/-- a target takes an item -/
def GOk (K : PySem.W.Frag) (mg : Str → Option Value) (g : TG) (t : Tgt) : Prop :=
  ∀ F0 H0 F H σ ρ ρ' v d (Q : St → Hp → Prop), StOk K mg F0 H0 F H σ ρ → Rep K mg F v d → t d ρ = some ρ' → (∀ σ', StOk K mg F0 H0 F H σ' ρ' → Q σ' H) → g v σ H Q
section
variable {K : PySem.W.Frag} {mg : Str → Option Value} {W : WX}
theorem gok_name (i : Nat) : GOk K mg (gName i) (tgN i) := fun F0 H0 F H σ ρ ρ' v d Q S r e q => by
  cases e
  exact q _ (S.set r)
theorem gok_tup {n : Nat} (is : List Nat) (hn : n = is.length) : GOk K mg (gTup K n (gNs is)) (tgT is) := fun F0 H0 F H σ ρ ρ' v d Q S r e q => by
  unfold tgT at e
  split at e
  · split at e
    · rename_i ds hl
      cases e
      cases r with
      | tup h1 rs =>
        exact ⟨_, _, rfl, S.g.s.sqT h1, by rw [rs.length, hn]; exact hl, gNs_reads is (by rw [rs.length]; exact hl) (q _ (StOk.sets is S rs))⟩
    · cases e
  · cases e
theorem for_reads {ms : List Nat} {it : Sl} {t : Tgt} {body : Ss} {g : TG} (hg : GOk K mg g t) {D : Ends} {σ : St} {H : Hp} (h : tP K mg W (sFor ms it t body) D σ H) : tFor (tI K mg W it) g (tP K mg W body) D σ H := by
  obtain ⟨F0, H0, ρ, F, fl, S, e, post⟩ := h
  unfold sFor at e
  split at e
  · rename_i ds eds
    refine ⟨_, _, _, S.view ms, eds, fun J F1 H1 gr wk => ?_⟩
    have S1 := S.frozen gr
    have eF : Ex F F1 := (S.exAdd ms).trans gr.f
    refine ⟨fun i m σ H => m = ds.length - i ∧ i ≤ ds.length ∧ ∃ F' ρ', StOk K mg F0 H0 F' H σ ρ' ∧ Ex F1 F' ∧ forS t body (ds.drop i) ρ' = some fl, ⟨ds.length, by simp, Nat.zero_le _, F1, _, S1, .refl _, e⟩, ?_⟩
    rintro i m σ H ⟨rfl, hi, F', ρ', S', e', ef⟩
    have w := wk i F' H e' S'.g.s
    by_cases hlt : i < ds.length
    · have hd : ds[i]? = some ds[i] := List.getElem?_eq_getElem hlt
      obtain ⟨go, yl⟩ := w.1 _ hd
      refine .inr ⟨go, fun σ' H' => ds.length - (i + 1) < ds.length - i ∧ i + 1 ≤ ds.length ∧ ∃ F' ρ', StOk K mg F0 H0 F' H' σ' ρ' ∧ Ex F1 F' ∧ forS t body (ds.drop (i + 1)) ρ' = some fl, fun σ' H' ⟨q0, q1, q2⟩ => ⟨_, q0, rfl, q1, q2⟩, fun x H' y => ?_⟩
      obtain ⟨Fn, gn, rx⟩ := yl x H' y
      rw [List.drop_eq_getElem_cons hlt] at ef
      unfold forS at ef
      split at ef
      · cases ef
      · rename_i ρ1 et
        refine hg F0 H0 Fn H' σ ρ' ρ1 x ds[i] _ (S'.grow gn) rx et fun σ2 S2 => ?_
        have e2 : Ex F1 Fn := e'.trans gn.f
        have again : ∀ ρ2, forS t body (ds.drop (i + 1)) ρ2 = some fl → ∀ σ3 F3 H3, StOk K mg F0 H0 F3 H3 σ3 ρ2 → Ex Fn F3 → ds.length - (i + 1) < ds.length - i ∧ i + 1 ≤ ds.length ∧ ∃ F' ρ', StOk K mg F0 H0 F' H3 σ3 ρ' ∧ Ex F1 F' ∧ forS t body (ds.drop (i + 1)) ρ' = some fl :=
          fun ρ2 h2 σ3 F3 H3 S3 e3 => ⟨by omega, hlt, F3, ρ2, S3, e2.trans e3, h2⟩
        split at ef
        · rename_i ρ2 eb
          exact ⟨F0, H0, ρ1, Fn, .nx ρ2, S2, eb, fun σ3 F3 H3 S3 e3 => again ρ2 ef σ3 F3 H3 S3 e3⟩
        · rename_i ρ2 eb
          exact ⟨F0, H0, ρ1, Fn, .ct ρ2, S2, eb, fun σ3 F3 H3 S3 e3 => again ρ2 ef σ3 F3 H3 S3 e3⟩
        · rename_i ρ2 eb
          cases ef
          exact ⟨F0, H0, ρ1, Fn, .bk ρ2, S2, eb, fun σ3 F3 H3 S3 e3 => post σ3 F3 H3 S3 ((eF.trans e2).trans e3)⟩
        · rename_i o n1 n2 n3
          have p2 := post.mo (eF.trans e2)
          cases fl with
          | nx ρ2 => exact (n1 ρ2 ef).elim
          | ct ρ2 => exact (n2 ρ2 ef).elim
          | bk ρ2 => exact (n3 ρ2 ef).elim
          | rt d => exact ⟨F0, H0, ρ1, Fn, .rt d, S2, ef, p2⟩
          | rs d ρ2 => exact ⟨F0, H0, ρ1, Fn, .rs d ρ2, S2, ef, p2⟩
          | ex c ρ2 => exact ⟨F0, H0, ρ1, Fn, .ex c ρ2, S2, ef, p2⟩
    · have hi2 : i = ds.length := by omega
      subst hi2
      rw [List.drop_length] at ef
      cases ef
      exact .inl ⟨w.2 (Nat.le_refl _), post σ F' H S' (eF.trans e')⟩
  · rename_i c ec
    cases e
    refine ⟨_, _, _, S.view ms, ec, fun C F2 H1 gr hc => ?_⟩
    obtain ⟨S', e', _⟩ := S.seen gr
    exact post C σ _ H1 S' e' hc
  · cases e
theorem while_reads {ms : List Nat} {c : Sb} {body : Ss} {n : Nat} {D : Ends} {σ : St} {H : Hp} (h : tP K mg W (whileS ms c body n) D σ H) : tWhile (tT K mg W c) (tP K mg W body) D σ H := by
  obtain ⟨F0, H0, ρ, F, fl, S, e, post⟩ := h
  refine ⟨fun m σ H => ∃ F' ρ', StOk K mg F0 H0 F' H σ ρ' ∧ Ex F F' ∧ whileS ms c body m ρ' = some fl, ⟨n, F, ρ, S, .refl _, e⟩, ?_⟩
  rintro m σ H ⟨F', ρ', S', e', ew⟩
  cases m with
  | zero => cases ew
  | succ m =>
    unfold whileS at ew
    refine stK S' ew (post.mo e') fun b b' F2 H1 eb gr r => ?_
    have r' : b' = b := r
    subst r'
    obtain ⟨S2, e2, _⟩ := S'.seen gr
    cases b' with
    | false =>
      cases eb
      rw [if_neg Bool.false_ne_true]
      exact post σ _ H1 S2 (e'.trans e2)
    | true =>
      rw [if_pos rfl] at eb ⊢
      refine ⟨fun σ' H' => ∃ F' ρ', StOk K mg F0 H0 F' H' σ' ρ' ∧ Ex F F' ∧ whileS ms c body m ρ' = some fl, fun σ' H' q => ⟨m, Nat.lt_succ_self m, q⟩, ?_⟩
      have e3 := e'.trans e2
      split at eb
      · rename_i ρ2 ebd
        exact ⟨F0, H0, ρ', _, .nx ρ2, S2, ebd, fun σ3 F3 H3 S3 e4 => ⟨F3, ρ2, S3, e3.trans e4, eb⟩⟩
      · rename_i ρ2 ebd
        exact ⟨F0, H0, ρ', _, .ct ρ2, S2, ebd, fun σ3 F3 H3 S3 e4 => ⟨F3, ρ2, S3, e3.trans e4, eb⟩⟩
      · rename_i ρ2 ebd
        cases eb
        exact ⟨F0, H0, ρ', _, .bk ρ2, S2, ebd, fun σ3 F3 H3 S3 e4 => post σ3 F3 H3 S3 (e3.trans e4)⟩
      · rename_i o n1 n2 n3
        have p2 := post.mo e3
        cases fl with
        | nx ρ2 => exact (n1 ρ2 eb).elim
        | ct ρ2 => exact (n2 ρ2 eb).elim
        | bk ρ2 => exact (n3 ρ2 eb).elim
        | rt d => exact ⟨F0, H0, ρ', _, .rt d, S2, eb, p2⟩
        | rs d ρ2 => exact ⟨F0, H0, ρ', _, .rs d ρ2, S2, eb, p2⟩
        | ex c ρ2 => exact ⟨F0, H0, ρ', _, .ex c ρ2, S2, eb, p2⟩
end
section
variable {X : Cx} {W : WX} {pos : Pos}
theorem s_for {tg iter : Expr} {body : List Stmt} {it : Sl} {t : Tgt} {g : TG} {b : Ss} (ms : List Nat) (hp : PassesOwn (model X.prog X.w) X.A X.env X.xe) (hc : X.calm = true) (hi : PI X tg iter (tI X.K X.mg W it)) (hg : PG X tg g) (ht : GOk X.K X.mg g t) (hb : PSs X body (tP X.K X.mg W b))
    (hs : ∀ x, foldedSetIterable iter X.env x = pure x := by intro _; rfl) : PS X (.For tg iter body [] pos) (tP X.K X.mg W (sFor ms it t b)) :=
  ps_imp (ps_for hp hc hi hg hb hs) fun _ _ _ h => for_reads ht h
theorem s_while {c : Expr} {body : List Stmt} {sc : Sb} {b : Ss} (ms : List Nat) (n : Nat) (hp : PassesOwn (model X.prog X.w) X.A X.env X.xe) (hc : PT X c (tT X.K X.mg W sc)) (hb : PSs X body (tP X.K X.mg W b)) : PS X (.While c body [] pos) (tP X.K X.mg W (whileS ms sc b n)) :=
  ps_imp (ps_while hp hc hb) fun _ _ _ h => while_reads h
theorem pg_names {is : List Nat} {es : List Expr} {kk : Nat} {tpos : Pos} (hc : X.calm = true) (h : PGs X es (gNs is)) (hn : (assignEach es X.env).length = is.length := by rfl) (hst : (assignEach es X.env).findIdx? (·.1) = none := by rfl) : PG X (.Tuple es kk tpos) (gTup X.K is.length (gNs is)) := pg_tup hc h hn hst
end

/-! ### comprehensions -/
abbrev TgtR := D → Rho → Option Rho
def tgRN (i : Nat) : TgtR := fun d ρ => some (ρ.set i (some d))
def setR : Rho → List Nat → List D → Rho
  | ρ, i :: is, d :: ds => setR (ρ.set i (some d)) is ds
  | ρ, _, _ => ρ
def tgRT (is : List Nat) : TgtR := fun d ρ =>
  match d with
  | .tup ds => if ds.length = is.length then some (setR ρ is ds) else none
  | _ => none
def wipeR : List Nat → Rho → Rho
  | [], ρ => ρ
  | i :: is, ρ => (wipeR is ρ).set i none
def bTrue : Sb := fun _ => some (.ok true)
def lcS (t : TgtR) (test : Sb) (elt : Sx) (ρ : Rho) : List D → Option (List D)
  | [] => some []
  | d :: ds =>
    match t d ρ with
    | none => none
    | some ρ2 => match test ρ2 with
      | some (.ok true) => match elt ρ2 with
        | some (.ok y) => (lcS t test elt ρ ds).map (y :: ·)
        | _ => none
      | some (.ok false) => lcS t test elt ρ ds
      | _ => none
def sLc (it : Sl) (vs : List Nat) (t : TgtR) (test : Sb) (elt : Sx) : Sl := fun ρ => bd (it ρ) fun ds => if okLen ds.length then lift (lcS t test elt (wipeR vs ρ) ds) else none
abbrev W0 : WX := fun _ _ _ _ => False
def GOkR (K : PySem.W.Frag) (mg : Str → Option Value) (vs : List Nat) (g : TG) (t : TgtR) : Prop :=
  ∀ F H σ ρ ρ' v d (Q : St → Hp → Prop), View K mg F H (wipe σ vs) ρ → Rep K mg F v d → t d ρ = some ρ' → (∀ σ', View K mg F H σ' ρ' → wipe σ' vs = wipe σ vs → Q σ' H) → g v (wipe σ vs) H Q
section
variable {K : PySem.W.Frag} {mg : Str → Option Value} {W : WX} {F H : Hp} {σ : St} {ρ : Rho}
theorem wipeR_length (ρ : Rho) : ∀ vs : List Nat, (wipeR vs ρ).length = ρ.length
  | [] => rfl
  | v :: vs => by unfold wipeR; rw [List.length_set, wipeR_length ρ vs]
theorem View.wipe (v : View K mg F H σ ρ) (vs : List Nat) : View K mg F H (L2.wipe σ vs) (wipeR vs ρ) := by
  refine ⟨v.e, fun i d e => ?_, by rw [wipeR_length, wipe_length]; exact v.l⟩
  have key : ∀ (vs : List Nat), (wipeR vs ρ)[i]? = some (some d) → ρ[i]? = some (some d) ∧ (L2.wipe σ vs)[i]? = σ[i]? := fun vs => by
    induction vs with
    | nil => exact fun h => ⟨h, rfl⟩
    | cons j vs ih =>
      intro h
      unfold wipeR at h
      by_cases hj : j = i
      · subst hj
        by_cases hl : j < (wipeR vs ρ).length
        · rw [List.getElem?_set_self hl] at h; cases h
        · rw [List.getElem?_eq_none (by rw [List.length_set]; omega)] at h; cases h
      · rw [List.getElem?_set_ne hj] at h
        obtain ⟨h1, h2⟩ := ih h
        exact ⟨h1, by rw [L2.wipe, List.getElem?_set_ne hj]; exact h2⟩
  obtain ⟨e1, e2⟩ := key vs e
  obtain ⟨u, e3, r⟩ := v.v i d e1
  exact ⟨u, by rw [e2]; exact e3, r⟩
theorem View.set {i : Nat} {u : V} {d : D} (v : View K mg F H σ ρ) (r : Rep K mg F u d) : View K mg F H (σ.set i (some u)) (ρ.set i (some d)) := by
  refine ⟨v.e, fun j c e => ?_, by rw [List.length_set, List.length_set]; exact v.l⟩
  by_cases hj : i = j
  · subst hj
    by_cases hi : i < ρ.length
    · rw [List.getElem?_set_self hi] at e
      cases e
      exact ⟨u, List.getElem?_set_self (Nat.lt_of_lt_of_le hi v.l), r⟩
    · rw [List.getElem?_eq_none (by rw [List.length_set]; omega)] at e; cases e
  · rw [List.getElem?_set_ne hj] at e
    obtain ⟨w, e1, r1⟩ := v.v j c e
    exact ⟨w, by rw [List.getElem?_set_ne hj]; exact e1, r1⟩
theorem View.sets : ∀ (is : List Nat) {σ : St} {ρ : Rho} {us : List V} {ds : List D}, View K mg F H σ ρ → RepAll K mg F us ds → View K mg F H (setV σ is us) (setR ρ is ds)
  | [], _, _, _, _, v, _ => by simpa only [setV, setR] using v
  | i :: is, σ, ρ, us, ds, v, r => by
    cases r with
    | nil => simpa only [setV, setR] using v
    | cons r1 r2 => exact View.sets is (v.set r1) r2
theorem wipe_in {σ : St} {j : Nat} : ∀ {vs : List Nat}, j ∈ vs → (L2.wipe σ vs)[j]? = if j < σ.length then some none else none
  | [], h => nomatch h
  | i :: vs, h => by
    by_cases hj : i = j
    · subst hj
      by_cases hl : i < σ.length
      · rw [L2.wipe, List.getElem?_set_self (by rw [wipe_length]; exact hl), if_pos hl]
      · rw [L2.wipe, List.getElem?_eq_none (by rw [List.length_set, wipe_length]; omega), if_neg hl]
    · rw [L2.wipe, List.getElem?_set_ne hj]
      exact wipe_in ((List.mem_cons.mp h).elim (fun q => absurd q.symm hj) id)
theorem wipe_set {vs : List Nat} {i : Nat} {σ : St} {u : Option V} (hi : i ∈ vs) : L2.wipe (σ.set i u) vs = L2.wipe σ vs := by
  refine List.ext_getElem? fun j => ?_
  by_cases hj : j ∈ vs
  · rw [wipe_in hj, wipe_in hj, List.length_set]
  · rw [wipe_out hj, wipe_out hj, List.getElem?_set_ne (fun q => hj (by rw [← q]; exact hi))]
theorem wipe_wipe {vs : List Nat} {σ : St} : L2.wipe (L2.wipe σ vs) vs = L2.wipe σ vs := by
  refine List.ext_getElem? fun j => ?_
  by_cases hj : j ∈ vs
  · rw [wipe_in hj, wipe_in hj, wipe_length]
  · rw [wipe_out hj]
theorem wipe_setV {vs : List Nat} : ∀ (is : List Nat) {σ : St} {us : List V}, (∀ i, i ∈ is → i ∈ vs) → L2.wipe (setV σ is us) vs = L2.wipe σ vs
  | [], _, _, _ => by simp only [setV]
  | i :: is, σ, us, h => by
    cases us with
    | nil => simp only [setV]
    | cons u us =>
      simp only [setV]
      rw [wipe_setV is fun j hj => h j (List.mem_cons_of_mem _ hj), wipe_set (h i List.mem_cons_self)]
theorem gokR_name {vs : List Nat} {i : Nat} (hi : i ∈ vs) : GOkR K mg vs (gName i) (tgRN i) := fun F H σ ρ ρ' v d Q vw r e q => by
  cases e
  exact q _ (vw.set r) (by rw [wipe_set hi, wipe_wipe])
theorem gokR_tup {vs : List Nat} {n : Nat} (is : List Nat) (hn : n = is.length) (hi : ∀ i, i ∈ is → i ∈ vs) : GOkR K mg vs (gTup K n (gNs is)) (tgRT is) := fun F H σ ρ ρ' v d Q vw r e q => by
  unfold tgRT at e
  split at e
  · split at e
    · rename_i ds hl
      cases e
      cases r with
      | tup h1 rs =>
        exact ⟨_, _, rfl, vw.e.sqT h1, by rw [rs.length, hn]; exact hl, gNs_reads is (by rw [rs.length]; exact hl) (q _ (View.sets is vw rs) (by rw [wipe_setV is hi, wipe_wipe]))⟩
    · cases e
  · cases e
theorem lc_reads {it : Sl} {vs : List Nat} {t : TgtR} {test : Sb} {elt : Sx} {g : TG} (hg : GOkR K mg vs g t) {Q : VK} (h : tL K mg W (sLc it vs t test elt) σ H Q) :
    tLc (tI K mg W it) g (tT K mg W0 test) (tS K mg W0 elt) vs σ H Q := by
  obtain ⟨ρ, F, r, v, e, fin⟩ := h
  refine part v e fin fun ds J F1 H1 _ e g1 v1 wk fin1 => ?_
  split at e
  · rename_i hok
    obtain ⟨out, eo, rfl⟩ := lift_some e
    intro D hD
    have hFD : F1 D = none := v1.e.none hD
    have vw := v1.wipe vs
    refine ⟨fun i m H => m = ds.length - i ∧ i ≤ ds.length ∧ ∃ F' acc dacc rest, Grow F1 H1 F' H ∧ F' D = none ∧ H D = some (.lst acc) ∧ RepAll K mg F' acc dacc ∧ dacc.length ≤ i ∧ lcS t test elt (wipeR vs ρ) (ds.drop i) = some rest ∧ dacc ++ rest = out,
      ⟨ds.length, by simp, Nat.zero_le _, F1, [], [], out, .only v1.e hD, hFD, upd_same, .nil, Nat.le_refl _, eo, rfl⟩, ?_⟩
    rintro i m H ⟨rfl, hi, F', acc, dacc, rest, gr, hF', hHD, ra, hla, el, eout⟩
    have w := wk i F' H gr.f gr.s
    by_cases hlt : i < ds.length
    · have hd : ds[i]? = some ds[i] := List.getElem?_eq_getElem hlt
      obtain ⟨go, yl⟩ := w.1 _ hd
      refine .inr ⟨go, fun H' => ds.length - (i + 1) < ds.length - i ∧ i + 1 ≤ ds.length ∧ ∃ F' acc dacc rest, Grow F1 H1 F' H' ∧ F' D = none ∧ H' D = some (.lst acc) ∧ RepAll K mg F' acc dacc ∧ dacc.length ≤ i + 1 ∧ lcS t test elt (wipeR vs ρ) (ds.drop (i + 1)) = some rest ∧ dacc ++ rest = out,
        fun H' ⟨q0, q1, q2⟩ => ⟨_, q0, rfl, q1, q2⟩, fun x H' y => ?_⟩
      obtain ⟨Fn, gn, rx⟩ := yl x H' y
      have still : ∀ {Fa Ha Fb Hb : Hp}, Grow Fa Ha Fb Hb → Fa D = none → (∃ o, Ha D = some o) → Fb D = none := fun {Fa Ha Fb Hb} gg h1 ⟨o, h2⟩ => by
        cases q : Fb D with
        | none => rfl
        | some u =>
          rcases gg.n D u q with z | z
          · rw [h1] at z; cases z
          · rw [h2] at z; cases z
      have hFn : Fn D = none := still gn hF' ⟨_, hHD⟩
      have hHn : H' D = some (.lst acc) := gn.h _ _ hHD
      rw [List.drop_eq_getElem_cons hlt] at el
      unfold lcS at el
      split at el
      · cases el
      · rename_i ρ2 et
        refine hg Fn H' σ _ ρ2 x ds[i] _ ⟨gn.s, fun k c ek => ?_, vw.l⟩ rx et fun σ2 v2 hw => ⟨hw, ?_⟩
        · obtain ⟨u, e1, ru⟩ := vw.v k c ek
          exact ⟨u, e1, (ru.mo gr.f).mo gn.f⟩
        · split at el
          · rename_i etst
            refine ⟨ρ2, Fn, .ok true, v2, etst, fun b F3 H3 g3 eb => ?_⟩
            have eb' : b = true := eb
            subst eb'
            refine iteT ?_
            have hF3 := still g3 hFn ⟨_, hHn⟩
            have hH3 : H3 D = some (.lst acc) := g3.h _ _ hHn
            split at el
            · rename_i yd ey
              obtain ⟨rest', er, rfl⟩ := Option.map_eq_some_iff.mp el
              refine ⟨ρ2, F3, .ok yd, v2.mo g3, ey, fun yv F4 H4 g4 ry => ?_⟩
              have hF4 := still g4 hF3 ⟨_, hH3⟩
              have hH4 : H4 D = some (.lst acc) := g4.h _ _ hH3
              have gall : Grow F1 H1 F4 H4 := ((gr.trans gn).trans g3).trans g4
              have eall : Ex F' F4 := (gn.f.trans g3.f).trans g4.f
              refine ⟨acc, hH4, ?_, by omega, hlt, F4, acc ++ [yv], dacc ++ [yd], rest', ⟨gall.f, fun a o q => ?_, fun a o q => ?_, gall.n⟩, hF4, upd_same, (ra.mo eall).append (.cons ry .nil), by rw [List.length_append, List.length_singleton]; omega, er, by rw [List.append_assoc]; exact eout⟩
              · rw [ra.length]
                exact Nat.lt_of_le_of_lt hla (Nat.lt_of_lt_of_le hlt (okLen_line hok))
              · rw [upd_ne (ne_of_none q hD)]; exact gall.h a o q
              · rw [upd_ne (ne_of_none q hF4)]; exact gall.s a o q
            · cases el
          · rename_i etst
            refine ⟨ρ2, Fn, .ok false, v2, etst, fun b F3 H3 g3 eb => ?_⟩
            have eb' : b = false := eb
            subst eb'
            refine iteF ?_
            have hF3 := still g3 hFn ⟨_, hHn⟩
            have hH3 : H3 D = some (.lst acc) := g3.h _ _ hHn
            exact ⟨by omega, hlt, F3, acc, dacc, rest, (gr.trans gn).trans g3, hF3, hH3, ra.mo (gn.f.trans g3.f), by omega, el, eout⟩
          · cases el
    · have hi2 : i = ds.length := by omega
      subst hi2
      rw [List.drop_length] at el
      cases el
      rw [List.append_nil] at eout
      subst eout
      exact .inl ⟨w.2 (Nat.le_refl _), fin1 (.ref D) F' H gr ⟨D, acc, rfl, hD, hF', hHD, ra⟩⟩
  · cases e
end
section
variable {X : Cx} {W : WX} {pos : Pos} {elt tg iter : Expr} {ifs : List Expr} {scope : Scope} {own : List (Str × Nat)} {it : Sl} {t : TgtR} {test : Sb} {se : Sx} {g : TG}
theorem l_lc (hc : X.calm = true) (hN : X.N.Nodup) (hi : PI X tg iter (tI X.K X.mg W it)) (ok : BlkOk X.N X.env.scope scope own) (hgo : GOkR X.K X.mg (own.map (·.2)) g t)
    (hg : ∀ (s : Shared) (H : Hp) (C : Addr) (cl : List (Str × Addr)) (fp : List Addr), PG (X.blk s H scope (compEnvC scope cl C X.env) fp) tg g) (ht : ∀ (s : Shared) (H : Hp) (C : Addr) (cl : List (Str × Addr)) (fp : List Addr), PTs (X.blk s H scope (compEnvC scope cl C X.env) fp) ifs (tT X.K X.mg W0 test))
    (he : ∀ (s : Shared) (H : Hp) (C : Addr) (cl : List (Str × Addr)) (fp : List Addr), PE (X.blk s H scope (compEnvC scope cl C X.env) fp) elt (tS X.K X.mg W0 se)) (hs : ∀ x, foldedSetIterable iter X.env x = pure x := by intro _; rfl) :
    PE X (.ListComp elt [⟨tg, iter, ifs, 0⟩] scope pos) (tL X.K X.mg W (sLc it (own.map (·.2)) t test se)) :=
  pe_imp (pe_lc hc hN hi ok hg ht he hs) fun _ _ _ h => lc_reads hgo h
/-- name = [..], the name a local -/
theorem s_setLc {i : Nat} {y : Str} {py spos : Pos} (ms : List Nat) (hc : X.calm = true) (hN : X.N.Nodup) (hi : PI X tg iter (tI X.K X.mg W it)) (ok : BlkOk X.N X.env.scope scope own) (hgo : GOkR X.K X.mg (own.map (·.2)) g t)
    (hg : ∀ (s : Shared) (H : Hp) (C : Addr) (cl : List (Str × Addr)) (fp : List Addr), PG (X.blk s H scope (compEnvC scope cl C X.env) fp) tg g) (ht : ∀ (s : Shared) (H : Hp) (C : Addr) (cl : List (Str × Addr)) (fp : List Addr), PTs (X.blk s H scope (compEnvC scope cl C X.env) fp) ifs (tT X.K X.mg W0 test))
    (he : ∀ (s : Shared) (H : Hp) (C : Addr) (cl : List (Str × Addr)) (fp : List Addr), PE (X.blk s H scope (compEnvC scope cl C X.env) fp) elt (tS X.K X.mg W0 se)) (hy : X.N[i]? = some y := by rfl) (hyl : X.env.scope.names.lookup y = some .local := by rfl)
    (hsw : swapsWith (.ListComp elt [⟨tg, iter, ifs, 0⟩] scope pos) (some (.Name y py)) spos.line X.env = pure true := by exact sw_true rfl rfl rfl (by decide +kernel)) (hs : ∀ x, foldedSetIterable iter X.env x = pure x := by intro _; rfl) :
    PS X (.Assign [.Name y py] (.ListComp elt [⟨tg, iter, ifs, 0⟩] scope pos) spos) (tP X.K X.mg W (sSetL ms i (sLc it (own.map (·.2)) t test se))) :=
  ps_imp (ps_setLc hc hN hy hyl hsw hi ok hg ht he hs) fun D σ H h => lc_reads hgo (asgL_reads h)
theorem ts_nil : PTs X [] (tT X.K X.mg W bTrue) := pts_imp pts_nil fun σ H Q ⟨ρ, F, r, v, e, fin⟩ => by cases e; exact fin true F H (.refl v.e) rfl
theorem ts_one {c : Expr} (h : PT X c (tT X.K X.mg W test)) : PTs X [c] (tT X.K X.mg W test) := pts_one h
end

/-! ### a def -/
def runD (n : Nat) (body : Ss) : List D → Oe D := fun ds =>
  match body (ds.map SL.dat ++ List.replicate (n - ds.length) SL.no) with
  | some (.nx _) => some (.ok .non)
  | some (.rt d) => some (.ok d)
  | some (.ex c _) => some (.error c)
  | some (.rs d _) => some (.ok d)
  | _ => none
theorem start_ok {K : PySem.W.Frag} {mg : Str → Option Value} {F H : Hp} {N : List Str} {vs : List V} {ds : List D} (e : Ex F H) (r : RepAll K mg F vs ds) : StOk K mg F H F H (L2.start N vs) (ds.map SL.dat ++ List.replicate (N.length - ds.length) SL.no) := by
  have hl := r.length
  have noown : ∀ (i : Nat) (d : D), (ds.map SL.dat ++ List.replicate (N.length - ds.length) SL.no)[i]? = some (.own d) → False := fun i d h1 => by
    by_cases hi : i < ds.length
    · rw [List.getElem?_append_left (by rw [List.length_map]; exact hi), List.getElem?_map] at h1
      obtain ⟨d, hd, q⟩ := Option.map_eq_some_iff.mp h1
      cases q
    · rw [List.getElem?_append_right (by rw [List.length_map]; omega), List.getElem?_replicate] at h1
      split at h1
      · cases h1
      · cases h1
  refine ⟨.refl e, fun i s hs => ?_, fun i j d c p _ h1 _ _ => (noown i d h1).elim, by unfold L2.start; simp [hl], fun i d p h1 => (noown i d h1).elim⟩
  · by_cases hi : i < ds.length
    · rw [List.getElem?_append_left (by rw [List.length_map]; exact hi), List.getElem?_map] at hs
      obtain ⟨d, hd, rfl⟩ := Option.map_eq_some_iff.mp hs
      obtain ⟨v, hv, rv⟩ := r.get hd
      refine ⟨v, ?_, rv⟩
      unfold L2.start
      rw [List.getElem?_append_left (by rw [List.length_map]; omega), List.getElem?_map, hv]; rfl
    · rw [List.getElem?_append_right (by rw [List.length_map]; omega), List.getElem?_replicate] at hs
      split at hs
      · cases hs; trivial
      · cases hs
theorem FnD.mkOk {P : Program} {w : World} {K : PySem.W.Frag} {mg : Str → Option Value} {base : Heap} {x qual : Str} {st : Stmt} {f : Addr} {fd : FuncData} {N ps : List Str} {k : Nat} {body : Ss} (Fu : Fun K x qual st f fd) (S : FnScope N ps (defScope st)) (hm : mg x = some (.ref f)) (hb : Binds K fd ps [])
    (hbody : ∀ (cdv : Value) (A : Around) (outer : List Env) (s : Shared) (H : Hp) (E : XK), Room k (A.deeper (PyProof.Rows.envOfC qual (defScope st) s.heap.objs.size f cdv)) →
      PSs (cxOf (L2.CX P w) P w K mg base N qual (defScope st) f cdv A outer s H E) (defBody st) (tP K mg (fun cls d _ H => E cls d H) body)) : FnOk P w K mg base (L2.CX P w) (k + 1) f fd ps (spOf K mg ps.length (runD N.length body)) := by
  refine Fu.okX S (fun vs H Q E h => ?_) (fun cdv A outer s H vs Q E hr h => ⟨_, hbody cdv A outer s H E hr, ?_⟩)
  · obtain ⟨F, ds, r, _, rs, hn, _⟩ := h
    rw [rs.length]; exact hn
  · obtain ⟨F, ds, r, e, rs, hn, hf, post⟩ := h
    unfold runD at hf
    split at hf
    · rename_i ρ hb
      cases hf
      exact ⟨F, H, _, F, _, start_ok e rs, hb, fun σ' F' H' S' _ => post .non F' H' S'.g .non⟩
    · rename_i d hb
      cases hf
      exact ⟨F, H, _, F, _, start_ok e rs, hb, fun v F' H' g r => post v F' H' g r⟩
    · rename_i c ρ hb
      cases hf
      exact ⟨F, H, _, F, _, start_ok e rs, hb, fun C σ' F' H' S' _ hc => post C F' H' S'.g hc⟩
    · rename_i d ρ hb
      cases hf
      exact ⟨F, H, _, F, _, start_ok e rs, hb, fun v σ' F' H' S' _ r => post v F' H' S'.g r⟩
    · cases hf
theorem FnD.mk' {P : Program} {w : World} {K : PySem.W.Frag} {mg : Str → Option Value} {base : Heap} {x qual : Str} {st : Stmt} {f : Addr} {fd : FuncData} {N ps : List Str} {k : Nat} {body : Ss} (Fu : Fun K x qual st f fd) (S : FnScope N ps (defScope st)) (hm : mg x = some (.ref f)) (hb : Binds K fd ps [])
    (hbody : ∀ (cdv : Value) (A : Around) (outer : List Env) (s : Shared) (H : Hp) (E : XK), Room k (A.deeper (PyProof.Rows.envOfC qual (defScope st) s.heap.objs.size f cdv)) →
      PSs (cxOf (L2.CX P w) P w K mg base N qual (defScope st) f cdv A outer s H E) (defBody st) (tP K mg (fun cls d _ H => E cls d H) body)) : FnD P w K mg base (k + 1) x ps.length (runD N.length body) := ⟨f, fd, ps, FnD.mkOk Fu S hm hb hbody, hm, Fu.kp, hb⟩
end Dl
/-! Dl10: lists made of lists, slices, dicts of a few texts, several names at once. -/
namespace Dl
open PySem L2

section
variable {X : Cx} {W : WX} {pos : Pos} {a b : Expr} {sa sb : Sx}
/-! ### new lists -/
def asL : D → Option (List D)
  | .lst xs => some xs
  | _ => none
def sCat (a b : Sx) : Sl := fun ρ => bd (a ρ) fun x => bd (b ρ) fun y => lift
  (match x, y with
  | .lst xs, .lst ys => if okLen (xs.length + ys.length) then some (xs ++ ys) else none
  | _, _ => none)
theorem l_cat (ha : PE X a (tS X.K X.mg W sa)) (hb : PE X b (tS X.K X.mg W sb)) : PE X (.BinOp a .Add b pos) (tL X.K X.mg W (sCat sa sb)) := by
  refine pe_imp (pe_op op_cat ha hb) fun σ H Q ⟨ρ, F, z, v, e, fin⟩ => ?_
  refine part v e fin fun dx x F1 H1 _ e g v1 rx fin1 => ?_
  refine part v1 e fin1 fun dy y F2 H2 _ e g2 v2 ry fin2 => ?_
  obtain ⟨ds, e', rfl⟩ := lift_some e
  split at e'
  · split at e'
    · rename_i hl
      cases e'
      cases rx with
      | lst h1 r1 =>
        cases ry with
        | lst h2 r2 =>
          refine ⟨_, _, _, _, rfl, rfl, g2.h _ _ (v1.e _ _ h1), v2.e _ _ h2, by rw [r1.length, r2.length]; exact okLen_line hl, fun p hp => ?_⟩
          exact fin2 (.ref p) F2 _ (.only v2.e hp) ⟨p, _, rfl, hp, v2.e.none hp, upd_same, (r1.mo g2.f).append r2⟩
    · cases e'
  · cases e'
/-- xs * n -/
def sRepL (a b : Sx) : Sl := fun ρ => bd (a ρ) fun x => bd (b ρ) fun y => lift
  (match x, y with
  | .lst xs, .int k => if decide (0 ≤ k) && decide (k ≤ 1000) && okLen (xs.length * k.toNat) then some (List.replicate k.toNat xs).flatten else none
  | _, _ => none)
theorem l_rep (ha : PE X a (tS X.K X.mg W sa)) (hb : PE X b (tS X.K X.mg W sb)) : PE X (.BinOp a .Mult b pos) (tL X.K X.mg W (sRepL sa sb)) := by
  refine pe_imp (pe_op op_rep ha hb) fun σ H Q ⟨ρ, F, z, v, e, fin⟩ => ?_
  refine part v e fin fun dx x F1 H1 _ e g v1 rx fin1 => ?_
  refine part v1 e fin1 fun dy y F2 H2 _ e g2 v2 ry fin2 => ?_
  obtain ⟨ds, e', rfl⟩ := lift_some e
  split at e'
  · split at e'
    · rename_i hl
      simp only [Bool.and_eq_true, decide_eq_true_eq] at hl
      cases e'
      cases ry
      cases rx with
      | lst h1 r1 =>
        refine ⟨_, _, _, rfl, rfl, g2.h _ _ (v1.e _ _ h1), by omega, by omega, by rw [r1.length]; exact okLen_line hl.2, fun p hp => ?_⟩
        exact fin2 (.ref p) F2 _ (.only v2.e hp) ⟨p, _, rfl, hp, v2.e.none hp, upd_same, (r1.mo g2.f).rep _⟩
    · cases e'
  · cases e'
/-- list(xs) -/
def sListOf (a : Sx) : Sl := fun ρ => bd (a ρ) fun x => lift (itemsOf x)
theorem l_listOf {p : Pos} (hm : X.mg "list" = none) (ha : PE X a (tS X.K X.mg W sa)) (hg : Gl X "list" := by rfl) (hv : bootBuiltins "list" = some (.type "list") := by decide +kernel)
    (he : starEach [a] X.env = (false, eval a X.env) :: starEach [] X.env := by rfl) (hpl : (backTo pos (starEach [] X.env)).any (·.1) = false := by rfl) : PE X (.Call (.Name "list" p) [a] [] pos) (tL X.K X.mg W (sListOf sa)) := by
  refine pe_imp (pe_callTy call_list_of hg hm hv (pa_cons ha pa_nil he) (by decide) (by decide) he hpl) fun σ H Q ⟨ρ, F, z, v, e, fin⟩ => ?_
  refine part v e fin fun dx x F1 H1 _ e g v1 rx fin1 => ?_
  obtain ⟨ds, e', rfl⟩ := lift_some e
  cases dx <;> first | (cases e'; done) | skip
  · cases e'
    cases rx with
    | tup h1 r1 => exact ⟨_, _, rfl, .inr (v1.e.sqT h1), fun l hl => fin1 (.ref l) F1 _ (.only v1.e hl) ⟨l, _, rfl, hl, v1.e.none hl, upd_same, r1⟩⟩
  · cases e'
    cases rx with
    | lst h1 r1 => exact ⟨_, _, rfl, .inl (.inl (.inl (v1.e _ _ h1))), fun l hl => fin1 (.ref l) F1 _ (.only v1.e hl) ⟨l, _, rfl, hl, v1.e.none hl, upd_same, r1⟩⟩
/-- list(range(..)) -/
def sListRg (a b : Sx) : Sl := fun ρ => bd (a ρ) fun x => bd (b ρ) fun y => lift
  (match x, y with
  | .int i, .int j => if decide (-1000000 ≤ i) && decide (i ≤ 1000000) && decide (-1000000 ≤ j) && decide (j ≤ 1000000) then some (rgD i (j - i).toNat) else none
  | _, _ => none)
theorem rgV_rep {mg : Str → Option Value} {K : PySem.W.Frag} {F : Hp} (i j : Int) : RepAll K mg F (rgV i j) (rgD i (j - i).toNat) := by
  unfold rgV rgD
  have : ∀ l : List Nat, RepAll K mg F (l.map fun n => V.int (i + (n : Nat))) (l.map fun n => D.int (i + (n : Nat))) := fun l => by
    induction l with
    | nil => exact .nil
    | cons n l ih => exact .cons (.int _) ih
  exact this _
def sListRg1 (b : Sx) : Sl := fun ρ => bd (b ρ) fun y => lift
  (match y with
  | .int j => if decide (-1000000 ≤ j) && decide (j ≤ 1000000) then some (rgD 0 j.toNat) else none
  | _ => none)
theorem l_listRg1 {p p2 q : Pos} (hc : X.calm = true) (hm : X.mg "list" = none) (hm2 : X.mg "range" = none) (hb : PE X b (tS X.K X.mg W sb)) (hg : Gl X "list" := by rfl) (hg2 : Gl X "range" := by rfl)
    (na : starEach [b] X.env = (false, eval b X.env) :: starEach [] X.env := by rfl) (na2 : starEach [.Call (.Name "range" p2) [b] [] q] X.env = (false, eval (.Call (.Name "range" p2) [b] [] q) X.env) :: starEach [] X.env := by rfl) :
    PE X (.Call (.Name "list" p) [.Call (.Name "range" p2) [b] [] q] [] pos) (tL X.K X.mg W (sListRg1 sb)) := by
  refine pe_imp (pe_listRg hc hg hm (prg_1 hg2 hm2 hb na) na2) fun σ H Q ⟨ρ, F, z, v, e, fin⟩ => ?_
  refine part v e fin fun dy y F2 H2 _ e g2 v2 ry fin2 => ?_
  obtain ⟨ds, e', rfl⟩ := lift_some e
  split at e'
  · rename_i j es
    split at e'
    · rename_i c
      simp only [Bool.and_eq_true, decide_eq_true_eq] at c
      cases e'
      cases ry
      refine ⟨j, rfl, ⟨by omega, by omega, by omega, by omega, by omega⟩, fun l hl => fin2 (.ref l) F2 _ (.only v2.e hl) ⟨l, _, rfl, hl, v2.e.none hl, upd_same, ?_⟩⟩
      have := rgV_rep (mg := X.mg) (K := X.K) (F := F2) 0 j
      rw [Int.sub_zero] at this
      exact this
    · cases e'
  · cases e'
theorem l_listRg2 {p p2 q : Pos} (hc : X.calm = true) (hm : X.mg "list" = none) (hm2 : X.mg "range" = none) (ha : PE X a (tS X.K X.mg W sa)) (hb : PE X b (tS X.K X.mg W sb)) (hg : Gl X "list" := by rfl) (hg2 : Gl X "range" := by rfl)
    (na : starEach [a, b] X.env = (false, eval a X.env) :: starEach [b] X.env := by rfl) (na1 : starEach [b] X.env = (false, eval b X.env) :: starEach [] X.env := by rfl) (na2 : starEach [.Call (.Name "range" p2) [a, b] [] q] X.env = (false, eval (.Call (.Name "range" p2) [a, b] [] q) X.env) :: starEach [] X.env := by rfl) (hpl : (backTo q (starEach [b] X.env)).any (·.1) = false := by rfl) :
    PE X (.Call (.Name "list" p) [.Call (.Name "range" p2) [a, b] [] q] [] pos) (tL X.K X.mg W (sListRg sa sb)) := by
  refine pe_imp (pe_listRg hc hg hm (prg_2 hg2 hm2 ha hb na na1 hpl) na2) fun σ H Q ⟨ρ, F, z, v, e, fin⟩ => ?_
  refine part v e fin fun dx x F1 H1 _ e g v1 rx fin1 => ?_
  refine part v1 e fin1 fun dy y F2 H2 _ e g2 v2 ry fin2 => ?_
  obtain ⟨ds, e', rfl⟩ := lift_some e
  split at e'
  · split at e'
    · rename_i c
      simp only [Bool.and_eq_true, decide_eq_true_eq] at c
      cases e'
      cases rx
      cases ry
      exact ⟨_, _, rfl, rfl, ⟨by omega, by omega, by omega, by omega, by omega⟩, fun l hl => fin2 (.ref l) F2 _ (.only v2.e hl) ⟨l, _, rfl, hl, v2.e.none hl, upd_same, rgV_rep _ _⟩⟩
    · cases e'
  · cases e'

/-! ### slices -/
def sPart (a : Sx) : Rho → Oe (Option Int) := fun ρ => bd (a ρ) fun d =>
  match d with
  | .int i => some (.ok (some i))
  | _ => none
def sNoPart : Rho → Oe (Option Int) := fun _ => some (.ok none)
theorem p_none : PO X none (tK X.K X.mg W kO sNoPart) := po_imp po_none fun σ H Q ⟨ρ, F, z, v, e, fin⟩ => by cases e; exact fin none F H (.refl v.e) rfl
theorem p_some (ha : PE X a (tS X.K X.mg W sa)) : PO X (some a) (tK X.K X.mg W kO (sPart sa)) := by
  refine po_imp (po_some ha) fun σ H Q ⟨ρ, F, z, v, e, fin⟩ => ?_
  refine part v e fin fun dx x F1 H1 _ e g v1 rx fin1 => ?_
  split at e
  · cases rx; cases e
    exact ⟨_, rfl, fin1 _ F1 H1 (.refl v1.e) rfl⟩
  · cases e
def cutD (xs : List D) (lo hi : Option Int) : List D := (xs.drop (HT.sIx xs.length 0 lo)).take (HT.sIx xs.length xs.length hi - HT.sIx xs.length 0 lo)
theorem cut_rep {K : PySem.W.Frag} {mg : Str → Option Value} {F : Hp} {xs : List V} {ds : List D} (r : RepAll K mg F xs ds) (lo hi : Option Int) : RepAll K mg F (cutV xs lo hi) (cutD ds lo hi) := by
  unfold cutV cutD
  rw [r.length]
  exact (r.drop _).take _
theorem cutD_whole {xs : List D} {lo hi : Option Int} (h : HT.sIx xs.length 0 lo = 0 ∧ HT.sIx xs.length xs.length hi = xs.length) : cutD xs lo hi = xs := by
  unfold cutD
  rw [h.1, h.2]; simp
variable {lo hi : Option Expr} {sl sh : Rho → Oe (Option Int)} {p2 : Pos}
def sCutT (a : Sx) (l h : Rho → Oe (Option Int)) : Sx := fun ρ => bd (a ρ) fun x => bd (l ρ) fun i => bd (h ρ) fun j => lift
  (match x with
  | .tup xs => some (.tup (cutD xs i j))
  | _ => none)
theorem d_cutT (ha : PE X a (tS X.K X.mg W sa)) (hl : PO X lo (tK X.K X.mg W kO sl)) (hh : PO X hi (tK X.K X.mg W kO sh)) : PE X (.Subscript a (.Slice lo hi none p2) pos) (tS X.K X.mg W (sCutT sa sl sh)) := by
  refine pe_imp (pe_slice sl_tupA ha hl hh) fun σ H Q ⟨ρ, F, z, v, e, fin⟩ => ?_
  refine part v e fin fun dx x F1 H1 _ e g v1 rx fin1 => ?_
  refine part v1 e fin1 fun i i' F2 H2 _ e g2 v2 ri fin2 => ?_
  refine part v2 e fin2 fun j j' F3 H3 _ e g3 v3 rj fin3 => ?_
  cases ri; cases rj
  obtain ⟨dz, e', rfl⟩ := lift_some e
  split at e'
  · cases e'
    cases rx with
    | tup h1 r1 =>
      have h3 := (g2.f.trans g3.f).sqT h1
      have r3 := r1.mo (g2.f.trans g3.f)
      refine ⟨_, _, rfl, v3.e.sqT h3, fun hw => ?_, fun _ p hp => ?_⟩
      · rw [r3.length] at hw
        refine fin3 _ F3 H3 (.refl v3.e) ?_
        rw [cutD_whole hw]
        exact .tup h3 r3
      · exact fin3 _ _ _ (.both v3.e hp) (.tup (.inl (.inl upd_same)) ((cut_rep r3 _ _).mo (.new (v3.e.none hp))))
  · cases e'
def sCutL (a : Sx) (l h : Rho → Oe (Option Int)) : Sl := fun ρ => bd (a ρ) fun x => bd (l ρ) fun i => bd (h ρ) fun j => lift
  (match x with
  | .lst xs => some (cutD xs i j)
  | _ => none)
theorem l_cut (ha : PE X a (tS X.K X.mg W sa)) (hl : PO X lo (tK X.K X.mg W kO sl)) (hh : PO X hi (tK X.K X.mg W kO sh)) : PE X (.Subscript a (.Slice lo hi none p2) pos) (tL X.K X.mg W (sCutL sa sl sh)) := by
  refine pe_imp (pe_slice sl_list ha hl hh) fun σ H Q ⟨ρ, F, z, v, e, fin⟩ => ?_
  refine part v e fin fun dx x F1 H1 _ e g v1 rx fin1 => ?_
  refine part v1 e fin1 fun i i' F2 H2 _ e g2 v2 ri fin2 => ?_
  refine part v2 e fin2 fun j j' F3 H3 _ e g3 v3 rj fin3 => ?_
  cases ri; cases rj
  obtain ⟨dz, e', rfl⟩ := lift_some e
  split at e'
  · cases e'
    cases rx with
    | lst h1 r1 =>
      exact ⟨_, _, rfl, .inl (.inl ((g2.h.trans g3.h) _ _ (v1.e _ _ h1))), fun p hp => fin3 (.ref p) F3 _ (.only v3.e hp) ⟨p, _, rfl, hp, v3.e.none hp, upd_same, cut_rep (r1.mo (g2.f.trans g3.f)) _ _⟩⟩
  · cases e'
end

/-! ### dicts of a few texts -/
def toV : D → Option V
  | .non => some .non
  | .bl b => some (.bl b)
  | .int i => some (.int i)
  | .str x => some (.str x)
  | _ => none
def ofV : V → D
  | .bl b => .bl b
  | .int i => .int i
  | .str x => .str x
  | _ => .non
section
variable {K : PySem.W.Frag} {mg : Str → Option Value} {F : Hp}
theorem toV_rep {d : D} {v u : V} (r : Rep K mg F v d) (h : toV d = some u) : v = u ∧ flatV u = true := by
  cases r <;> simp only [toV, Option.some.injEq, reduceCtorEq] at h <;> subst h <;> exact ⟨rfl, rfl⟩
theorem ofV_rep {v : V} (h : flatV v = true) : Rep K mg F v (ofV v) := by
  cases v <;> first | (simp [flatV] at h; done) | skip
  · exact .non
  · exact .bl _
  · exact .int _
  · exact .str _
end
def kD : Kd V (List (Key × V)) := ⟨fun H F' H' v kvs => ∃ p, v = .ref p ∧ H p = none ∧ F' p = none ∧ H' p = some (.dK kvs) ∧ (kvs.all fun q => flatV q.2) = true, fun e ⟨p, a, b, c⟩ => ⟨p, a, e.none b, c⟩⟩
def sPairs : List (Str × Sx) → Rho → Oe (List (Key × V))
  | [], _ => some (.ok [])
  | (k, s) :: r, ρ => bd (s ρ) fun d => bd (lift (toV d)) fun v => bd (sPairs r ρ) fun l => some (.ok ((Sum.inr k, v) :: l))
def sDisp (l : List (Str × Sx)) : Rho → Oe (List (Key × V)) := fun ρ =>
  match sPairs l ρ with
  | some (.ok kvs) => if decide (kvs.length ≤ 15) then some (.ok (mergeK [] kvs)) else none
  | _ => none
section
variable {X : Cx} {W : WX} {pos : Pos} {a b : Expr} {sa sb : Sx}
structure DPs (X : Cx) (W : WX) (pos : Pos) (keys : List (Option Expr)) (values : List Expr) (l : List (Str × Sx)) : Prop where
  ex : PPs X pos keys values (l.map fun p => (tC (.str p.1), tS X.K X.mg W p.2))
theorem dp_nil : DPs X W pos [] [] [] := ⟨pps_nil⟩
theorem dp_cons {k : Str} {j : Nat} {p2 : Pos} {ks : List (Option Expr)} {vs : List Expr} {l : List (Str × Sx)} (ha : PE X a (tS X.K X.mg W sa)) (hr : DPs X W pos ks vs l) : DPs X W pos (some (.Constant (.str k) j p2) :: ks) (a :: vs) ((k, sa) :: l) := ⟨pps_cons pe_str ha hr.ex⟩
theorem pairs_reads : ∀ (l : List (Str × Sx)) {ρ : Rho} {σ : St} {F H : Hp} {p : Addr} {kvs : List (Key × V)} {Q : List (V × V) → Hp → Prop}, View X.K X.mg F H σ ρ → F p = none → H p = some (.dK []) → sPairs l ρ = some (.ok kvs) →
    (∀ F' H', Grow F H F' H' → F' p = none → (kvs.all fun q => flatV q.2) = true → Q (kvs.map fun kv => (L2.kV kv.1, kv.2)) H') → tPairs (l.map fun p => (tC (.str p.1), tS X.K X.mg W p.2)) σ H Q
  | [], ρ, σ, F, H, p, kvs, Q, v, hF, hH, e, q => by
    cases e
    exact q F H (.refl v.e) hF rfl
  | (k, s) :: r, ρ, σ, F, H, p, kvs, Q, v, hF, hH, e, q => by
    show tS X.K X.mg W s σ H fun y H2 => tPairs (r.map fun p => (tC (.str p.1), tS X.K X.mg W p.2)) σ H2 fun ps H3 => Q ((V.str k, y) :: ps) H3
    rcases bd_some e with ⟨d, ed, e⟩ | ⟨c, _, h⟩
    · rcases bd_some e with ⟨u, eu, e⟩ | ⟨c, _, h⟩
      · rcases bd_some e with ⟨kvs', ek, e⟩ | ⟨c, _, h⟩
        · cases e
          obtain ⟨u', eu', hu⟩ := lift_some eu
          cases hu
          refine ⟨ρ, F, .ok d, v, ed, fun y F2 H2 g ry => ?_⟩
          obtain ⟨rfl, fu⟩ := toV_rep ry eu'
          have hF2 : F2 p = none := by
            cases z : F2 p with
            | none => rfl
            | some o =>
              rcases g.n p o z with w | w
              · rw [hF] at w; cases w
              · rw [hH] at w; cases w
          refine pairs_reads r (v.mo g) hF2 (g.h _ _ hH) ek fun F3 H3 g3 hF3 fa => ?_
          exact q F3 H3 (g.trans g3) hF3 (by rw [List.all_cons, fu, fa]; rfl)
        · cases h
      · cases h
    · cases h
theorem putK_flat {kvs : List (Key × V)} {k : Key} {v : V} (h : (kvs.all fun q => flatV q.2) = true) (hv : flatV v = true) : ((putK kvs k v).all fun q => flatV q.2) = true := by
  unfold putK
  split
  · rw [List.all_map]
    rw [List.all_eq_true] at h ⊢
    intro x hx
    show flatV (if x.1 = k then (x.1, v) else x).2 = true
    split
    · exact hv
    · exact h x hx
  · rw [List.all_append, h]; simp [hv]
theorem mergeK_flat : ∀ (more : List (Key × V)) {kvs : List (Key × V)}, (kvs.all fun q => flatV q.2) = true → (more.all fun q => flatV q.2) = true → ((mergeK kvs more).all fun q => flatV q.2) = true
  | [], _, h, _ => h
  | p :: r, kvs, h, hm => by
    rw [List.all_cons, Bool.and_eq_true] at hm
    exact mergeK_flat r (kvs := putK kvs p.1 p.2) (putK_flat h hm.1) hm.2
theorem k_disp {keys : List (Option Expr)} {values : List Expr} {l : List (Str × Sx)} (h : DPs X W pos keys values l) (hall : keys.all (·.isSome) = true := by rfl) (hl : keys.length = values.length := by rfl) (h0 : keys ≠ [] := by exact fun z => by cases z)
    (h15 : keys.length ≤ 15 := by decide) : PE X (.Dict keys values pos) (tK X.K X.mg W kD (sDisp l)) := by
  refine pe_imp (pe_disp h.ex hall hl h0 h15) fun σ H Q ⟨ρ, F, z, v, e, fin⟩ => ?_
  unfold sDisp at e
  split at e
  · rename_i kvs ek
    split at e
    · rename_i hn
      cases e
      intro p hp
      have hFp := v.e.none hp
      have v1 : View X.K X.mg F (upd H p (.dK [])) σ ρ := ⟨v.e.trans (.new hp), v.v, v.l⟩
      refine pairs_reads l v1 hFp upd_same ek fun F2 H2 g hF2 fa => ?_
      have hH2 : H2 p = some (.dK []) := g.h _ _ upd_same
      refine ⟨hH2, kvs, rfl, of_decide_eq_true hn, ?_⟩
      refine fin (.ref p) F2 _ ⟨g.f, fun a o q => ?_, fun a o q => ?_, fun a o q => ?_⟩ ⟨p, rfl, hp, hF2, upd_same, mergeK_flat kvs rfl fa⟩
      · have : a ≠ p := ne_of_none q hp
        rw [upd_ne this]
        exact g.h a o (by rw [upd_ne this]; exact q)
      · rw [upd_ne (ne_of_none q hF2)]; exact g.s a o q
      · rcases g.n a o q with w | w
        · exact .inl w
        · by_cases ha : a = p
          · subst ha; exact .inr hp
          · rw [upd_ne ha] at w; exact .inr w
    · cases e
  · cases e
def sSetD (ms : List Nat) (i : Nat) (e : Rho → Oe (List (Key × V))) : Ss := fun ρ => stp ms e ρ fun kvs => some (.nx (ρ.set i (.own (.dic kvs))))
theorem s_setD {i : Nat} {x : Str} {e : Expr} {se : Rho → Oe (List (Key × V))} {pos' : Pos} (ms : List Nat) (hN : X.N.Nodup) (he : PE X e (tK X.K X.mg W kD se)) (hi : X.N[i]? = some x := by rfl) (hx : Loc X.env.scope x := by first | exact Or.inl rfl | exact Or.inr rfl) (hs : swapsWith e (some (.Name x pos')) pos.line X.env = pure false := by rfl)
    (hf : X.fn x = true ∨ X.env.scope.names.lookup x = some .local := by first | exact .inl rfl | exact .inr rfl | assumption) : PS X (.Assign [.Name x pos'] e pos) (tP X.K X.mg W (sSetD ms i se)) := by
  refine ps_imp (ps_set hN hi hx he hs hf) fun D σ H ⟨F0, H0, ρ, F, fl, S, e, post⟩ => ?_
  refine stK S e post fun kvs v F2 H1 e gr r => ?_
  cases e
  obtain ⟨p, rfl, hp, hF, hH, fa⟩ := r
  obtain ⟨S', e', _⟩ := S.seen gr
  have hF3 : delH F2 (ownAddrs ms ρ σ) p = none := by
    by_cases q : p ∈ ownAddrs ms ρ σ
    · exact delH_in q
    · rw [delH_out q]; exact hF
  exact post _ _ H1 (S'.setOwn (d := .dic kvs) (S.g.h.none hp) hF3 ⟨hH, fa⟩ (fun j d _ hj z => (S.fresh hp hj z).1 rfl) fun j d q _ hj z => (S.fresh hp hj z).2 H1 gr.h) e'
/-- d[k] = e -/
def sPutD (ms : List Nat) (i : Nat) (k : Str) (e : Sx) : Ss := fun ρ =>
  match ρ[i]? with
  | some (.own (.dic kvs)) => stp ms e ρ fun d =>
    match toV d with
    | some v => if decide (kvs.length ≤ 15) then some (.nx (ρ.set i (.own (.dic (putK kvs (Sum.inr k) v))))) else none
    | none => none
  | _ => none
theorem s_putD {i : Nat} {x k : Str} {e : Expr} {se : Sx} {j : Nat} {p1 p2 pos' : Pos} (ms : List Nat) (hu : X.A.units + 1 < cLine) (he : PE X e (tS X.K X.mg W se)) (hN : X.N[i]? = some x := by rfl) (hv : Vis X.env.scope x := by first | exact Or.inl rfl | exact Or.inr (Or.inl rfl) | exact Or.inr (Or.inr rfl)) (hd : (x == ("__debug__" : Str)) = false := by decide)
    (hcd : (x == ("__classdict__" : Str)) = false := by decide) (hs : swapsWith e (some (.Subscript (.Name x p1) (.Constant (.str k) j p2) pos')) pos.line X.env = pure false := by rfl) :
    PS X (.Assign [.Subscript (.Name x p1) (.Constant (.str k) j p2) pos'] e pos) (tP X.K X.mg W (sPutD ms i k se)) := by
  refine ps_imp (ps_dput hu (pe_var (i := i) hN hv hd hcd) pe_str he hs) fun D σ H ⟨F0, H0, ρ, F, fl, S, e, post⟩ => ?_
  unfold sPutD at e
  split at e
  · rename_i kvs hρ
    obtain ⟨p, hp, _, _, hx, fa⟩ := S.s i _ hρ
    refine stK S e post fun d v F2 H1 e gr r => ?_
    split at e
    · rename_i u hu'
      split at e
      · rename_i hl
        cases e
        obtain ⟨rfl, fu⟩ := toV_rep r hu'
        obtain ⟨S', e', _⟩ := S.seen gr
        have hx1 : H1 p = some (.dK kvs) := gr.h _ _ hx
        refine ⟨.ref p, hp, p, _, rfl, DPut.k (k := Sum.inr k) hx1 (Nat.lt_of_le_of_lt (of_decide_eq_true hl) (by decide)), ?_⟩
        exact post σ _ _ (S'.write hρ hp ⟨upd_same, putK_flat fa fu⟩) e'
      · cases e
    · cases e
  · cases e
/-- d[k] -/
def dGetK : D → D → Option D
  | .dic kvs, .str k => (valV kvs (Sum.inr k)).map ofV
  | _, _ => none
theorem valV_flat : ∀ {kvs : List (Key × V)} {k : Key} {v : V}, (kvs.all fun q => flatV q.2) = true → valV kvs k = some v → flatV v = true
  | [], _, _, _, h => by cases h
  | p :: r, k, v, h, e => by
    rw [List.all_cons, Bool.and_eq_true] at h
    by_cases hp : p.1 = k
    · rw [valV_pos hp] at e; cases e; exact h.1
    · rw [valV_neg hp] at e; exact valV_flat h.2 e
theorem d_getK (hu : X.A.units + 1 < cLine) (ha : PE X a (tS X.K X.mg W sa)) (hb : PE X b (tS X.K X.mg W sb)) (hs : NoSl b := by exact fun _ _ => rfl) : PE X (.Subscript a b pos) (tS X.K X.mg W (sOp dGetK sa sb)) := by
  refine pe_imp (pe_dget hu ha hb hs) fun σ H Q ⟨ρ, F, z, v, e, fin⟩ => ?_
  refine part v e fin fun dx x F1 H1 _ e g v1 rx fin1 => ?_
  refine part v1 e fin1 fun dy y F2 H2 _ e g2 v2 ry fin2 => ?_
  obtain ⟨dz, e', rfl⟩ := lift_some e
  unfold dGetK at e'
  split at e'
  · obtain ⟨u, hu', rfl⟩ := Option.map_eq_some_iff.mp e'
    cases ry
    cases rx with
    | dic h1 fa =>
      refine ⟨_, u, rfl, ?_, fin2 u F2 H2 (.refl v2.e) (ofV_rep (valV_flat fa hu'))⟩
      rw [← hu']
      exact DGet.k (k := Sum.inr _) (g2.h _ _ (v1.e _ _ h1))
  · cases e'
end
end Dl
/-! Dl11: a, b = x, y. -/
namespace Dl
open PySem L2

inductive MI where
  | s (e : Sx) | l (e : Sl)
inductive MR where
  | d (d : D) | l (ds : List D)
def sMix : List MI → Rho → Oe (List MR)
  | [], _ => some (.ok [])
  | .s e :: r, ρ => bd (e ρ) fun d => bd (sMix r ρ) fun l => some (.ok (.d d :: l))
  | .l e :: r, ρ => bd (e ρ) fun ds => bd (sMix r ρ) fun l => some (.ok (.l ds :: l))
section
variable (K : PySem.W.Frag) (mg : Str → Option Value) (H F' H' : Hp)
inductive MAll : List V → List MR → Prop
  | nil : MAll [] []
  | d {v : V} {d : D} {vs : List V} {rs : List MR} : Rep K mg F' v d → MAll vs rs → MAll (v :: vs) (.d d :: rs)
  | l {p : Addr} {xs : List V} {ds : List D} {vs : List V} {rs : List MR} : H p = none → F' p = none → H' p = some (.lst xs) → RepAll K mg F' xs ds → (∀ (i : Nat) (es : List D), rs[i]? = some (.l es) → vs[i]? ≠ some (.ref p)) → MAll vs rs → MAll (.ref p :: vs) (.l ds :: rs)
end
section
variable {K : PySem.W.Frag} {mg : Str → Option Value} {W : WX} {F H F' H' H1 F0 H0 : Hp} {σ : St} {ρ : Sig}
theorem MAll.mono {vs : List V} {rs : List MR} (e : Ex H H1) (h : MAll K mg H1 F' H' vs rs) : MAll K mg H F' H' vs rs := by
  induction h with
  | nil => exact .nil
  | d r _ ih => exact .d r ih
  | l a b c r n _ ih => exact .l (e.none a) b c r n ih
theorem MAll.length {vs : List V} {rs : List MR} (h : MAll K mg H F' H' vs rs) : vs.length = rs.length := by
  induction h with
  | nil => rfl
  | d r _ ih => simp [ih]
  | l a b c r n _ ih => simp [ih]
theorem MAll.fresh {vs : List V} {rs : List MR} (h : MAll K mg H F' H' vs rs) : ∀ (i : Nat) (es : List D) (p : Addr), rs[i]? = some (.l es) → vs[i]? = some (.ref p) → H p = none := by
  induction h with
  | nil => intro i es p h1 _; simp at h1
  | d r _ ih =>
    intro i es p h1 h2
    cases i with
    | zero => simp at h1
    | succ i => exact ih i es p (by simpa using h1) (by simpa using h2)
  | l a b c r n _ ih =>
    intro i es p h1 h2
    cases i with
    | zero => simp at h2; rw [← h2]; exact a
    | succ i => exact ih i es p (by simpa using h1) (by simpa using h2)
def kM (K : PySem.W.Frag) (mg : Str → Option Value) : Kd (List V) (List MR) := ⟨fun H F' H' vs rs => MAll K mg H F' H' vs rs, fun e h => h.mono e⟩
def mlf : MR → Bool
  | .d d => lf d
  | .l ds => lfAll ds
theorem MAll.seen {vs : List V} {rs : List MR} {F2 : Hp} (h : MAll K mg H F' H' vs rs) (t : Tups (K := K) F' F2) (n : ∀ p, F' p = none → F2 p = none) (hl : rs.all mlf = true) : MAll K mg H F2 H' vs rs := by
  induction h with
  | nil => exact .nil
  | d r _ ih =>
    rw [List.all_cons, Bool.and_eq_true] at hl
    exact .d (Rep.lf t _ _ hl.1 r) (ih hl.2)
  | l a b c r m _ ih =>
    rw [List.all_cons, Bool.and_eq_true] at hl
    exact .l a (n _ b) c (RepAll.lf t _ _ hl.1 r) m (ih hl.2)
def setM : Sig → List Nat → List MR → Sig
  | ρ, i :: is, .d d :: rs => setM (ρ.set i (.dat d)) is rs
  | ρ, i :: is, .l ds :: rs => setM (ρ.set i (.own (.lst ds))) is rs
  | ρ, _, _ => ρ
theorem StOk.setM : ∀ (is : List Nat) {σ : St} {ρ : Sig} {vs : List V} {rs : List MR}, StOk K mg F0 H0 F' H' σ ρ → MAll K mg H F' H' vs rs → Ex H0 H →
    (∀ (i : Nat) (es : List D) (p : Addr), rs[i]? = some (.l es) → vs[i]? = some (.ref p) → ∀ (j : Nat) (e : D) (q : Addr), ρ[j]? = some (.own e) → σ[j]? = some (some (.ref q)) → q ≠ p ∧ p ∉ kids H' q) → StOk K mg F0 H0 F' H' (setV σ is vs) (Dl.setM ρ is rs)
  | [], σ, ρ, vs, rs, S, _, _, _ => by
    cases rs <;> simpa only [setV, Dl.setM] using S
  | i :: is, σ, ρ, vs, rs, S, m, e0, fr => by
    cases m with
    | nil => simpa only [setV, Dl.setM] using S
    | d r ms =>
      refine StOk.setM is (S.set r) ms e0 fun k es p h1 h2 j e q hj z => ?_
      by_cases hij : i = j
      · subst hij
        by_cases hi : i < ρ.length
        · rw [List.getElem?_set_self hi] at hj; cases hj
        · rw [List.getElem?_eq_none (by rw [List.length_set]; omega)] at hj; cases hj
      · rw [List.getElem?_set_ne hij] at hj z
        exact fr (k + 1) es p (by simpa using h1) (by simpa using h2) j e q hj z
    | @l q xs ds vs rs a b c r n ms =>
      refine StOk.setM is (S.setOwn (d := .lst ds) (e0.none a) b ⟨xs, c, r⟩ (fun j e _ hj z => (fr 0 ds q rfl rfl j e q hj z).1 rfl) fun j e q2 _ hj z => (fr 0 ds q rfl rfl j e q2 hj z).2) ms e0 fun k es p h1 h2 j e q2 hj z => ?_
      by_cases hij : i = j
      · subst hij
        by_cases hi : i < ρ.length
        · rw [List.getElem?_set_self (by rw [← S.len]; exact hi)] at z
          cases z
          refine ⟨fun w => ?_, by rw [kids_lst c]; exact List.not_mem_nil⟩
          subst w
          exact n k es h1 h2
        · rw [List.getElem?_eq_none (by rw [List.length_set]; omega)] at hj; cases hj
      · rw [List.getElem?_set_ne hij] at hj z
        exact fr (k + 1) es p (by simpa using h1) (by simpa using h2) j e q2 hj z
/-- what the names hold behind -/
def parS (ms is : List Nat) (ρ : Sig) (rs : List MR) : Option Fl :=
  if rs.length = is.length then some (.nx (setM (if rs.all mlf then ρ else frz ms ρ) is rs)) else none
def sPar (ms is : List Nat) (l : List MI) : Ss := fun ρ => stp ms (sMix l) ρ (parS ms is ρ)
theorem par_after {ms is : List Nat} {rs : List MR} {vs : List V} {fl : Fl} {Dn : Ends} {F2 H1 : Hp} (S : StOk K mg F0 H0 F H σ ρ) (gr : Grow (addH F H (ownAddrs ms ρ σ)) H F2 H1) (m : MAll K mg H F2 H1 vs rs) (e : parS ms is ρ rs = some fl) (post : PostS K mg W F0 H0 F fl Dn) :
    vs.length = is.length ∧ ∀ H2, (∀ F3, Ex F3 H1 → Grow F3 H1 F3 H2) → Dn.nx (setV σ is vs) H2 := by
  unfold parS at e
  split at e
  · rename_i hl
    cases e
    refine ⟨by rw [m.length]; exact hl, fun H2 hg => ?_⟩
    have old : ∀ (i : Nat) (es : List D) (p : Addr), rs[i]? = some (.l es) → vs[i]? = some (.ref p) → ∀ (j : Nat) (e : D) (q : Addr), ρ[j]? = some (.own e) → σ[j]? = some (some (.ref q)) → q ≠ p ∧ p ∉ kids H1 q := fun i es p h1 h2 j e q hj z => by
      have hp := m.fresh i es p h1 h2
      exact ⟨(S.fresh hp hj z).1, (S.fresh hp hj z).2 H1 gr.h⟩
    by_cases hlf : rs.all mlf = true
    · rw [if_pos hlf] at post
      obtain ⟨S', e', t⟩ := S.seen gr
      have m' := m.seen t (fun p h => by
        by_cases q : p ∈ ownAddrs ms ρ σ
        · exact delH_in q
        · rw [delH_out q]; exact h) hlf
      have S2 := StOk.setM is S' m' S.g.h old
      exact post _ _ H2 (S2.grow (hg _ S2.g.s)) e'
    · rw [if_neg hlf] at post
      have S' := S.frozen gr
      have S2 := StOk.setM is S' m S.g.h fun i es p h1 h2 j e q hj z => by
        have : ∃ c, ρ[j]? = some (.own c) := by
          unfold frz at hj
          rw [frzF_get] at hj
          obtain ⟨t, ht, q⟩ := Option.map_eq_some_iff.mp hj
          cases t with
          | own c => exact ⟨c, ht⟩
          | dat c => cases q
          | no => cases q
        obtain ⟨c, hc⟩ := this
        exact old i es p h1 h2 j c q hc z
      exact post _ _ H2 (S2.grow (hg _ S2.g.s)) ((S.exAdd ms).trans gr.f)
  · cases e
end
section
variable {X : Cx} {W : WX} {pos : Pos} {a b c : Expr} {es : List Expr} {sa : Sx} {sl : Sl} {r : List MI}
theorem dm_nil : PA X [] (tK X.K X.mg W (kM X.K X.mg) (sMix [])) := pa_imp pa_nil fun σ H Q ⟨ρ, F, z, v, e, fin⟩ => by cases e; exact fin [] F H (.refl v.e) .nil
theorem dm_s (ha : PE X a (tS X.K X.mg W sa)) (hr : PA X es (tK X.K X.mg W (kM X.K X.mg) (sMix r))) (hs : starEach (a :: es) X.env = (false, eval a X.env) :: starEach es X.env := by rfl) : PA X (a :: es) (tK X.K X.mg W (kM X.K X.mg) (sMix (.s sa :: r))) := by
  refine pa_imp (pa_cons ha hr hs) fun σ H Q ⟨ρ, F, z, v, e, fin⟩ => ?_
  refine part v e fin fun dx x F1 H1 _ e g v1 rx fin1 => ?_
  refine part v1 e fin1 fun rs vs F2 H2 _ e g2 v2 m fin2 => ?_
  cases e
  exact fin (x :: vs) F2 H2 (g.trans g2) (.d (rx.mo g2.f) (MAll.mono g.h m))
theorem dm_l (ha : PE X a (tL X.K X.mg W sl)) (hr : PA X es (tK X.K X.mg W (kM X.K X.mg) (sMix r))) (hs : starEach (a :: es) X.env = (false, eval a X.env) :: starEach es X.env := by rfl) : PA X (a :: es) (tK X.K X.mg W (kM X.K X.mg) (sMix (.l sl :: r))) := by
  refine pa_imp (pa_cons ha hr hs) fun σ H Q ⟨ρ, F, z, v, e, fin⟩ => ?_
  refine part v e fin fun ds x F1 H1 _ e g v1 rx fin1 => ?_
  refine part v1 e fin1 fun rs vs F2 H2 _ e g2 v2 m fin2 => ?_
  cases e
  obtain ⟨p, xs, rfl, hp, hF, hH, rr⟩ := rx
  have hF2 : F2 p = none := by
    cases q : F2 p with
    | none => rfl
    | some o =>
      rcases g2.n p o q with w | w
      · rw [hF] at w; cases w
      · rw [hH] at w; cases w
  refine fin (.ref p :: vs) F2 H2 (g.trans g2) (.l hp hF2 (g2.h _ _ hH) (rr.mo g2.f) (fun i es h1 h2 => ?_) (MAll.mono g.h m))
  have := MAll.fresh m i es p h1 h2
  rw [hH] at this; cases this
theorem s_par2 {i j : Nat} {x y : Str} {px py pt : Pos} {kt k2 pt2} (ms : List Nat) (hc : X.calm = true) (hN : X.N.Nodup) (ha : PA X [a, b] (tK X.K X.mg W (kM X.K X.mg) (sMix r))) (hi : X.N[i]? = some x := by rfl) (hj : X.N[j]? = some y := by rfl) (hij : i ≠ j := by decide)
    (hx : X.env.scope.names.lookup x = some .local := by rfl) (hy : X.env.scope.names.lookup y = some .local := by rfl)
    (hw : swappedStores [.Tuple [.Name x px, .Name y py] kt pt] (.Tuple [a, b] k2 pt2) X.env = pure (some [x, y]) := by rfl)
    (hs : swapsWithSole [.Tuple [.Name x px, .Name y py] kt pt] (.Tuple [a, b] k2 pt2) pos.line X.env = pure false := by rfl) :
    PS X (.Assign [.Tuple [.Name x px, .Name y py] kt pt] (.Tuple [a, b] k2 pt2) pos) (tP X.K X.mg W (sPar ms [i, j] r)) := by
  refine ps_imp (ps_par hc hN hi hj hij hx hy ha hw hs) fun D σ H ⟨F0, H0, ρ, F, fl, S, e, post⟩ => ?_
  refine stK S e post fun rs vs F2 H1 e gr m => ?_
  obtain ⟨hl, fin⟩ := par_after S gr m e post
  match vs, hl with
  | [v, w], _ => exact ⟨v, w, rfl, fin H1 fun _ e => .refl e⟩
theorem s_par3 {i j l : Nat} {x y z : Str} {px py pz pt : Pos} {kt k2 pt2} (ms : List Nat) (hc : X.calm = true) (hN : X.N.Nodup) (ha : PA X [a, b, c] (tK X.K X.mg W (kM X.K X.mg) (sMix r))) (hi : X.N[i]? = some x := by rfl) (hj : X.N[j]? = some y := by rfl) (hk : X.N[l]? = some z := by rfl) (hij : i ≠ j := by decide) (hil : i ≠ l := by decide) (hjl : j ≠ l := by decide)
    (hx : X.env.scope.names.lookup x = some .local := by rfl) (hy : X.env.scope.names.lookup y = some .local := by rfl) (hz : X.env.scope.names.lookup z = some .local := by rfl)
    (hw : swappedStores [.Tuple [.Name x px, .Name y py, .Name z pz] kt pt] (.Tuple [a, b, c] k2 pt2) X.env = pure (some [x, y, z]) := by rfl)
    (hs : swapsWithSole [.Tuple [.Name x px, .Name y py, .Name z pz] kt pt] (.Tuple [a, b, c] k2 pt2) pos.line X.env = pure false := by rfl) :
    PS X (.Assign [.Tuple [.Name x px, .Name y py, .Name z pz] kt pt] (.Tuple [a, b, c] k2 pt2) pos) (tP X.K X.mg W (sPar ms [i, j, l] r)) := by
  refine ps_imp (ps_par3 hc hN hi hj hk hij hil hjl hx hy hz ha hw hs) fun D σ H ⟨F0, H0, ρ, F, fl, S, e, post⟩ => ?_
  refine stK S e post fun rs vs F2 H1 e gr m => ?_
  obtain ⟨hl, fin⟩ := par_after S gr m e post
  match vs, hl with
  | [u, v, w], _ => exact ⟨u, v, w, rfl, fin H1 fun _ e => .refl e⟩
theorem s_parT {is : List Nat} {tg : List Expr} {kk k2 : Nat} {tpos pt2 : Pos} (ms : List Nat) (hc : X.calm = true) (hg : PGs X tg (gNs is)) (ha : PA X es (tK X.K X.mg W (kM X.K X.mg) (sMix r))) (h1000 : is.length ≤ 1000 := by decide) (hn : (assignEach tg X.env).length = is.length := by rfl) (hst : (assignEach tg X.env).findIdx? (·.1) = none := by rfl)
    (hs : swapsWithSole [.Tuple tg kk tpos] (.Tuple es k2 pt2) pos.line X.env = pure false := by rfl) (hw : swappedStores [.Tuple tg kk tpos] (.Tuple es k2 pt2) X.env = pure none := by rfl) (h1 : (assignEach [.Tuple tg kk tpos] X.env).map (·.2) = [assign (.Tuple tg kk tpos) X.env] := by rfl) :
    PS X (.Assign [.Tuple tg kk tpos] (.Tuple es k2 pt2) pos) (tP X.K X.mg W (sPar ms is r)) := by
  refine ps_imp (ps_asg (pe_tup ha) (pg_tup hc hg hn hst) hs hw h1) fun D σ H ⟨F0, H0, ρ, F, fl, S, e, post⟩ => ?_
  refine stK S e post fun rs vs F2 H1 e gr m => ?_
  obtain ⟨hl, fin⟩ := par_after S gr m e post
  refine ⟨Nat.le_trans (by rw [hl]; exact h1000) (by decide), fun p hp => ?_⟩
  exact ⟨p, vs, rfl, .inl (.inl upd_same), hl, gNs_reads is hl (fin _ fun F3 e3 => .only e3 hp)⟩
end
end Dl
/-! DlSet: how many there are in a set of texts. -/
namespace DlS
open PySem PySem.Spec PyProof.Rows
/-- how many different ones stand among the first i -/
def dcnt (xs : List Str) : Nat → Nat
  | 0 => 0
  | i + 1 => if (xs.take i).any (· == xs.getD i Str.empty) then dcnt xs i else dcnt xs i + 1
theorem dcnt_le (xs : List Str) : ∀ i, dcnt xs i ≤ i
  | 0 => Nat.le_refl 0
  | i + 1 => by
    have := dcnt_le xs i
    unfold dcnt
    split <;> omega
theorem any_grows {xs : List Str} {i : Nat} (hi : i < xs.length) (k : Str) : ((xs.take i).any (· == k) || decide (k = xs.getD i Str.empty)) = (xs.take (i + 1)).any (· == k) := by
  have e : xs.getD i Str.empty = xs[i] := by rw [List.getD_eq_getElem?_getD, List.getElem?_eq_getElem hi]; rfl
  rw [List.take_add_one, List.getElem?_eq_getElem hi, List.any_append, e]
  congr 1
  show decide (k = xs[i]) = ((xs[i] == k) || false)
  rw [Bool.or_false]
  by_cases q : k = xs[i]
  · rw [← q]; simp
  · have q2 : (xs[i] == k) = false := beq_eq_false_iff_ne.mpr fun z => q z.symm
    rw [q2, decide_eq_false q]
section
variable {prog : Program} {w : World}
/-- the set at S holds the first i of the texts -/
abbrev Has (prog : Program) (w : World) (xs : List Str) (S : Addr) (i : Nat) (h : Heap) : Prop := h.SetOf (PySem.strKind prog w) S (fun k => (xs.take i).any (· == k)) (dcnt xs i)
theorem Has.kept {xs : List Str} {S : Addr} {i : Nat} {h h' : Heap} (x : Has prog w xs S i h) (k : ∀ o, h.get? S = some o → h'.get? S = some o) : Has prog w xs S i h' := by
  obtain ⟨o, es, ep, t, ho, more⟩ := x
  exact ⟨o, es, ep, t, k o ho, more⟩
theorem fill {A : Around} {R : Result → Shared → Prop} {I : Addr} {fp wr : List Addr} {G : Array GenState → Array GenState → Prop} {n : Nat} {Pv : Nat → Value → Prop} {St : Nat → Shared → Prop}
    (Wk : WalksS prog w A.in1 I fp wr G n Pv St) {S : Addr} (far : S ∉ fp) {xs : List Str} (len : xs.length = n) (few : n < 1000) (val : ∀ i v, Pv i v → ∃ t, v = .str (xs.getD i Str.empty) t) :
    ∀ (left i : Nat) (s : Shared), left + i = n → St i s → Has prog w xs S i s.heap → (∀ s', Moved (S :: wr) G s s' → Has prog w xs S n s'.heap → R (.ok (.ret .none)) s') →
      codeAny (model prog w) A (.builtin "set.update.loop" ⟨[.ref S, .ref I], []⟩) R s := by
  have out : S ∉ wr := fun q => far (Wk.sub _ q)
  have wider : ∀ b, b ∈ wr → b ∈ S :: wr := fun b q => List.mem_cons_of_mem _ q
  intro left
  induction left with
  | zero =>
    intro i s hl st has fin
    rw [Nat.zero_add] at hl
    subst hl
    refine codeAny_builtin PyProof.Rows.F.entry_set_update_loop ?_
    rw [Around.under_plainId PyProof.Rows.F.plain_set_update_loop _]
    refine wpAny_bind (m := pyNext (.ref I)) (Wk.done s _ _ st fun s1 mv => ?_)
    exact wpAny_pure (fin s1 (mv.mono wider) (has.kept fun o q => mv.heap S o out q))
  | succ left ih =>
    intro i s hl st has fin
    have hlt : i < n := by omega
    have hlx : i < xs.length := by omega
    refine codeAny_builtin PyProof.Rows.F.entry_set_update_loop ?_
    rw [Around.under_plainId PyProof.Rows.F.plain_set_update_loop _]
    refine wpAny_bind (m := pyNext (.ref I)) (Wk.item i s _ _ hlt st fun v s1 pv st1 mv => ?_)
    obtain ⟨t, rfl⟩ := val i v pv
    have has1 : Has prog w xs S i s1.heap := has.kept fun o q => mv.heap S o out q
    refine wpAny_bind (m := holding [Value.str (xs.getD i Str.empty) t] (setAdd S (.str (xs.getD i Str.empty) t))) (wpAny_holding ?_)
    unfold setAdd
    refine wpAny_holding (wpAny_bind ((PySem.strKind prog w).pyHash (k := xs.getD i Str.empty) (strKind_is _ _ _ _) ?_))
    have room : dcnt xs i + 1 < scanBound := by
      have := dcnt_le xs i
      unfold scanBound; omega
    refine wpAny_setAddHashed_of (knd := PySem.strKind prog w) (s := { s1 with toks := s1.toks + 1 }) (strKind_is _ _ _ _) rfl has1 room fun h2 but has2 => ?_
    have has3 : Has prog w xs S (i + 1) h2 := SetOf_congr has2 (fun k => any_grows hlx k) (by simp only [dcnt])
    refine wpAny_pure ⟨plainId_quiet PyProof.Rows.F.plain_set_update_loop _, ih (i + 1) _ (by omega) (Wk.frame _ s1 _ _ st1 (Nat.le_succ _) fun b hb o q => ?_) has3 fun s3 mv3 has4 => ?_⟩
    · rw [but.2 b fun z => far (z ▸ hb)]; exact q
    · refine fin s3 (Moved.trans Wk.gtrans ((mv.mono wider).then_heap (Nat.le_succ _) fun b o hb q => ?_) mv3) has4
      rw [but.2 b fun z => hb (by rw [z]; exact List.mem_cons_self)]; exact q
end
section
variable {prog : Program} {w : World} {A : Around} {E : Value → Shared → Prop} {s : Shared}
abbrev bareSet (led : Bool) : Obj := { cls := .type "set", dict := none, data := .set #[] 0 (.fresh 0 0 led) }
set_option maxHeartbeats 8000000 in
/-- set(t), t a tuple of texts -/
theorem set_tup {l : Addr} {items : Array Value} {xs : List Str} {Q : Value → Shared → Prop} (calm : A.handled = none) (tl : s.heap.IsTuple l items) (ix : StrsAre items.toList xs) (few : xs.length < 1000)
    (fin : ∀ (h' : Heap) (tk : Nat), Has prog w xs s.heap.objs.size xs.length h' → (∀ b o, b < s.heap.objs.size → s.heap.get? b = some o → h'.get? b = some o) → Q (.ref s.heap.objs.size) { s with heap := h', toks := tk }) :
    wpAny (model prog w) A (call (.type "set") [.ref l]) Q E s := by
  obtain ⟨c, rest, hmro⟩ := PySem.F.called_set.mro
  have a1 := PySem.F.called_set.made
  have a2 := PySem.F.called_set.sub
  refine wpAny_call (codeAny_of_tree ?_)
  show wpAny _ _ (callAny (.type "set") _) _ _ _
  refine wpAny_pure ⟨Code.quiet_builtin _ (by decide +kernel), codeAny_builtin PySem.F.entry_type_call ?_⟩
  rw [Around.under_plain (weight_type_call_type "set" [.ref l] []) rfl]
  have a3 := PySem.F.called_set.notType
  have a4 := PySem.F.called_set.canCreate
  have a5 := PySem.F.typeCall_set_1 (.ref l)
  repeat (any_goals (first | assumption | wp_step))
  refine codeAny_mono (code_set_new_1 (.ref l) (E := E) (Q₁ := fun obj s1 => ∃ led : Bool, obj = .ref s.heap.objs.size ∧ s1 = { s with heap := s.heap.push (bareSet led) }) fun led => ⟨led, rfl, rfl⟩) fun r s1 hr => ?_
  rcases r with e | fl
  · exact hr
  cases fl with
  | ret obj =>
    obtain ⟨led, rfl, rfl⟩ := hr
    have onS : (s.heap.push (bareSet led)).get? s.heap.objs.size = some (bareSet led) := Heap.get?_push_size _ rfl
    have tyS : Shared.TypeIs { s with heap := s.heap.push (bareSet led) } (.ref s.heap.objs.size) "set" := ⟨_, onS, rfl⟩
    have b1 := PySem.F.called_set.init.lookup
    have b2 := PySem.F.called_set.init.bind (.ref s.heap.objs.size)
    repeat (any_goals (first | assumption | wp_step))
    refine codeAny_mono (codeAny_call_builtin (R := wants (fun r s2 => r = .none ∧ ∃ h' tk, s2 = { s with heap := h', toks := tk } ∧ Has prog w xs s.heap.objs.size xs.length h' ∧
      (∀ b o, b < s.heap.objs.size → s.heap.get? b = some o → h'.get? b = some o)) E) PySem.F.called_set.init.plain PySem.F.entry_set_init (check_set_init_1 tyS ?_)) fun r2 s2 hr2 => ?_
    · obtain ⟨ol, hol, hcl, nl, hdl⟩ := tl
      obtain ⟨k1, k2, k3, k4⟩ := ol
      simp only at hcl hdl
      subst hcl
      subst hdl
      have onL : (s.heap.push (bareSet led)).get? l = some { cls := .type "tuple", dict := k2, data := .seq items nl, slots := k4 } := Heap.get?_push_of_some _ hol
      have c1 := PySem.F.sub_tuple_set
      have c2 := PySem.F.sub_tuple_frozenset
      have c3 : (Value.type "tuple" == Value.type "dict") = false := by decide
      have tl1 : (s.heap.push (bareSet led)).IsTuple l items := ⟨_, onL, rfl, nl, rfl⟩
      unfold Builtin.«set.__init__» noKeywords Builtin.Frozenset.updateFrom
      generalize hPI : pyIter = PI
      wp_walk
      subst hPI
      refine wpAny_pyIter_tuple tl1 (wpAny_bind (wpAny_runValue ?_))
      have ll : l < s.heap.objs.size := Heap.lt_size hol
      have sz1 : (s.heap.push (bareSet led)).objs.size = s.heap.objs.size + 1 := Heap.size_push _ _
      have d1 : l ≠ (s.heap.push (bareSet led)).objs.size := by rw [sz1]; exact Nat.ne_of_lt (Nat.lt_succ_of_lt ll)
      have d2 : s.heap.objs.size ∉ [(s.heap.push (bareSet led)).objs.size, l] := by
        rw [sz1]
        intro q
        rcases List.mem_cons.mp q with z | z
        · exact absurd z (Nat.ne_of_lt (Nat.lt_succ_self _))
        · exact absurd (List.mem_singleton.mp z) (Nat.ne_of_gt ll)
      have sz : xs.length = items.size := by rw [← StrsAre.len_eq ix, Array.length_toList]
      have val : ∀ (i : Nat) (v : Value), items[i]? = some v → ∃ t, v = .str (xs.getD i Str.empty) t := fun i v hv => SS.strs_at ix i v (by rw [Array.getElem?_toList]; exact hv)
      refine fill ((Walks.tuple (by simp [calm]) _ l d1 items).toS) d2 sz (by rw [← sz]; exact few) val items.size 0 _ (Nat.add_zero _) ⟨⟨_, Heap.get?_push_size _ rfl, rfl, rfl⟩, (tl1.push _)⟩ ?start ?stop
      case start =>
        exact SetOf_congr ((setObjOf_fresh (knd := PySem.strKind prog w) led).setOf (Heap.get?_push_of_some _ onS) (by unfold scanBound; omega)) (fun _ => rfl) rfl
      case stop =>
        intro s' mv has
        obtain ⟨h', g', d', tk', os'⟩ := s'
        have e1 : g' = s.gens := mv.gens
        have e2 : d' = s.drawn := mv.drawn
        have e3 : os' = s.os := mv.os
        subst e1
        subst e2
        subst e3
        show wpAny _ _ _ _ _ _
        refine wpAny_pure ?_
        show wpAny _ _ (ret Value.none) _ _ _
        rw [← sz] at has
        refine wpAny_pure ⟨rfl, h', tk', rfl, has, fun b o hb q => mv.heap b o (fun z => ?_) (Heap.get?_push_of_some _ (Heap.get?_push_of_some _ q))⟩
        rcases List.mem_cons.mp z with z | z
        · exact absurd z (Nat.ne_of_lt hb)
        · rw [sz1] at z
          exact absurd (List.mem_singleton.mp z) (Nat.ne_of_lt (Nat.lt_succ_of_lt hb))
    · rcases r2 with e | fl2
      · exact hr2
      cases fl2 with
      | ret r =>
        obtain ⟨rfl, h', tk, rfl, has, kk⟩ := hr2
        repeat (any_goals (first | assumption | wp_step))
        exact fin _ _ has kk
      | _ => exact hr2.elim
  | _ => exact hr.elim
end
end DlS

namespace Dl
open PySem L2 PyProof.Rows
def strsOf : List D → Option (List Str)
  | [] => some []
  | .str x :: ds => (strsOf ds).map (x :: ·)
  | _ => none
/-- len(set(t)) -/
def dLenSet : D → Option D
  | .tup ds => match strsOf ds with
    | some xs => if decide (xs.length < 1000) then some (.int (DlS.dcnt xs xs.length : Nat)) else none
    | none => none
  | _ => none
theorem strs_rep {K : PySem.W.Frag} {mg : Str → Option Value} {F : Hp} : ∀ {ds : List D} {vs : List V} {xs : List Str}, RepAll K mg F vs ds → strsOf ds = some xs → vs = xs.map V.str
  | [], _, _, h, e => by cases h; cases e; rfl
  | d :: ds, _, _, h, e => by
    cases h with
    | cons h1 h2 =>
      cases d <;> first | (simp [strsOf] at e; done) | skip
      simp only [strsOf] at e
      obtain ⟨xs, e1, rfl⟩ := Option.map_eq_some_iff.mp e
      cases h1
      rw [strs_rep h2 e1]; rfl
theorem d_lenSet {X : Cx} {W : WX} {a : Expr} {sa : Sx} {p p2 q pos : Pos} (hc : X.calm = true) (hm : X.mg "len" = none) (hm2 : X.mg "set" = none) (ha : PE X a (tS X.K X.mg W sa)) (hg : Gl X "len" := by rfl) (hg2 : Gl X "set" := by rfl)
    (na : starEach [a] X.env = (false, eval a X.env) :: starEach [] X.env := by rfl) : PE X (.Call (.Name "len" p) [.Call (.Name "set" p2) [a] [] q] [] pos) (tS X.K X.mg W (sUn dLenSet sa)) := by
  refine ⟨fun pins s σ H Q I ⟨ρ, F, r, v, e, fin⟩ => ?_⟩
  refine Call_ (ld_blt I hg hm boot_len ?_)
  refine PyProof.Rows.callWith_builtin1 (PyProof.Rows.args_cons ?_ rfl) rfl rfl
  refine Call_ (ld_blt I hg2 hm2 boot_set ?_)
  refine PyProof.Rows.callWith_type1 (PyProof.Rows.args_cons (ha.run pins s σ H (fun x H1 => ∃ (l : Addr) (xs : List Str), x = .ref l ∧ SqT X.K H1 l (xs.map V.str) ∧ xs.length < 1000 ∧ Q (.int (DlS.dcnt xs xs.length : Nat)) H1) I ?_ |> fun z => thn z fun u s1 ⟨x, H1, I1, r1, q1⟩ => PyProof.Rows.args_nil ?_) na) na rfl
  · refine part v e fin fun dx x F1 H1 _ e g v1 rx fin1 => ?_
    obtain ⟨dz, e', rfl⟩ := lift_some e
    unfold dLenSet at e'
    split at e'
    · split at e'
      · rename_i ds xs hx
        split at e'
        · rename_i hl
          cases e'
          cases rx with
          | tup h1 rs =>
            rw [strs_rep rs hx] at h1
            exact ⟨_, xs, rfl, v1.e.sqT h1, of_decide_eq_true hl, fin1 _ F1 H1 (.refl v1.e) (.int _)⟩
        · cases e'
      · cases e'
    · cases e'
  · obtain ⟨l, xs, rfl, hq, h1, q1⟩ := q1
    cases r1
    obtain ⟨its, rv, tl, hz⟩ := I1.tuple hq
    refine DlS.set_tup (I1.ok.hd hc) tl (by simpa using strsAre_of rv) h1 fun h' tk hS hk => ?_
    refine PyProof.Rows.args_nil ?_
    obtain ⟨o, es, ep, t, ho, hex, hd, _, _, _, hf, hn⟩ := hS
    have I2 : L2.Inv X pins σ H1 { s1 with heap := h', toks := tk } := I1.kept fun b o e => hk b o (Heap.lt_size e) e
    have hle := DlS.dcnt_le xs xs.length
    exact call_len_set ho hex hd hf (by rw [hn]; omega) ⟨.int (DlS.dcnt xs xs.length : Nat), H1, I2.tok _, ⟨_, by rw [hn]⟩, q1⟩
end Dl
/-! Dl12: two clauses in a comprehension, methods of lists, sorted, zip. -/
namespace Dl
open PySem L2
/-! ### [e for a in x if .. for b in y if ..] -/
def lcS2 (t1 : TgtR) (test1 : Sb) (it2 : Sl) (vs1 : List Nat) (t2 : TgtR) (test2 : Sb) (elt : Sx) (ρ : Rho) : List D → Option (List D)
  | [] => some []
  | d :: ds =>
    match t1 d ρ with
    | none => none
    | some ρ2 => match test1 ρ2 with
      | some (.ok true) => match it2 ρ2 with
        | some (.ok es) => match lcS t2 test2 elt (wipeR vs1 ρ2) es with
          | some ys => (lcS2 t1 test1 it2 vs1 t2 test2 elt ρ ds).map (ys ++ ·)
          | none => none
        | _ => none
      | some (.ok false) => lcS2 t1 test1 it2 vs1 t2 test2 elt ρ ds
      | _ => none
def sLc2 (it : Sl) (vs : List Nat) (t1 : TgtR) (test1 : Sb) (it2 : Sl) (vs1 : List Nat) (t2 : TgtR) (test2 : Sb) (elt : Sx) : Sl := fun ρ => bd (it ρ) fun ds =>
  match lcS2 t1 test1 it2 vs1 t2 test2 elt (wipeR vs ρ) ds with
  | some out => if okLen out.length then some (.ok out) else none
  | none => none
section
variable {K : PySem.W.Frag} {mg : Str → Option Value} {W : WX} {F H : Hp} {σ : St} {ρ : Rho}
theorem lc2_reads {it it2 : Sl} {vs vs1 : List Nat} {t1 t2 : TgtR} {test1 test2 : Sb} {elt : Sx} {g g1 : TG} (hg : GOkR K mg vs g t1) (hg1 : GOkR K mg vs1 g1 t2) {Q : VK} (h : tL K mg W (sLc2 it vs t1 test1 it2 vs1 t2 test2 elt) σ H Q) :
    tLc2 (tI K mg W it) g (tT K mg W0 test1) (tI K mg W0 it2) g1 (tT K mg W0 test2) (tS K mg W0 elt) vs vs1 σ H Q := by
  obtain ⟨ρ, F, r, v, e, fin⟩ := h
  refine part v e fin fun ds J F1 H1 _ e g1' v1 wk fin1 => ?_
  split at e
  · rename_i out eo
    split at e
    · rename_i hok
      cases e
      have hln := okLen_line hok
      intro D hD
      have hFD : F1 D = none := v1.e.none hD
      have vw := v1.wipe vs
      have still : ∀ {Fa Ha Fb Hb : Hp}, Grow Fa Ha Fb Hb → Fa D = none → (∃ o, Ha D = some o) → Fb D = none := fun {Fa Ha Fb Hb} gg h1 ⟨o, h2⟩ => by
        cases q : Fb D with
        | none => rfl
        | some u =>
          rcases gg.n D u q with z | z
          · rw [h1] at z; cases z
          · rw [h2] at z; cases z
      refine ⟨fun i m H => m = ds.length - i ∧ i ≤ ds.length ∧ ∃ F' acc dacc rest, Grow F1 H1 F' H ∧ F' D = none ∧ H D = some (.lst acc) ∧ RepAll K mg F' acc dacc ∧ lcS2 t1 test1 it2 vs1 t2 test2 elt (wipeR vs ρ) (ds.drop i) = some rest ∧ dacc ++ rest = out,
        ⟨ds.length, by simp, Nat.zero_le _, F1, [], [], out, .only v1.e hD, hFD, upd_same, .nil, eo, rfl⟩, ?_⟩
      rintro i m H ⟨rfl, hi, F', acc, dacc, rest, gr, hF', hHD, ra, el, eout⟩
      have w := wk i F' H gr.f gr.s
      by_cases hlt : i < ds.length
      · have hd : ds[i]? = some ds[i] := List.getElem?_eq_getElem hlt
        obtain ⟨go, yl⟩ := w.1 _ hd
        refine .inr ⟨go, fun H' => ds.length - (i + 1) < ds.length - i ∧ i + 1 ≤ ds.length ∧ ∃ F' acc dacc rest, Grow F1 H1 F' H' ∧ F' D = none ∧ H' D = some (.lst acc) ∧ RepAll K mg F' acc dacc ∧ lcS2 t1 test1 it2 vs1 t2 test2 elt (wipeR vs ρ) (ds.drop (i + 1)) = some rest ∧ dacc ++ rest = out,
          fun H' ⟨q0, q1, q2⟩ => ⟨_, q0, rfl, q1, q2⟩, fun x H' y => ?_⟩
        obtain ⟨Fn, gn, rx⟩ := yl x H' y
        have hFn : Fn D = none := still gn hF' ⟨_, hHD⟩
        have hHn : H' D = some (.lst acc) := gn.h _ _ hHD
        rw [List.drop_eq_getElem_cons hlt] at el
        unfold lcS2 at el
        split at el
        · cases el
        · rename_i ρ2 et
          refine hg Fn H' σ _ ρ2 x ds[i] _ ⟨gn.s, fun k c ek => ?_, vw.l⟩ rx et fun σ2 v2 hw => ⟨hw, ?_⟩
          · obtain ⟨u, e1, ru⟩ := vw.v k c ek
            exact ⟨u, e1, (ru.mo gr.f).mo gn.f⟩
          · split at el
            · rename_i etst
              refine ⟨ρ2, Fn, .ok true, v2, etst, fun b F3 H3 g3 eb => ?_⟩
              have eb' : b = true := eb
              subst eb'
              refine iteT ?_
              have hF3 := still g3 hFn ⟨_, hHn⟩
              have hH3 : H3 D = some (.lst acc) := g3.h _ _ hHn
              split at el
              · rename_i es ees
                refine ⟨ρ2, F3, .ok es, v2.mo g3, ees, fun J1 F4 H4 g4 wk1 => ?_⟩
                have v4 := (v2.mo g3).mo g4
                have hF4 := still g4 hF3 ⟨_, hH3⟩
                have hH4 : H4 D = some (.lst acc) := g4.h _ _ hH3
                split at el
                · rename_i ys ey
                  obtain ⟨rest2, er2, rfl⟩ := Option.map_eq_some_iff.mp el
                  have vw2 := v4.wipe vs1
                  have gr4 : Grow F1 H1 F4 H4 := ((gr.trans gn).trans g3).trans g4
                  have keep : ∀ {F5 H5 : Hp}, Ex F4 F5 → Ex F5 H5 → View K mg F5 H5 (L2.wipe σ2 vs1) (wipeR vs1 ρ2) := fun e5 e6 => ⟨e6, fun k c ek => by
                    obtain ⟨u, e1, ru⟩ := vw2.v k c ek
                    exact ⟨u, e1, ru.mo e5⟩, vw2.l⟩
                  refine ⟨fun j k H => k = es.length - j ∧ j ≤ es.length ∧ ∃ F' acc dacc rest1, Grow F1 H1 F' H ∧ Ex F4 F' ∧ F' D = none ∧ H D = some (.lst acc) ∧ RepAll K mg F' acc dacc ∧ lcS t2 test2 elt (wipeR vs1 ρ2) (es.drop j) = some rest1 ∧ dacc ++ (rest1 ++ rest2) = out,
                    ⟨es.length, by simp, Nat.zero_le _, F4, acc, dacc, ys, gr4, .refl _, hF4, hH4, ra.mo ((gn.f.trans g3.f).trans g4.f), ey, eout⟩, ?_⟩
                  rintro j k H ⟨rfl, hj, F', acc, dacc, rest1, gr, eF, hF', hHD, ra, el, eout⟩
                  have w1 := wk1 j F' H eF gr.s
                  by_cases hltj : j < es.length
                  · have hdj : es[j]? = some es[j] := List.getElem?_eq_getElem hltj
                    obtain ⟨go1, yl1⟩ := w1.1 _ hdj
                    refine .inr ⟨go1, fun H' => es.length - (j + 1) < es.length - j ∧ j + 1 ≤ es.length ∧ ∃ F' acc dacc rest1, Grow F1 H1 F' H' ∧ Ex F4 F' ∧ F' D = none ∧ H' D = some (.lst acc) ∧ RepAll K mg F' acc dacc ∧ lcS t2 test2 elt (wipeR vs1 ρ2) (es.drop (j + 1)) = some rest1 ∧ dacc ++ (rest1 ++ rest2) = out,
                      fun H' ⟨q0, q1, q2⟩ => ⟨_, q0, rfl, q1, q2⟩, fun x H' y => ?_⟩
                    obtain ⟨Fn, gn, rx⟩ := yl1 x H' y
                    have hFn : Fn D = none := still gn hF' ⟨_, hHD⟩
                    have hHn : H' D = some (.lst acc) := gn.h _ _ hHD
                    rw [List.drop_eq_getElem_cons hltj] at el
                    unfold lcS at el
                    split at el
                    · cases el
                    · rename_i ρ3 et2
                      refine hg1 Fn H' σ2 _ ρ3 x es[j] _ (keep (eF.trans gn.f) gn.s) rx et2 fun σ3 v3 hw3 => ⟨hw3, ?_⟩
                      split at el
                      · rename_i etst2
                        refine ⟨ρ3, Fn, .ok true, v3, etst2, fun b F5 H5 g5 eb => ?_⟩
                        have eb' : b = true := eb
                        subst eb'
                        refine iteT ?_
                        have hF5 := still g5 hFn ⟨_, hHn⟩
                        have hH5 : H5 D = some (.lst acc) := g5.h _ _ hHn
                        split at el
                        · rename_i yd eyd
                          obtain ⟨rest', er, rfl⟩ := Option.map_eq_some_iff.mp el
                          refine ⟨ρ3, F5, .ok yd, v3.mo g5, eyd, fun yv F6 H6 g6 ry => ?_⟩
                          have hF6 := still g6 hF5 ⟨_, hH5⟩
                          have hH6 : H6 D = some (.lst acc) := g6.h _ _ hH5
                          have gall : Grow F1 H1 F6 H6 := ((gr.trans gn).trans g5).trans g6
                          have eall : Ex F' F6 := (gn.f.trans g5.f).trans g6.f
                          refine ⟨acc, hH6, ?_, by omega, hltj, F6, acc ++ [yv], dacc ++ [yd], rest', ⟨gall.f, fun a o q => ?_, fun a o q => ?_, gall.n⟩, eF.trans eall, hF6, upd_same, (ra.mo eall).append (.cons ry .nil), er, by rw [List.append_assoc]; exact eout⟩
                          · rw [ra.length]
                            have : dacc.length + 1 ≤ out.length := by rw [← eout]; simp
                            omega
                          · rw [upd_ne (ne_of_none q hD)]; exact gall.h a o q
                          · rw [upd_ne (ne_of_none q hF6)]; exact gall.s a o q
                        · cases el
                      · rename_i etst2
                        refine ⟨ρ3, Fn, .ok false, v3, etst2, fun b F5 H5 g5 eb => ?_⟩
                        have eb' : b = false := eb
                        subst eb'
                        refine iteF ?_
                        have hF5 := still g5 hFn ⟨_, hHn⟩
                        have hH5 : H5 D = some (.lst acc) := g5.h _ _ hHn
                        exact ⟨by omega, hltj, F5, acc, dacc, rest1, (gr.trans gn).trans g5, eF.trans (gn.f.trans g5.f), hF5, hH5, ra.mo (gn.f.trans g5.f), el, eout⟩
                      · cases el
                  · have hj2 : j = es.length := by omega
                    subst hj2
                    rw [List.drop_length] at el
                    cases el
                    exact .inl ⟨w1.2 (Nat.le_refl _), by omega, hlt, F', acc, dacc, rest2, gr, hF', hHD, ra, er2, eout⟩
                · cases el
              · cases el
            · rename_i etst
              refine ⟨ρ2, Fn, .ok false, v2, etst, fun b F3 H3 g3 eb => ?_⟩
              have eb' : b = false := eb
              subst eb'
              refine iteF ?_
              have hF3 := still g3 hFn ⟨_, hHn⟩
              have hH3 : H3 D = some (.lst acc) := g3.h _ _ hHn
              exact ⟨by omega, hlt, F3, acc, dacc, rest, (gr.trans gn).trans g3, hF3, hH3, ra.mo (gn.f.trans g3.f), el, eout⟩
            · cases el
      · have hi2 : i = ds.length := by omega
        subst hi2
        rw [List.drop_length] at el
        cases el
        rw [List.append_nil] at eout
        subst eout
        exact .inl ⟨w.2 (Nat.le_refl _), fin1 (.ref D) F' H gr ⟨D, acc, rfl, hD, hF', hHD, ra⟩⟩
    · cases e
  · cases e
end
section
variable {X : Cx} {W : WX} {pos : Pos} {elt tg iter tg1 iter1 : Expr} {ifs ifs1 : List Expr} {scope : Scope} {own : List (Str × Nat)} {it it1 : Sl} {t t1 : TgtR} {test test1 : Sb} {se : Sx} {g g1 : TG} {vs1 : List Nat}
theorem l_lc2 (hc : X.calm = true) (hN : X.N.Nodup) (hi : PI X tg iter (tI X.K X.mg W it)) (ok : BlkOk X.N X.env.scope scope own) (hv : ∀ i ∈ vs1, i ∈ own.map (·.2)) (hgo : GOkR X.K X.mg (own.map (·.2)) g t) (hgo1 : GOkR X.K X.mg vs1 g1 t1)
    (hg : ∀ (s : Shared) (H : Hp) (C : Addr) (cl : List (Str × Addr)) (fp : List Addr), PG (X.blk s H scope (compEnvC scope cl C X.env) fp) tg g) (ht : ∀ (s : Shared) (H : Hp) (C : Addr) (cl : List (Str × Addr)) (fp : List Addr), PTs (X.blk s H scope (compEnvC scope cl C X.env) fp) ifs (tT X.K X.mg W0 test))
    (hi1 : ∀ (s : Shared) (H : Hp) (C : Addr) (cl : List (Str × Addr)) (fp : List Addr), PI (X.blk s H scope (compEnvC scope cl C X.env) fp) tg1 iter1 (tI X.K X.mg W0 it1))
    (hg1 : ∀ (s : Shared) (H : Hp) (C : Addr) (cl : List (Str × Addr)) (fp : List Addr), PG (X.blk s H scope (compEnvC scope cl C X.env) fp) tg1 g1) (ht1 : ∀ (s : Shared) (H : Hp) (C : Addr) (cl : List (Str × Addr)) (fp : List Addr), PTs (X.blk s H scope (compEnvC scope cl C X.env) fp) ifs1 (tT X.K X.mg W0 test1))
    (he : ∀ (s : Shared) (H : Hp) (C : Addr) (cl : List (Str × Addr)) (fp : List Addr), PE (X.blk s H scope (compEnvC scope cl C X.env) fp) elt (tS X.K X.mg W0 se)) (hs : ∀ x, foldedSetIterable iter X.env x = pure x := by intro _; rfl) (hs1 : ∀ env x, foldedSetIterable iter1 env x = pure x := by intro _ _; rfl) :
    PE X (.ListComp elt [⟨tg, iter, ifs, 0⟩, ⟨tg1, iter1, ifs1, 0⟩] scope pos) (tL X.K X.mg W (sLc2 it (own.map (·.2)) t test it1 vs1 t1 test1 se)) :=
  pe_imp (pe_lc2 hc hN hi ok hv hg ht hi1 hg1 ht1 he hs hs1) fun _ _ _ h => lc2_reads hgo hgo1 h
theorem s_setLc2 {i : Nat} {y : Str} {py spos : Pos} (ms : List Nat) (hc : X.calm = true) (hN : X.N.Nodup) (hi : PI X tg iter (tI X.K X.mg W it)) (ok : BlkOk X.N X.env.scope scope own) (hv : ∀ i ∈ vs1, i ∈ own.map (·.2)) (hgo : GOkR X.K X.mg (own.map (·.2)) g t) (hgo1 : GOkR X.K X.mg vs1 g1 t1)
    (hg : ∀ (s : Shared) (H : Hp) (C : Addr) (cl : List (Str × Addr)) (fp : List Addr), PG (X.blk s H scope (compEnvC scope cl C X.env) fp) tg g) (ht : ∀ (s : Shared) (H : Hp) (C : Addr) (cl : List (Str × Addr)) (fp : List Addr), PTs (X.blk s H scope (compEnvC scope cl C X.env) fp) ifs (tT X.K X.mg W0 test))
    (hi1 : ∀ (s : Shared) (H : Hp) (C : Addr) (cl : List (Str × Addr)) (fp : List Addr), PI (X.blk s H scope (compEnvC scope cl C X.env) fp) tg1 iter1 (tI X.K X.mg W0 it1))
    (hg1 : ∀ (s : Shared) (H : Hp) (C : Addr) (cl : List (Str × Addr)) (fp : List Addr), PG (X.blk s H scope (compEnvC scope cl C X.env) fp) tg1 g1) (ht1 : ∀ (s : Shared) (H : Hp) (C : Addr) (cl : List (Str × Addr)) (fp : List Addr), PTs (X.blk s H scope (compEnvC scope cl C X.env) fp) ifs1 (tT X.K X.mg W0 test1))
    (he : ∀ (s : Shared) (H : Hp) (C : Addr) (cl : List (Str × Addr)) (fp : List Addr), PE (X.blk s H scope (compEnvC scope cl C X.env) fp) elt (tS X.K X.mg W0 se)) (hy : X.N[i]? = some y := by rfl) (hyl : X.env.scope.names.lookup y = some .local := by rfl)
    (hsw : swapsWith (.ListComp elt [⟨tg, iter, ifs, 0⟩, ⟨tg1, iter1, ifs1, 0⟩] scope pos) (some (.Name y py)) spos.line X.env = pure true := by exact sw_true rfl rfl rfl (by decide +kernel)) (hs : ∀ x, foldedSetIterable iter X.env x = pure x := by intro _; rfl) (hs1 : ∀ env x, foldedSetIterable iter1 env x = pure x := by intro _ _; rfl) :
    PS X (.Assign [.Name y py] (.ListComp elt [⟨tg, iter, ifs, 0⟩, ⟨tg1, iter1, ifs1, 0⟩] scope pos) spos) (tP X.K X.mg W (sSetL ms i (sLc2 it (own.map (·.2)) t test it1 vs1 t1 test1 se))) :=
  ps_imp (ps_setLc2 hc hN hy hyl hsw hi ok hv hg ht hi1 hg1 ht1 he hs hs1) fun D σ H h => lc2_reads hgo hgo1 (asgL_reads h)
end
end Dl
/-! Dl13: methods of lists, the greatest and the least, lists turned round, zip. -/
namespace Dl
open PySem L2
/-! ### l.count(x), texts -/
def eqS (k : Str) (v : Value) : Bool := match v with
  | .str n _ => n.cps.toList == k.cps.toList
  | _ => false
theorem eqS_gives {k : Str} {t : Tok} : ∀ {us : List Value} {ns : List Str}, PyProof.Rows.StrsAre us ns → ∀ y ∈ us, MeetsSeq.EqGives y (.str k t) (eqS k y)
  | _, _, .nil => fun y hy => by cases hy
  | _, _, .cons n t' h => fun y hy => by
    rcases List.mem_cons.mp hy with e | e
    · rw [e]
      exact SeqRoads2.EqGives.str n k t' t
    · exact eqS_gives h y e
theorem cps_eq (n k : Str) : (n.cps.toList == k.cps.toList) = (n == k) := by
  rw [Bool.eq_iff_iff, beq_iff_eq, beq_iff_eq]
  constructor
  · intro h
    cases n; cases k
    simp only [Str.mk.injEq]
    exact Array.toList_inj.mp h
  · intro h; rw [h]
theorem eqS_count {k : Str} : ∀ {us : List Value} {ns : List Str}, PyProof.Rows.StrsAre us ns → us.countP (eqS k) = ns.countP (· == k)
  | _, _, .nil => rfl
  | _, _, .cons n t h => by
    have ih := eqS_count (k := k) h
    rw [List.countP_cons, List.countP_cons, ih]
    show _ + (if (n.cps.toList == k.cps.toList) = true then 1 else 0) = _
    rw [cps_eq]
section
variable {X : Cx} {W : WX} {pos : Pos} {a b : Expr} {sa sb : Sx}
def rCntS (K : PySem.W.Frag) : V → List V → Hp → VK → Prop := fun x xs H Q => ∃ (p : Addr) (ns : List Str) (k : Str), x = .ref p ∧ xs = [.str k] ∧ SqL K H p (ns.map V.str) ∧ Q (.int (ns.countP (· == k) : Nat)) H
theorem mt_scount : MtR X "list.count" (rCntS X.K) := by
  intro pins s σ H x xs v us Q I rx rxs h
  obtain ⟨p, ns, k, rfl, rfl, hs, q⟩ := h
  cases rx
  obtain ⟨u, rfl, ru⟩ := rxs.one
  obtain ⟨t, rfl⟩ := ru
  obtain ⟨its, rv, ⟨⟨cls, dd, data, sl⟩, n, ho, hc, hdn, hd⟩, hlen⟩ := I.list hs
  simp only at hc hd
  subst hc hd
  have hi := rv.strs
  refine call_meets PySem.F.slot_list_count ⟨_, ho, rfl⟩ PySem.F.entry_list_count (PySem.F.args_list_count_2 _ _)
    (SeqAt.list_countAt p its.toArray n dd sl (.str k t) (eqS k)) ⟨ho, fun y hy => (eqS_gives hi y (by simpa using hy)).at _ _, ?_⟩
  have ec : its.toArray.toList.countP (eqS k) = ns.countP (· == k) := eqS_count hi
  refine ⟨.int (ns.countP (· == k) : Nat), H, I.tok _, ⟨s.toks, ?_⟩, q⟩
  show Value.int ((its.toArray.toList.countP (eqS k) : Nat) : Int) s.toks = Value.int ((ns.countP (· == k) : Nat) : Int) s.toks
  rw [ec]
def dCount : D → D → Option D
  | .lst ds, .str k => (strsOf ds).map fun xs => .int (xs.countP (· == k) : Nat)
  | _, _ => none
/-- o.m(e), o a list -/
def sLM (f : D → D → Option D) (a b : Sx) : Sx := fun ρ => bd (a ρ) fun x =>
  match x with
  | .lst ds => bd (b ρ) fun y => lift (f (.lst ds) y)
  | _ => none
theorem lm_reads {r : V → List V → Hp → VK → Prop} {f : D → D → Option D} (hf : ∀ F H x y dx dy dz (Q : VK), Ex F H → Rep X.K X.mg F x dx → Rep X.K X.mg F y dy → f dx dy = some dz → (∀ v F' H', Grow F H F' H' → Rep X.K X.mg F' v dz → Q v H') → r x [y] H Q)
    {σ : St} {H : Hp} {Q : VK} (h : tS X.K X.mg W (sLM f sa sb) σ H Q) : tBM X.K "list" r (tS X.K X.mg W sa) (tCons (tS X.K X.mg W sb) tNil) σ H Q := by
  obtain ⟨ρ, F, z, v, e, fin⟩ := h
  refine part v e fin fun dx x F1 H1 _ e g v1 rx fin1 => ?_
  split at e
  · rename_i ds
    refine ⟨?_, ?_⟩
    · cases rx with
      | lst h1 r1 => exact .inl ⟨rfl, _, .inl (.inl (v1.e _ _ h1))⟩
    · show tS X.K X.mg W sb σ H1 fun y H2 => r x [y] H2 Q
      refine part v1 e fin1 fun dy y F2 H2 _ e g2 v2 ry fin2 => ?_
      obtain ⟨dz, e', rfl⟩ := lift_some e
      exact hf F2 H2 x y _ dy dz Q v2.e (rx.mo g2.f) ry e' fin2
  · cases e
theorem d_count {apos cpos : Pos} (ha : PE X a (tS X.K X.mg W sa)) (hb : PE X b (tS X.K X.mg W sb)) (hbase : attributeBase a "count" X.env (eval a X.env) = eval a X.env := by rfl)
    (hfew : ((backTo cpos (starEach [b] X.env)).all (fun x => !x.1) && (backToKw cpos (keywordEach [] X.env)).all (fun x => x.1.isSome)
      && decide (([b] : List Expr).length + ([] : List Keyword).length + (if ([] : List Keyword).isEmpty then 0 else 1) < 30)) = true := by rfl)
    (hline : (apos.endLine == cpos.line) = true := by rfl) (hs : starEach [b] X.env = (false, eval b X.env) :: starEach [] X.env := by rfl) (hplain : (backTo cpos (starEach [] X.env)).any (·.1) = false := by rfl) :
    PE X (.Call (.Attribute a "count" apos) [b] [] cpos) (tS X.K X.mg W (sLM dCount sa sb)) := by
  refine pe_imp (pe_bm PySem.F.plainAttrs_list PySem.F.slot_list_count PySem.F.type_list_count mt_scount ha (pa_cons hb pa_nil hs) hbase hfew hline hs hplain) fun σ H Q h => lm_reads (fun F H x y dx dy dz Q e rx ry hf q => ?_) h
  unfold dCount at hf
  split at hf
  · rename_i ds k
    obtain ⟨xs, hx, rfl⟩ := Option.map_eq_some_iff.mp hf
    cases ry
    cases rx with
    | lst h1 r1 =>
      rw [strs_rep r1 hx] at h1
      exact ⟨_, xs, k, rfl, rfl, .inl (.inl (e _ _ h1)), q _ F H (.refl e) (.int _)⟩
  · cases hf
/-- the place of the first that is equal -/
def dIndex : D → D → Option D
  | .lst ds, x => if okN 9 x && ds.all (okN 9) then (ds.findIdx? fun y => eqN 9 y x).map fun i => .int (i : Nat) else none
  | _, _ => none
end
end Dl
/-! Dl14: texts sorted, lists and tuples turned round, zip, the greatest. -/
namespace DlO
open PySem PySem.Spec PyProof.Rows
section
variable {prog : Program} {w : World} {A : Around} {E : Value → Shared → Prop} {s : Shared}
/-- the items of a tuple or a list, laid into a new list: where they stand then -/
theorem items_of {l : Addr} {T : String} {o : Obj} {items : Array Value} {n : Nat} {Q : List Value → Shared → Prop} (hT : T = "list" ∨ T = "tuple") (ho : s.heap.get? l = some o) (hc : o.cls = .type T) (hd : o.data = .seq items n) (hL : items.size ≤ sizeLine)
    (h : Q items.toList { s with heap := (s.heap.push (seqObj "list" #[] 0)).update s.heap.objs.size (Obj.mapSeq (· ++ items)) }) : wpAny (model prog w) A (collect (.ref l)) Q E s := by
  unfold collect
  refine wpAny_bind (wpAny_runValue (codeAny_builtin entry_proto_collect' (?_ : wpAny _ _ (do again (.builtin "list.__iadd__" ⟨[← newList [], .ref l], []⟩)) _ _ s)))
  refine wpAny_bind (wpAny_newList (wpAny_pure ⟨Code.quiet_builtin _ (by decide +kernel), codeAny_builtin entry_list_iadd' (?_ : wpAny _ _ (Builtin.List.listExtendWith (.ref s.heap.objs.size) (.ref l) (.ref s.heap.objs.size)) _ _ { s with heap := s.heap.push (seqObj "list" #[] 0) })⟩))
  have old : (s.heap.push (seqObj "list" #[] 0)).get? l = some o := Heap.get?_push_of_some _ ho
  have new : (s.heap.push (seqObj "list" #[] 0)).get? s.heap.objs.size = some (seqObj "list" #[] 0) := Heap.get?_push_size _ rfl
  unfold Builtin.List.listExtendWith
  refine wpAny_bind (wpAny_typeOf (T := T) ⟨o, old, hc⟩ ?_)
  have isSeq : (Value.type T == Value.type "list" || Value.type T == Value.type "tuple") = true := by rcases hT with e | e <;> subst e <;> rfl
  rw [if_pos (by rcases hT with e | e <;> simp [e])]
  refine wpAny_bind (listItems_at old hd (wpAny_bind (listItems_at (xs := #[]) (n := 0) new rfl ?_)))
  rw [if_neg (by simp)]
  have fits : (#[] ++ items).size ≤ sizeLine + 1 := by
    simp only [Array.size_append, List.size_toArray, List.length_nil]
    omega
  refine wpAny_bind (listUpdate_at (xs := #[]) (n := 0) new rfl (wpAny_pure ?_) (Nat.zero_le _) fits)
  refine wpAny_bind (wpAny_load (get?_update_seq new _) (?_ : wpAny _ _ (pure ((#[] : Array Value) ++ items).toList) Q E _))
  rw [show ((#[] : Array Value) ++ items).toList = items.toList by simp]
  exact wpAny_pure h
/-- sorted(x), x a tuple or a list of texts -/
theorem sorted_txt {l : Addr} {T : String} {o : Obj} {items : Array Value} {n : Nat} {ss : List Str} {Q : Value → Shared → Prop} (hT : T = "list" ∨ T = "tuple") (ho : s.heap.get? l = some o) (hc : o.cls = .type T) (hd : o.data = .seq items n) (hS : StrsAre items.toList ss) (hL : items.size ≤ sizeLine)
    (h : ∀ (h' : Heap) (p : Addr) (out : Array Value) (ss' : List Str) (e : Nat), StrsAre out.toList ss' → ss'.Perm ss → sortedS ss' = true → s.heap.objs.size ≤ p → (∀ b o', s.heap.get? b = some o' → h'.get? b = some o') → h'.get? p = some (seqObj "list" out e) → Q (.ref p) { s with heap := h' }) :
    wpAny (model prog w) A (call (.builtin "sorted") [.ref l]) Q E s := by
  refine Calls.call_function_entry kind_sorted plain_sorted entry_sorted (args_sorted1 _) ?_
  unfold Builtin.«sorted»
  refine wpAny_bind (m := checkCount "sorted" 1 1 _) (wpAny_pure (wpAny_bind (items_of hT ho hc hd hL (wpAny_bind (wpAny_newList ?_)))))
  have sz : ((s.heap.push (seqObj "list" #[] 0)).update s.heap.objs.size (Obj.mapSeq (· ++ items))).objs.size = s.heap.objs.size + 1 := by rw [Heap.size_update, size_push']
  have hk : ∀ b o', s.heap.get? b = some o' → ((s.heap.push (seqObj "list" #[] 0)).update s.heap.objs.size (Obj.mapSeq (· ++ items))).get? b = some o' := fun b o' hb => by
    rw [Heap.get?_update_ne _ _ _ _ (Nat.ne_of_lt (Heap.lt_size hb))]
    exact Heap.get?_push_of_some _ hb
  generalize ((s.heap.push (seqObj "list" #[] 0)).update s.heap.objs.size (Obj.mapSeq (· ++ items))) = h1 at sz hk
  have hoL : (h1.push (seqObj "list" items.toList.toArray 0)).get? h1.objs.size = some (seqObj "list" items.toList.toArray 0) := Heap.get?_push_size _ rfl
  have hlen : items.toList.length ≤ sizeLine := by rw [Array.length_toList]; exact hL
  show wpAny _ _ _ _ _ { s with heap := h1.push (seqObj "list" items.toList.toArray 0) }
  refine wpAny_bind (wpAny_holding (wpAny_call_entry slot_list_sort ⟨_, hoL, rfl⟩ entry_list_sort (list_sort_treeKAny strKind_oneLt hoL hS.keysOf (fun v₁ v₂ rest e => keyKind_strs (by rw [← e]; exact hS)) hlen fun st' a1 a2 => ⟨_, rfl, ?_⟩) (args_list_sort _)))
  obtain ⟨ss', h1', h2', h3'⟩ := sorted_out_str hS a1 a2
  obtain ⟨e, he⟩ := sortedHeap_at (out := (arrOf st').map (·.2)) hoL
  refine wpAny_pure ⟨_, rfl, h _ _ _ ss' e h1' h2' h3' (show s.heap.objs.size ≤ h1.objs.size by omega) (fun b o' hb => ?_) he⟩
  have hb1 := hk b o' hb
  have hlt : b < h1.objs.size := Heap.lt_size hb1
  rw [sortedHeap_old (Nat.ne_of_lt hlt) (by rw [size_push']; exact Nat.lt_succ_of_lt hlt), Heap.get?_push_ne _ _ _ (Nat.ne_of_lt hlt)]
  exact hb1
end
/-! the order of texts -/
theorem ltc_irr : ∀ a : List Nat, ltCps a a = false
  | [] => rfl
  | x :: a => by
    have := ltc_irr a
    simp [ltCps, this]
theorem ltc_anti : ∀ a b : List Nat, ltCps a b = false → ltCps b a = false → a = b
  | [], [], _, _ => rfl
  | [], _ :: _, h, _ => by simp [ltCps] at h
  | _ :: _, [], _, h => by simp [ltCps] at h
  | x :: a, y :: b, h, h2 => by
    simp only [ltCps, Bool.or_eq_false_iff, decide_eq_false_iff_not, Bool.and_eq_false_imp, beq_iff_eq] at h h2
    have e : x = y := by omega
    subst e
    rw [ltc_anti a b (h.2 rfl) (h2.2 rfl)]
theorem ltc_trans : ∀ a b c : List Nat, ltCps b a = false → ltCps c b = false → ltCps c a = false
  | [], _, [], _, _ => rfl
  | [], [], _ :: _, _, _ => rfl
  | [], _ :: _, _ :: _, _, _ => rfl
  | _ :: _, [], _, h, _ => by simp [ltCps] at h
  | _ :: _, _ :: _, [], _, h => by simp [ltCps] at h
  | x :: a, y :: b, z :: c, h, h2 => by
    simp only [ltCps, Bool.or_eq_false_iff, decide_eq_false_iff_not, Bool.and_eq_false_imp, beq_iff_eq] at h h2 ⊢
    refine ⟨by omega, fun e => ?_⟩
    have e1 : y = x := by omega
    have e2 : z = y := by omega
    exact ltc_trans a b c (h.2 e1) (h2.2 e2)
def leS (a b : Str) : Prop := ltCps b.cps.toList a.cps.toList = false
theorem leS_anti {a b : Str} (h : leS a b) (h2 : leS b a) : a = b := by
  have := ltc_anti _ _ h2 h
  cases a; cases b
  simp only [Str.mk.injEq]
  exact Array.toList_inj.mp this
theorem leS_total (a b : Str) : leS a b ∨ leS b a := by
  unfold leS
  generalize a.cps.toList = x
  generalize b.cps.toList = y
  have : ∀ x y : List Nat, ltCps y x = false ∨ ltCps x y = false := fun x => by
    induction x with
    | nil => intro y; cases y <;> simp [ltCps]
    | cons a x ih =>
      intro y
      cases y with
      | nil => simp [ltCps]
      | cons b y =>
        rcases ih y with q | q
        · by_cases h : b < a
          · right; simp [ltCps]; exact ⟨by omega, fun e => by omega⟩
          · left; simp [ltCps, q]; omega
        · by_cases h : a < b
          · left; simp [ltCps]; exact ⟨by omega, fun e => by omega⟩
          · right; simp [ltCps, q]; omega
  exact this x y
theorem rising_pw : ∀ (r : List Str) (p : Str), risingS p r = true → (p :: r).Pairwise leS
  | [], p, _ => by simp
  | x :: r, p, h => by
    have h' : (!ltCps x.cps.toList p.cps.toList && risingS x r) = true := h
    rw [Bool.and_eq_true, Bool.not_eq_true'] at h'
    have ih := rising_pw r x h'.2
    refine List.pairwise_cons.mpr ⟨fun y hy => ?_, ih⟩
    rcases List.mem_cons.mp hy with rfl | hy
    · exact h'.1
    · exact ltc_trans _ _ _ h'.1 ((List.pairwise_cons.mp ih).1 y hy)
theorem sortedS_pw {l : List Str} (h : sortedS l = true) : l.Pairwise leS := by
  cases l with
  | nil => exact .nil
  | cons x r => exact rising_pw r x h
/-- put in its place -/
def insS (x : Str) : List Str → List Str
  | [] => [x]
  | y :: l => if ltCps y.cps.toList x.cps.toList then y :: insS x l else x :: y :: l
def isortS (l : List Str) : List Str := l.foldr insS []
theorem insS_perm (x : Str) : ∀ l, (insS x l).Perm (x :: l)
  | [] => .refl _
  | y :: l => by
    unfold insS
    split
    · exact (List.Perm.cons y (insS_perm x l)).trans (List.Perm.swap _ _ _)
    · exact .refl _
theorem isortS_perm : ∀ l, (isortS l).Perm l
  | [] => .refl _
  | x :: l => (insS_perm x (isortS l)).trans (.cons x (isortS_perm l))
theorem insS_pw (x : Str) : ∀ l, l.Pairwise leS → (insS x l).Pairwise leS
  | [], _ => by simp [insS]
  | y :: l, h => by
    have h' := List.pairwise_cons.mp h
    unfold insS
    split
    · rename_i q
      refine List.pairwise_cons.mpr ⟨fun z hz => ?_, insS_pw x l h'.2⟩
      rcases List.mem_cons.mp ((insS_perm x l).mem_iff.mp hz) with rfl | hz
      · rcases leS_total y z with w | w
        · exact w
        · exact absurd (show ltCps y.cps.toList z.cps.toList = false from w) (by rw [q]; simp)
      · exact h'.1 z hz
    · rename_i q
      have q : leS x y := by simpa [leS] using q
      refine List.pairwise_cons.mpr ⟨fun z hz => ?_, h⟩
      rcases List.mem_cons.mp hz with rfl | hz
      · exact q
      · exact ltc_trans _ _ _ q (h'.1 z hz)
theorem isortS_pw : ∀ l, (isortS l).Pairwise leS
  | [] => .nil
  | x :: l => insS_pw x _ (isortS_pw l)
theorem sorted_unique {l l' : List Str} (h : l'.Perm l) (hs : sortedS l' = true) : l' = isortS l :=
  List.Perm.eq_of_pairwise (fun a b _ _ h1 h2 => leS_anti h1 h2) (sortedS_pw hs) (isortS_pw l) (h.trans (isortS_perm l).symm)
end DlO
namespace Dl
open PySem L2
section
variable {X : Cx} {W : WX} {pos : Pos} {a b : Expr} {sa sb : Sx}
def rSortT (K : PySem.W.Frag) : List V → Hp → VK → Prop := fun vs H Q => ∃ (a : Addr) (xs : List Str), vs = [V.ref a] ∧ (SqL K H a (xs.map V.str) ∨ SqT K H a (xs.map V.str)) ∧
  ∀ (p : Addr), H p = none → Q (.ref p) (upd H p (.lst ((DlO.isortS xs).map V.str)))
theorem cr_sortT2 : CallR X (.builtin "sorted") (rSortT X.K) := by
  intro pins s σ H vs us Q I r h
  obtain ⟨a, xs, rfl, hs, q⟩ := h
  rw [Vals.ref1 r]
  have go : ∀ {T : String} {o : Obj} {its : List Value} {n : Nat}, (T = "list" ∨ T = "tuple") → s.heap.get? a = some o → o.cls = .type T → o.data = .seq its.toArray n → its.length ≤ sizeLine → PyProof.Rows.StrsAre its xs → wpAny (model X.prog X.w) X.A (call (.builtin "sorted") [.ref a]) (EP X pins σ Q) X.xe s := fun {T o its n} hT ho hc hd hz hS => by
    refine DlO.sorted_txt hT ho hc hd (by simpa using hS) (by rw [List.size_toArray]; exact hz) fun h' p out ss' e h1 h2 h3 hp hk hat => ?_
    have e1 := DlO.sorted_unique h2 h3
    subst e1
    have hlen : ((DlO.isortS xs).map V.str).length ≤ sizeLine := by rw [List.length_map, h2.length_eq, ← PyProof.Rows.StrsAre.len_eq hS]; exact hz
    exact ⟨.ref p, upd H p (.lst ((DlO.isortS xs).map V.str)), I.laid (t' := s.toks) (fun b o e => hk b o e) hp ⟨hlen, out.toList, e, vals_of_strs h1, hat⟩, rfl, q p (I.hok.fresh hp)⟩
  rcases hs with hs | hs
  · obtain ⟨its, rv, ⟨o, n, ho, hc, hdn, hd⟩, hl⟩ := I.list hs
    exact go (.inl rfl) ho hc hd (by have := rv.length; rw [List.length_map] at this; rw [← this]; simpa using hl) rv.strs
  · obtain ⟨its, rv, tl, hl⟩ := I.tuple hs
    obtain ⟨o, ho, hc, n, hd⟩ := tl
    exact go (.inr rfl) ho hc hd (by have := rv.length; rw [List.length_map] at this; rw [← this]; simpa using hl) rv.strs
def dSorted : D → Option (List D)
  | .lst ds => (strsOf ds).map fun xs => (DlO.isortS xs).map D.str
  | .tup ds => (strsOf ds).map fun xs => (DlO.isortS xs).map D.str
  | _ => none
def sSorted (a : Sx) : Sl := fun ρ => bd (a ρ) fun x => lift (dSorted x)
theorem strs_all {K : PySem.W.Frag} {mg : Str → Option Value} {F : Hp} : ∀ xs : List Str, RepAll K mg F (xs.map V.str) (xs.map D.str)
  | [] => .nil
  | x :: xs => .cons (.str x) (strs_all xs)
theorem l_sorted {p : Pos} (hm : X.mg "sorted" = none) (ha : PE X a (tS X.K X.mg W sa)) (hg : Gl X "sorted" := by rfl) (hv : bootBuiltins "sorted" = some (.builtin "sorted") := by decide +kernel)
    (he : starEach [a] X.env = (false, eval a X.env) :: starEach [] X.env := by rfl) (hpl : (backTo pos (starEach [] X.env)).any (·.1) = false := by rfl) : PE X (.Call (.Name "sorted" p) [a] [] pos) (tL X.K X.mg W (sSorted sa)) := by
  refine pe_imp (pe_callB cr_sortT2 hg hm hv (pa_cons ha pa_nil he) (by decide) (by decide) he hpl) fun σ H Q ⟨ρ, F, z, v, e, fin⟩ => ?_
  refine part v e fin fun dx x F1 H1 _ e g v1 rx fin1 => ?_
  obtain ⟨ds, e', rfl⟩ := lift_some e
  unfold dSorted at e'
  split at e'
  · obtain ⟨xs, hx, rfl⟩ := Option.map_eq_some_iff.mp e'
    cases rx with
    | lst h1 r1 =>
      rw [strs_rep r1 hx] at h1
      exact ⟨_, xs, rfl, .inl (.inl (.inl (v1.e _ _ h1))), fun p hp => fin1 (.ref p) F1 _ (.only v1.e hp) ⟨p, _, rfl, hp, v1.e.none hp, upd_same, strs_all _⟩⟩
  · obtain ⟨xs, hx, rfl⟩ := Option.map_eq_some_iff.mp e'
    cases rx with
    | tup h1 r1 =>
      rw [strs_rep r1 hx] at h1
      exact ⟨_, xs, rfl, .inr (v1.e.sqT h1), fun p hp => fin1 (.ref p) F1 _ (.only v1.e hp) ⟨p, _, rfl, hp, v1.e.none hp, upd_same, strs_all _⟩⟩
  · cases e'
end
end Dl
/-! Dl15: pairs and lists turned round, a dict that is read at once. -/
namespace DlV
open PySem PySem.Spec PyProof.Rows HT
section
variable {prog : Program} {w : World} {A : Around} {E : Value → Shared → Prop} {s : Shared}
theorem rev_parts {sl : Addr} {vs : Value} {Q : Int × Int × Nat → Shared → Prop} (hs : s.heap.IsSliceOf sl .none .none vs) (ps : IsPart vs (some (-1))) (h : Q (1, -1, 2) s) : wpAny (model prog w) A (Builtin.Slice.sliceApplied (.ref sl) (pure (2 : Int))) Q E s := by
  obtain ⟨os, hos, hcs, hds⟩ := id hs
  unfold Builtin.Slice.sliceApplied Builtin.Slice.sliceFields
  refine wpAny_bind (wpAny_bind (wpAny_field hos hds (x := .none) rfl (wpAny_bind (wpAny_field hos hds (x := .none) rfl (wpAny_bind (wpAny_field hos hds (x := vs) rfl (wpAny_pure ?_)))))))
  refine wpAny_bind (slicePart_ ps (?_ : wpAny _ _ (if ((-1 : Int) == 0) = true then _ else _) _ _ s))
  rw [if_neg (by decide)]
  exact wpAny_bind (slicePart_ .none (wpAny_bind (slicePart_ .none (wpAny_bind (wpAny_pure (wpAny_pure h))))))
/-- (x, y)[::-1] -/
theorem item_rev2 {t sl : Addr} {x y vs : Value} {Q : Value → Shared → Prop} (ht : IsTup s.heap t #[x, y]) (hs : s.heap.IsSliceOf sl .none .none vs) (ps : IsPart vs (some (-1)))
    (h : Q (.ref s.heap.objs.size) { s with heap := s.heap.push { cls := .type "tuple", data := .seq #[y, x] } }) : wpAny (model prog w) A (getItem (.ref t) (.ref sl)) Q E s := by
  have fits : sizeOk (.seq #[y, x]) := show (2 : Nat) ≤ sizeLine from by decide
  obtain ⟨os, hos, hcs, hds⟩ := id hs
  unfold getItem
  try with_reducible refine wpAny_holding ?_
  first | refine wpAny_bind (wpAny_pure ?_) | skip
  refine wpAny_bind (wpAny_sequenceKey ht.typeIs (by decide) (wpAny_bind (wpAny_callSpecial?_slot (name := Str.ofString "__getitem__") ht.typeIs PyProof.Rows.slot_tuple_getitem
    (wpAny_call_entry PyProof.Rows.slot_tuple_getitem ht.typeIs entry_tuple_getitem (?_ : wpAny _ _ (Builtin.Tuple.tupleItemsOf (.ref t) >>= _) _ _ s) (args_tuple_getitem _ _)))))
  refine wpAny_bind (tupleItemsOf_ ht (wpAny_bind (wpAny_typeOf ⟨os, hos, hcs⟩ ?_)))
  rw [if_pos (by decide)]
  refine wpAny_bind (rev_parts hs ps (?_ : wpAny _ _ (if ((1 : Int) == 0 && (-1 : Int) == 1 && (2 : Nat) == (#[x, y] : Array Value).size) = true then _ else _) _ _ s))
  rw [if_neg (show ¬ (((1 : Int) == 0 && (-1 : Int) == 1 && (2 : Nat) == (#[x, y] : Array Value).size) = true) from fun q => Bool.false_ne_true q)]
  have pick : ((List.range 2).filterMap fun (m : Nat) => (#[x, y] : Array Value)[((1 : Int) + (m : Int) * (-1)).toNat]?).toArray = #[y, x] := rfl
  rw [pick]
  first
    | exact wpAny_bind (m := Builtin.Tuple.tupleExact _) (wpAny_newObj_type (wpAny_pure ⟨_, rfl, wpAny_pure h⟩) fits)
    | exact wpAny_bind (m := Builtin.Tuple.tupleExact _) (wpAny_newObj_type (wpAny_bind (wpAny_pure (wpAny_pure ⟨_, rfl, wpAny_pure h⟩))) fits)
    | exact wpAny_bind (wpAny_bind (m := Builtin.Tuple.tupleExact _) (wpAny_newObj_type (wpAny_pure (wpAny_pure ⟨_, rfl, wpAny_pure h⟩)) fits))
    | exact wpAny_bind (wpAny_bind (m := Builtin.Tuple.tupleExact _) (wpAny_newObj_type (wpAny_pure ⟨_, rfl, wpAny_pure h⟩) fits))
end
end DlV
namespace Dl
open PySem L2 PyProof.Rows
section
variable {X : Cx} {W : WX} {pos : Pos} {a b : Expr} {sa sb : Sx}
def tRev2 (K : PySem.W.Frag) (te : TE) : TE := fun σ H Q => te σ H fun x H1 => ∃ a u v, x = .ref a ∧ SqT K H1 a [u, v] ∧ ∀ p, H1 p = none → Q (.ref p) (upd H1 p (.tup [v, u]))
theorem pe_rev2 {e : Expr} {te : TE} {k : Nat} {p1 p2 p3 pos : Pos} (he : PE X e te) : PE X (.Subscript e (.Slice none none (some (.UnaryOp .USub (.Constant (.int 1) k p1) p2)) p3) pos) (tRev2 X.K te) := by
  refine ⟨fun pins s σ H Q I h => Subscript_ (thn (he.run pins s σ H _ I h) fun v s1 ⟨x, H1, I1, r1, q1⟩ => ?_)⟩
  obtain ⟨a, u, v', ex, hx, q⟩ := q1
  subst ex
  cases r1
  have st : PO X (some (.UnaryOp .USub (.Constant (.int 1) k p1) p2)) (tPart (tUn (rU fun i => .int (-i)) (tC (.int 1)))) := po_some (pe_un un_neg pe_int)
  refine wpAny_Slice (thn (po_none.run pins s1 σ H1 (fun o H2 => o = none ∧ H2 = H1) I1 ⟨rfl, rfl⟩) fun vl s2 ⟨l, H2, I2, pl, el, e2⟩ => ?_)
  subst el e2
  refine thn (po_none.run pins s2 σ H2 (fun o H3 => o = none ∧ H3 = H2) I2 ⟨rfl, rfl⟩) fun vu s3 ⟨u', H3, I3, pu, eu, e3⟩ => thn (st.run pins s3 σ H3 (fun o H4 => o = some (-1) ∧ H4 = H3) I3 ⟨1, rfl, -1, rfl, rfl, rfl⟩) fun vs s4 ⟨o, H4, I4, ps, eo, e4⟩ => ?_
  subst eu e3 eo e4
  have l0 : vl = .none := by cases pl; rfl
  have u0 : vu = .none := by cases pu; rfl
  subst l0 u0
  have I5 : L2.Inv X pins σ H4 { s4 with heap := s4.heap.push { cls := .type "slice", data := .fields #[.none, .none, vs] } } := I4.kept (t' := s4.toks) fun b ob q => Heap.get?_push_of_some _ q
  obtain ⟨its, r, ht, hz⟩ := I5.tuple hx
  cases r with
  | @cons _ w1 _ r' ru rr =>
    cases rr with
    | @cons _ w2 _ r'' rv rr2 =>
      cases rr2
      show wpAny (model X.prog X.w) X.A (subscriptTail e (.Slice none none (some (.UnaryOp .USub (.Constant (.int 1) k p1) p2)) p3) (.ref a) (.ref s4.heap.objs.size)) (EP X pins σ Q) X.xe { s4 with heap := s4.heap.push { cls := .type "slice", data := .fields #[.none, .none, vs] } }
      refine tail_any (ops := [.ref a, .ref s4.heap.objs.size]) ht.typeIs (PyProof.Rows.slot_tuple_getitem.lookup) ?_ (by with_unfolding_all rfl)
      refine DlV.item_rev2 ht (Heap.IsSliceOf.new _ .none .none vs) ps ?_
      refine ⟨.ref _, _, I5.laid (t' := s4.toks) (o := .tup [v', u]) (fun b ob q => Heap.get?_push_of_some _ q) (Nat.le_refl _) ?_, rfl, q _ (I5.hok.fresh (Nat.le_refl _))⟩
      exact ⟨show (2 : Nat) ≤ sizeLine from by decide, [w2, w1], .cons rv (.cons ru .nil), ⟨_, Heap.get?_push_size _ rfl, rfl, _, rfl⟩⟩
def dRev2 : D → Option D
  | .tup [x, y] => some (.tup [y, x])
  | _ => none
theorem d_rev2 {k : Nat} {p1 p2 p3 : Pos} (ha : PE X a (tS X.K X.mg W sa)) : PE X (.Subscript a (.Slice none none (some (.UnaryOp .USub (.Constant (.int 1) k p1) p2)) p3) pos) (tS X.K X.mg W (sUn dRev2 sa)) := by
  refine pe_imp (pe_rev2 ha) fun σ H Q ⟨ρ, F, z, v, e, fin⟩ => ?_
  refine part v e fin fun dx x F1 H1 _ e g v1 rx fin1 => ?_
  obtain ⟨ds, e', rfl⟩ := lift_some e
  unfold dRev2 at e'
  split at e'
  · cases e'
    cases rx with
    | tup h1 r1 =>
      cases r1 with
      | cons r2 r3 =>
        cases r3 with
        | cons r4 r5 =>
          cases r5
          exact ⟨_, _, _, rfl, v1.e.sqT h1, fun p hp => fin1 (.ref p) _ _ (.both v1.e hp) (.tup (.inl (.inl upd_same)) (.cons (r4.mo (.new (v1.e.none hp))) (.cons (r2.mo (.new (v1.e.none hp))) .nil)))⟩
  · cases e'
/-- xs[::-1] -/
def sRevL (a : Sx) : Sl := fun ρ => bd (a ρ) fun x => lift (match x with
  | .lst xs => some xs.reverse
  | _ => none)
theorem l_rev {k : Nat} {p1 p2 p3 : Pos} (ha : PE X a (tS X.K X.mg W sa)) : PE X (.Subscript a (.Slice none none (some (.UnaryOp .USub (.Constant (.int 1) k p1) p2)) p3) pos) (tL X.K X.mg W (sRevL sa)) := by
  refine pe_imp (pe_revL ha) fun σ H Q ⟨ρ, F, z, v, e, fin⟩ => ?_
  refine part v e fin fun dx x F1 H1 _ e g v1 rx fin1 => ?_
  obtain ⟨ds, e', rfl⟩ := lift_some e
  split at e'
  · cases e'
    cases rx with
    | lst h1 r1 => exact ⟨_, _, rfl, .inl (.inl (v1.e _ _ h1)), fun p hp => fin1 (.ref p) F1 _ (.only v1.e hp) ⟨p, _, rfl, hp, v1.e.none hp, upd_same, r1.reverse⟩⟩
  · cases e'
/-- a new dict, frozen as it is -/
def sOfD (g : Rho → Oe (List (Key × V))) : Sx := fun ρ => bd (g ρ) fun kvs => some (.ok (.dic kvs))
theorem d_ofD {e : Expr} {g : Rho → Oe (List (Key × V))} (h : PE X e (tK X.K X.mg W kD g)) : PE X e (tS X.K X.mg W (sOfD g)) := by
  refine pe_imp h fun σ H Q ⟨ρ, F, z, v, e, fin⟩ => ?_
  rcases bd_some e with ⟨kvs, ea, e⟩ | ⟨c, ea, rfl⟩
  · cases e
    refine ⟨ρ, F, .ok kvs, v, ea, fun b F1 H1 g ⟨p, eb, hp, f1, h1, fa⟩ => ?_⟩
    subst eb
    exact fin (.ref p) _ H1 (g.freeze hp f1 h1) (.dic upd_same fa)
  · exact ⟨ρ, F, .error c, v, ea, fin⟩
end
end Dl
/-! Dl16: defs called by value, try with one except clause, isinstance of what was caught, l.index. -/
namespace Dl
open PySem L2
abbrev Tb := List (Str × Nat × (List D → Oe D))
section
variable {X : Cx} {W : WX} {pos p : Pos} {a e : Expr} {es : List Expr} {sa : Sx} {sl : Sl} {k : Nat}
def TbOk (X : Cx) (k : Nat) (tb : Tb) : Prop := ∀ q, q ∈ tb → ∃ j, j ≤ k ∧ FnD X.prog X.w X.K X.mg X.base j q.1 q.2.1 q.2.2
theorem tb_nil : TbOk X k [] := fun _ h => nomatch h
theorem tb_cons {x : Str} {n j : Nat} {f : List D → Oe D} {tb : Tb} (G : FnD X.prog X.w X.K X.mg X.base j x n f) (hj : j ≤ k) (h : TbOk X k tb) : TbOk X k ((x, n, f) :: tb) := fun q hq => by
  rcases List.mem_cons.mp hq with rfl | hq
  · exact ⟨j, hj, G⟩
  · exact h q hq
theorem d_fnV {x : Str} {n j : Nat} {f : List D → Oe D} (G : FnD X.prog X.w X.K X.mg X.base j x n f) (hg : Gl X x := by rfl) (hd : (x == ("__debug__" : Str)) = false := by decide) : PE X (.Name x pos) (tS X.K X.mg W (sC (.fn x))) := by
  obtain ⟨fa, fd, ps, _, hm, _⟩ := G.ex
  exact d_fn hm hg hd
def callT (tb : Tb) (nm : Str) (sl : Sl) : Sx := fun ρ =>
  match tb.find? fun q => decide (q.1 = nm) with
  | some q => bd (sl ρ) fun ds => if ds.length = q.2.1 then q.2.2 ds else none
  | none => none
/-- f(..), f the value of an expression -/
def sCallV (tb : Tb) (a : Sx) (sl : Sl) : Sx := fun ρ => bd (a ρ) fun d =>
  match d with
  | .fn nm => callT tb nm sl ρ
  | _ => none
theorem d_callV {tb : Tb} (ht : TbOk X k tb) (hr : Room k X.A) (tk : Takes X W) (hf : PE X a (tS X.K X.mg W sa)) (ha : PA X (e :: es) (tA X.K X.mg W sl))
    (hc : eval (.Call a (e :: es) [] pos) X.env = (do callWith pos (← eval a X.env) [] (backTo pos (starEach (e :: es) X.env)) (backToKw pos (keywordEach [] X.env))) := by rfl)
    (he : starEach (e :: es) X.env = (false, eval e X.env) :: starEach es X.env := by rfl) (hpl : (backTo pos (starEach es X.env)).any (·.1) = false := by rfl) :
    PE X (.Call a (e :: es) [] pos) (tS X.K X.mg W (sCallV tb sa sl)) := by
  refine ⟨fun pins s σ H Q I ⟨ρ, F, z, v, ez, fin⟩ => ?_⟩
  refine PyProof.Rows.Call_ (thn (hf.run pins s σ H (fun x H1 => ∃ (F1 : Hp) (nm : Str), View X.K X.mg F1 H1 σ ρ ∧ Rep X.K X.mg F1 x (.fn nm) ∧ callT tb nm sl ρ = some z ∧ Fin X.mg W (kV X.K X.mg) F1 H1 σ z Q) I ?_) fun u s1 ⟨x, H1, I1, r1, F1, nm, v1, rx, ez, fin1⟩ => ?_) hc
  · refine part v ez fin fun df x F1 H1 _ e g v1 rx fin1 => ?_
    split at e
    · exact ⟨F1, _, v1, rx, e, fin1⟩
    · cases e
  · unfold callT at ez
    split at ez
    · rename_i q hq
      have hmem := List.mem_of_find?_eq_some hq
      have hnm : q.1 = nm := of_decide_eq_true (by simpa using List.find?_some hq)
      obtain ⟨j, hj, G⟩ := ht q hmem
      obtain ⟨fa, fd, ps, hF, hm, hk, hb⟩ := G.ex
      cases rx with
      | fn hm2 =>
        rw [hnm] at hm
        rw [hm] at hm2
        cases hm2
        cases r1
        refine PySem.W.callWith_K (h₀ := X.base) I1.ok.mod.kin hk (thn (ha.run pos pins s1 σ H1 (fun vs H2 => spOf X.K X.mg q.2.1 q.2.2 vs H2 Q (fun cls d H => W cls d σ H)) I1 ?_) fun us s2 ⟨vs, H2, I2, r, qq⟩ => ⟨I2.kIn, run_fnS hF (hr.mono hj) hb (passAt tk σ) I2 r qq⟩) he hpl
        refine part v1 ez fin1 fun ds xs F2 H2 _ e g v2 rs fin2 => ?_
        split at e
        · rename_i hn
          refine ⟨F2, ds, z, v2.e, rs, hn, e, ?_⟩
          cases z with
          | ok d => exact fun u F3 H3 g2 r2 => fin2 u F3 H3 g2 r2
          | error c => exact fun C F3 H3 g2 hc => fin2 C F3 H3 g2 hc
        · cases e
    · cases ez
/-! ### try: body, except x as n: suite that hands back -/
def sTry (N : Nat) (b : Ss) (res : Str → Option D) : Ss := fun ρ => match b ρ with
  | some (.ex c ρ') => if ρ'.length = N then (res c).map Fl.rt else none
  | o => o
/-- what the module tells of an own exception c and the class x: an except clause for x takes c or not -/
structure Caught (K : PySem.W.Frag) (mg : Str → Option Value) (c x : Str) : Prop where
  ex : ∃ C P : Addr, mg c = some (.ref C) ∧ mg x = some (.ref P) ∧ PySem.W.exmOne K (.ref C) (.ref P) = some true
theorem s_try {i N : Nat} {n x : Str} {body suite : List Stmt} {b₀ : Stmt} {np pos' : Pos} {sb : Ss} {h : Str → Addr → Ss} {res : Str → Option D} (hN : X.N.Nodup) (tk : Takes X W) (hs : X.stack = X.env :: X.outer) (hf : X.env.frame = some X.env.locals)
    (hb : ∀ (W : WX) (pn : List (Addr × Obj)) (xe : Value → Shared → Prop), Takes (X.tr pn xe) W → PassesOwn (model X.prog X.w) X.A X.env xe → PSs (X.tr pn xe) body (tP X.K X.mg W sb))
    (hsu : ∀ (c : Str) (d : D), res c = some d → ∀ (a : Addr) (oe : Obj) (cls : Value) (pn : List (Addr × Obj)), X.mg c = some cls → Zc cls none oe → (∃ vs, oe.data = .fields vs) → PSs (X.suite a ((a, oe) :: pn)) (b₀ :: suite) (tP X.K X.mg W (h c a)))
    (hres : ∀ (c : Str) (d : D), res c = some d → ∀ (a : Addr) (ρ : Sig), ρ.length = N → h c a (ρ.set i (.dat (.exn a))) = some (.rt d))
    (hct : ∀ (c : Str) (d : D), res c = some d → Caught X.K X.mg c x) (hx : ∃ P : Addr, X.mg x = some (.ref P)) (hgx : Gl X x := by rfl) (hdx : (x == ("__debug__" : Str)) = false := by decide) (hi : X.N[i]? = some n := by rfl) (hln : X.env.kindOf n = some .local := by rfl) :
    PS X (.Try body [.ExceptHandler (some (.Name x np)) (some n) (b₀ :: suite) pos'] [] [] pos) (tP X.K X.mg W (sTry N sb res)) := by
  obtain ⟨P, hP⟩ := hx
  refine ps_imp (ps_try_as (c := .ref P) (i := i) (ts := fun a cls d D σ H => ∃ c d', res c = some d' ∧ X.mg c = some cls ∧ d = none ∧ tP X.K X.mg W (h c a) D σ H) (Wout := W) hs hf hN hi hln ⟨hgx, hdx, .inl hP⟩ tk hb ?_) fun D σ H hh => ?_
  · intro a oe cls d pn hz hv
    refine ⟨fun pins s σ H D I q => ?_⟩
    obtain ⟨c, d', hr, hm, rfl, q⟩ := q
    exact (hsu c d' hr a oe cls pn hm hz hv).run pins s σ H D I q
  · obtain ⟨F0, H0, ρ, F, fl, S, e, post⟩ := hh
    unfold sTry at e
    split at e
    · rename_i c ρ' eb
      split at e
      case isFalse => cases e
      rename_i hlen
      obtain ⟨d, hr, rfl⟩ := Option.map_eq_some_iff.mp e
      refine ⟨F0, H0, ρ, F, .ex c ρ', S, eb, fun C σ' F' H' S' eF hC => ?_⟩
      obtain ⟨C', P', hC', hP', hex⟩ := (hct c d hr).ex
      rw [hC] at hC'; cases hC'
      rw [hP] at hP'; cases hP'
      refine ⟨true, hex, fun _ a ha => ?_, fun z => nomatch z⟩
      refine ⟨c, d, hr, hC, rfl, F0, H0, ρ'.set i (.dat (.exn a)), F', .rt d, S'.set (.exn a), hres c d hr a ρ' hlen, fun v F2 H2 g r => post v F2 H2 g r⟩
    · rename_i hne
      refine ⟨F0, H0, ρ, F, fl, S, e, ?_⟩
      cases fl with
      | nx ρ' => exact post
      | bk ρ' => exact post
      | ct ρ' => exact post
      | rt d => exact post
      | rs d ρ' => exact post
      | ex c ρ' => exact (hne c ρ' e).elim
/-! ### isinstance(e, C), e what the clause holds -/
/-- is an error of the class c one of the class x? -/
structure IsE (K : PySem.W.Frag) (mg : Str → Option Value) (c x : Str) (b : Bool) : Prop where
  ex : ∃ C P : Addr, mg c = some (.ref C) ∧ mg x = some (.ref P) ∧ ExcC K C ∧ PySem.W.kitOne K (.ref C) (.ref P) = some b
def sIsE (i : Nat) (a : Addr) (b : Bool) : Sx := fun ρ => match (ρ[i]?).bind id with
  | some (.exn a') => if a' = a then some (.ok (.bl b)) else none
  | _ => none
theorem d_isE {i : Nat} {n x c : Str} {b : Bool} {av : Addr} {oe : Obj} {cls : Value} {pn : List (Addr × Obj)} {p1 p2 p3 : Pos} (h : IsE X.K X.mg c x b) (hm : X.mg c = some cls) (hz : Zc cls none oe) (hv : ∃ vs, oe.data = .fields vs) (hi' : X.mg "isinstance" = none) (hN : X.N[i]? = some n := by rfl)
    (hvis : Vis X.env.scope n := by first | exact Or.inl rfl | exact Or.inr (Or.inl rfl) | exact Or.inr (Or.inr rfl)) (hg : Gl X "isinstance" := by rfl) (hgx : Gl X x := by rfl) (hd : (n == ("__debug__" : Str)) = false := by decide) (hcd : (n == ("__classdict__" : Str)) = false := by decide) (hdx : (x == ("__debug__" : Str)) = false := by decide)
    (hb : bootBuiltins "isinstance" = some (.builtin "isinstance") := by decide +kernel)
    (h1 : starEach [.Name n p2, .Name x p3] X.env = (false, eval (.Name n p2) X.env) :: starEach [.Name x p3] X.env := by rfl) (h2 : starEach [.Name x p3] X.env = (false, eval (.Name x p3) X.env) :: starEach [] X.env := by rfl)
    (hpl : (backTo pos (starEach [.Name x p3] X.env)).any (·.1) = false := by rfl) :
    PE (X.suite av ((av, oe) :: pn)) (.Call (.Name "isinstance" p1) [.Name n p2, .Name x p3] [] pos) (tS X.K X.mg W (sIsE i av b)) := by
  obtain ⟨C, P, hC, hP, hE, hk⟩ := h.ex
  rw [hm] at hC
  cases hC
  have hgx' : PE (X.suite av ((av, oe) :: pn)) (.Name x p3) (tC (.ref P)) := pe_glob (v := .ref P) hgx hP rfl hdx
  refine pe_imp (pe_callB (call_isE hE hz hv) hg hi' hb (pa_cons (pe_var (i := i) hN hvis hd hcd) (pa_cons hgx' pa_nil h2) h1) (by decide) (by decide) h1 hpl) fun σ H Q ⟨ρ, F, z, v, e, fin⟩ => ?_
  unfold sIsE at e
  split at e
  · rename_i a' ha
    split at e
    · rename_i haa
      subst haa
      cases e
      have e2 : ρ[i]? = some (some (.exn a')) := by
        cases q : ρ[i]? with
        | none => rw [q] at ha; cases ha
        | some o => rw [q] at ha; exact congrArg some ha
      obtain ⟨u, e3, rp⟩ := v.v i _ e2
      cases rp
      exact ⟨.ref a', e3, .ref P, .ref P, b, rfl, fun u hu => hu, hk, fin (.bl b) F H (.refl v.e) (.bl b)⟩
    · cases e
  · cases e
end
/-! ### l.index(x) -/
section
variable {X : Cx} {W : WX} {pos : Pos} {a b : Expr} {sa sb : Sx}
theorem toPys_get : ∀ (ds : List D) (i : Nat), (toPys ds)[i]? = (ds[i]?).map toPy
  | [], i => by simp [toPys]
  | d :: ds, 0 => by simp [toPys]
  | d :: ds, i + 1 => by simp [toPys, toPys_get ds i]
theorem d_index {apos cpos : Pos} (hu : X.A.units + 65 < cLine) (ha : PE X a (tS X.K X.mg W sa)) (hb : PE X b (tS X.K X.mg W sb)) (hbase : attributeBase a "index" X.env (eval a X.env) = eval a X.env := by rfl)
    (hfew : ((backTo cpos (starEach [b] X.env)).all (fun x => !x.1) && (backToKw cpos (keywordEach [] X.env)).all (fun x => x.1.isSome)
      && decide (([b] : List Expr).length + ([] : List Keyword).length + (if ([] : List Keyword).isEmpty then 0 else 1) < 30)) = true := by rfl)
    (hline : (apos.endLine == cpos.line) = true := by rfl) (hs : starEach [b] X.env = (false, eval b X.env) :: starEach [] X.env := by rfl) (hplain : (backTo cpos (starEach [] X.env)).any (·.1) = false := by rfl) :
    PE X (.Call (.Attribute a "index" apos) [b] [] cpos) (tS X.K X.mg W (sLM dIndex sa sb)) := by
  refine pe_imp (pe_bm PySem.F.plainAttrs_list PySem.F.slot_list_index PySem.F.type_list_index (mt_indexD hu) ha (pa_cons hb pa_nil hs) hbase hfew hline hs hplain) fun σ H Q h => lm_reads (fun F H x y dx dy dz Q e rx ry hf q => ?_) h
  unfold dIndex at hf
  split at hf
  · rename_i ds
    split at hf
    · rename_i hok
      rw [Bool.and_eq_true] at hok
      obtain ⟨i, hi, rfl⟩ := Option.map_eq_some_iff.mp hf
      have okl : okN 10 (.lst ds) = true := hok.2
      cases rx with
      | @lst la lxs _ h1 r1 =>
        obtain ⟨hi1, hi2, hi3⟩ := List.findIdx?_eq_some_iff_getElem.mp hi
        have d1 : Dp X.K H (.ref la) (.list (toPys ds)) := Dp.mono e _ _ (Rep.dp 10 (.lst ds) _ okl (.lst h1 r1))
        have d2 : Dp X.K H y (toPy dy) := Dp.mono e _ _ (Rep.dp 9 dy _ hok.1 ry)
        have oka : ∀ d, d ∈ ds → okN 9 d = true := List.all_eq_true.mp hok.2
        refine ⟨la, y, toPy dy, toPys ds, i, toPy ds[i], rfl, rfl, d1, d2, ok_shaped (d := .lst ds) (n := 10) (by decide) okl, ok_shaped (n := 9) (by decide) hok.1, ?_, ?_, fun m z' hm hz => ?_, q _ F H (.refl e) (.int _)⟩
        · rw [toPys_get, List.getElem?_eq_getElem hi1]; rfl
        · rw [eqv_eqN 9 _ _ (oka _ (List.getElem_mem _)) hok.1]; exact hi2
        · rw [toPys_get] at hz
          obtain ⟨d', hd', rfl⟩ := Option.map_eq_some_iff.mp hz
          obtain ⟨hm1, hm2⟩ := List.getElem?_eq_some_iff.mp hd'
          rw [eqv_eqN 9 _ _ (oka _ (by rw [← hm2]; exact List.getElem_mem _)) hok.1]
          have := hi3 m hm
          rw [hm2] at this
          simpa using this
    · cases hf
  · cases hf
end
end Dl
/-! Dl17: min of a list of data, max of a list of numbers. -/
namespace DlM
open PySem PySem.W PySem.SeqAt
section
variable {prog : Program} {w : World} {A : Around} {E : Value → Shared → Prop} {s : Shared}
/-- min of a list of alike data: the item's place -/
theorem min_list_at {l : Addr} {vs : Array Value} {x : PyData} {xs : List PyData} {as : List Addr} {Q : Value → Shared → Prop} (hh : A.handled = none) (hl : s.heap.IsList l vs) (hr : ReadsAll s.heap vs.toList (x :: xs) as) (ha : AlikeAll (x :: xs)) (hu : A.units + 1 + PyData.depthAll (x :: xs) < cLine)
    (h : ∀ v h' tk, vs[argBest (fun i j => dataLt ((x :: xs).getD i .none) ((x :: xs).getD j .none)) xs.length]? = some v → (∀ b o, s.heap.get? b = some o → h'.get? b = some o) → Q v { s with heap := h', toks := tk }) :
    wpAny (model prog w) A (call (.builtin "min") [.ref l]) Q E s := by
  have hn : vs.size = xs.length + 1 := readsAll_len hr
  refine call_min_walkH (iter_listW (A := A.in1) hh hl fun s₂ e W st hfp hw hk => ?_)
  refine ⟨_, _, _, _, _, _, _, s.heap, _, rfl, W, st, hfp, by omega, hw, hk, cmpIn_lt (A := A.in1) hr ha (by show A.units + 1 + _ < _; exact hu), fun v s' hP m => ?_⟩
  obtain ⟨h', tk, rfl, hk'⟩ := moved_old e rfl m
  have e1 : vs.size - 1 = xs.length := by omega
  rw [e1] at hP
  exact h v h' tk hP hk'
end
end DlM
namespace Dl
open PySem L2
def ltD (a b : D) : Bool := PySem.W.dataLt (toPy a) (toPy b)
def alikeL (l : List D) : Bool := l.all (okN 9) && l.all (fun x => l.all fun y => PySem.W.alike (toPy x) (toPy y)) && l.all (fun x => !isN x)
def minL (d : D) (ds : List D) : D := ds.foldl (fun a y => if ltD y a then y else a) d
def dMinL : List D → Option D
  | [.lst (d :: ds)] => if alikeL (d :: ds) then some (minL d ds) else none
  | _ => none
theorem toPys_getD : ∀ (ds : List D) (i : Nat), (toPys ds).getD i .none = toPy (ds.getD i .non)
  | [], i => by simp [toPys, toPy]
  | d :: ds, 0 => by simp [toPys]
  | d :: ds, i + 1 => by simpa [toPys] using toPys_getD ds i
theorem mem_toPys : ∀ {ds : List D} {p : PyData}, p ∈ toPys ds → ∃ d, d ∈ ds ∧ p = toPy d
  | [], p, h => by simp [toPys] at h
  | d :: ds, p, h => by
    simp only [toPys, List.mem_cons] at h
    rcases h with rfl | h
    · exact ⟨d, List.mem_cons_self, rfl⟩
    · obtain ⟨e, h1, h2⟩ := mem_toPys h
      exact ⟨e, List.mem_cons_of_mem _ h1, h2⟩
theorem toPys_len : ∀ ds : List D, (toPys ds).length = ds.length
  | [] => rfl
  | d :: ds => by simp [toPys, toPys_len ds]
theorem toPy_none {d : D} (h : toPy d = .none) (o : okN 9 d = true) : isN d = true := by
  cases d <;> simp_all [toPy, isN, okN]
theorem depthAll_le {n : Nat} : ∀ {ds : List D}, ds.all (okN n) = true → PyData.depthAll (toPys ds) ≤ n
  | [], _ => by simp [toPys, PyData.depthAll]
  | d :: ds, h => by
    rw [List.all_cons, Bool.and_eq_true] at h
    have h1 := (ok_lay n d h.1).2
    have h2 := depthAll_le h.2
    simp only [toPys, PyData.depthAll]; omega
section
variable {X : Cx}
def rMinDt (K : PySem.W.Frag) : List V → Hp → VK → Prop := fun vs H Q => ∃ (a : Addr) (xs : List V) (p : PyData) (ps : List PyData), vs = [V.ref a] ∧ SqL K H a xs ∧ DpAll K H xs (p :: ps) ∧ PySem.W.AlikeAll (p :: ps) ∧ PyData.depthAll (p :: ps) ≤ 60 ∧
  ∀ v, xs[PySem.argBest (fun i j => PySem.W.dataLt ((p :: ps).getD i .none) ((p :: ps).getD j .none)) ps.length]? = some v → Q v H
theorem cr_minDt (hc : X.calm = true) (hu : X.A.units + 65 < cLine) : CallR X (.builtin "min") (rMinDt X.K) := by
  intro pins s σ H vs us Q I r h
  obtain ⟨a, xs, p, ps, rfl, hs, hd, ha, hz, q⟩ := h
  obtain ⟨its, rv, hl, _⟩ := I.list hs
  obtain ⟨as, hr⟩ := Dp.readsAll I _ _ its hd rv
  rw [Vals.ref1 r]
  refine DlM.min_list_at (I.ok.hd hc) hl.isList (by simpa using hr) ha (by omega) fun v h' tk hv hk => ?_
  have hv' : its[PySem.argBest (fun i j => PySem.W.dataLt ((p :: ps).getD i .none) ((p :: ps).getD j .none)) ps.length]? = some v := by simpa using hv
  have hlt : PySem.argBest (fun i j => PySem.W.dataLt ((p :: ps).getD i .none) ((p :: ps).getD j .none)) ps.length < xs.length := by
    rw [rv.length]; exact (List.getElem?_eq_some_iff.mp hv').1
  obtain ⟨u, hu1, hu2⟩ := rv.get (List.getElem?_eq_getElem hlt)
  rw [hv'] at hu1; cases hu1
  exact ⟨_, H, I.kept hk, hu2, q _ (List.getElem?_eq_getElem hlt)⟩
theorem c_minL {K : PySem.W.Frag} {mg : Str → Option Value} : CallN K mg (rMinDt K) dMinL := by
  intro F H xs ds dz Q e rs hf q
  unfold dMinL at hf
  split at hf
  · rename_i d l
    split at hf
    · rename_i hok
      cases hf
      unfold alikeL at hok
      simp only [Bool.and_eq_true] at hok
      obtain ⟨⟨h1, h2⟩, h3⟩ := hok
      obtain ⟨v, rfl, r⟩ := rs.one
      cases r with
      | @lst a ys _ hy ry =>
        refine ⟨a, ys, toPy d, toPys l, rfl, .inl (.inl (e _ _ hy)), DpAll.mono e _ _ (RepAll.dp 9 (d :: l) _ (List.all_eq_true.mp h1) ry), ⟨fun x hx y hy => ?_, fun x hx => ?_⟩, ?_, fun v hv => ?_⟩
        · obtain ⟨x', hx1, rfl⟩ := mem_toPys (ds := d :: l) hx
          obtain ⟨y', hy1, rfl⟩ := mem_toPys (ds := d :: l) hy
          exact List.all_eq_true.mp (List.all_eq_true.mp h2 _ hx1) _ hy1
        · obtain ⟨x', hx1, rfl⟩ := mem_toPys (ds := d :: l) hx
          intro z
          have := toPy_none z (List.all_eq_true.mp h1 _ hx1)
          have h4 := List.all_eq_true.mp h3 _ hx1
          rw [this] at h4; cases h4
        · have := depthAll_le (ds := d :: l) h1
          exact Nat.le_trans this (by decide)
        · have key : (fun i j => PySem.W.dataLt ((toPy d :: toPys l).getD i .none) ((toPy d :: toPys l).getD j .none)) = fun i j => ltD ((d :: l).getD i .non) ((d :: l).getD j .non) := by
            funext i j
            have h1 := toPys_getD (d :: l) i
            have h2 := toPys_getD (d :: l) j
            simp only [toPys] at h1 h2
            rw [h1, h2]; rfl
          rw [key, toPys_len] at hv
          obtain ⟨_, e2⟩ := PySem.W.argBest_fold ltD D.non d l l.length (Nat.le_refl _)
          rw [List.take_length] at e2
          obtain ⟨d', hd', rd⟩ := ry.get' hv
          have : d' = minL d l := by
            unfold minL
            rw [← e2, List.getD_eq_getElem?_getD, hd']; rfl
          subst this
          exact q v F H (.refl e) rd
    · cases hf
  · cases hf
/-- the list's items, all whole numbers -/
def intsOf : List D → Option (List Int)
  | [] => some []
  | .int i :: ds => (intsOf ds).map (i :: ·)
  | _ => none
theorem ints_rep {K : PySem.W.Frag} {mg : Str → Option Value} {F : Hp} : ∀ {ds : List D} {xs : List V} {ns : List Int}, RepAll K mg F xs ds → intsOf ds = some ns → xs = ns.map V.int
  | [], xs, ns, r, h => by cases r; cases h; rfl
  | d :: ds, xs, ns, r, h => by
    cases r with
    | cons r1 r2 =>
      cases d <;> simp only [intsOf, reduceCtorEq, Option.map_eq_some_iff] at h
      obtain ⟨ms, h1, rfl⟩ := h
      cases r1
      rw [ints_rep r2 h1]; rfl
def dMaxL : List D → Option D
  | [.lst ds] => match intsOf ds with
    | some (n :: ns) => some (.int (ns.foldl max n))
    | _ => none
  | _ => none
theorem foldl_max_mem : ∀ (ns : List Int) (n : Int), ns.foldl max n ∈ n :: ns ∧ ∀ y, y ∈ n :: ns → y ≤ ns.foldl max n
  | [], n => by simp
  | m :: ns, n => by
    obtain ⟨h1, h2⟩ := foldl_max_mem ns (max n m)
    rw [List.foldl_cons]
    refine ⟨?_, fun y hy => ?_⟩
    · rcases List.mem_cons.mp h1 with e | e
      · rw [e]
        by_cases h : n ≤ m
        · rw [Int.max_eq_right h]; simp
        · rw [Int.max_eq_left (by omega)]; simp
      · simp [e]
    · have := h2 (max n m) List.mem_cons_self
      rcases List.mem_cons.mp hy with rfl | hy
      · omega
      · rcases List.mem_cons.mp hy with rfl | hy
        · omega
        · exact h2 y (List.mem_cons_of_mem _ hy)
theorem c_maxL {K : PySem.W.Frag} {mg : Str → Option Value} : CallN K mg (rMax K) dMaxL := by
  intro F H xs ds dz Q e rs hf q
  unfold dMaxL at hf
  split at hf
  · rename_i l
    split at hf
    · rename_i n ns hn
      cases hf
      obtain ⟨v, rfl, r⟩ := rs.one
      cases r with
      | @lst a ys _ hy ry =>
        rw [ints_rep ry hn] at hy
        refine ⟨a, n :: ns, rfl, .inl (.inl (e _ _ hy)), Nat.succ_pos _, fun m h1 h2 => ?_⟩
        obtain ⟨g1, g2⟩ := foldl_max_mem ns n
        have : m = ns.foldl max n := Int.le_antisymm (g2 m h1) (h2 _ g1)
        subst this
        exact q _ F H (.refl e) (.int _)
    · cases hf
  · cases hf
end
end Dl
/-! Dl18: l.count(x) of data. -/
namespace Dl
open PySem L2
section
variable {X : Cx} {W : WX} {pos : Pos} {a b : Expr} {sa sb : Sx}
def rCntD (K : PySem.W.Frag) : V → List V → Hp → VK → Prop := fun x xs H Q => ∃ (a : Addr) (y : V) (d : PyData) (ds : List PyData), x = V.ref a ∧ xs = [y] ∧ Dp K H (V.ref a) (.list ds) ∧ Dp K H y d ∧
  SeqAt.shaped (.list ds) = true ∧ SeqAt.shaped d = true ∧ Q (.int (ds.countP fun z => PyData.eqv z d : Nat)) H
theorem mt_countD (hu : X.A.units + 65 < cLine) : MtR X "list.count" (rCntD X.K) := by
  intro pins s σ H x xs v us Q I rx rxs h
  obtain ⟨a, y, d, ds, rfl, rfl, hl, hy, sl, sd, q⟩ := h
  cases rx
  cases rxs with
  | cons ry rt =>
    rename_i uy ut
    cases rt
    obtain ⟨bs, r1⟩ := Dp.reads I d y uy hy ry
    have hxs : PyData.canLayAll0 ds = true := SeqAt.canLay_of_shaped sl
    have hroom : X.A.units + 1 + min (PyData.depthAll ds) d.depth < cLine := PyProof.Rows.room_in_shaped sd hu
    cases hl with
    | lst hs ha =>
      obtain ⟨its, rv, ⟨⟨cls, dd, data, sls⟩, n, ho, hc, hdn, hdt⟩, hlen⟩ := I.list hs
      simp only at hc hdt
      subst hc hdt
      obtain ⟨as, h4⟩ := Dp.readsAll I ds _ its ha rv
      have hmap : its.map (SeqAt.readOf s.heap) = ds := SeqAt.readsAll_map ds its as hxs h4
      refine call_meets PySem.F.slot_list_count ⟨_, ho, rfl⟩ PySem.F.entry_list_count (PySem.F.args_list_count_2 _ _)
        (SeqAt.list_countAt a its.toArray n dd sls uy (fun u => PyData.eqv (SeqAt.readOf s.heap u) d)) ⟨ho, SeqAt.items_eqAt (vs := its.toArray) (show ReadsAll s.heap its.toArray.toList ds as from h4) r1 hxs (SeqAt.canLay_of_shaped sd) hroom, ?_⟩
      have ec : its.toArray.toList.countP (fun u => PyData.eqv (SeqAt.readOf s.heap u) d) = ds.countP fun z => PyData.eqv z d := by
        rw [← hmap, List.countP_map]; rfl
      refine ⟨.int (ds.countP fun z => PyData.eqv z d : Nat), H, I.tok _, ⟨s.toks, ?_⟩, q⟩
      show Value.int ((its.toArray.toList.countP _ : Nat) : Int) s.toks = _
      rw [ec]
def dCountN : D → D → Option D
  | .lst ds, x => if okN 9 x && ds.all (okN 9) then some (.int (ds.countP fun y => eqN 9 y x : Nat)) else none
  | _, _ => none
theorem countP_toPys {x : D} (hx : okN 9 x = true) : ∀ ds : List D, ds.all (okN 9) = true → (toPys ds).countP (fun z => PyData.eqv z (toPy x)) = ds.countP fun y => eqN 9 y x
  | [], _ => rfl
  | d :: ds, h => by
    rw [List.all_cons, Bool.and_eq_true] at h
    simp only [toPys, List.countP_cons]
    rw [countP_toPys hx ds h.2, eqv_eqN 9 d x h.1 hx]
theorem d_countN {apos cpos : Pos} (hu : X.A.units + 65 < cLine) (ha : PE X a (tS X.K X.mg W sa)) (hb : PE X b (tS X.K X.mg W sb)) (hbase : attributeBase a "count" X.env (eval a X.env) = eval a X.env := by rfl)
    (hfew : ((backTo cpos (starEach [b] X.env)).all (fun x => !x.1) && (backToKw cpos (keywordEach [] X.env)).all (fun x => x.1.isSome)
      && decide (([b] : List Expr).length + ([] : List Keyword).length + (if ([] : List Keyword).isEmpty then 0 else 1) < 30)) = true := by rfl)
    (hline : (apos.endLine == cpos.line) = true := by rfl) (hs : starEach [b] X.env = (false, eval b X.env) :: starEach [] X.env := by rfl) (hplain : (backTo cpos (starEach [] X.env)).any (·.1) = false := by rfl) :
    PE X (.Call (.Attribute a "count" apos) [b] [] cpos) (tS X.K X.mg W (sLM dCountN sa sb)) := by
  refine pe_imp (pe_bm PySem.F.plainAttrs_list PySem.F.slot_list_count PySem.F.type_list_count (mt_countD hu) ha (pa_cons hb pa_nil hs) hbase hfew hline hs hplain) fun σ H Q h => lm_reads (fun F H x y dx dy dz Q e rx ry hf q => ?_) h
  unfold dCountN at hf
  split at hf
  · rename_i ds
    split at hf
    · rename_i hok
      rw [Bool.and_eq_true] at hok
      cases hf
      have okl : okN 10 (.lst ds) = true := hok.2
      cases rx with
      | @lst la lxs _ h1 r1 =>
        have d1 : Dp X.K H (.ref la) (.list (toPys ds)) := Dp.mono e _ _ (Rep.dp 10 (.lst ds) _ okl (.lst h1 r1))
        have d2 : Dp X.K H y (toPy dy) := Dp.mono e _ _ (Rep.dp 9 dy _ hok.1 ry)
        refine ⟨la, y, toPy dy, toPys ds, rfl, rfl, d1, d2, ok_shaped (d := .lst ds) (n := 10) (by decide) okl, ok_shaped (n := 9) (by decide) hok.1, ?_⟩
        rw [countP_toPys hok.1 ds hok.2]
        exact q _ F H (.refl e) (.int _)
    · cases hf
  · cases hf
end
end Dl
/-! Dl19: sorted of a list or a tuple of numbers or texts. -/
namespace DlO
open PySem PySem.Spec PyProof.Rows
section
variable {prog : Program} {w : World} {A : Around} {E : Value → Shared → Prop} {s : Shared}
/-- sorted(x), x a tuple or a list of numbers -/
theorem sorted_int {l : Addr} {T : String} {o : Obj} {items : Array Value} {n : Nat} {ns : List Int} {Q : Value → Shared → Prop} (hT : T = "list" ∨ T = "tuple") (ho : s.heap.get? l = some o) (hc : o.cls = .type T) (hd : o.data = .seq items n) (hS : IntsAre items.toList ns) (hL : items.size ≤ sizeLine)
    (h : ∀ (h' : Heap) (p : Addr) (out : Array Value) (ns' : List Int) (e : Nat), IntsAre out.toList ns' → ns'.Perm ns → ns'.Pairwise (· ≤ ·) → s.heap.objs.size ≤ p → (∀ b o', s.heap.get? b = some o' → h'.get? b = some o') → h'.get? p = some (seqObj "list" out e) → Q (.ref p) { s with heap := h' }) :
    wpAny (model prog w) A (call (.builtin "sorted") [.ref l]) Q E s := by
  refine Calls.call_function_entry kind_sorted plain_sorted entry_sorted (args_sorted1 _) ?_
  unfold Builtin.«sorted»
  refine wpAny_bind (m := checkCount "sorted" 1 1 _) (wpAny_pure (wpAny_bind (items_of hT ho hc hd hL (wpAny_bind (wpAny_newList ?_)))))
  have sz : ((s.heap.push (seqObj "list" #[] 0)).update s.heap.objs.size (Obj.mapSeq (· ++ items))).objs.size = s.heap.objs.size + 1 := by rw [Heap.size_update, size_push']
  have hk : ∀ b o', s.heap.get? b = some o' → ((s.heap.push (seqObj "list" #[] 0)).update s.heap.objs.size (Obj.mapSeq (· ++ items))).get? b = some o' := fun b o' hb => by
    rw [Heap.get?_update_ne _ _ _ _ (Nat.ne_of_lt (Heap.lt_size hb))]
    exact Heap.get?_push_of_some _ hb
  generalize ((s.heap.push (seqObj "list" #[] 0)).update s.heap.objs.size (Obj.mapSeq (· ++ items))) = h1 at sz hk
  have hoL : (h1.push (seqObj "list" items.toList.toArray 0)).get? h1.objs.size = some (seqObj "list" items.toList.toArray 0) := Heap.get?_push_size _ rfl
  have hlen : items.toList.length ≤ sizeLine := by rw [Array.length_toList]; exact hL
  show wpAny _ _ _ _ _ { s with heap := h1.push (seqObj "list" items.toList.toArray 0) }
  refine wpAny_bind (wpAny_holding (wpAny_call_entry slot_list_sort ⟨_, hoL, rfl⟩ entry_list_sort (list_sort_treeKAny intKind_oneLt hoL hS.keysOfInt (fun v₁ v₂ rest e => keyKind_ints (by rw [← e]; exact hS)) hlen fun st' a1 a2 => ⟨_, rfl, ?_⟩) (args_list_sort _)))
  obtain ⟨ns', h1', h2', h3'⟩ := sorted_out hS a1 (sortedTo_of_int a2)
  obtain ⟨e, he⟩ := sortedHeap_at (out := (arrOf st').map (·.2)) hoL
  refine wpAny_pure ⟨_, rfl, h _ _ _ ns' e h1' h2' h3' (show s.heap.objs.size ≤ h1.objs.size by omega) (fun b o' hb => ?_) he⟩
  have hb1 := hk b o' hb
  have hlt : b < h1.objs.size := Heap.lt_size hb1
  rw [sortedHeap_old (Nat.ne_of_lt hlt) (by rw [size_push']; exact Nat.lt_succ_of_lt hlt), Heap.get?_push_ne _ _ _ (Nat.ne_of_lt hlt)]
  exact hb1
end
def insI (x : Int) : List Int → List Int
  | [] => [x]
  | y :: l => if y < x then y :: insI x l else x :: y :: l
def isortI (l : List Int) : List Int := l.foldr insI []
theorem insI_perm (x : Int) : ∀ l, (insI x l).Perm (x :: l)
  | [] => .refl _
  | y :: l => by
    unfold insI
    split
    · exact (List.Perm.cons y (insI_perm x l)).trans (List.Perm.swap _ _ _)
    · exact .refl _
theorem isortI_perm : ∀ l, (isortI l).Perm l
  | [] => .refl _
  | x :: l => (insI_perm x (isortI l)).trans (.cons x (isortI_perm l))
theorem insI_pw (x : Int) : ∀ l : List Int, l.Pairwise (· ≤ ·) → (insI x l).Pairwise (· ≤ ·)
  | [], _ => by simp [insI]
  | y :: l, h => by
    have h' := List.pairwise_cons.mp h
    unfold insI
    split
    · rename_i q
      refine List.pairwise_cons.mpr ⟨fun z hz => ?_, insI_pw x l h'.2⟩
      rcases List.mem_cons.mp ((insI_perm x l).mem_iff.mp hz) with rfl | hz
      · omega
      · exact h'.1 z hz
    · rename_i q
      refine List.pairwise_cons.mpr ⟨fun z hz => ?_, h⟩
      rcases List.mem_cons.mp hz with rfl | hz
      · omega
      · have := h'.1 z hz
        omega
theorem isortI_pw : ∀ l : List Int, (isortI l).Pairwise (· ≤ ·)
  | [] => .nil
  | x :: l => insI_pw x _ (isortI_pw l)
theorem sortedI_unique {l l' : List Int} (h : l'.Perm l) (hs : l'.Pairwise (· ≤ ·)) : l' = isortI l :=
  List.Perm.eq_of_pairwise (fun a b _ _ h1 h2 => Int.le_antisymm h1 h2) hs (isortI_pw l) (h.trans (isortI_perm l).symm)
end DlO
namespace Dl
open PySem L2
section
variable {X : Cx} {W : WX} {pos : Pos} {a b : Expr} {sa sb : Sx}
def rSortI (K : PySem.W.Frag) : List V → Hp → VK → Prop := fun vs H Q => ∃ (a : Addr) (xs : List Int), vs = [V.ref a] ∧ (SqL K H a (xs.map V.int) ∨ SqT K H a (xs.map V.int)) ∧
  ∀ (p : Addr), H p = none → Q (.ref p) (upd H p (.lst ((DlO.isortI xs).map V.int)))
theorem vals_of_ints : ∀ {us : List Value} {ns : List Int}, PyProof.Rows.IntsAre us ns → Vals (ns.map V.int) us
  | _, _, .nil => .nil
  | _, _, .cons n t h => .cons ⟨t, rfl⟩ (vals_of_ints h)
theorem cr_sortI : CallR X (.builtin "sorted") (rSortI X.K) := by
  intro pins s σ H vs us Q I r h
  obtain ⟨a, xs, rfl, hs, q⟩ := h
  rw [Vals.ref1 r]
  have go : ∀ {T : String} {o : Obj} {its : List Value} {n : Nat}, (T = "list" ∨ T = "tuple") → s.heap.get? a = some o → o.cls = .type T → o.data = .seq its.toArray n → its.length ≤ sizeLine → PyProof.Rows.IntsAre its xs → wpAny (model X.prog X.w) X.A (call (.builtin "sorted") [.ref a]) (EP X pins σ Q) X.xe s := fun {T o its n} hT ho hc hd hz hS => by
    refine DlO.sorted_int hT ho hc hd (by simpa using hS) (by rw [List.size_toArray]; exact hz) fun h' p out ss' e h1 h2 h3 hp hk hat => ?_
    have e1 := DlO.sortedI_unique h2 h3
    subst e1
    have hxl : xs.length = its.length := (vals_of_ints hS).length ▸ (List.length_map _).symm
    have hlen : ((DlO.isortI xs).map V.int).length ≤ sizeLine := by rw [List.length_map, h2.length_eq, hxl]; exact hz
    exact ⟨.ref p, upd H p (.lst ((DlO.isortI xs).map V.int)), I.laid (t' := s.toks) (fun b o e => hk b o e) hp ⟨hlen, out.toList, e, vals_of_ints h1, hat⟩, rfl, q p (I.hok.fresh hp)⟩
  rcases hs with hs | hs
  · obtain ⟨its, rv, ⟨o, n, ho, hc, hdn, hd⟩, hl⟩ := I.list hs
    exact go (.inl rfl) ho hc hd (by have := rv.length; rw [List.length_map] at this; rw [← this]; simpa using hl) rv.ints
  · obtain ⟨its, rv, tl, hl⟩ := I.tuple hs
    obtain ⟨o, ho, hc, n, hd⟩ := tl
    exact go (.inr rfl) ho hc hd (by have := rv.length; rw [List.length_map] at this; rw [← this]; simpa using hl) rv.ints
theorem CallR.or {f : Value} {r r' : List V → Hp → VK → Prop} (h : CallR X f r) (h' : CallR X f r') : CallR X f (fun vs H Q => r vs H Q ∨ r' vs H Q) := fun pins s σ H vs us Q I rv q => by
  rcases q with q | q
  · exact h pins s σ H vs us Q I rv q
  · exact h' pins s σ H vs us Q I rv q
def sort2 (ds : List D) : Option (List D) := match strsOf ds with
  | some xs => some ((DlO.isortS xs).map D.str)
  | none => (intsOf ds).map fun xs => (DlO.isortI xs).map D.int
def dSorted2 : D → Option (List D)
  | .lst ds => sort2 ds
  | .tup ds => sort2 ds
  | _ => none
def sSorted2 (a : Sx) : Sl := fun ρ => bd (a ρ) fun x => lift (dSorted2 x)
theorem l_sorted2 {p : Pos} (hm : X.mg "sorted" = none) (ha : PE X a (tS X.K X.mg W sa)) (hg : Gl X "sorted" := by rfl) (hv : bootBuiltins "sorted" = some (.builtin "sorted") := by decide +kernel)
    (he : starEach [a] X.env = (false, eval a X.env) :: starEach [] X.env := by rfl) (hpl : (backTo pos (starEach [] X.env)).any (·.1) = false := by rfl) : PE X (.Call (.Name "sorted" p) [a] [] pos) (tL X.K X.mg W (sSorted2 sa)) := by
  refine pe_imp (pe_callB (cr_sortT2.or cr_sortI) hg hm hv (pa_cons ha pa_nil he) (by decide) (by decide) he hpl) fun σ H Q ⟨ρ, F, z, v, e, fin⟩ => ?_
  refine part v e fin fun dx x F1 H1 _ e g v1 rx fin1 => ?_
  obtain ⟨ds, e', rfl⟩ := lift_some e
  have key : ∀ (a1 : Addr) (ys : List V) (es : List D), RepAll X.K X.mg F1 ys es → sort2 es = some ds → (SqL X.K H1 a1 ys ∨ SqT X.K H1 a1 ys) → rSortT X.K [V.ref a1] H1 Q ∨ rSortI X.K [V.ref a1] H1 Q := fun a1 ys es r1 e1 hs => by
    unfold sort2 at e1
    split at e1
    · rename_i xs hx
      cases e1
      rw [strs_rep r1 hx] at hs
      exact .inl ⟨_, xs, rfl, hs, fun p hp => fin1 (.ref p) F1 _ (.only v1.e hp) ⟨p, _, rfl, hp, v1.e.none hp, upd_same, strs_all _⟩⟩
    · obtain ⟨xs, hx, rfl⟩ := Option.map_eq_some_iff.mp e1
      rw [ints_rep r1 hx] at hs
      exact .inr ⟨_, xs, rfl, hs, fun p hp => fin1 (.ref p) F1 _ (.only v1.e hp) ⟨p, _, rfl, hp, v1.e.none hp, upd_same, RepAll.ints _⟩⟩
  unfold dSorted2 at e'
  split at e'
  · cases rx with
    | lst h1 r1 => exact key _ _ _ r1 e' (.inl (.inl (.inl (v1.e _ _ h1))))
  · cases rx with
    | tup h1 r1 => exact key _ _ _ r1 e' (.inr (v1.e.sqT h1))
  · cases e'
end
end Dl
/-! Dl20: zip of three lists of one length. -/
namespace DlZ
open PySem PySem.Spec PyProof.Rows
theorem typeCall_zip_3 (a b c : Value) : checkTypeCall "zip" ⟨[a, b, c], []⟩ = pure () := by kernel_rfl
theorem newCall_zip_3 (a b c : Value) : checkBuiltinCall "zip.__new__" ⟨[.type "zip", a, b, c], []⟩ = pure () := by kernel_rfl
theorem args_object_init_4 (a b c d : Value) : argsOk "object.__init__" ⟨[a, b, c, d], []⟩ := by
  unfold argsOk; rw [signature?_of (id := "object.__init__") (n := ['_', '_', 't', 'i', 'n', 'i', '_', '_']) (o := ['t', 'c', 'e', 'j', 'b', 'o']) (by kernel_rfl) F.owner_object]; kernel_rfl
abbrev IsTri (h : Heap) (T : Addr) (a b c : Value) : Prop := h.get? T = some { cls := .type "tuple", data := .seq #[a, b, c] }
structure Ap3 (z TI TO i1 i2 i3 l1 l2 l3 : Addr) : Prop where
  TIz : TI ≠ z
  TOz : TO ≠ z
  i1z : i1 ≠ z
  i2z : i2 ≠ z
  i3z : i3 ≠ z
  TITO : TI ≠ TO
  TIi1 : TI ≠ i1
  TIi2 : TI ≠ i2
  TIi3 : TI ≠ i3
  TOi1 : TO ≠ i1
  TOi2 : TO ≠ i2
  TOi3 : TO ≠ i3
  i12 : i1 ≠ i2
  i13 : i1 ≠ i3
  i23 : i2 ≠ i3
  l1 : ∀ c, c ∈ [z, TO, i1, i2, i3] → l1 ≠ c
  l2 : ∀ c, c ∈ [z, TO, i1, i2, i3] → l2 ≠ c
  l3 : ∀ c, c ∈ [z, TO, i1, i2, i3] → l3 ≠ c
section
variable {prog : Program} {w : World} {A : Around} {E : Value → Shared → Prop} {s : Shared}
theorem wpAny_updateSeq_tri {T : Addr} {a b c x : Value} {k : Nat} {Q : Unit → Shared → Prop} (hT : IsTri s.heap T a b c)
    (h : ∀ h', h'.get? T = some { cls := .type "tuple", data := .seq ((#[a, b, c] : Array Value).setIfInBounds k x) } → Heap.SameBut T s.heap h' → Q () { s with heap := h' }) :
    wpAny (model prog w) A (updateSeq T (·.setIfInBounds k x)) Q E s := by
  refine wpAny_updateSeq hT rfl (h _ ?_ (Heap.SameBut.update ..))
  rw [Heap.get?_update_self _ hT rfl]
  simp [Obj.mapSeq]
/-- what stands at an address that no step touches -/
theorem zip3_item {z TI TO i1 i2 i3 l1 l2 l3 : Addr} {k : Nat} {xs ys ws : Array Value} {x y w1 a b c : Value} {Q : Value → Shared → Prop} (D : Ap3 z TI TO i1 i2 i3 l1 l2 l3)
    (hz : IsZip s.heap z TI TO .none) (hTI : IsTri s.heap TI (.ref i1) (.ref i2) (.ref i3)) (hTO : IsTri s.heap TO a b c)
    (h1 : s.heap.IsListIter i1 l1 k) (h2 : s.heap.IsListIter i2 l2 k) (h3 : s.heap.IsListIter i3 l3 k) (hl1 : s.heap.IsList l1 xs) (hl2 : s.heap.IsList l2 ys) (hl3 : s.heap.IsList l3 ws) (hx : xs[k]? = some x) (hy : ys[k]? = some y) (hw : ws[k]? = some w1)
    (hQ : ∀ h', IsZip h' z TI TO (rawInt s.heap.objs.size) → IsTri h' TO x y w1 → h'.IsListIter i1 l1 (k + 1) → h'.IsListIter i2 l2 (k + 1) → h'.IsListIter i3 l3 (k + 1) → IsTri h' s.heap.objs.size x y w1 → h'.objs.size = s.heap.objs.size + 1 →
      (∀ c o, c ≠ z → c ≠ TO → c ≠ i1 → c ≠ i2 → c ≠ i3 → s.heap.get? c = some o → h'.get? c = some o) → Q (.ref s.heap.objs.size) { s with heap := h' }) :
    wpAny (model prog w) A (Builtin.«zip.__next__» ⟨[.ref z], []⟩) (fun fin s' => ∃ v, fin = .done (.ret v) ∧ Q v s') E s := by
  show wpAny _ _ (field (.ref z) 2 >>= _) _ _ _
  refine wpAny_bind (wpAny_field hz rfl (x := .bool false) rfl ?_)
  show wpAny _ _ (field (.ref z) 3 >>= _) _ _ _
  refine wpAny_bind (wpAny_field hz rfl (x := .ref TI) rfl ?_)
  refine wpAny_bind (wpAny_seqItems hTI rfl ?_)
  show wpAny _ _ (Builtin.SmallTypes.ownedTupleIsFree (.ref z) >>= _) _ _ _
  refine wpAny_bind ?_
  unfold Builtin.SmallTypes.ownedTupleIsFree
  refine wpAny_bind (wpAny_field hz rfl (x := .none) rfl (wpAny_pure ?_))
  simp only [if_true]
  refine wpAny_bind (wpAny_rule ?_)
  refine wpAny_bind (wpAny_field hz rfl (x := .ref TO) rfl ?_)
  refine wpAny_bind (wpAny_setField_rec hz (by simp) fun h₁ hz₁ hs₁ => ?_)
  replace hz₁ : IsZip h₁ z TI TO .ellipsis := hz₁
  refine wpAny_bind ?_
  simp only [List.zipIdx_cons, List.zipIdx_nil, List.forIn_cons, List.forIn_nil]
  have nz : ∀ {c o}, c ≠ z → s.heap.get? c = some o → h₁.get? c = some o := fun n e => hs₁.extBut _ _ n e

  refine wpAny_bind (wpAny_bind (wpAny_onRaise ?_))
  show wpAny _ _ (Builtin.SmallTypes.nextOf (.ref i1) >>= _) _ _ _
  refine wpAny_bind (wpAny_nextOf_list_item (h1.at fun o e => nz D.i1z e) (hl1.at fun o e => nz (D.l1 z (by simp)) e) hx fun h₂ h1₂ hs₂ => wpAny_pure ?_)
  have n2 : ∀ {c o}, c ≠ z → c ≠ i1 → s.heap.get? c = some o → h₂.get? c = some o := fun n m e => hs₂.extBut _ _ m (nz n e)
  have hTO₂ : IsTri h₂ TO a b c := n2 D.TOz D.TOi1 hTO
  refine wpAny_bind (wpAny_seqItems hTO₂ rfl ?_)
  refine wpAny_bind (wpAny_updateSeq_tri hTO₂ fun h₃ hTO₃ hs₃ => ?_)
  replace hTO₃ : IsTri h₃ TO x b c := hTO₃
  have n3 : ∀ {c o}, c ≠ z → c ≠ i1 → c ≠ TO → s.heap.get? c = some o → h₃.get? c = some o := fun n m q e => hs₃.extBut _ _ q (n2 n m e)
  refine wpAny_bind (wpAny_letGo (wpAny_pure ?_))

  refine wpAny_bind (wpAny_bind (wpAny_onRaise ?_))
  show wpAny _ _ (Builtin.SmallTypes.nextOf (.ref i2) >>= _) _ _ _
  refine wpAny_bind (wpAny_nextOf_list_item (h2.at fun o e => n3 D.i2z D.i12.symm D.TOi2.symm e) (hl2.at fun o e => n3 (D.l2 z (by simp)) (D.l2 i1 (by simp)) (D.l2 TO (by simp)) e) hy fun h₄ h2₄ hs₄ => wpAny_pure ?_)
  have n4 : ∀ {c o}, c ≠ z → c ≠ i1 → c ≠ TO → c ≠ i2 → s.heap.get? c = some o → h₄.get? c = some o := fun n m q r e => hs₄.extBut _ _ r (n3 n m q e)
  have hTO₄ : IsTri h₄ TO x b c := hs₄.extBut _ _ D.TOi2 hTO₃
  refine wpAny_bind (wpAny_seqItems hTO₄ rfl ?_)
  refine wpAny_bind (wpAny_updateSeq_tri hTO₄ fun h₅ hTO₅ hs₅ => ?_)
  replace hTO₅ : IsTri h₅ TO x y c := hTO₅
  have n5 : ∀ {c o}, c ≠ z → c ≠ i1 → c ≠ TO → c ≠ i2 → s.heap.get? c = some o → h₅.get? c = some o := fun n m q r e => hs₅.extBut _ _ q (n4 n m q r e)
  refine wpAny_bind (wpAny_letGo (wpAny_pure ?_))

  refine wpAny_bind (wpAny_bind (wpAny_onRaise ?_))
  show wpAny _ _ (Builtin.SmallTypes.nextOf (.ref i3) >>= _) _ _ _
  refine wpAny_bind (wpAny_nextOf_list_item (h3.at fun o e => n5 D.i3z D.i13.symm D.TOi3.symm D.i23.symm e) (hl3.at fun o e => n5 (D.l3 z (by simp)) (D.l3 i1 (by simp)) (D.l3 TO (by simp)) (D.l3 i2 (by simp)) e) hw fun h₆ h3₆ hs₆ => wpAny_pure ?_)
  have hTO₆ : IsTri h₆ TO x y c := hs₆.extBut _ _ D.TOi3 hTO₅
  refine wpAny_bind (wpAny_seqItems hTO₆ rfl ?_)
  refine wpAny_bind (wpAny_updateSeq_tri hTO₆ fun h₇ hTO₇ hs₇ => ?_)
  replace hTO₇ : IsTri h₇ TO x y w1 := hTO₇
  refine wpAny_bind (wpAny_letGo (wpAny_pure (wpAny_pure ?_)))

  refine wpAny_bind (wpAny_seqItems hTO₇ rfl ?_)
  refine wpAny_bind (wpAny_newTuple ?_)
  have hsz : h₇.objs.size = s.heap.objs.size := by rw [hs₇.1, hs₆.1, hs₅.1, hs₄.1, hs₃.1, hs₂.1, hs₁.1]
  have hz₇ : IsZip h₇ z TI TO .ellipsis := hs₇.extBut _ _ D.TOz.symm (hs₆.extBut _ _ D.i3z.symm (hs₅.extBut _ _ D.TOz.symm (hs₄.extBut _ _ D.i2z.symm (hs₃.extBut _ _ D.TOz.symm (hs₂.extBut _ _ D.i1z.symm hz₁)))))
  have hk₇ : ∀ c o, c ≠ z → c ≠ TO → c ≠ i1 → c ≠ i2 → c ≠ i3 → s.heap.get? c = some o → h₇.get? c = some o := fun c o c1 c2 c3 c4 c5 e =>
    hs₇.extBut _ _ c2 (hs₆.extBut _ _ c5 (n5 c1 c3 c2 c4 e))
  have h1₇ : h₇.IsListIter i1 l1 (k + 1) := h1₂.at fun o e => hs₇.extBut _ _ D.TOi1.symm (hs₆.extBut _ _ D.i13 (hs₅.extBut _ _ D.TOi1.symm (hs₄.extBut _ _ D.i12 (hs₃.extBut _ _ D.TOi1.symm e))))
  have h2₇ : h₇.IsListIter i2 l2 (k + 1) := h2₄.at fun o e => hs₇.extBut _ _ D.TOi2.symm (hs₆.extBut _ _ D.i23 (hs₅.extBut _ _ D.TOi2.symm e))
  have h3₇ : h₇.IsListIter i3 l3 (k + 1) := h3₆.at fun o e => hs₇.extBut _ _ D.TOi3.symm e
  have hzlt : z < h₇.objs.size := Heap.lt_size hz₇
  show wpAny _ _ (Builtin.SmallTypes.ownedTupleHandOut (.ref z) (.ref h₇.objs.size) >>= _) _ _ _
  refine wpAny_bind ?_
  unfold Builtin.SmallTypes.ownedTupleHandOut
  have hz₈ : IsZip (h₇.push { cls := .type "tuple", data := .seq #[x, y, w1] }) z TI TO .ellipsis := Heap.get?_push_of_some _ hz₇
  refine wpAny_bind (wpAny_setField_rec hz₈ (by simp) fun h₉ hz₉ hs₉ => ?_)
  replace hz₉ : IsZip h₉ z TI TO (rawInt h₇.objs.size) := hz₉
  refine wpAny_setField_rec hz₉ (by simp) fun h₁₀ hz₁₀ hs₁₀ => ?_
  replace hz₁₀ : IsZip h₁₀ z TI TO (rawInt h₇.objs.size) := hz₁₀
  have up : ∀ c o, c ≠ z → h₇.get? c = some o → h₁₀.get? c = some o := fun c o c1 e => hs₁₀.extBut _ _ c1 (hs₉.extBut _ _ c1 (Heap.get?_push_of_some _ e))
  have hT₈ : IsTri h₁₀ h₇.objs.size x y w1 := hs₁₀.extBut _ _ (Nat.ne_of_gt hzlt) (hs₉.extBut _ _ (Nat.ne_of_gt hzlt) (Heap.get?_push_size _ rfl))
  have hz8 : h₁₀.objs.size = h₇.objs.size + 1 := by rw [hs₁₀.1, hs₉.1, Heap.size_push]
  rw [hsz] at hz₁₀ hT₈ hz8
  refine wpAny_pure ⟨_, rfl, ?_⟩
  show Q (.ref h₇.objs.size) _
  rw [hsz]
  exact hQ h₁₀ hz₁₀ (up _ _ D.TOz hTO₇) (h1₇.at fun o e => up _ o D.i1z e) (h2₇.at fun o e => up _ o D.i2z e) (h3₇.at fun o e => up _ o D.i3z e) hT₈ hz8 fun c o c1 c2 c3 c4 c5 e => up c o c1 (hk₇ c o c1 c2 c3 c4 c5 e)
theorem zip3_end {z TI TO i1 i2 i3 l1 l2 l3 : Addr} {k : Nat} {xs : Array Value} {a b c : Value} {Q : Fin → Shared → Prop} (hh : A.handled = none) (D : Ap3 z TI TO i1 i2 i3 l1 l2 l3)
    (hz : IsZip s.heap z TI TO .none) (hTI : IsTri s.heap TI (.ref i1) (.ref i2) (.ref i3)) (hTO : IsTri s.heap TO a b c)
    (h1 : s.heap.IsListIter i1 l1 k) (hl1 : s.heap.IsList l1 xs) (hx : xs[k]? = none)
    (hE : ∀ h' e, (∀ c o, c ≠ z → c ≠ i1 → s.heap.get? c = some o → h'.get? c = some o) → (∃ o, h'.get? e = some o ∧ o.cls = .type "StopIteration") → E (.ref e) { s with heap := h' }) :
    wpAny (model prog w) A (Builtin.«zip.__next__» ⟨[.ref z], []⟩) Q E s := by
  show wpAny _ _ (field (.ref z) 2 >>= _) _ _ _
  refine wpAny_bind (wpAny_field hz rfl (x := .bool false) rfl ?_)
  show wpAny _ _ (field (.ref z) 3 >>= _) _ _ _
  refine wpAny_bind (wpAny_field hz rfl (x := .ref TI) rfl ?_)
  refine wpAny_bind (wpAny_seqItems hTI rfl ?_)
  show wpAny _ _ (Builtin.SmallTypes.ownedTupleIsFree (.ref z) >>= _) _ _ _
  refine wpAny_bind ?_
  unfold Builtin.SmallTypes.ownedTupleIsFree
  refine wpAny_bind (wpAny_field hz rfl (x := .none) rfl (wpAny_pure ?_))
  simp only [if_true]
  refine wpAny_bind (wpAny_rule ?_)
  refine wpAny_bind (wpAny_field hz rfl (x := .ref TO) rfl ?_)
  refine wpAny_bind (wpAny_setField_rec hz (by simp) fun h₁ hz₁ hs₁ => ?_)
  replace hz₁ : IsZip h₁ z TI TO .ellipsis := hz₁
  refine wpAny_bind ?_
  simp only [List.zipIdx_cons, List.zipIdx_nil, List.forIn_cons, List.forIn_nil]
  refine wpAny_bind (wpAny_bind (wpAny_onRaise ?_))
  show wpAny _ _ (Builtin.SmallTypes.nextOf (.ref i1) >>= _) _ _ _
  refine wpAny_bind (wpAny_nextOf_list_end hh (h1.at fun o e => hs₁.extBut _ _ D.i1z e) (hl1.at fun o e => hs₁.extBut _ _ (D.l1 z (by simp)) e) hx fun h₂ e hs₂ he => ?_)
  obtain ⟨oe, hoe, hce⟩ := he
  have hz₂ : IsZip h₂ z TI TO .ellipsis := hs₂ _ _ D.i1z.symm hz₁
  have hez : e ≠ z := fun x => by subst x; rw [hz₂] at hoe; cases hoe; simp at hce
  refine wpAny_setField_rec hz₂ (by simp) fun h₃ _ hs₃ => hE h₃ e (fun c o c1 c3 x => hs₃.extBut _ _ c1 (hs₂ _ _ c3 (hs₁.extBut _ _ c1 x))) ⟨oe, hs₃.extBut _ _ hez hoe, hce⟩
theorem pyNext_zip3_item {z TI TO i1 i2 i3 l1 l2 l3 : Addr} {k : Nat} {xs ys ws : Array Value} {x y w1 a b c : Value} {Q : Option Value → Shared → Prop} (D : Ap3 z TI TO i1 i2 i3 l1 l2 l3)
    (hz : IsZip s.heap z TI TO .none) (hTI : IsTri s.heap TI (.ref i1) (.ref i2) (.ref i3)) (hTO : IsTri s.heap TO a b c)
    (h1 : s.heap.IsListIter i1 l1 k) (h2 : s.heap.IsListIter i2 l2 k) (h3 : s.heap.IsListIter i3 l3 k) (hl1 : s.heap.IsList l1 xs) (hl2 : s.heap.IsList l2 ys) (hl3 : s.heap.IsList l3 ws) (hx : xs[k]? = some x) (hy : ys[k]? = some y) (hw : ws[k]? = some w1)
    (hQ : ∀ h', IsZip h' z TI TO (rawInt s.heap.objs.size) → IsTri h' TO x y w1 → h'.IsListIter i1 l1 (k + 1) → h'.IsListIter i2 l2 (k + 1) → h'.IsListIter i3 l3 (k + 1) → IsTri h' s.heap.objs.size x y w1 → h'.objs.size = s.heap.objs.size + 1 →
      (∀ c o, c ≠ z → c ≠ TO → c ≠ i1 → c ≠ i2 → c ≠ i3 → s.heap.get? c = some o → h'.get? c = some o) → Q (some (.ref s.heap.objs.size)) { s with heap := h' }) :
    wpAny (model prog w) A (pyNext (.ref z)) Q E s := by
  have hT : s.TypeIs (.ref z) "zip" := ⟨_, hz, rfl⟩
  unfold pyNext
  exact wpAny_bind (wpAny_attempt (wpAny_callSpecial?_slot (name := Str.ofString "__next__") hT F.slot_zip_next
    (wpAny_call_entry F.slot_zip_next hT F.entry_zip_next
      (zip3_item D hz hTI hTO h1 h2 h3 hl1 hl2 hl3 hx hy hw fun h' a1 a2 a3 a4 a5 a6 a7 a8 => wpAny_pure (hQ h' a1 a2 a3 a4 a5 a6 a7 a8)) (F.args_zip_next_1 _))))
theorem pyNext_zip3_end {z TI TO i1 i2 i3 l1 l2 l3 : Addr} {k : Nat} {xs : Array Value} {a b c : Value} {Q : Option Value → Shared → Prop} (hh : A.handled = none) (D : Ap3 z TI TO i1 i2 i3 l1 l2 l3)
    (hz : IsZip s.heap z TI TO .none) (hTI : IsTri s.heap TI (.ref i1) (.ref i2) (.ref i3)) (hTO : IsTri s.heap TO a b c)
    (h1 : s.heap.IsListIter i1 l1 k) (hl1 : s.heap.IsList l1 xs) (hx : xs[k]? = none)
    (hQ : ∀ h', (∀ c o, c ≠ z → c ≠ i1 → s.heap.get? c = some o → h'.get? c = some o) → Q none { s with heap := h' }) : wpAny (model prog w) A (pyNext (.ref z)) Q E s := by
  have hT : s.TypeIs (.ref z) "zip" := ⟨_, hz, rfl⟩
  unfold pyNext
  refine wpAny_bind (wpAny_attempt (wpAny_callSpecial?_slot (name := Str.ofString "__next__") hT F.slot_zip_next
    (wpAny_call_entry F.slot_zip_next hT F.entry_zip_next (zip3_end hh D hz hTI hTO h1 hl1 hx fun h' e hk he => ?_) (F.args_zip_next_1 _))))
  obtain ⟨o, ho, hc⟩ := he
  refine wpAny_bind (wpAny_isInstance (T := "StopIteration") (b := true) ⟨o, ho, hc⟩ isSubtype_stop ?_)
  exact wpAny_pure (hQ _ hk)
end
abbrev zA (h : Heap) (l1 : Addr) : Heap := h.push { cls := .type "list_iterator", data := .fields #[.ref l1, .int 0 0] }
abbrev zB (h : Heap) (l1 l2 : Addr) : Heap := (zA h l1).push { cls := .type "list_iterator", data := .fields #[.ref l2, .int 0 0] }
abbrev zC (h : Heap) (l1 l2 l3 : Addr) : Heap := (zB h l1 l2).push { cls := .type "list_iterator", data := .fields #[.ref l3, .int 0 0] }
abbrev zD (h : Heap) (l1 l2 l3 : Addr) : Heap := (zC h l1 l2 l3).push { cls := .type "tuple", data := .seq #[.ref h.objs.size, .ref (zA h l1).objs.size, .ref (zB h l1 l2).objs.size] }
abbrev zE (h : Heap) (l1 l2 l3 : Addr) : Heap := (zD h l1 l2 l3).push { cls := .type "tuple", data := .seq #[.none, .none, .none] }
abbrev zF (h : Heap) (l1 l2 l3 : Addr) : Heap := (zE h l1 l2 l3).push { cls := .type "zip", data := .fields #[.none, .bool false, .bool false, .ref (zC h l1 l2 l3).objs.size, .ref (zD h l1 l2 l3).objs.size] }
theorem meets_zip3_new (l1 l2 l3 : Addr) (xs ys ws : Array Value) :
    Meets (Builtin.«zip.__new__» ⟨[.type "zip", .ref l1, .ref l2, .ref l3], []⟩) (fun _ R s => s.heap.IsList l1 xs ∧ s.heap.IsList l2 ys ∧ s.heap.IsList l3 ws ∧
      R (.ok (.ret (.ref (zE s.heap l1 l2 l3).objs.size))) { s with heap := zF s.heap l1 l2 l3 }) :=
  .of_wp fun prog w A R s h => by
    obtain ⟨hp, g, d, tk, os⟩ := s; obtain ⟨hl1, hl2, hl3, h⟩ := h
    have hsub := sub_zip
    have hL1 : Heap.IsList (Shared.heap ⟨hp, g, d, tk, os⟩) l1 xs := hl1
    have hL2 : Heap.IsList (Shared.heap ⟨hp.push { cls := .type "list_iterator", data := .fields #[.ref l1, .int 0 0] }, g, d, tk, os⟩) l2 ys := Heap.IsList.push hl2 _
    have hL3 : Heap.IsList (Shared.heap ⟨(hp.push { cls := .type "list_iterator", data := .fields #[.ref l1, .int 0 0] }).push { cls := .type "list_iterator", data := .fields #[.ref l2, .int 0 0] }, g, d, tk, os⟩) l3 ws := Heap.IsList.push (Heap.IsList.push hl3 _) _
    wp_walk using wpAny_pyIter_list hL1, wpAny_pyIter_list hL2, wpAny_pyIter_list hL3
    exact ⟨_, rfl, h⟩
section
variable {prog : Program} {w : World} {A : Around} {E : Value → Shared → Prop} {s : Shared}
theorem call_zip_3 {l1 l2 l3 : Addr} {xs ys ws : Array Value} {Q : Value → Shared → Prop} (hl1 : s.heap.IsList l1 xs) (hl2 : s.heap.IsList l2 ys) (hl3 : s.heap.IsList l3 ws)
    (h : ∀ h', IsZip h' (s.heap.objs.size + 5) (s.heap.objs.size + 3) (s.heap.objs.size + 4) .none → IsTri h' (s.heap.objs.size + 3) (.ref s.heap.objs.size) (.ref (s.heap.objs.size + 1)) (.ref (s.heap.objs.size + 2)) →
      IsTri h' (s.heap.objs.size + 4) .none .none .none → h'.IsListIter s.heap.objs.size l1 0 → h'.IsListIter (s.heap.objs.size + 1) l2 0 → h'.IsListIter (s.heap.objs.size + 2) l3 0 → 
      (∀ c o, s.heap.get? c = some o → h'.get? c = some o) → Q (.ref (s.heap.objs.size + 5)) { s with heap := h' }) :
    wpAny (model prog w) A (call (.type "zip") [.ref l1, .ref l2, .ref l3]) Q E s := by
  refine callType_new F.called_zip (by decide) (typeCall_zip_3 _ _ _) (newCall_zip_3 _ _ _) (fun obj => args_object_init_4 obj _ _ _) F.entry_zip_new
    (meets_zip3_new l1 l2 l3 xs ys ws) ⟨hl1, hl2, hl3, ?_⟩
  have z1 : (zA s.heap l1).objs.size = s.heap.objs.size + 1 := Heap.size_push ..
  have z2 : (zB s.heap l1 l2).objs.size = s.heap.objs.size + 2 := by rw [Heap.size_push, z1]
  have z3 : (zC s.heap l1 l2 l3).objs.size = s.heap.objs.size + 3 := by rw [Heap.size_push, z2]
  have z4 : (zD s.heap l1 l2 l3).objs.size = s.heap.objs.size + 4 := by rw [Heap.size_push, z3]
  have z5 : (zE s.heap l1 l2 l3).objs.size = s.heap.objs.size + 5 := by rw [Heap.size_push, z4]
  have up1 : ∀ {c o}, (zE s.heap l1 l2 l3).get? c = some o → (zF s.heap l1 l2 l3).get? c = some o := fun e => Heap.get?_push_of_some _ e
  have up2 : ∀ {c o}, (zD s.heap l1 l2 l3).get? c = some o → (zF s.heap l1 l2 l3).get? c = some o := fun e => up1 (Heap.get?_push_of_some _ e)
  have up3 : ∀ {c o}, (zC s.heap l1 l2 l3).get? c = some o → (zF s.heap l1 l2 l3).get? c = some o := fun e => up2 (Heap.get?_push_of_some _ e)
  have up4 : ∀ {c o}, (zB s.heap l1 l2).get? c = some o → (zF s.heap l1 l2 l3).get? c = some o := fun e => up3 (Heap.get?_push_of_some _ e)
  have up5 : ∀ {c o}, (zA s.heap l1).get? c = some o → (zF s.heap l1 l2 l3).get? c = some o := fun e => up4 (Heap.get?_push_of_some _ e)
  have g6 : (zF s.heap l1 l2 l3).get? (zE s.heap l1 l2 l3).objs.size = some _ := Heap.get?_push_size _ rfl
  have g5 : (zF s.heap l1 l2 l3).get? (zD s.heap l1 l2 l3).objs.size = some _ := up1 (Heap.get?_push_size _ rfl)
  have g4 : (zF s.heap l1 l2 l3).get? (zC s.heap l1 l2 l3).objs.size = some _ := up2 (Heap.get?_push_size _ rfl)
  have g3 : (zF s.heap l1 l2 l3).get? (zB s.heap l1 l2).objs.size = some _ := up3 (Heap.get?_push_size _ rfl)
  have g2 : (zF s.heap l1 l2 l3).get? (zA s.heap l1).objs.size = some _ := up4 (Heap.get?_push_size _ rfl)
  have g1 : (zF s.heap l1 l2 l3).get? s.heap.objs.size = some _ := up5 (Heap.get?_push_size _ rfl)
  show _ ∧ _
  rw [z3, z4, z5] at g6
  rw [z4] at g5
  rw [z1, z2, z3] at g4
  rw [z2] at g3
  rw [z1] at g2
  rw [z5]
  exact ⟨⟨_, g6, rfl⟩, h _ g6 g4 g5 ⟨_, g1, rfl, rfl⟩ ⟨_, g2, rfl, rfl⟩ ⟨_, g3, rfl, rfl⟩ fun c o x => up5 (Heap.get?_push_of_some _ x)⟩
end
theorem nN {a b : Nat} (h : a < b ∨ b < a) : @Ne Addr a b := fun e => by
  have e : (a : Nat) = b := e
  omega
theorem ap3_new (I l1 l2 l3 : Nat) (h1 : l1 < I) (h2 : l2 < I) (h3 : l3 < I) : Ap3 (I + 5) (I + 3) (I + 4) I (I + 1) (I + 2) l1 l2 l3 := by
  have far : ∀ {l : Nat}, l < I → ∀ c : Nat, c ∈ ([I + 5, I + 4, I, I + 1, I + 2] : List Nat) → l < c ∨ c < l := fun hl c hc => by
    simp only [List.mem_cons, List.not_mem_nil, or_false] at hc
    omega
  exact ⟨nN (by omega), nN (by omega), nN (by omega), nN (by omega), nN (by omega), nN (by omega), nN (by omega), nN (by omega), nN (by omega), nN (by omega), nN (by omega), nN (by omega), nN (by omega), nN (by omega), nN (by omega), fun c hc => nN (far h1 c hc), fun c hc => nN (far h2 c hc), fun c hc => nN (far h3 c hc)⟩
end DlZ
namespace Dl
open PySem L2 PySem.Spec PyProof.Rows DlZ
/-- three lists as they stand at each turn, the items in new tuples -/
def Itz3 (K : PySem.W.Frag) (a b c : Addr) : It :=
  ⟨fun i H => ∃ (xs ys ws : List V) (x y w : V), SqL K H a xs ∧ SqL K H b ys ∧ SqL K H c ws ∧ xs[i]? = some x ∧ ys[i]? = some y ∧ ws[i]? = some w,
    fun i H v H' => ∃ T x y w, v = .ref T ∧ H T = none ∧ H' = upd H T (.tup [x, y, w]) ∧ (∀ xs, SqL K H a xs → xs[i]? = some x) ∧ (∀ ys, SqL K H b ys → ys[i]? = some y) ∧ ∀ ws, SqL K H c ws → ws[i]? = some w,
    fun i H => ∃ xs : List V, SqL K H a xs ∧ xs.length ≤ i⟩
theorem turn_zip3 {P : Program} {w : World} {K : PySem.W.Frag} {elts : List Expr} {kk : Nat} {tpos : Pos} {a b c z TI TO i1 i2 i3 : Addr} (D : Ap3 z TI TO i1 i2 i3 a b c) :
    Turn P w K (.Tuple elts kk tpos) (Itz3 K a b c) [z, TI, TO, i1, i2, i3] z (fun i h => IsZip h z TI TO .none ∧ IsTri h TI (.ref i1) (.ref i2) (.ref i3) ∧ (∃ x y w, IsTri h TO x y w) ∧ h.IsListIter i1 a i ∧ h.IsListIter i2 b i ∧ h.IsListIter i3 c i) where
  mem := by simp
  obj := fun i h st q hq => by
    obtain ⟨hz, hTI, ⟨x, y, w, hTO⟩, ⟨o1, e1, _, d1⟩, ⟨o2, e2, _, d2⟩, ⟨o3, e3, _, d3⟩⟩ := st
    have e' : q = z ∨ q = TI ∨ q = TO ∨ q = i1 ∨ q = i2 ∨ q = i3 := by simpa using hq
    rcases e' with q | q | q | q | q | q
    · rw [q]; exact ⟨_, hz, fun v q => nomatch q⟩
    · rw [q]; exact ⟨_, hTI, fun v q => nomatch q⟩
    · rw [q]; exact ⟨_, hTO, fun v q => nomatch q⟩
    · rw [q]; exact ⟨o1, e1, fun v q => by rw [d1] at q; cases q⟩
    · rw [q]; exact ⟨o2, e2, fun v q => by rw [d2] at q; cases q⟩
    · rw [q]; exact ⟨o3, e3, fun v q => by rw [d3] at q; cases q⟩
  keep := fun i h h' st k => by
    obtain ⟨hz, hTI, ⟨x, y, w, hTO⟩, h1, h2, h3⟩ := st
    exact ⟨k z (by simp) _ hz, k TI (by simp) _ hTI, ⟨x, y, w, k TO (by simp) _ hTO⟩, h1.at fun o q => k i1 (by simp) o q, h2.at fun o q => k i2 (by simp) o q, h3.at fun o q => k i3 (by simp) o q⟩
  item := by
    intro X hP hw hK hc i pins s σ H E I hf st hg
    subst hP hw hK
    obtain ⟨hz, hTI, ⟨x0, y0, w0, hTO⟩, h1, h2, h3⟩ := st
    obtain ⟨xs, ys, ws, x, y, w, hqx, hqy, hqw, hx, hy, hw⟩ := hg
    obtain ⟨its, rv, p, _⟩ := I.list hqx
    obtain ⟨its2, rv2, p2, _⟩ := I.list hqy
    obtain ⟨its3, rv3, p3, _⟩ := I.list hqw
    obtain ⟨u, hu, ru⟩ := rv.get hx
    obtain ⟨u2, hu2, ru2⟩ := rv2.get hy
    obtain ⟨u3, hu3, ru3⟩ := rv3.get hw
    have hzl : z < s.heap.objs.size := Heap.lt_size hz
    refine pyNext_zip3_item D hz hTI hTO h1 h2 h3 p.isList p2.isList p3.isList (x := u) (y := u2) (w1 := u3) (by simpa using hu) (by simpa using hu2) (by simpa using hu3) fun h' z' TO' h1' h2' h3' hT hsz hk => ?_
    refine ⟨_, rfl, wpAny_letOwnedTupleGo_zip (s := { s with heap := h' }) z' fun h'' z'' sb => ?_⟩
    have hT2 : h''.get? s.heap.objs.size = some { cls := .type "tuple", data := .seq #[u, u2, u3] } := (sb.2 _ (Nat.ne_of_gt hzl)).trans hT
    have new : ObjOk X.prog X.w (upd H s.heap.objs.size (.tup [x, y, w])) h'' s.heap.objs.size (.tup [x, y, w]) :=
      ⟨by show 3 ≤ sizeLine; decide, [u, u2, u3], .cons ru (.cons ru2 (.cons ru3 .nil)), ⟨_, hT2, rfl, _, rfl⟩⟩
    have I1 : Inv X pins σ (upd H s.heap.objs.size (.tup [x, y, w])) { s with heap := h'' } :=
      I.turnedNew (t' := s.toks) (ch := [z, TI, TO, i1, i2, i3]) (fun c o hb q => (sb.2 c (fun q' => hb (by simp [q']))).trans (hk c o (fun q' => hb (by simp [q'])) (fun q' => hb (by simp [q'])) (fun q' => hb (by simp [q'])) (fun q' => hb (by simp [q'])) (fun q' => hb (by simp [q'])) q)) hf (Nat.le_refl _) new
    refine ⟨.ref s.heap.objs.size, _, I1, rfl, ⟨_, x, y, w, rfl, I.hok.fresh (Nat.le_refl _), rfl, fun l hl => by rw [I.list_inj hl hqx]; exact hx, fun l hl => by rw [I.list_inj hl hqy]; exact hy, fun l hl => by rw [I.list_inj hl hqw]; exact hw⟩, ⟨z'', ?_, ⟨u, u2, u3, ?_⟩, ?_, ?_, ?_⟩, fun q hqm => ?_⟩
    · exact (sb.2 _ D.TIz).trans (hk _ _ D.TIz D.TITO D.TIi1 D.TIi2 D.TIi3 hTI)
    · exact (sb.2 _ D.TOz).trans TO'
    · exact h1'.at fun o q => (sb.2 _ D.i1z).trans q
    · exact h2'.at fun o q => (sb.2 _ D.i2z).trans q
    · exact h3'.at fun o q => (sb.2 _ D.i3z).trans q
    · have hlt : q < s.heap.objs.size := by
        have e' : q = z ∨ q = TI ∨ q = TO ∨ q = i1 ∨ q = i2 ∨ q = i3 := by simpa using hqm
        rcases e' with q | q | q | q | q | q
        · rw [q]; exact hzl
        · rw [q]; exact Heap.lt_size hTI
        · rw [q]; exact Heap.lt_size hTO
        · rw [q]; obtain ⟨_, e1, _⟩ := h1; exact Heap.lt_size e1
        · rw [q]; obtain ⟨_, e2, _⟩ := h2; exact Heap.lt_size e2
        · rw [q]; obtain ⟨_, e3, _⟩ := h3; exact Heap.lt_size e3
      rw [upd_ne (Nat.ne_of_lt hlt)]
      exact (hf q hqm).1
  done := by
    intro X hP hw hK hc i pins s σ H E I hf st hg
    subst hP hw hK
    obtain ⟨hz, hTI, ⟨x0, y0, w0, hTO⟩, h1, h2, h3⟩ := st
    obtain ⟨xs, hqx, hend⟩ := hg
    obtain ⟨its, rv, p, _⟩ := I.list hqx
    have l1 := rv.length
    exact pyNext_zip3_end (I.ok.hd hc) D hz hTI hTO h1 p.isList (by simp; omega) fun h' hk => ⟨rfl, I.turnedL (t' := s.toks) (ch := [z, TI, TO, i1, i2, i3]) (fun c o hb q =>
      hk c o (fun q' => hb (by simp [q'])) (fun q' => hb (by simp [q'])) q) hf⟩
  self := fun A i s Q E st h => wpAny_pyIter_zip st.1 h
def iZip3 (K : PySem.W.Frag) (ta : TA) : TI := fun σ H R => ta σ H fun vs H1 => ∃ a b c xs ys ws, vs = [.ref a, .ref b, .ref c] ∧ SqL K H1 a xs ∧ SqL K H1 b ys ∧ SqL K H1 c ws ∧ R (Itz3 K a b c) H1
theorem pi_zip3 {X : Cx} {e e2 e3 : Expr} {ta : TA} {p pos tpos : Pos} {elts : List Expr} {kk : Nat} (hg : Gl X "zip") (hm : X.mg "zip" = none) (ha : PA X [e, e2, e3] ta)
    (hs : starEach [e, e2, e3] X.env = (false, eval e X.env) :: starEach [e2, e3] X.env := by rfl) (hpl : (backTo pos (starEach [e2, e3] X.env)).any (·.1) = false := by rfl) :
    PI X (.Tuple elts kk tpos) (.Call (.Name "zip" p) [e, e2, e3] [] pos) (iZip3 X.K ta) := by
  refine ⟨fun pins s σ H R I h => ?_⟩
  refine Call_ (ld_blt I hg hm PyProof.Rows.boot_zip (PyProof.Rows.callWith_type1 (thn (ha.run pos pins s σ H _ I h) fun us s1 ⟨vs, H1, I1, r1, q1⟩ => ?_) hs hpl))
  obtain ⟨a, b, c, xs, ys, ws, ex, hqx, hqy, hqw, q⟩ := q1
  subst ex
  cases r1 with
  | cons r rr =>
    cases rr with
    | cons r' rr =>
      cases rr with
      | cons r'' rr =>
        cases rr
        cases r
        cases r'
        cases r''
        obtain ⟨its, rv, p1, _⟩ := I1.list hqx
        obtain ⟨its2, rv2, p2, _⟩ := I1.list hqy
        obtain ⟨its3, rv3, p3, _⟩ := I1.list hqw
        refine call_zip_3 p1.isList p2.isList p3.isList fun h' hz hTI hTO h1 h2 h3 hk => wpAny_pyIter_zip hz ?_
        have I2 : Inv X pins σ H1 { s1 with heap := h' } := I1.kept (t' := s1.toks) hk
        refine ⟨s1.heap.objs.size + 5, [s1.heap.objs.size + 5, s1.heap.objs.size + 3, s1.heap.objs.size + 4, s1.heap.objs.size, s1.heap.objs.size + 1, s1.heap.objs.size + 2], _, _, H1, rfl, I2, turn_zip3 (ap3_new s1.heap.objs.size a b c p1.lt p2.lt p3.lt), ⟨hz, hTI, ⟨_, _, _, hTO⟩, h1, h2, h3⟩, fun c hcm => ?_, q⟩
        have e' : c = s1.heap.objs.size + 5 ∨ c = s1.heap.objs.size + 3 ∨ c = s1.heap.objs.size + 4 ∨ c = s1.heap.objs.size ∨ c = s1.heap.objs.size + 1 ∨ c = s1.heap.objs.size + 2 := by simpa using hcm
        have hle : s1.heap.objs.size ≤ c := by
          rcases e' with z | z | z | z | z | z
          · rw [z]; exact Nat.le_add_right _ _
          · rw [z]; exact Nat.le_add_right _ _
          · rw [z]; exact Nat.le_add_right _ _
          · rw [z]; exact Nat.le_refl _
          · rw [z]; exact Nat.le_add_right _ _
          · rw [z]; exact Nat.le_add_right _ _
        exact I1.fpOk hle (I1.hok.fresh hle)
/-- what zip of three yields -/
def zip3D : List D → List D → List D → List D
  | x :: xs, y :: ys, w :: ws => .tup [x, y, w] :: zip3D xs ys ws
  | _, _, _ => []
theorem zip3D_get : ∀ (xs ys ws : List D) (i : Nat) (d : D), (zip3D xs ys ws)[i]? = some d → ∃ x y w, xs[i]? = some x ∧ ys[i]? = some y ∧ ws[i]? = some w ∧ d = .tup [x, y, w]
  | x :: xs, y :: ys, w :: ws, 0, d, h => ⟨x, y, w, rfl, rfl, rfl, by simpa [zip3D] using h.symm⟩
  | x :: xs, y :: ys, w :: ws, i + 1, d, h => by
    obtain ⟨a, b, c, h1, h2, h3, h4⟩ := zip3D_get xs ys ws i d (by simpa [zip3D] using h)
    exact ⟨a, b, c, by simpa using h1, by simpa using h2, by simpa using h3, h4⟩
  | [], _, _, _, _, h => by simp [zip3D] at h
  | _ :: _, [], _, _, _, h => by simp [zip3D] at h
  | _ :: _, _ :: _, [], _, _, h => by simp [zip3D] at h
theorem zip3D_len : ∀ (xs ys ws : List D), ys.length = xs.length → ws.length = xs.length → (zip3D xs ys ws).length = xs.length
  | [], _, _, _, _ => by simp [zip3D]
  | x :: xs, y :: ys, w :: ws, h, h' => by
    simp only [zip3D, List.length_cons]
    rw [zip3D_len xs ys ws (by simpa using h) (by simpa using h')]
  | x :: xs, [], _, h, _ => by simp at h
  | x :: xs, y :: ys, [], _, h => by simp at h
theorem Wk.zip3 {K : PySem.W.Frag} {mg : Str → Option Value} {F : Hp} {a b c : Addr} {xs ys ws : List V} {ds es fs : List D} (h : SqL K F a xs) (r : RepAll K mg F xs ds) (h' : SqL K F b ys) (r' : RepAll K mg F ys es) (h'' : SqL K F c ws) (r'' : RepAll K mg F ws fs)
    (l1 : es.length = ds.length) (l2 : fs.length = ds.length) : Wk K mg (Itz3 K a b c) F (zip3D ds es fs) := fun i F' H e e' =>
  ⟨fun d hd => by
    obtain ⟨x, y, w, h1, h2, h3, rfl⟩ := zip3D_get ds es fs i d hd
    obtain ⟨v, hv, rv, hs⟩ := (wk_list h r).2 i F' H x e e' h1
    obtain ⟨v', hv', rv', hs'⟩ := (wk_list h' r').2 i F' H y e e' h2
    obtain ⟨v'', hv'', rv'', hs''⟩ := (wk_list h'' r'').2 i F' H w e e' h3
    refine ⟨⟨xs, ys, ws, v, v', v'', hs, hs', hs'', hv, hv', hv''⟩, fun x H' y => ?_⟩
    obtain ⟨T, z, z', z'', rfl, hT, rfl, y1, y2, y3⟩ := y
    have q1 := y1 xs hs
    rw [hv] at q1; cases q1
    have q2 := y2 ys hs'
    rw [hv'] at q2; cases q2
    have q3 := y3 ws hs''
    rw [hv''] at q3; cases q3
    have n := Ex.new (o := .tup [v, v', v'']) (e'.none hT)
    exact ⟨_, .both e' hT, .tup (.inl (.inl upd_same)) (.cons ((rv.mo e).mo n) (.cons ((rv'.mo e).mo n) (.cons ((rv''.mo e).mo n) .nil)))⟩, fun hl => by
    rw [zip3D_len ds es fs l1 l2] at hl
    exact (wk_list h r).1 i F' H e e' hl⟩
def sZip3 (l : Sl) : Sl := fun ρ => bd (l ρ) fun ds =>
  match ds with
  | [.lst xs, .lst ys, .lst ws] => if decide (ys.length = xs.length) && decide (ws.length = xs.length) then some (.ok (zip3D xs ys ws)) else none
  | _ => none
section
variable {X : Cx} {W : WX} {tg e e2 e3 : Expr} {sl : Sl} {pos p : Pos}
theorem i_zip3 {elts : List Expr} {kk : Nat} {tpos : Pos} (hm : X.mg "zip" = none) (ha : PA X [e, e2, e3] (tA X.K X.mg W sl)) (hg : Gl X "zip" := by rfl)
    (hs : starEach [e, e2, e3] X.env = (false, eval e X.env) :: starEach [e2, e3] X.env := by rfl) (hpl : (backTo pos (starEach [e2, e3] X.env)).any (·.1) = false := by rfl) : PI X (.Tuple elts kk tpos) (.Call (.Name "zip" p) [e, e2, e3] [] pos) (tI X.K X.mg W (sZip3 sl)) := by
  refine ⟨fun pins s σ H R I ⟨ρ, F, r, v, e, fin⟩ => (pi_zip3 hg hm ha hs hpl).run pins s σ H R I ?_⟩
  refine part v e fin fun ds xs F1 H1 es e g v1 rs fin1 => ?_
  split at e
  · split at e
    · rename_i c
      rw [Bool.and_eq_true, decide_eq_true_eq, decide_eq_true_eq] at c
      cases e
      cases rs with
      | cons r1 rs =>
        cases rs with
        | cons r2 rs =>
          cases rs with
          | cons r3 rs =>
            cases rs
            cases r1 with
            | lst h1 q1 =>
              cases r2 with
              | lst h2 q2 =>
                cases r3 with
                | lst h3 q3 =>
                  exact ⟨_, _, _, _, _, _, rfl, .inl (.inl (v1.e _ _ h1)), .inl (.inl (v1.e _ _ h2)), .inl (.inl (v1.e _ _ h3)), fin1 _ F1 H1 (.refl v1.e) (Wk.zip3 (.inl (.inl h1)) q1 (.inl (.inl h2)) q2 (.inl (.inl h3)) q3 c.1 c.2)⟩
    · cases e
  · cases e
end
end Dl
/-! Dl21: tuples that are known to have no dict: tuple(list), t.index(x). -/
namespace Dl
open PySem L2 PySem.Spec PyProof.Rows
mutual
/-- forget what is known of tuples -/
def fg : D → D
  | .tpl ds => .tup (fgs ds)
  | .tup ds => .tup (fgs ds)
  | .non => .non
  | .bl b => .bl b
  | .int i => .int i
  | .str x => .str x
  | .lst ds => .lst ds
  | .dic kvs => .dic kvs
  | .scr ns => .scr ns
  | .fn nm => .fn nm
  | .exn a => .exn a
  | .dlx a k => .dlx a k
  | .win a p d u => .win a p d u
  | .lsx a ds => .lsx a ds
def fgs : List D → List D
  | [] => []
  | d :: ds => fg d :: fgs ds
end
section
variable {K : PySem.W.Frag} {mg : Str → Option Value} {F : Hp}
mutual
theorem Rep.fg : ∀ (d : D) (v : V), Rep K mg F v d → Rep K mg F v (Dl.fg d)
  | .tpl ds, _, h => by cases h with | tpl hs ha => obtain ⟨o, h1, _⟩ := hs; exact .tup (.inl (.inr ⟨o, h1⟩)) (RepAll.fg ds _ ha)
  | .tup ds, _, h => by cases h with | tup hs ha => exact .tup hs (RepAll.fg ds _ ha)
  | .non, _, h => h
  | .bl _, _, h => h
  | .int _, _, h => h
  | .str _, _, h => h
  | .lst _, _, h => h
  | .dic _, _, h => h
  | .scr _, _, h => h
  | .fn _, _, h => h
  | .exn _, _, h => h
  | .dlx _ _, _, h => h
  | .win _ _ _ _, _, h => h
  | .lsx _ _, _, h => h
theorem RepAll.fg : ∀ (ds : List D) (vs : List V), RepAll K mg F vs ds → RepAll K mg F vs (fgs ds)
  | [], _, h => h
  | d :: ds, _, h => by cases h with | cons h1 h2 => exact .cons (Rep.fg d _ h1) (RepAll.fg ds _ h2)
end
end
def sFg (a : Sx) : Sx := fun ρ => bd (a ρ) fun d => some (.ok (fg d))
section
variable {X : Cx} {W : WX} {pos : Pos} {a b : Expr} {sa sb : Sx}
theorem d_fg (ha : PE X a (tS X.K X.mg W sa)) : PE X a (tS X.K X.mg W (sFg sa)) := by
  refine pe_imp ha fun σ H Q ⟨ρ, F, z, v, e, fin⟩ => ?_
  rcases bd_some e with ⟨d, ea, e⟩ | ⟨c, ea, rfl⟩
  · cases e
    exact ⟨ρ, F, .ok d, v, ea, fun u F1 H1 g r => fin u F1 H1 g (Rep.fg d _ r)⟩
  · exact ⟨ρ, F, .error c, v, ea, fin⟩
/-- tuple(list), its object told -/
def rTuplP (K : PySem.W.Frag) : List V → Hp → VK → Prop := fun xs H Q => ∃ p ys, xs = [V.ref p] ∧ SqL K H p ys ∧ ∀ (l : Addr) (o : Obj), H l = none → o.cls = .type "tuple" → o.dict = none → Q (.ref l) (upd H l (.frz o (.tup ys)))
theorem call_tuplP : CallR X (.type "tuple") (rTuplP X.K) := by
  intro pins s σ H xs us Q I r h
  obtain ⟨p, ys, rfl, hq, q⟩ := h
  obtain ⟨u, rfl, rx⟩ := vals1 r
  cases rx
  obtain ⟨its, r', pl, hz⟩ := I.list hq
  have hlen := r'.length
  refine call_tuple_list pl.isList (fun h' kp => ?_) (by simp only [List.size_toArray] <;> omega)
  have I1 : Inv X pins σ H { s with heap := h' } := I.kept (t' := s.toks) kp
  have I2 : Inv X pins σ (upd H h'.objs.size (.frz { cls := .type "tuple", data := .seq its.toArray } (.tup ys))) { s with heap := h'.push { cls := .type "tuple", data := .seq its.toArray } } :=
    I1.laid (t' := s.toks) (fun b o e => Heap.get?_push_of_some _ e) (Nat.le_refl _) (show ObjOk X.prog X.w _ _ _ (.frz _ (.tup ys)) from ⟨Heap.get?_push_size _ rfl, hz, its, r', IsTup.new _ _⟩)
  exact ⟨.ref h'.objs.size, _, I2, rfl, q _ _ (I1.hok.fresh (Nat.le_refl _)) rfl rfl⟩
def dTuplP : List D → Option D
  | [.lst xs] => some (.tpl xs)
  | _ => none
theorem c_tuplP {K : PySem.W.Frag} {mg : Str → Option Value} : CallN K mg (rTuplP K) dTuplP := by
  intro F H xs ds dz Q e rs hf q
  unfold dTuplP at hf
  split at hf
  · cases hf
    obtain ⟨v, rfl, r⟩ := rs.one
    cases r with
    | lst h1 r1 => exact ⟨_, _, rfl, .inl (.inl (e _ _ h1)), fun p o hp hc hd => q _ _ _ (.both e hp) (.tpl ⟨o, upd_same, hc, hd⟩ (r1.mo (.new (e.none hp))))⟩
  · cases hf
/-! ### t.m(e), t such a tuple -/
def tyP (x : V) (H : Hp) : Prop := ∃ (p : Addr) (o : Obj) (xs : List V), x = .ref p ∧ H p = some (.frz o (.tup xs)) ∧ o.cls = .type "tuple" ∧ o.dict = none
def tBMP (r : V → List V → Hp → VK → Prop) (to : TE) (t : TA) : TE := fun σ H Q => to σ H fun x H1 => tyP x H1 ∧ t σ H1 fun xs H2 => r x xs H2 Q
variable {o e : Expr} {es : List Expr} {to : TE} {t : TA} {name : Str} {apos cpos : Pos} {id : String} {r : V → List V → Hp → VK → Prop}
theorem pe_bmP (pa : PlainAttrs "tuple") (slot : Slot "tuple" name id) (hty : typeOf (.builtin id) = pure (.type "method_descriptor")) (hm : MtR X id r) (ho : PE X o to) (ha : PA X (e :: es) t)
    (hbase : attributeBase o name X.env (eval o X.env) = eval o X.env := by rfl)
    (hfew : ((backTo cpos (starEach (e :: es) X.env)).all (fun x => !x.1) && (backToKw cpos (keywordEach [] X.env)).all (fun x => x.1.isSome)
      && decide ((e :: es).length + ([] : List Keyword).length + (if ([] : List Keyword).isEmpty then 0 else 1) < 30)) = true := by rfl)
    (hline : (apos.endLine == cpos.line) = true := by rfl) (hs : starEach (e :: es) X.env = (false, eval e X.env) :: starEach es X.env := by rfl) (hplain : (backTo cpos (starEach es X.env)).any (·.1) = false := by rfl) :
    PE X (.Call (.Attribute o name apos) (e :: es) [] cpos) (tBMP r to t) := by
  refine ⟨fun pins s σ H Q I h => ?_⟩
  refine wpAny_Call_method_late hbase hfew hline rfl (thn (ho.run pins s σ H _ I h) fun v s1 ⟨x, H1, I1, r1, ty, q1⟩ => ?_)
  obtain ⟨p, ob, xs, rfl, hp, hc, hd⟩ := ty
  cases r1
  have hg : s1.heap.get? p = some ob := (I1.hok p _ hp).1
  refine ⟨"tuple", id, pa, slot, hty, ⟨ob, hg, hc⟩, fun a e2 => (by cases e2; exact ⟨ob, hg, hd⟩), ?_⟩
  have hA := ha.run cpos pins s1 σ H1 _ I1 q1
  rw [hs] at hA ⊢
  refine Calls.callWith_builtin (by show (false || (backTo cpos (starEach es X.env)).any (·.1)) = false; rw [hplain] <;> rfl) (Calls.evalArgs_plain ?_)
  exact thn hA fun us s2 ⟨vs, H2, I2, r2, q2⟩ => hm pins s2 σ H2 (.ref p) vs _ us Q I2 rfl r2 q2
/-- t.index(x), texts -/
def dTIndex : D → D → Option D
  | .tpl ds, .str z => match strsOf ds with
    | some ys => (ys.findIdx? fun y => y == z).map fun i => .int (i : Nat)
    | none => none
  | _, _ => none
def sTIndex (a b : Sx) : Sx := fun ρ => bd (a ρ) fun x =>
  match x with
  | .tpl ds => bd (b ρ) fun y => lift (dTIndex (.tpl ds) y)
  | _ => none
theorem d_tindex (ha : PE X a (tS X.K X.mg W sa)) (hb : PE X b (tS X.K X.mg W sb)) (hbase : attributeBase a "index" X.env (eval a X.env) = eval a X.env := by rfl)
    (hfew : ((backTo cpos (starEach [b] X.env)).all (fun x => !x.1) && (backToKw cpos (keywordEach [] X.env)).all (fun x => x.1.isSome)
      && decide (([b] : List Expr).length + ([] : List Keyword).length + (if ([] : List Keyword).isEmpty then 0 else 1) < 30)) = true := by rfl)
    (hline : (apos.endLine == cpos.line) = true := by rfl) (hs : starEach [b] X.env = (false, eval b X.env) :: starEach [] X.env := by rfl) (hplain : (backTo cpos (starEach [] X.env)).any (·.1) = false := by rfl) :
    PE X (.Call (.Attribute a "index" apos) [b] [] cpos) (tS X.K X.mg W (sTIndex sa sb)) := by
  refine pe_imp (pe_bmP PySem.F.plainAttrs_tuple PySem.F.slot_tuple_index PySem.F.type_tuple_index mt_tup_index ha (pa_cons hb pa_nil hs) hbase hfew hline hs hplain) fun σ H Q ⟨ρ, F, z, v, e, fin⟩ => ?_
  refine part v e fin fun dx x F1 H1 _ e g v1 rx fin1 => ?_
  split at e
  · rename_i ds
    cases rx with
    | @tpl p xs _ hp rr =>
      obtain ⟨ob, h1, h2, h3⟩ := hp
      refine ⟨⟨p, ob, xs, rfl, v1.e _ _ h1, h2, h3⟩, ?_⟩
      show tS X.K X.mg W sb σ H1 fun y H2 => _
      refine part v1 e fin1 fun dy y F2 H2 _ e g2 v2 ry fin2 => ?_
      obtain ⟨dz, e', rfl⟩ := lift_some e
      cases ry <;> simp only [dTIndex, reduceCtorEq] at e'
      rename_i zz _
      split at e'
      · rename_i ys hys
        obtain ⟨i, hi, rfl⟩ := Option.map_eq_some_iff.mp e'
        have hx := strs_rep rr hys
        subst hx
        obtain ⟨hi1, hi2, hi3⟩ := List.findIdx?_eq_some_iff_getElem.mp hi
        have hz : ys[i] = zz := by simpa using hi2
        refine ⟨p, ys, zz, i, rfl, rfl, .inl (.inr ⟨ob, g2.h _ _ (v1.e _ _ h1)⟩), by rw [List.getElem?_eq_getElem hi1, hz], fun m hm hq => ?_, fin2 _ F2 H2 (.refl v2.e) (.int _)⟩
        obtain ⟨hm1, hm2⟩ := List.getElem?_eq_some_iff.mp hq
        have := hi3 m hm
        rw [hm2] at this
        simp at this
      · cases e'
  · cases e
end
end Dl
/-! Dl22: texts: str(n), int(text), join, split, a sign in a text, its signs walked, cut, taken by place. -/
namespace Dl
open PySem L2
def numS (i : Int) : Str := Str.ofString (toString i)
/-- one sign -/
def sgn (c : Nat) : Str := ⟨#[c]⟩
def dStrI : List D → Option D
  | [.int i] => if decide (0 ≤ i) && decide (i < 1000000) then some (.str (numS i)) else none
  | _ => none
abbrev rStrI : List V → Hp → VK → Prop := fun xs H Q => ∃ i : Int, xs = [.int i] ∧ i.natAbs.log2 < 1920 ∧ Q (.str (toString i)) H
theorem c_strI {K : PySem.W.Frag} {mg : Str → Option Value} : CallN K mg rStrI dStrI := by
  intro F H xs ds dz Q e rs hf q
  unfold dStrI at hf
  split at hf
  · rename_i i
    split at hf
    · rename_i c
      rw [Bool.and_eq_true, decide_eq_true_eq, decide_eq_true_eq] at c
      cases hf
      obtain ⟨v, rfl, r⟩ := rs.one
      cases r
      refine ⟨i, rfl, ?_, q _ F H (.refl e) (.str _)⟩
      have h1 : i.natAbs < 2 ^ 1920 := Nat.lt_of_lt_of_le (show i.natAbs < 2 ^ 20 by omega) (Nat.pow_le_pow_right (by decide) (by decide))
      by_cases h0 : i.natAbs = 0
      · rw [h0]; decide
      · exact (Nat.log2_lt h0).mpr h1
    · cases hf
  · cases hf
def dIntT : List D → Option D
  | [.str a] => if decide (a.length ≤ 640) then (PySem.intText? a).map D.int else none
  | _ => none
abbrev rIntT : List V → Hp → VK → Prop := fun xs H Q => ∃ a n, xs = [.str a] ∧ PySem.intText? a = some n ∧ a.length ≤ 640 ∧ Q (.int n) H
theorem c_intT {K : PySem.W.Frag} {mg : Str → Option Value} : CallN K mg rIntT dIntT := by
  intro F H xs ds dz Q e rs hf q
  unfold dIntT at hf
  split at hf
  · split at hf
    · rename_i c
      obtain ⟨n, hn, rfl⟩ := Option.map_eq_some_iff.mp hf
      obtain ⟨v, rfl, r⟩ := rs.one
      cases r
      exact ⟨_, n, rfl, hn, of_decide_eq_true c, q _ F H (.refl e) (.int _)⟩
    · cases hf
  · cases hf
/-- is the sign in the text? -/
def dInT : D → D → Option D
  | .str x, .str z => match x.cps.toList with
    | [c] => some (.bl (decide (c ∈ z.cps.toList)))
    | _ => none
  | _, _ => none
abbrev rInT : R2 := fun x y H Q => ∃ (c : Nat) (z : Str), x = .str ⟨#[c]⟩ ∧ y = .str z ∧ Q (.bl (decide (c ∈ z.cps.toList))) H
theorem op_inT {X : Cx} : OpR X (compareOp .In) rInT := op_in_sign
theorem o_inT {K : PySem.W.Frag} {mg : Str → Option Value} : Op2 K mg rInT dInT := by
  intro F H x y dx dy dz Q e rx ry hf q
  unfold dInT at hf
  split at hf
  · rename_i x z
    split at hf
    · rename_i c hc
      cases hf
      cases rx; cases ry
      have : x = ⟨#[c]⟩ := by
        cases x
        simp only [Str.mk.injEq]
        exact Array.toList_inj.mp hc
      subst this
      exact ⟨c, z, rfl, rfl, q _ F H (.refl e) (.bl _)⟩
    · cases hf
  · cases hf
/-- text[i] -/
def dIxT : D → D → Option D
  | .str z, .int i => if okLen z.length then (atI z.cps.toList i).map fun c => .str (sgn c) else none
  | _, _ => none
theorem o_ixT {K : PySem.W.Frag} {mg : Str → Option Value} : Op2 K mg rIxS dIxT := by
  intro F H x y dx dy dz Q e rx ry hf q
  unfold dIxT at hf
  split at hf
  · split at hf
    · rename_i z i ho
      obtain ⟨c, hc, rfl⟩ := Option.map_eq_some_iff.mp hf
      cases rx; cases ry
      exact ⟨z, i, c, rfl, rfl, okLen_line ho, hc, q _ F H (.refl e) (.str _)⟩
    · cases hf
  · cases hf
section
variable {X : Cx} {W : WX} {pos p2 : Pos} {a b : Expr} {sa sb : Sx} {lo hi : Option Expr} {sl sh : Rho → Oe (Option Int)}
/-- text[lo:hi] -/
def sCutS (a : Sx) (l h : Rho → Oe (Option Int)) : Sx := fun ρ => bd (a ρ) fun x => bd (l ρ) fun i => bd (h ρ) fun j => lift
  (match x with
  | .str z => if okLen z.length then some (.str (cutS z i j)) else none
  | _ => none)
theorem d_cutS (ha : PE X a (tS X.K X.mg W sa)) (hl : PO X lo (tK X.K X.mg W kO sl)) (hh : PO X hi (tK X.K X.mg W kO sh)) : PE X (.Subscript a (.Slice lo hi none p2) pos) (tS X.K X.mg W (sCutS sa sl sh)) := by
  refine pe_imp (pe_slice sl_str ha hl hh) fun σ H Q ⟨ρ, F, z, v, e, fin⟩ => ?_
  refine part v e fin fun dx x F1 H1 _ e g v1 rx fin1 => ?_
  refine part v1 e fin1 fun i i' F2 H2 _ e g2 v2 ri fin2 => ?_
  refine part v2 e fin2 fun j j' F3 H3 _ e g3 v3 rj fin3 => ?_
  cases ri; cases rj
  obtain ⟨dz, e', rfl⟩ := lift_some e
  split at e'
  · split at e'
    · rename_i ho
      cases e'
      cases rx
      exact ⟨_, rfl, okLen_line ho, fin3 _ F3 H3 (.refl v3.e) (.str _)⟩
    · cases e'
  · cases e'
/-- sep.join(texts) -/
def joinOk (a : Str) (ys : List Str) : Bool := decide ((ys.map (·.length)).sum + ys.length * a.length ≤ 1000000)
def dJoin : D → D → Option D
  | .str a, .lst ds => match strsOf ds with
    | some ys => if joinOk a ys then some (.str (Txt.join a ys)) else none
    | none => none
  | .str a, .tup ds => match strsOf ds with
    | some ys => if joinOk a ys then some (.str (Txt.join a ys)) else none
    | none => none
  | _, _ => none
def sJoin (a b : Sx) : Sx := fun ρ => bd (a ρ) fun x =>
  match x with
  | .str s => bd (b ρ) fun y => lift (dJoin (.str s) y)
  | _ => none
theorem d_join {apos : Pos} (ha : PE X a (tS X.K X.mg W sa)) (hb : PE X b (tS X.K X.mg W sb)) (hs : starEach [b] X.env = [(false, eval b X.env)] := by rfl) (hbase : attributeBase a "join" X.env (eval a X.env) = eval a X.env := by rfl) (hline : (apos.endLine == pos.line) = true := by rfl) :
    PE X (.Call (.Attribute a "join" apos) [b] [] pos) (tS X.K X.mg W (sJoin sa sb)) := by
  refine pe_imp (pe_join ha hb hs hbase hline) fun σ H Q ⟨ρ, F, z, v, e, fin⟩ => ?_
  refine part v e fin fun dx x F1 H1 _ e g v1 rx fin1 => ?_
  split at e
  · rename_i s _
    cases rx
    refine ⟨⟨s, rfl⟩, ?_⟩
    refine part v1 e fin1 fun dy y F2 H2 _ e g2 v2 ry fin2 => ?_
    obtain ⟨dz, e', rfl⟩ := lift_some e
    have ok : ∀ ys : List Str, joinOk s ys = true → (ys.map (·.length)).sum + ys.length * s.length ≤ 16777216 := fun ys h => Nat.le_trans (of_decide_eq_true h) (by decide)
    cases ry <;> simp only [dJoin, reduceCtorEq] at e'
    · rename_i h1 r1 _
      split at e'
      · rename_i ys hys
        split at e'
        · rename_i hok
          cases e'
          rw [strs_rep r1 hys] at h1
          exact ⟨s, _, ys, rfl, rfl, .inr (v2.e.sqT h1), ok ys hok, fin2 _ F2 H2 (.refl v2.e) (.str _)⟩
        · cases e'
      · cases e'
    · rename_i h1 r1 _
      split at e'
      · rename_i ys hys
        split at e'
        · rename_i hok
          cases e'
          rw [strs_rep r1 hys] at h1
          exact ⟨s, _, ys, rfl, rfl, .inl (.inl (.inl (v2.e _ _ h1))), ok ys hok, fin2 _ F2 H2 (.refl v2.e) (.str _)⟩
        · cases e'
      · cases e'
  · cases e
/-- text.split(sep) -/
def dSplit : D → D → Option (List D)
  | .str a, .str b => if !(b.length == 0) && okLen a.length then some ((Txt.split a b).map D.str) else none
  | _, _ => none
def sSplit (a b : Sx) : Sl := fun ρ => bd (a ρ) fun x =>
  match x with
  | .str s => bd (b ρ) fun y => lift (dSplit (.str s) y)
  | _ => none
theorem l_split {apos : Pos} (ha : PE X a (tS X.K X.mg W sa)) (hb : PE X b (tS X.K X.mg W sb)) (hs : starEach [b] X.env = [(false, eval b X.env)] := by rfl) (hbase : attributeBase a "split" X.env (eval a X.env) = eval a X.env := by rfl) (hline : (apos.endLine == pos.line) = true := by rfl) :
    PE X (.Call (.Attribute a "split" apos) [b] [] pos) (tL X.K X.mg W (sSplit sa sb)) := by
  refine pe_imp (pe_split ha hb hs hbase hline) fun σ H Q ⟨ρ, F, z, v, e, fin⟩ => ?_
  refine part v e fin fun dx x F1 H1 _ e g v1 rx fin1 => ?_
  split at e
  · rename_i s _
    cases rx
    refine ⟨⟨s, rfl⟩, ?_⟩
    refine part v1 e fin1 fun dy y F2 H2 _ e g2 v2 ry fin2 => ?_
    obtain ⟨ds, e', rfl⟩ := lift_some e
    cases ry <;> simp only [dSplit, reduceCtorEq] at e'
    split at e'
    · rename_i c
      rw [Bool.and_eq_true, Bool.not_eq_true'] at c
      cases e'
      refine ⟨s, _, rfl, rfl, c.1, ?_, fun p hp => fin2 (.ref p) F2 _ (.only v2.e hp) ⟨p, _, rfl, hp, v2.e.none hp, upd_same, strs_all _⟩⟩
      have h1 : s.length ≤ 1000000 := of_decide_eq_true c.2
      have h2 : (1000002 : Nat) ≤ sizeLine := by decide
      omega
    · cases e'
  · cases e
/-- the signs of a text -/
def sgns (x : Str) : List D := x.cps.toList.map fun c => .str (sgn c)
theorem Wk.text {K : PySem.W.Frag} {mg : Str → Option Value} {F : Hp} (x : Str) : Wk K mg (Its x) F (sgns x) := fun i F' H e e' =>
  ⟨fun d hd => by
    unfold sgns at hd
    rw [List.getElem?_map] at hd
    obtain ⟨c, hc, rfl⟩ := Option.map_eq_some_iff.mp hd
    have hc' : x.cps[i]? = some c := by simpa using hc
    refine ⟨by
      obtain ⟨h1, _⟩ := Array.getElem?_eq_some_iff.mp hc'
      exact h1, fun v H' y => ?_⟩
    obtain ⟨rfl, c', h1, rfl⟩ := y
    rw [hc'] at h1
    cases h1
    exact ⟨F', .refl e', .str _⟩, fun hl => by
    unfold sgns at hl
    rw [List.length_map, Array.length_toList] at hl
    exact hl⟩
def sTextItems (e : Sx) : Sl := fun ρ => bd (e ρ) fun d =>
  match d with
  | .str x => some (.ok (sgns x))
  | _ => none
theorem i_text {tg : Expr} (he : PE X a (tS X.K X.mg W sa)) : PI X tg a (tI X.K X.mg W (sTextItems sa)) := by
  refine ⟨fun pins s σ H R I ⟨ρ, F, r, v, e, fin⟩ => (pi_str he).run pins s σ H R I ?_⟩
  refine part v e fin fun d x F1 H1 es e g v1 rx fin1 => ?_
  split at e
  · cases e
    cases rx
    exact ⟨_, rfl, fin1 _ F1 H1 (.refl v1.e) (Wk.text _)⟩
  · cases e
end
end Dl
/-! Dl23: dicts with int keys and lists of ints as values, known by their address: made, read through another name, written, asked. -/
namespace Dl
open PySem L2
def lookX (kns : List (Int × List Int)) (k : Int) : Option (List Int) := (kns.find? fun p => decide (p.1 = k)).map (·.2)
def putX (kns : List (Int × List Int)) (k : Int) (ns : List Int) : List (Int × List Int) :=
  if (kns.any fun p => decide (p.1 = k)) = true then kns.map (fun p => if p.1 = k then (p.1, ns) else p) else kns ++ [(k, ns)]
theorem inl_iff (i k : Int) : ((Sum.inl i : Key) = Sum.inl k) ↔ i = k := ⟨fun h => Sum.inl.inj h, fun h => by rw [h]⟩
theorem KRep.look {F : Hp} {k : Int} : ∀ {kvs : List (Key × V)} {kns : List (Int × List Int)}, KRep F kvs kns →
    (valV kvs (Sum.inl k) = none ∧ lookX kns k = none) ∨ ∃ b ns, valV kvs (Sum.inl k) = some (.ref b) ∧ F b = some (.lst (ns.map V.int)) ∧ lookX kns k = some ns
  | [], [], _ => .inl ⟨rfl, rfl⟩
  | p :: r, q :: s, h => by
    obtain ⟨h1, ⟨b, h2, h3⟩, h4⟩ := h
    by_cases e : q.1 = k
    · have ep : p.1 = Sum.inl k := by rw [h1, e]
      refine .inr ⟨b, q.2, by rw [valV_pos ep, h2], h3, ?_⟩
      simp [lookX, List.find?_cons, e]
    · have ep : ¬ p.1 = Sum.inl k := fun z => e ((inl_iff _ _).mp (h1.symm.trans z))
      have el : lookX (q :: s) k = lookX s k := by simp [lookX, List.find?_cons, e]
      rw [valV_neg ep, el]
      exact KRep.look h4
  | [], _ :: _, h => h.elim
  | _ :: _, [], h => h.elim
theorem KRep.any {F : Hp} {k : Int} : ∀ {kvs : List (Key × V)} {kns : List (Int × List Int)}, KRep F kvs kns → (kvs.any fun kv => decide (kv.1 = Sum.inl k)) = kns.any fun p => decide (p.1 = k)
  | [], [], _ => rfl
  | p :: r, q :: s, h => by
    obtain ⟨h1, _, h4⟩ := h
    rw [List.any_cons, List.any_cons, KRep.any h4, h1]
    congr 1
    exact decide_eq_decide.mpr (inl_iff _ _)
  | [], _ :: _, h => h.elim
  | _ :: _, [], h => h.elim
theorem KRep.map {F : Hp} {k : Int} {b : Addr} {ns : List Int} (hb : F b = some (.lst (ns.map V.int))) : ∀ {kvs : List (Key × V)} {kns : List (Int × List Int)}, KRep F kvs kns →
    KRep F (kvs.map fun kv => if kv.1 = Sum.inl k then (kv.1, .ref b) else kv) (kns.map fun p => if p.1 = k then (p.1, ns) else p)
  | [], [], _ => trivial
  | p :: r, q :: s, h => by
    obtain ⟨h1, h2, h4⟩ := h
    rw [List.map_cons, List.map_cons]
    by_cases e : q.1 = k
    · have ep : p.1 = Sum.inl k := by rw [h1, e]
      rw [if_pos ep, if_pos e]
      exact ⟨h1, ⟨b, rfl, hb⟩, KRep.map hb h4⟩
    · have ep : ¬ p.1 = Sum.inl k := fun z => e ((inl_iff _ _).mp (h1.symm.trans z))
      rw [if_neg ep, if_neg e]
      exact ⟨h1, h2, KRep.map hb h4⟩
  | [], _ :: _, h => h.elim
  | _ :: _, [], h => h.elim
theorem KRep.snoc {F : Hp} {k : Int} {b : Addr} {ns : List Int} (hb : F b = some (.lst (ns.map V.int))) : ∀ {kvs : List (Key × V)} {kns : List (Int × List Int)}, KRep F kvs kns → KRep F (kvs ++ [(Sum.inl k, .ref b)]) (kns ++ [(k, ns)])
  | [], [], _ => ⟨rfl, ⟨b, rfl, hb⟩, trivial⟩
  | p :: r, q :: s, h => ⟨h.1, h.2.1, KRep.snoc hb h.2.2⟩
  | [], _ :: _, h => h.elim
  | _ :: _, [], h => h.elim
theorem KRep.put {F : Hp} {k : Int} {b : Addr} {ns : List Int} (hb : F b = some (.lst (ns.map V.int))) {kvs : List (Key × V)} {kns : List (Int × List Int)} (h : KRep F kvs kns) : KRep F (putK kvs (Sum.inl k) (.ref b)) (putX kns k ns) := by
  unfold putK putX
  rw [h.any]
  split
  · exact h.map hb
  · exact h.snoc hb
theorem KRep.length {F : Hp} : ∀ {kvs : List (Key × V)} {kns : List (Int × List Int)}, KRep F kvs kns → kvs.length = kns.length
  | [], [], _ => rfl
  | p :: r, q :: s, h => by rw [List.length_cons, List.length_cons, KRep.length h.2.2]
  | [], _ :: _, h => h.elim
  | _ :: _, [], h => h.elim
def intL : List D → Option (List Int)
  | [] => some []
  | .int i :: r => (intL r).map (i :: ·)
  | _ => none
theorem intL_map : ∀ ns : List Int, intL (ns.map D.int) = some ns
  | [] => rfl
  | n :: r => by rw [List.map_cons, intL, intL_map r]; rfl
theorem intL_rep {K : PySem.W.Frag} {mg : Str → Option Value} {F : Hp} : ∀ {ds : List D} {xs : List V} {ns : List Int}, RepAll K mg F xs ds → intL ds = some ns → xs = ns.map V.int
  | [], _, _, h, e => by cases h; cases e; rfl
  | d :: ds, _, _, h, e => by
    cases h with
    | cons h1 h2 =>
      cases d <;> first | (simp [intL] at e; done) | skip
      simp only [intL] at e
      obtain ⟨ns, e1, rfl⟩ := Option.map_eq_some_iff.mp e
      cases h1
      rw [intL_rep h2 e1]
      rfl
theorem intsR {K : PySem.W.Frag} {mg : Str → Option Value} {F : Hp} : ∀ ns : List Int, RepAll K mg F (ns.map V.int) (ns.map D.int)
  | [] => .nil
  | n :: r => .cons (.int n) (intsR r)
section
variable {X : Cx} {W : WX} {pos : Pos} {a b c : Expr} {sa sb : Sx}
/-- the dict, by its address alone -/
def sRefX (s : Sx) : Sx := fun ρ => bd (s ρ) fun d =>
  match d with
  | .dlx p _ => some (.ok (.exn p))
  | _ => none
theorem d_refX (ha : PE X a (tS X.K X.mg W sa)) : PE X a (tS X.K X.mg W (sRefX sa)) := by
  refine pe_imp ha fun σ H Q ⟨ρ, F, z, v, e, fin⟩ => ?_
  refine part v e fin fun dx x F1 H1 _ e g v1 rx fin1 => ?_
  split at e
  · cases e
    cases rx
    exact fin1 _ F1 H1 (.refl v1.e) (.exn _)
  · cases e
/-- the dict behind an address -/
def findX (ρ : Rho) (p : Addr) : Option D := ρ.findSome? fun o => match o with
  | some (.dlx q k) => if q = p then some (.dlx q k) else none
  | _ => none
def sAls (s : Sx) : Sx := fun ρ => bd (s ρ) fun d =>
  match d with
  | .exn p => lift (findX ρ p)
  | .dlx p k => some (.ok (.dlx p k))
  | _ => none
theorem d_als (ha : PE X a (tS X.K X.mg W sa)) : PE X a (tS X.K X.mg W (sAls sa)) := by
  refine pe_imp ha fun σ H Q ⟨ρ, F, z, v, e, fin⟩ => ?_
  refine part v e fin fun dx x F1 H1 _ e g v1 rx fin1 => ?_
  split at e
  · rename_i p
    obtain ⟨dz, e', rfl⟩ := lift_some e
    unfold findX at e'
    obtain ⟨o, ho, e''⟩ := List.exists_of_findSome?_eq_some e'
    obtain ⟨i, hi, hio⟩ := List.getElem_of_mem ho
    have hi' : ρ[i]? = some o := by rw [List.getElem?_eq_getElem hi, hio]
    split at e''
    · rename_i q k
      split at e''
      · rename_i hq
        cases e''
        subst hq
        obtain ⟨u, _, r⟩ := v1.v i _ hi'
        cases rx
        cases r with
        | dlx h1 h2 => exact fin1 _ F1 H1 (.refl v1.e) (.dlx h1 h2)
      · cases e''
    · cases e''
  · cases e
    exact fin1 _ F1 H1 (.refl v1.e) rx
  · cases e
/-- d.get(k, []) -/
def sGetX (a b : Sx) : Sx := fun ρ => bd (a ρ) fun x =>
  match x with
  | .dlx _ kns => bd (b ρ) fun y =>
    match y with
    | .int k => some (.ok (.lst (((lookX kns k).getD []).map D.int)))
    | _ => none
  | _ => none
theorem d_getX {apos : Pos} (hu : X.A.units + 1 < cLine) (ha : PE X a (tS X.K X.mg W sa)) (hb : PE X b (tS X.K X.mg W sb)) (hc : PE X c (tS X.K X.mg W (sOfL (sLst sNil)))) (m : M2 X a "get" apos b c pos := by exact ⟨rfl, rfl, rfl, rfl⟩) :
    PE X (.Call (.Attribute a "get" apos) [b, c] [] pos) (tS X.K X.mg W (sGetX sa sb)) := by
  refine pe_imp (pe_dget2 hu ha hb hc m) fun σ H Q ⟨ρ, F, z, v, e, fin⟩ => ?_
  refine part v e fin fun dx x F1 H1 _ e g v1 rx fin1 => ?_
  split at e
  · rename_i p kns _
    cases rx with
    | @dlx _ kvs _ h1 h2 =>
    refine ⟨p, rfl, .inl ⟨kvs, .inl (v1.e _ _ h1)⟩, ?_⟩
    refine part v1 e fin1 fun dy y F2 H2 _ e g2 v2 ry fin2 => ?_
    split at e
    · rename_i k _
      cases e
      cases ry
      refine ⟨_, _, _, v2, rfl, fun w F3 H3 g3 rw' => ?_⟩
      have hH : H3 p = some (.dK kvs) := g3.s _ _ (g3.f _ _ (g2.f _ _ h1))
      have h2' : KRep F3 kvs kns := (h2.mo g2.f).mo g3.f
      refine ⟨_, DGet.k (k := Sum.inl k) hH, ?_⟩
      rcases h2'.look (k := k) with ⟨q1, q2⟩ | ⟨b, ns, q1, q2, q3⟩
      · rw [q1]
        refine fin2 w F3 H3 g3 ?_
        rw [q2]
        exact rw'
      · rw [q1]
        refine fin2 (.ref b) F3 H3 g3 ?_
        rw [q3]
        exact .lst q2 (intsR ns)
    · cases e
  · cases e
/-- which of the slots holds the dict -/
def ownIx (ms : List Nat) (p : Addr) (ρ : Sig) : Option Nat := ms.find? fun i => match ρ[i]? with
  | some (.own (.dlx q _)) => decide (q = p)
  | _ => false
def allX (ms : List Nat) (ρ : Sig) : Bool := ms.all fun i => match ρ[i]? with
  | some (.own (.dlx _ _)) => true
  | _ => false
/-- t[k] = e: t a name of a dict that one of the slots ms holds -/
def sPutX (ms : List Nat) (t kk : Nat) (e : Sx) : Ss := fun ρ =>
  match ρ[t]?, ρ[kk]? with
  | some (.dat (.exn p)), some (.dat (.int k)) =>
    match ownIx ms p ρ with
    | some i => match ρ[i]? with
      | some (.own (.dlx q kns)) => if q = p then stp ms e ρ fun d =>
          match d with
          | .lst ds => match intL ds with
            | some ns => if allX ms ρ && decide (kns.length ≤ 1000) then some (.nx (ρ.set i (.own (.dlx q (putX kns k ns))))) else none
            | none => none
          | _ => none
        else none
      | _ => none
    | none => none
  | _, _ => none
theorem s_putX {t kk : Nat} {x y : Str} {e : Expr} {se : Sx} {p1 p2 pos' : Pos} (ms : List Nat) (hu : X.A.units + 1 < cLine) (he : PE X e (tS X.K X.mg W se)) (hN : X.N[t]? = some x := by rfl) (hN2 : X.N[kk]? = some y := by rfl)
    (hv : Vis X.env.scope x := by first | exact Or.inl rfl | exact Or.inr (Or.inl rfl) | exact Or.inr (Or.inr rfl)) (hd : (x == ("__debug__" : Str)) = false := by decide) (hcd : (x == ("__classdict__" : Str)) = false := by decide)
    (hv2 : Vis X.env.scope y := by first | exact Or.inl rfl | exact Or.inr (Or.inl rfl) | exact Or.inr (Or.inr rfl)) (hd2 : (y == ("__debug__" : Str)) = false := by decide) (hcd2 : (y == ("__classdict__" : Str)) = false := by decide)
    (hs : swapsWith e (some (.Subscript (.Name x p1) (.Name y p2) pos')) pos.line X.env = pure false := by rfl) :
    PS X (.Assign [.Subscript (.Name x p1) (.Name y p2) pos'] e pos) (tP X.K X.mg W (sPutX ms t kk se)) := by
  refine ps_imp (ps_dput hu (pe_var (i := t) hN hv hd hcd) (pe_var (i := kk) hN2 hv2 hd2 hcd2) he hs) fun D σ H ⟨F0, H0, ρ, F, fl, S, e, post⟩ => ?_
  unfold sPutX at e
  split at e
  · rename_i p k ht hk
    obtain ⟨vt, ht', rt⟩ := S.s t _ ht
    obtain ⟨vk, hk', rk⟩ := S.s kk _ hk
    cases rt
    cases rk
    split at e
    · rename_i i hi
      split at e
      · rename_i q kns hρ
        split at e
        · rename_i hq
          subst hq
          obtain ⟨p', hp, _, _, hz, kvs, hx, hk2⟩ := S.s i _ hρ
          subst hz
          refine stK S e post fun d v F2 H1 e gr r => ?_
          split at e
          · rename_i ds
            split at e
            · rename_i ns hns
              split at e
              · rename_i hl
                rw [Bool.and_eq_true] at hl
                cases e
                cases r with
                | @lst qa xs _ h1 h2 =>
                have hxs := intL_rep h2 hns
                subst hxs
                have hno : qa ∉ ownAddrs ms ρ σ := fun hm => by
                  obtain ⟨j, dj, hj1, hj2, hj3⟩ := mem_ownAddrs.mp hm
                  have hall := List.all_eq_true.mp hl.1 j (by simpa using hj3)
                  rw [hj1] at hall
                  have hmem := addH_in (F := F) (H := H) hm
                  obtain ⟨p2, e2, _, _, o2⟩ := S.s j _ hj1
                  rw [hj2] at e2
                  cases e2
                  cases dj <;> first | (simp at hall; done) | skip
                  obtain ⟨_, kvs2, z1, _⟩ := o2
                  have := gr.f _ _ (hmem.trans z1)
                  rw [h1] at this
                  cases this
                obtain ⟨S', e', _⟩ := S.seen gr
                have hF : delH F2 (ownAddrs ms ρ σ) qa = some (.lst (ns.map V.int)) := by rw [delH_out hno]; exact h1
                have hx1 : H1 p' = some (.dK kvs) := gr.h _ _ hx
                have hlen : kvs.length < sizeLine := by
                  rw [hk2.length]
                  exact Nat.lt_of_le_of_lt (of_decide_eq_true hl.2) (by decide)
                refine ⟨.ref p', ht', .int k, hk', p', _, rfl, DPut.k (k := Sum.inl k) hx1 hlen, ?_⟩
                exact post σ _ _ (S'.write hρ hp ⟨rfl, _, upd_same, ((hk2.mo e').put hF)⟩) e'
              · cases e
            · cases e
          · cases e
        · cases e
      · cases e
    · cases e
  · cases e
/-- for all two addresses -/
noncomputable def allA (g : Addr → Addr → Option Fl) : Option Fl := by
  classical exact if h : ∃ o, ∀ a b, a ≠ b → g a b = some o then some h.choose else none
theorem allA_some {g : Addr → Addr → Option Fl} {fl : Fl} (h : allA g = some fl) : ∀ a b, a ≠ b → g a b = some fl := by
  unfold allA at h
  split at h
  · rename_i hx
    cases h
    exact hx.choose_spec
  · cases h
theorem allA_of {g : Addr → Addr → Option Fl} {fl : Fl} (h : ∀ a b, a ≠ b → g a b = some fl) : allA g = some fl := by
  have hx : ∃ o, ∀ a b, a ≠ b → g a b = some o := ⟨fl, h⟩
  unfold allA
  rw [dif_pos hx]
  have h1 := hx.choose_spec 0 1 (by decide)
  rw [h 0 1 (by decide)] at h1
  exact h1.symm
/-- x, y, z = c, {}, {}, and what comes behind -/
noncomputable def sNew3 (i j l : Nat) (c : Sx) (rest : Ss) : Ss := fun ρ =>
  match c (expo [] ρ) with
  | some (.ok d) => if lf d then allA (fun p q => rest (((ρ.set i (.dat d)).set j (.own (.dlx p []))).set l (.own (.dlx q [])))) else none
  | _ => none
theorem own_ne {F0 H0 F H H1 : Hp} {σ : St} {ρ : Sig} (S : StOk X.K X.mg F0 H0 F H σ ρ) {p : Addr} (hp : H p = none) {j : Nat} {e : D} (h : ρ[j]? = some (.own e)) : σ[j]? ≠ some (some (.ref p)) := fun z => by
  obtain ⟨q, e1, _, _, o⟩ := S.s j _ h
  rw [z] at e1
  cases e1
  obtain ⟨u, hu, _⟩ := o.there
  rw [hp] at hu
  cases hu
theorem qs_new3 {i j l : Nat} {x y z : Str} {sc : Sx} {rest : List Stmt} {r : Ss} {px py pz pt p4 p5 : Pos} {kt k2 pt2} (hc : X.calm = true) (hN : X.N.Nodup) (ha : PE X a (tS X.K X.mg W sc)) (hr : PSs X rest (tP X.K X.mg W r))
    (hi : X.N[i]? = some x := by rfl) (hj : X.N[j]? = some y := by rfl) (hk : X.N[l]? = some z := by rfl) (hij : i ≠ j := by decide) (hil : i ≠ l := by decide) (hjl : j ≠ l := by decide)
    (hx : X.env.scope.names.lookup x = some .local := by rfl) (hy : X.env.scope.names.lookup y = some .local := by rfl) (hz : X.env.scope.names.lookup z = some .local := by rfl)
    (hw : swappedStores [.Tuple [.Name x px, .Name y py, .Name z pz] kt pt] (.Tuple [a, .Dict [] [] p4, .Dict [] [] p5] k2 pt2) X.env = pure (some [x, y, z]) := by rfl)
    (hs : swapsWithSole [.Tuple [.Name x px, .Name y py, .Name z pz] kt pt] (.Tuple [a, .Dict [] [] p4, .Dict [] [] p5] k2 pt2) pos.line X.env = pure false := by rfl)
    (hs1 : starEach [a, .Dict [] [] p4, .Dict [] [] p5] X.env = (false, eval a X.env) :: starEach [.Dict [] [] p4, .Dict [] [] p5] X.env := by rfl)
    (hs2 : starEach [.Dict [] [] p4, .Dict [] [] p5] X.env = (false, eval (.Dict [] [] p4) X.env) :: starEach [.Dict [] [] p5] X.env := by rfl)
    (hs3 : starEach [.Dict [] [] p5] X.env = (false, eval (.Dict [] [] p5) X.env) :: starEach [] X.env := by rfl) :
    PSs X (.Assign [.Tuple [.Name x px, .Name y py, .Name z pz] kt pt] (.Tuple [a, .Dict [] [] p4, .Dict [] [] p5] k2 pt2) pos :: rest) (tP X.K X.mg W (sNew3 i j l sc r)) := by
  refine pss_imp (pss_cons (ps_par3 hc hN hi hj hk hij hil hjl hx hy hz (pa_cons ha (pa_cons pe_dnewK (pa_cons pe_dnewK pa_nil hs3) hs2) hs1) hw hs) hr) fun D σ H ⟨F0, H0, ρ, F, fl, S, e, post⟩ => ?_
  unfold sNew3 at e
  split at e
  · rename_i d ed
    split at e
    · rename_i hl
      have al := allA_some e
      refine ⟨_, _, _, S.view [], ed, fun b F1 H1 gr rb p hp q hq => ?_⟩
      obtain ⟨S1, e1, tp⟩ := S.seen gr
      have hpq : q ≠ p := fun w => by rw [w, upd_same] at hq; cases hq
      have hq1 : H1 q = none := by rw [upd_ne hpq] at hq; exact hq
      have g2 : Grow (delH F1 (ownAddrs [] ρ σ)) H1 (delH F1 (ownAddrs [] ρ σ)) (upd (upd H1 p (.dK [])) q (.dK [])) := ⟨.refl _, (Ex.new hp).trans (.new hq), fun a o h => (Ex.new hq) _ _ ((Ex.new hp) _ _ (S1.g.s _ _ h)), fun _ _ h => .inl h⟩
      have S2 := S1.grow g2
      have S3 := S2.set (i := i) (Rep.lf tp _ _ hl rb)
      have k1 : ∀ (j' : Nat) (e' : Dl.D) (q' : Addr), (ρ.set i (.dat d))[j']? = some (.own e') → (σ.set i (some b))[j']? = some (some (.ref q')) → ∀ z, H1 z = none → q' ≠ z ∧ z ∉ kids (upd (upd H1 p (.dK [])) q (.dK [])) q' := fun j' e' q' h' z0 z hz => by
        by_cases w : i = j'
        · subst w
          by_cases hi' : i < ρ.length
          · rw [List.getElem?_set_self hi'] at h'; cases h'
          · rw [List.getElem?_eq_none (by rw [List.length_set]; omega)] at h'; cases h'
        · rw [List.getElem?_set_ne w] at h' z0
          exact ⟨(S1.fresh hz h' z0).1, (S1.fresh hz h' z0).2 _ fun a o h => (Ex.new hq) _ _ ((Ex.new hp) _ _ h)⟩
      have k2' : ∀ (j' : Nat) (e' : Dl.D) (q' : Addr), ((ρ.set i (.dat d)).set j (.own (.dlx p [])))[j']? = some (.own e') → ((σ.set i (some b)).set j (some (.ref p)))[j']? = some (some (.ref q')) → q' ≠ q ∧ q ∉ kids (upd (upd H1 p (.dK [])) q (.dK [])) q' := fun j' e' q' h' z0 => by
        by_cases w2 : j = j'
        · subst w2
          by_cases hj' : j < ρ.length
          · rw [List.getElem?_set_self (by rw [List.length_set, ← S1.len]; exact hj')] at z0
            cases z0
            exact ⟨Ne.symm hpq, by rw [kids_dK (xs := []) (by rw [upd_ne (Ne.symm hpq), upd_same])]; exact List.not_mem_nil⟩
          · rw [List.getElem?_eq_none (by rw [List.length_set, List.length_set]; omega)] at h'; cases h'
        · rw [List.getElem?_set_ne w2] at h' z0
          exact k1 j' e' q' h' z0 q hq1
      have S4 := S3.setOwn (i := j) (p := p) (d := .dlx p []) (S1.g.h.none hp) (S1.g.s.none hp) ⟨rfl, [], by rw [upd_ne (Ne.symm hpq), upd_same], trivial⟩ (fun j' e' _ h' z => (k1 j' e' p h' z p hp).1 rfl) (fun j' e' q' _ h' z => (k1 j' e' q' h' z p hp).2) (kids_dK (by rw [upd_ne (Ne.symm hpq), upd_same]))
      have S5 := S4.setOwn (i := l) (p := q) (d := .dlx q []) (S1.g.h.none hq1) (S1.g.s.none hq1) ⟨rfl, [], upd_same, trivial⟩ (fun j' e' _ h' z => (k2' j' e' q h' z).1 rfl) fun j' e' q' _ h' z => (k2' j' e' q' h' z).2
      exact ⟨b, .ref p, .ref q, rfl, F0, H0, _, _, fl, S5, al p q (Ne.symm hpq), post.mo e1⟩
    · cases e
  · cases e
end
end Dl
/-! DlTop: what a def's walk asks of the module. -/
namespace Dl
open PySem L2
theorem hu65 {k : Nat} {A : Around} (r : Room k A) : A.units + 65 < cLine := by have := r.un; omega
theorem hu1 {k : Nat} {A : Around} (r : Room k A) : A.units + 1 < cLine := by have := r.un; omega
theorem su65 {k : Nat} {X : Cx} {a : Addr} {pn : List (Addr × Obj)} (r : Room k X.A) : (X.suite a pn).A.units + 65 < cLine := by
  have := r.un
  show X.A.units + 65 < _
  omega
def GlD (K : PySem.W.Frag) (mg : Str → Option Value) (x : Str) (d : D) : Prop := ∃ v u, mg x = some u ∧ RelV v u ∧ ∀ F, Rep K mg F v d
structure ExcD (K : PySem.W.Frag) (mg : Str → Option Value) (x : Str) : Prop where
  ex : ∃ C : Addr, mg x = some (.ref C) ∧ PySem.W.excIn K C [.type "ValueError", .type "Exception", .type "BaseException", .type "object"] "ValueError.__new__" = true ∧ PySem.W.keepIn K (.ref C) = true ∧
    PySem.W.subIn K (.ref C) (.type "BaseException") = some true ∧ PySem.W.typeIn K (.ref C) = some (.type "type")
section
variable {X : Cx} {W : WX} {pos : Pos}
theorem d_gl {x : Str} {d : D} (h : GlD X.K X.mg x d) (hg : Gl X x := by rfl) (hd : (x == ("__debug__" : Str)) = false := by decide) : PE X (.Name x pos) (tS X.K X.mg W (sC d)) := by
  obtain ⟨v, u, hm, r, hr⟩ := h
  exact d_glob hm r hr hg hd
theorem s_raiseD {x m : Str} {j : Nat} {p p2 pos2 : Pos} (hc : X.calm = true) (tk : Takes X W) (h : ExcD X.K X.mg x) (hg : Gl X x := by rfl) (hdb : (x == ("__debug__" : Str)) = false := by decide) :
    PS X (.Raise (some (.Call (.Name x p) [.Constant (.str m) j p2] [] pos)) none pos2) (tP X.K X.mg W (sRaise x)) := by
  obtain ⟨C, g, q, k, sb, ty⟩ := h.ex
  exact s_raise hc tk PySem.F.excBase_ValueError q g k (raises_own sb ty) hg hdb
end

/-! ### facts of the start heap -/
structure DefIn (K : PySem.W.Frag) (x : Str) (st : Stmt) : Prop where
  ex : ∃ (f : Addr) (oc : Value) (od : Option Addr) (kV doc pm : Value) (an : Option Addr) (cdv ct : Value) (osl : Array (Option Value)), PySem.W.nsIn K mainGlobals x = some (some (.ref f)) ∧
    K.lookup f = some ⟨oc, od, .func (PySem.W.fnOf x x (defArgs st) (defBody st) (defScope st) .none kV doc pm an cdv ct), osl⟩ ∧ PySem.W.codeIn K cdv x = true ∧ PySem.W.keepIn K (.ref f) = true
theorem defIn {K : PySem.W.Frag} {x : Str} {st : Stmt} {f : Addr} {oc : Value} {od : Option Addr} {kV doc pm : Value} {an : Option Addr} {cdv ct : Value} {osl : Array (Option Value)} (a : PySem.W.nsIn K mainGlobals x = some (some (.ref f)))
    (l : K.lookup f = some ⟨oc, od, .func (PySem.W.fnOf x x (defArgs st) (defBody st) (defScope st) .none kV doc pm an cdv ct), osl⟩) (c : PySem.W.codeIn K cdv x = true) (k : PySem.W.keepIn K (.ref f) = true) : DefIn K x st :=
  ⟨f, oc, od, kV, doc, pm, an, cdv, ct, osl, a, l, c, k⟩
structure GV (K : PySem.W.Frag) (u : Value) (d : D) : Prop where
  ex : ∃ v, RelV v u ∧ ∀ mg F, Rep K mg F v d
structure GVs (K : PySem.W.Frag) (us : List Value) (ds : List D) : Prop where
  ex : ∃ vs, Vals vs us ∧ ∀ mg F, RepAll K mg F vs ds
section
variable {K : PySem.W.Frag}
theorem gv_int {i : Int} {t : Tok} : GV K (.int i t) (.int i) := ⟨.int i, ⟨_, rfl⟩, fun _ _ => .int i⟩
theorem gv_str {x : Str} {t : Tok} : GV K (.str x t) (.str x) := ⟨.str x, ⟨_, rfl⟩, fun _ _ => .str x⟩
theorem gv_bl {b : Bool} : GV K (.bool b) (.bl b) := ⟨.bl b, rfl, fun _ _ => .bl b⟩
theorem gv_non : GV K .none .non := ⟨.non, rfl, fun _ _ => .non⟩
theorem gvs_nil : GVs K [] [] := ⟨[], .nil, fun _ _ => .nil⟩
theorem gvs_cons {u : Value} {us : List Value} {d : D} {ds : List D} (h : GV K u d) (t : GVs K us ds) : GVs K (u :: us) (d :: ds) := by
  obtain ⟨v, r, q⟩ := h.ex
  obtain ⟨vs, rs, qs⟩ := t.ex
  exact ⟨v :: vs, .cons r rs, fun mg F => .cons (q mg F) (qs mg F)⟩
theorem gv_tup {l : Addr} {od : Option Addr} {its : Array Value} {n : Nat} {sl : Array (Option Value)} {ds : List D} (lk : K.lookup l = some ⟨.type "tuple", od, .seq its n, sl⟩) (h : GVs K its.toList ds) (hz : its.size ≤ 1000 := by decide) : GV K (.ref l) (.tup ds) := by
  obtain ⟨vs, rs, qs⟩ := h.ex
  exact ⟨.ref l, rfl, fun mg F => .tup (.inr ⟨_, its, n, lk, rfl, rfl, Nat.le_trans hz (by decide), rs⟩) (qs mg F)⟩
structure GlIn (K : PySem.W.Frag) (x : Str) (d : D) : Prop where
  ex : ∃ u, PySem.W.nsIn K mainGlobals x = some (some u) ∧ GV K u d
theorem glIn {x : Str} {u : Value} {d : D} (a : PySem.W.nsIn K mainGlobals x = some (some u)) (h : GV K u d) : GlIn K x d := ⟨u, a, h⟩
structure ExcIn (K : PySem.W.Frag) (x : Str) : Prop where
  ex : ∃ C : Addr, PySem.W.nsIn K mainGlobals x = some (some (.ref C)) ∧ PySem.W.excIn K C [.type "ValueError", .type "Exception", .type "BaseException", .type "object"] "ValueError.__new__" = true ∧ PySem.W.keepIn K (.ref C) = true ∧
    PySem.W.subIn K (.ref C) (.type "BaseException") = some true ∧ PySem.W.typeIn K (.ref C) = some (.type "type")
theorem excIn {x : Str} {C : Addr} (a : PySem.W.nsIn K mainGlobals x = some (some (.ref C))) (e : PySem.W.excIn K C [.type "ValueError", .type "Exception", .type "BaseException", .type "object"] "ValueError.__new__" = true) (k : PySem.W.keepIn K (.ref C) = true)
    (s : PySem.W.subIn K (.ref C) (.type "BaseException") = some true) (t : PySem.W.typeIn K (.ref C) = some (.type "type")) : ExcIn K x := ⟨C, a, e, k, s, t⟩
structure ExcCIn (K : PySem.W.Frag) (x : Str) : Prop where
  ex : ∃ C : Addr, PySem.W.nsIn K mainGlobals x = some (some (.ref C)) ∧ ExcC K C
theorem excCIn {x : Str} {D : Addr} (n : PySem.W.nsIn K mainGlobals x = some (some (.ref D))) (a : PySem.W.findIn K (.ref D) "__getattribute__" = some (some (.builtin "BaseException.__getattribute__")))
    (b : PySem.W.findIn K (.ref D) "__getattr__" = some none) (c : PySem.W.subIn K (.ref D) (.type "BaseException") = some true) (d : PySem.W.hasDictIn K D = true) (e : PySem.W.findIn K (.ref D) "__class__" = some (some (.builtin "object.__class__")))
    (f : PySem.W.specialIn K (.builtin "object.__class__") "__get__" = some (some (.builtin "getset_descriptor.__get__"))) (g : PySem.W.takesIn K (.builtin "object.__class__") = some true) (h : PySem.W.mroIn K D (.type "object") = some true) : ExcCIn K x :=
  ⟨D, n, ⟨a, b, c, d, e, f, g, h⟩⟩
structure KitIn (K : PySem.W.Frag) (c x : Str) (b : Bool) : Prop where
  ex : ∃ C P : Addr, PySem.W.nsIn K mainGlobals c = some (some (.ref C)) ∧ PySem.W.nsIn K mainGlobals x = some (some (.ref P)) ∧ PySem.W.kitOne K (.ref C) (.ref P) = some b
theorem kitIn {c x : Str} {b : Bool} {C P : Addr} (n : PySem.W.nsIn K mainGlobals c = some (some (.ref C))) (m : PySem.W.nsIn K mainGlobals x = some (some (.ref P))) (k : PySem.W.kitOne K (.ref C) (.ref P) = some b) : KitIn K c x b := ⟨C, P, n, m, k⟩
structure CaughtIn (K : PySem.W.Frag) (c x : Str) : Prop where
  ex : ∃ C P : Addr, PySem.W.nsIn K mainGlobals c = some (some (.ref C)) ∧ PySem.W.nsIn K mainGlobals x = some (some (.ref P)) ∧ PySem.W.exmOne K (.ref C) (.ref P) = some true
theorem caughtIn {c x : Str} {C P : Addr} (n : PySem.W.nsIn K mainGlobals c = some (some (.ref C))) (m : PySem.W.nsIn K mainGlobals x = some (some (.ref P))) (a : PySem.W.subIn K (.ref P) (.type "BaseException") = some true)
    (b : PySem.W.hasDictIn K P = true) (t : PySem.W.typeIn K (.ref P) = some (.type "type")) (d : PySem.W.subIn K (.ref C) (.ref P) = some true) : CaughtIn K c x := ⟨C, P, n, m, PySem.W.exm_ref a b t d⟩
variable {h : Heap} {mg : Str → Option Value}
theorem GlIn.gl {x : Str} {d : D} (g : GlIn K x d) (X : K.In h) (G : h.Ns mainGlobals mg) : GlD K mg x d := by
  obtain ⟨u, a, b⟩ := g.ex
  obtain ⟨v, r, q⟩ := b.ex
  exact ⟨v, u, PySem.W.mg_of X G a, r, q mg⟩
theorem ExcIn.gl {x : Str} (g : ExcIn K x) (X : K.In h) (G : h.Ns mainGlobals mg) : ExcD K mg x := by
  obtain ⟨C, a, b⟩ := g.ex
  exact ⟨C, PySem.W.mg_of X G a, b⟩
theorem isE_of {c x : Str} {b : Bool} (g : ExcCIn K c) (k : KitIn K c x b) (X : K.In h) (G : h.Ns mainGlobals mg) : IsE K mg c x b := by
  obtain ⟨C, a, e⟩ := g.ex
  obtain ⟨C', P, a', p, q⟩ := k.ex
  rw [a] at a'
  cases a'
  exact ⟨C, P, PySem.W.mg_of X G a, PySem.W.mg_of X G p, e, q⟩
theorem CaughtIn.gl {c x : Str} (g : CaughtIn K c x) (X : K.In h) (G : h.Ns mainGlobals mg) : Caught K mg c x := by
  obtain ⟨C, P, a, p, q⟩ := g.ex
  exact ⟨C, P, PySem.W.mg_of X G a, PySem.W.mg_of X G p, q⟩
theorem CaughtIn.gp {c x : Str} (g : CaughtIn K c x) (X : K.In h) (G : h.Ns mainGlobals mg) : ∃ P : Addr, mg x = some (.ref P) := by
  obtain ⟨C, P, a, p, q⟩ := g.ex
  exact ⟨P, PySem.W.mg_of X G p⟩
theorem DefIn.get {x : Str} {st : Stmt} {ps : List Str} (g : DefIn K x st) (X : K.In h) (G : h.Ns mainGlobals mg)
    (b : ∀ (kV doc pm : Value) (an : Option Addr) (cdv ct : Value) (us : List Value), us.length = ps.length → bindArgs (PySem.W.fnOf x x (defArgs st) (defBody st) (defScope st) .none kV doc pm an cdv ct) ⟨us, []⟩ = pure (ps.zip us)) :
    ∃ f fd, Fun K x x st f fd ∧ mg x = some (.ref f) ∧ Binds K fd ps [] ∧ ∀ (s : Shared) (us : List Value), us.length = ps.length → BindsTo s fd ⟨us, []⟩ (ps.zip us) := by
  obtain ⟨f, oc, od, kV, doc, pm, an, cdv, ct, osl, a, l, c, k⟩ := g.ex
  exact ⟨f, _, fun_mk l c k, PySem.W.mg_of X G a, .all (b kV doc pm an cdv ct), fun s us hu => .of_eq (b kV doc pm an cdv ct us hu)⟩
end
/-- a def's promise, by its own function object -/
theorem FnD.ok {P : Program} {w : World} {K : PySem.W.Frag} {mg : Str → Option Value} {base : Heap} {x : Str} {k n : Nat} {g : List D → Oe D} (F : FnD P w K mg base k x n g) {fa : Addr} (hm : mg x = some (.ref fa)) :
    ∃ (fd : FuncData) (ps : List Str), FnOk P w K mg base (L2.CX P w) k fa fd ps (spOf K mg n g) := by
  obtain ⟨a, fd, ps, h, h2, _⟩ := F.ex
  rw [hm] at h2
  cases h2
  exact ⟨fd, ps, h⟩
/-- the law's own promise -/
def spLaw (K : PySem.W.Frag) (n : Nat) : Sp := fun vs H Q _ => ∃ (a : Addr) (ns : List Int), vs = [.ref a] ∧ SqL K H a (ns.map V.int) ∧ ns.length ≤ n ∧ ∀ H', Q (.bl true) H'
theorem law_ok {P : Program} {w : World} {K : PySem.W.Frag} {mg : Str → Option Value} {base : Heap} {k n : Nat} {g : List D → Oe D} {fa : Addr} {fd : FuncData} {ps : List Str} (F : FnOk P w K mg base (L2.CX P w) k fa fd ps (spOf K mg 1 g))
    (plain : ∀ ns : List Int, ns.length ≤ n → g [.scr ns] = some (.ok (.bl true))) : FnOk P w K mg base (L2.CX P w) k fa fd ps (spLaw K n) :=
  F.imp fun vs H Q E ⟨a, ns, e, hs, hl, q⟩ => by
    subst e
    exact ⟨H, [.scr ns], .ok (.bl true), .refl H, .cons (.scr hs) .nil, rfl, plain ns hl, fun v F' H' _ r => by cases r; exact q H'⟩
theorem walk_law {l : PySem.W.OpenLaw} {n k : Nat} {q : Program} {loose : List Str} {XP : (Str → Option Value) → Heap → Prop} {YP : World → Heap → Prop} {d : DefRec} {K : Params → PySem.W.Frag}
    (hn : l.most = some n) (hn2 : n ≤ sizeLine) (hdf : d.params.defaults = []) (hr : Room k callerA) (hY : ∀ (w : World) (h : Heap), YP w h → (K w.params).In h)
    (F : ∀ (w : World) (mg : Str → Option Value) (fa : Addr) (h : Heap), (K w.params).In h → h.Ns mainGlobals mg → mg d.name = some (.ref fa) →
      ∃ fd : FuncData, (∀ (s : Shared) (u : Value), BindsTo s fd ⟨[u], []⟩ [("_law_script", u)]) ∧
        ∀ base : Heap, (K w.params).In base → base.Ns mainGlobals mg → FnOk l.prog w (K w.params) mg base (L2.CX l.prog w) k fa fd ["_law_script"] (spLaw (K w.params) n)) :
    PySem.W.WalkO q loose XP YP l.row.toRowW d [] (fun f vs => PySem.call f vs) :=
  walk_of (CX := fun w => L2.CX l.prog w) (sp := fun w => spLaw (K w.params) n) hn hn2 hdf hr hY F (fun w H a ns h1 _ h3 => ⟨a, ns, rfl, h3, h1, fun _ => rfl⟩) fun w H s e s' z => by
    obtain ⟨_, _, _, _, _, _, _, _, _, _, _, _, z⟩ := z
    exact z.elim
end Dl
/-! DlEv: how the plain functions are worked out. -/
namespace Dl
open PySem
section
variable {α β : Type} {a : α} {c : Str} {f : α → Oe β}
@[simp] theorem bd_ok : bd (some (.ok a)) f = f a := rfl
@[simp] theorem bd_er : bd (some (.error c) : Oe α) f = some (.error c) := rfl
@[simp] theorem bd_no : bd (none : Oe α) f = none := rfl
@[simp] theorem lift_ok : lift (some a) = some (.ok a) := rfl
@[simp] theorem lift_no : lift (none : Option α) = none := rfl
end
section
variable {ρ : Rho} {a b c : Sx} {l : Sl} {f g : D → D → Option D} {u : D → Option D} {cf : List D → Option D} {n : Nat} {F : List D → Oe D} {p q t : Sb}
@[simp] theorem e_V (i : Nat) : sV i ρ = lift ((ρ[i]?).bind id) := rfl
@[simp] theorem e_C (d : D) : sC d ρ = some (.ok d) := rfl
@[simp] theorem e_Op : sOp f a b ρ = bd (a ρ) fun x => bd (b ρ) fun y => lift (f x y) := rfl
@[simp] theorem e_Un : sUn u a ρ = bd (a ρ) fun x => lift (u x) := rfl
@[simp] theorem e_Nil : sNil ρ = some (.ok []) := rfl
@[simp] theorem e_Cons : sCons a l ρ = bd (a ρ) fun x => bd (l ρ) fun xs => some (.ok (x :: xs)) := rfl
@[simp] theorem e_Tup : sTup l ρ = bd (l ρ) fun ds => if okLen ds.length then some (.ok (.tup ds)) else none := rfl
@[simp] theorem e_Lst : sLst l ρ = bd (l ρ) fun ds => if okLen ds.length then some (.ok ds) else none := rfl
@[simp] theorem e_OfL : sOfL l ρ = bd (l ρ) fun ds => some (.ok (.lst ds)) := rfl
@[simp] theorem e_Call : sCall cf l ρ = bd (l ρ) fun ds => lift (cf ds) := rfl
@[simp] theorem e_And : sAnd a b ρ = bd (a ρ) fun x => match x with | .bl true => b ρ | .bl false => some (.ok (.bl false)) | _ => none := rfl
@[simp] theorem e_Or : sOr a b ρ = bd (a ρ) fun x => match x with | .bl true => some (.ok (.bl true)) | .bl false => b ρ | _ => none := rfl
@[simp] theorem e_Chain : sChain f g a b c ρ = bd (a ρ) fun x => bd (b ρ) fun y => bd (lift (f x y)) fun z =>
  match z with
  | .bl true => bd (c ρ) fun w => lift (g y w)
  | .bl false => some (.ok (.bl false))
  | _ => none := rfl
@[simp] theorem e_IfE : sIfE t a b ρ = bd (t ρ) fun c => if c then a ρ else b ρ := rfl
@[simp] theorem e_toB : toB a ρ = bd (a ρ) fun d => match d with | .bl b => some (.ok b) | _ => none := rfl
@[simp] theorem e_bAnd : bAnd p q ρ = bd (p ρ) fun x => if x then q ρ else some (.ok false) := rfl
@[simp] theorem e_bOr : bOr p q ρ = bd (p ρ) fun x => if x then some (.ok true) else q ρ := rfl
@[simp] theorem e_bNot : bNot p ρ = bd (p ρ) fun x => some (.ok (!x)) := rfl
@[simp] theorem e_bTrue : bTrue ρ = some (.ok true) := rfl
@[simp] theorem e_Fn : sFn n F l ρ = bd (l ρ) fun ds => if ds.length = n then F ds else none := rfl
@[simp] theorem e_Fn0 {d : D} (h : F [] = some (.ok d)) : sFn0 F ρ = some (.ok d) := by simp only [sFn0, h]
@[simp] theorem e_SeqItems : sSeqItems a ρ = bd (a ρ) fun d => lift (itemsOf d) := rfl
@[simp] theorem e_Range : sRange l ρ = bd (l ρ) fun ds =>
  match ds with
  | [.int j] => if decide (-1000000 ≤ j) && decide (j ≤ 1000000) then some (.ok (rgD 0 j.toNat)) else none
  | [.int i, .int j] => if decide (-1000000 ≤ i) && decide (i ≤ 1000000) && decide (-1000000 ≤ j) && decide (j ≤ 1000000) then some (.ok (rgD i (j - i).toNat)) else none
  | _ => none := rfl
@[simp] theorem e_Enum : sEnum l ρ = bd (l ρ) fun ds => match ds with | [.lst es] => some (.ok (enD 0 es)) | _ => none := rfl
@[simp] theorem e_Lc {it : Sl} {vs : List Nat} {t : TgtR} {test : Sb} {elt : Sx} : sLc it vs t test elt ρ = bd (it ρ) fun ds => if okLen ds.length then lift (lcS t test elt (wipeR vs ρ) ds) else none := rfl
@[simp] theorem e_Cat : sCat a b ρ = bd (a ρ) fun x => bd (b ρ) fun y => lift (match x, y with
  | .lst xs, .lst ys => if okLen (xs.length + ys.length) then some (xs ++ ys) else none
  | _, _ => none) := rfl
@[simp] theorem e_RepL : sRepL a b ρ = bd (a ρ) fun x => bd (b ρ) fun y => lift
  (match x, y with
  | .lst xs, .int k => if decide (0 ≤ k) && decide (k ≤ 1000) && okLen (xs.length * k.toNat) then some (List.replicate k.toNat xs).flatten else none
  | _, _ => none) := rfl
@[simp] theorem e_ListOf : sListOf a ρ = bd (a ρ) fun x => lift (itemsOf x) := rfl
@[simp] theorem e_Part : sPart a ρ = bd (a ρ) fun d => match d with | .int i => some (.ok (some i)) | _ => none := rfl
@[simp] theorem e_NoPart : sNoPart ρ = some (.ok none) := rfl
@[simp] theorem e_CutT {l h : Rho → Oe (Option Int)} : sCutT a l h ρ = bd (a ρ) fun x => bd (l ρ) fun i => bd (h ρ) fun j => lift (match x with | .tup xs => some (.tup (cutD xs i j)) | _ => none) := rfl
@[simp] theorem e_CutL {l h : Rho → Oe (Option Int)} : sCutL a l h ρ = bd (a ρ) fun x => bd (l ρ) fun i => bd (h ρ) fun j => lift (match x with | .lst xs => some (cutD xs i j) | _ => none) := rfl
end
/-! operators -/
@[simp] theorem v_add (i j : Int) : dAdd (.int i) (.int j) = some (.int (i + j)) := rfl
@[simp] theorem v_sub (i j : Int) : dSub (.int i) (.int j) = some (.int (i - j)) := rfl
@[simp] theorem v_mul (i j : Int) : dMul (.int i) (.int j) = if small64 i || small64 j then some (.int (i * j)) else none := rfl
@[simp] theorem v_div (i j : Int) : dDiv (.int i) (.int j) = if divOk j then some (.int (i / j)) else none := rfl
@[simp] theorem v_mod (i j : Int) : dMod (.int i) (.int j) = if decide (0 < j) then some (.int (i % j)) else none := rfl
@[simp] theorem v_neg (i : Int) : dNeg (.int i) = some (.int (-i)) := rfl
@[simp] theorem v_lt (i j : Int) : dLt (.int i) (.int j) = some (.bl (decide (i < j))) := rfl
@[simp] theorem v_le (i j : Int) : dLe (.int i) (.int j) = some (.bl (decide (i ≤ j))) := rfl
@[simp] theorem v_gt (i j : Int) : dGt (.int i) (.int j) = some (.bl (decide (j < i))) := rfl
@[simp] theorem v_ge (i j : Int) : dGe (.int i) (.int j) = some (.bl (decide (j ≤ i))) := rfl
@[simp] theorem v_eqI (i j : Int) : dEq (.int i) (.int j) = some (.bl (i == j)) := rfl
@[simp] theorem v_neI (i j : Int) : dNe (.int i) (.int j) = some (.bl (!(i == j))) := rfl
@[simp] theorem v_isN (d : D) : dIs d .non = some (.bl (isN d)) := by cases d <;> rfl
@[simp] theorem v_isB (a b : Bool) : dIs (.bl a) (.bl b) = some (.bl (a == b)) := rfl
@[simp] theorem v_isnN (d : D) : dIsNot d .non = some (.bl (!isN d)) := by cases d <;> rfl
@[simp] theorem v_isnB (a b : Bool) : dIsNot (.bl a) (.bl b) = some (.bl (!(a == b))) := rfl
@[simp] theorem v_not (b : Bool) : dNot (.bl b) = some (.bl (!b)) := rfl
@[simp] theorem v_ixT (xs : List D) (i : Int) : dIx (.tup xs) (.int i) = L2.atI xs i := rfl
@[simp] theorem v_ixL (xs : List D) (i : Int) : dIx (.lst xs) (.int i) = L2.atI xs i := rfl
@[simp] theorem v_ixS (xs : List Int) (i : Int) : dIx (.scr xs) (.int i) = (L2.atI xs i).map D.int := rfl
@[simp] theorem v_lenT (xs : List D) : dLen [.tup xs] = some (.int xs.length) := rfl
@[simp] theorem v_lenL (xs : List D) : dLen [.lst xs] = some (.int xs.length) := rfl
@[simp] theorem v_lenS (xs : List Int) : dLen [.scr xs] = some (.int xs.length) := rfl
@[simp] theorem v_max (i j : Int) : dMax2 [.int i, .int j] = some (.int (if j > i then j else i)) := rfl
@[simp] theorem v_min (i j : Int) : dMin2 [.int i, .int j] = some (.int (if j < i then j else i)) := rfl
@[simp] theorem v_tupL (xs : List D) : dTupleOf [.lst xs] = some (.tup xs) := rfl
@[simp] theorem v_tupT (xs : List D) : dTupleOf [.tup xs] = some (.tup xs) := rfl
@[simp] theorem v_itT (xs : List D) : itemsOf (.tup xs) = some xs := rfl
@[simp] theorem v_itL (xs : List D) : itemsOf (.lst xs) = some xs := rfl
@[simp] theorem v_allL (xs : List D) : dAll [.lst xs] = (blsOf xs).map fun bs => .bl (bs.all id) := rfl
@[simp] theorem v_anyL (xs : List D) : dAny [.lst xs] = (blsOf xs).map fun bs => .bl (bs.any id) := rfl
@[simp] theorem v_ty (g : D → Option Bool) (d : D) : dTy g d = (g d).map D.bl := rfl
@[simp] theorem v_okLen (n : Nat) : okLen n = decide (n ≤ 1000000) := rfl
/-! statements -/
section
variable {ρ : Sig} {a b : Ss} {e : Sx} {l : Sl} {c : Sb} {d : D} {ds : List D} {α : Type} {x : α} {s : Str} {k : α → Option Fl} {ms : List Nat} {i j : Nat}
theorem q_Seq {ρ' : Sig} (h : a ρ = some (.nx ρ')) : sSeq a b ρ = b ρ' := by simp only [sSeq, h]
@[simp] theorem e_Seq : sSeq a b ρ = match a ρ with
  | some (.nx ρ') => b ρ'
  | o => o := rfl
@[simp] theorem e_stp {g : Rho → Oe α} : stp ms g ρ k = match g (expo ms ρ) with
  | some (.ok a) => k a
  | some (.error c) => some (.ex c ρ)
  | none => none := rfl
@[simp] theorem e_Next : sNext ρ = some (.nx ρ) := rfl
@[simp] theorem e_Break : sBreak ρ = some (.bk ρ) := rfl
@[simp] theorem e_Cont : sCont ρ = some (.ct ρ) := rfl
@[simp] theorem e_kill0 : killS [] ρ = ρ := rfl
@[simp] theorem e_kill (is : List Nat) : killS (i :: is) ρ = killS is (ρ.set i .no) := rfl
@[simp] theorem e_Aft (is : List Nat) : sAft is a ρ = match a ρ with
  | some (.nx ρ') => some (.nx (killS is ρ'))
  | some (.ct ρ') => some (.ct (killS is ρ'))
  | some (.bk ρ') => some (.bk (killS is ρ'))
  | o => o := rfl
@[simp] theorem e_Set : sSet ms i e ρ = stp ms e ρ fun d => some (.nx ((if lf d then ρ else frz ms ρ).set i (.dat d))) := rfl
@[simp] theorem e_SetL : sSetL ms i l ρ = stp ms l ρ fun ds => some (.nx ((if lfAll ds then ρ else frz ms ρ).set i (.own (.lst ds)))) := rfl
@[simp] theorem e_Ret : sRet ms e ρ = stp ms e ρ fun d => some (.rt d) := rfl
@[simp] theorem e_RetN : sRetN ρ = some (.rt .non) := rfl
@[simp] theorem e_Drop : sDrop ms e ρ = stp ms e ρ fun _ => some (.nx ρ) := rfl
@[simp] theorem e_If : sIf ms c a b ρ = stp ms c ρ fun t => if t then a ρ else b ρ := rfl
@[simp] theorem e_Raise : sRaise s ρ = some (.ex s ρ) := rfl
@[simp] theorem e_setD0 : setD ρ [] [] = ρ := rfl
@[simp] theorem e_setD (is : List Nat) : setD ρ (i :: is) (d :: ds) = setD (ρ.set i (.dat d)) is ds := rfl
@[simp] theorem e_Unp (is : List Nat) : sUnp ms is e ρ = stp ms e ρ fun d =>
  match d with
  | .tup ds => if ds.length = is.length then some (.nx (setD (if lf d then ρ else frz ms ρ) is ds)) else none
  | _ => none := rfl
@[simp] theorem e_App : sApp ms i e ρ = match ρ[i]? with
  | some (.own (.lst ds)) => stp ms e ρ fun d => if okLen (ds.length + 1) && (lf d || !ms.contains i) then some (.nx ((if lf d then ρ else frz ms ρ).set i (.own (.lst (ds ++ [d]))))) else none
  | _ => none := rfl
@[simp] theorem e_Ext : sExt ms i e ρ = match ρ[i]? with
  | some (.own (.lst ds)) => stp ms e ρ fun d =>
    match d with
    | .lst es => if okLen (ds.length + es.length) && (lfAll es || !ms.contains i) then some (.nx ((if lfAll es then ρ else frz ms ρ).set i (.own (.lst (ds ++ es))))) else none
    | _ => none
  | _ => none := rfl
@[simp] theorem e_For {it : Sl} {t : Tgt} : sFor ms it t a ρ = match it (expo ms ρ) with
  | some (.ok ds) => forS t a ds (frz ms ρ)
  | some (.error c) => some (.ex c ρ)
  | none => none := rfl
@[simp] theorem e_expo : expo ms ρ = expoF ms 0 ρ := rfl
@[simp] theorem e_frz : frz ms ρ = frzF ms 0 ρ := rfl
@[simp] theorem e_expo0 : expoF ms i [] = [] := rfl
@[simp] theorem e_expoN : expoF ms i (.no :: ρ) = none :: expoF ms (i + 1) ρ := rfl
@[simp] theorem e_expoD : expoF ms i (.dat d :: ρ) = some d :: expoF ms (i + 1) ρ := rfl
@[simp] theorem e_expoO : expoF ms i (.own d :: ρ) = (if ms.contains i then some d else xo d) :: expoF ms (i + 1) ρ := rfl
@[simp] theorem xo_lst {ds : List D} : xo (.lst ds) = none := rfl
@[simp] theorem xo_dic {kvs : List (L2.Key × L2.V)} : xo (.dic kvs) = none := rfl
@[simp] theorem xo_win {a : Addr} {p : D} {d u : List D} : xo (.win a p d u) = some (.exn a) := rfl
@[simp] theorem xo_lsx {a : Addr} {ds : List D} : xo (.lsx a ds) = some (.exn a) := rfl
@[simp] theorem xo_dlx {a : Addr} {k : List (Int × List Int)} : xo (.dlx a k) = some (.exn a) := rfl
@[simp] theorem e_frz0 : frzF ms i [] = [] := rfl
@[simp] theorem e_frzN : frzF ms i (.no :: ρ) = .no :: frzF ms (i + 1) ρ := rfl
@[simp] theorem e_frzD : frzF ms i (.dat d :: ρ) = .dat d :: frzF ms (i + 1) ρ := rfl
@[simp] theorem e_frzO : frzF ms i (.own d :: ρ) = (if ms.contains i then .dat d else .own d) :: frzF ms (i + 1) ρ := rfl
theorem e_expoC {s : SL} : expoF ms i (s :: ρ) = (match s with
      | .no => none
      | .dat d => some d
      | .own d => if ms.contains i then some d else xo d) :: expoF ms (i + 1) ρ := rfl
theorem e_frzC {s : SL} : frzF ms i (s :: ρ) = (match s with
      | .own d => if ms.contains i then .dat d else .own d
      | s => s) :: frzF ms (i + 1) ρ := rfl
@[simp] theorem e_Try {n : Nat} {res : Str → Option D} : sTry n a res ρ = match a ρ with
  | some (.ex c ρ') => if ρ'.length = n then (res c).map Fl.rt else none
  | o => o := rfl
@[simp] theorem e_IsE {av : Addr} {b : Bool} {r : Rho} : sIsE i av b r = match (r[i]?).bind id with
  | some (.exn a') => if a' = av then some (.ok (.bl b)) else none
  | _ => none := rfl
@[simp] theorem e_CallV {tb : Tb} {f : Sx} {r : Rho} : sCallV tb f l r = bd (f r) fun d =>
  match d with
  | .fn nm => callT tb nm l r
  | _ => none := rfl
@[simp] theorem e_LM {f : D → D → Option D} {e1 e2 : Sx} {r : Rho} : sLM f e1 e2 r = bd (e1 r) fun x =>
  match x with
  | .lst ds => bd (e2 r) fun y => lift (f (.lst ds) y)
  | _ => none := rfl
theorem okN_bl {b : Bool} : okN 9 (.bl b) = true := rfl
theorem eqN_bl {b c : Bool} : eqN 9 (.bl b) (.bl c) = (b == c) := by cases b <;> cases c <;> rfl
theorem lf_bl1 {b : Bool} : lfAll [.bl b] = true := rfl
theorem lf_bl2 {b c : Bool} : lfAll [.bl b, .bl c] = true := rfl
theorem lf_bl3 {b c d : Bool} : lfAll [.bl b, .bl c, .bl d] = true := rfl
theorem lf_bl4 {b c d e : Bool} : lfAll [.bl b, .bl c, .bl d, .bl e] = true := rfl
@[simp] theorem e_runD {n : Nat} : runD n a ds = match a (ds.map SL.dat ++ List.replicate (n - ds.length) SL.no) with
  | some (.nx _) => some (.ok .non)
  | some (.rt d) => some (.ok d)
  | some (.ex c _) => some (.error c)
  | some (.rs d _) => some (.ok d)
  | _ => none := rfl
@[simp] theorem e_mix0 {ρ : Rho} : sMix [] ρ = some (.ok []) := rfl
@[simp] theorem e_mixS {ρ : Rho} {r : List MI} : sMix (.s e :: r) ρ = bd (e ρ) fun d => bd (sMix r ρ) fun l => some (.ok (.d d :: l)) := rfl
@[simp] theorem e_mixL {ρ : Rho} {r : List MI} : sMix (.l l :: r) ρ = bd (l ρ) fun ds => bd (sMix r ρ) fun l => some (.ok (.l ds :: l)) := rfl
@[simp] theorem e_Par {is : List Nat} {r : List MI} : sPar ms is r ρ = stp ms (sMix r) ρ (parS ms is ρ) := rfl
@[simp] theorem e_setM0 {is : List Nat} : setM ρ is [] = ρ := by cases is <;> rfl
@[simp] theorem e_setMd {is : List Nat} {rs : List MR} : setM ρ (i :: is) (.d d :: rs) = setM (ρ.set i (.dat d)) is rs := rfl
@[simp] theorem e_setMl {is : List Nat} {rs : List MR} : setM ρ (i :: is) (.l ds :: rs) = setM (ρ.set i (.own (.lst ds))) is rs := rfl
end
section
@[simp] theorem e_lcNil {t : TgtR} {test : Sb} {elt : Sx} {ρ : Rho} : lcS t test elt ρ [] = some [] := rfl
@[simp] theorem e_wipe0 {ρ : Rho} : wipeR [] ρ = ρ := rfl
@[simp] theorem e_wipe {ρ : Rho} {i : Nat} {is : List Nat} : wipeR (i :: is) ρ = (wipeR is ρ).set i none := rfl
@[simp] theorem e_tgN {i : Nat} {d : D} {ρ : Sig} : tgN i d ρ = some (ρ.set i (.dat d)) := rfl
@[simp] theorem e_tgRN {i : Nat} {d : D} {ρ : Rho} : tgRN i d ρ = some (ρ.set i (some d)) := rfl
end
theorem at_nat (xs : List D) (i : Nat) : L2.atI xs (i : Int) = xs[i]? := by
  unfold L2.atI L2.ixN
  by_cases h : i < xs.length
  · have h1 : (i : Int) < (xs.length : Int) := by omega
    simp [h1]
  · have h1 : ¬ (i : Int) < (xs.length : Int) := by omega
    simp [h1, h]
@[simp] theorem at_0 (a : D) (xs : List D) : L2.atI (a :: xs) 0 = some a := at_nat (a :: xs) 0
@[simp] theorem at_1 (a b : D) (xs : List D) : L2.atI (a :: b :: xs) 1 = some b := at_nat (a :: b :: xs) 1
@[simp] theorem at_2 (a b c : D) (xs : List D) : L2.atI (a :: b :: c :: xs) 2 = some c := at_nat (a :: b :: c :: xs) 2
@[simp] theorem at_3 (a b c d : D) (xs : List D) : L2.atI (a :: b :: c :: d :: xs) 3 = some d := at_nat (a :: b :: c :: d :: xs) 3
/-! texts, equality -/
def layS (x : Str) : Bool := PySem.PyData.canLay0 (.str x)
theorem v_eqS {a b : Str} (h : layS a = true) (h2 : layS b = true) : dEq (.str a) (.str b) = some (.bl (a == b)) := by
  have e : (okN 10 (.str a) && okN 10 (.str b)) = true := by
    show (layS a && layS b) = true
    rw [h, h2]; rfl
  unfold dEq
  rw [if_pos e]; rfl
theorem v_neS {a b : Str} (h : layS a = true) (h2 : layS b = true) : dNe (.str a) (.str b) = some (.bl (!(a == b))) := by
  have e : (okN 10 (.str a) && okN 10 (.str b)) = true := by
    show (layS a && layS b) = true
    rw [h, h2]; rfl
  unfold dNe
  rw [if_pos e]; rfl
@[simp] theorem s_top_top : dEq (.str "top") (.str "top") = some (.bl true) := v_eqS (by decide +kernel) (by decide +kernel)
@[simp] theorem n_top_top : dNe (.str "top") (.str "top") = some (.bl false) := v_neS (by decide +kernel) (by decide +kernel)
@[simp] theorem s_top_bottom : dEq (.str "top") (.str "bottom") = some (.bl false) := v_eqS (by decide +kernel) (by decide +kernel)
@[simp] theorem n_top_bottom : dNe (.str "top") (.str "bottom") = some (.bl true) := v_neS (by decide +kernel) (by decide +kernel)
@[simp] theorem s_top_left : dEq (.str "top") (.str "left") = some (.bl false) := v_eqS (by decide +kernel) (by decide +kernel)
@[simp] theorem n_top_left : dNe (.str "top") (.str "left") = some (.bl true) := v_neS (by decide +kernel) (by decide +kernel)
@[simp] theorem s_top_right : dEq (.str "top") (.str "right") = some (.bl false) := v_eqS (by decide +kernel) (by decide +kernel)
@[simp] theorem n_top_right : dNe (.str "top") (.str "right") = some (.bl true) := v_neS (by decide +kernel) (by decide +kernel)
@[simp] theorem s_top_over : dEq (.str "top") (.str "over") = some (.bl false) := v_eqS (by decide +kernel) (by decide +kernel)
@[simp] theorem n_top_over : dNe (.str "top") (.str "over") = some (.bl true) := v_neS (by decide +kernel) (by decide +kernel)
@[simp] theorem s_bottom_top : dEq (.str "bottom") (.str "top") = some (.bl false) := v_eqS (by decide +kernel) (by decide +kernel)
@[simp] theorem n_bottom_top : dNe (.str "bottom") (.str "top") = some (.bl true) := v_neS (by decide +kernel) (by decide +kernel)
@[simp] theorem s_bottom_bottom : dEq (.str "bottom") (.str "bottom") = some (.bl true) := v_eqS (by decide +kernel) (by decide +kernel)
@[simp] theorem n_bottom_bottom : dNe (.str "bottom") (.str "bottom") = some (.bl false) := v_neS (by decide +kernel) (by decide +kernel)
@[simp] theorem s_bottom_left : dEq (.str "bottom") (.str "left") = some (.bl false) := v_eqS (by decide +kernel) (by decide +kernel)
@[simp] theorem n_bottom_left : dNe (.str "bottom") (.str "left") = some (.bl true) := v_neS (by decide +kernel) (by decide +kernel)
@[simp] theorem s_bottom_right : dEq (.str "bottom") (.str "right") = some (.bl false) := v_eqS (by decide +kernel) (by decide +kernel)
@[simp] theorem n_bottom_right : dNe (.str "bottom") (.str "right") = some (.bl true) := v_neS (by decide +kernel) (by decide +kernel)
@[simp] theorem s_bottom_over : dEq (.str "bottom") (.str "over") = some (.bl false) := v_eqS (by decide +kernel) (by decide +kernel)
@[simp] theorem n_bottom_over : dNe (.str "bottom") (.str "over") = some (.bl true) := v_neS (by decide +kernel) (by decide +kernel)
@[simp] theorem s_left_top : dEq (.str "left") (.str "top") = some (.bl false) := v_eqS (by decide +kernel) (by decide +kernel)
@[simp] theorem n_left_top : dNe (.str "left") (.str "top") = some (.bl true) := v_neS (by decide +kernel) (by decide +kernel)
@[simp] theorem s_left_bottom : dEq (.str "left") (.str "bottom") = some (.bl false) := v_eqS (by decide +kernel) (by decide +kernel)
@[simp] theorem n_left_bottom : dNe (.str "left") (.str "bottom") = some (.bl true) := v_neS (by decide +kernel) (by decide +kernel)
@[simp] theorem s_left_left : dEq (.str "left") (.str "left") = some (.bl true) := v_eqS (by decide +kernel) (by decide +kernel)
@[simp] theorem n_left_left : dNe (.str "left") (.str "left") = some (.bl false) := v_neS (by decide +kernel) (by decide +kernel)
@[simp] theorem s_left_right : dEq (.str "left") (.str "right") = some (.bl false) := v_eqS (by decide +kernel) (by decide +kernel)
@[simp] theorem n_left_right : dNe (.str "left") (.str "right") = some (.bl true) := v_neS (by decide +kernel) (by decide +kernel)
@[simp] theorem s_left_over : dEq (.str "left") (.str "over") = some (.bl false) := v_eqS (by decide +kernel) (by decide +kernel)
@[simp] theorem n_left_over : dNe (.str "left") (.str "over") = some (.bl true) := v_neS (by decide +kernel) (by decide +kernel)
@[simp] theorem s_right_top : dEq (.str "right") (.str "top") = some (.bl false) := v_eqS (by decide +kernel) (by decide +kernel)
@[simp] theorem n_right_top : dNe (.str "right") (.str "top") = some (.bl true) := v_neS (by decide +kernel) (by decide +kernel)
@[simp] theorem s_right_bottom : dEq (.str "right") (.str "bottom") = some (.bl false) := v_eqS (by decide +kernel) (by decide +kernel)
@[simp] theorem n_right_bottom : dNe (.str "right") (.str "bottom") = some (.bl true) := v_neS (by decide +kernel) (by decide +kernel)
@[simp] theorem s_right_left : dEq (.str "right") (.str "left") = some (.bl false) := v_eqS (by decide +kernel) (by decide +kernel)
@[simp] theorem n_right_left : dNe (.str "right") (.str "left") = some (.bl true) := v_neS (by decide +kernel) (by decide +kernel)
@[simp] theorem s_right_right : dEq (.str "right") (.str "right") = some (.bl true) := v_eqS (by decide +kernel) (by decide +kernel)
@[simp] theorem n_right_right : dNe (.str "right") (.str "right") = some (.bl false) := v_neS (by decide +kernel) (by decide +kernel)
@[simp] theorem s_right_over : dEq (.str "right") (.str "over") = some (.bl false) := v_eqS (by decide +kernel) (by decide +kernel)
@[simp] theorem n_right_over : dNe (.str "right") (.str "over") = some (.bl true) := v_neS (by decide +kernel) (by decide +kernel)
@[simp] theorem s_over_top : dEq (.str "over") (.str "top") = some (.bl false) := v_eqS (by decide +kernel) (by decide +kernel)
@[simp] theorem n_over_top : dNe (.str "over") (.str "top") = some (.bl true) := v_neS (by decide +kernel) (by decide +kernel)
@[simp] theorem s_over_bottom : dEq (.str "over") (.str "bottom") = some (.bl false) := v_eqS (by decide +kernel) (by decide +kernel)
@[simp] theorem n_over_bottom : dNe (.str "over") (.str "bottom") = some (.bl true) := v_neS (by decide +kernel) (by decide +kernel)
@[simp] theorem s_over_left : dEq (.str "over") (.str "left") = some (.bl false) := v_eqS (by decide +kernel) (by decide +kernel)
@[simp] theorem n_over_left : dNe (.str "over") (.str "left") = some (.bl true) := v_neS (by decide +kernel) (by decide +kernel)
@[simp] theorem s_over_right : dEq (.str "over") (.str "right") = some (.bl false) := v_eqS (by decide +kernel) (by decide +kernel)
@[simp] theorem n_over_right : dNe (.str "over") (.str "right") = some (.bl true) := v_neS (by decide +kernel) (by decide +kernel)
@[simp] theorem s_over_over : dEq (.str "over") (.str "over") = some (.bl true) := v_eqS (by decide +kernel) (by decide +kernel)
@[simp] theorem n_over_over : dNe (.str "over") (.str "over") = some (.bl false) := v_neS (by decide +kernel) (by decide +kernel)
theorem all2_refl {α : Type} {f : α → α → Bool} : ∀ {xs : List α}, (∀ x, x ∈ xs → f x x = true) → all2 f xs xs = true
  | [], _ => rfl
  | x :: xs, h => by
    show (f x x && all2 f xs xs) = true
    rw [h x List.mem_cons_self, all2_refl fun y hy => h y (List.mem_cons_of_mem _ hy)]; rfl
theorem eqN_refl : ∀ (n : Nat) (d : D), okN n d = true → eqN n d d = true
  | 0, _, h => by simp [okN] at h
  | n + 1, d, h => by
    cases d with
    | non => rfl
    | bl b => simp [eqN]
    | int i => simp [eqN]
    | str x => simp [eqN]
    | tup ds => exact all2_refl fun x hx => eqN_refl n x (by simp [okN] at h; exact h x hx)
    | lst ds => exact all2_refl fun x hx => eqN_refl n x (by simp [okN] at h; exact h x hx)
    | scr ns => simp [eqN]
    | dic _ => simp [okN] at h
    | fn _ => simp [okN] at h
    | exn _ => simp [okN] at h
    | tpl _ => simp [okN] at h
    | dlx _ _ => simp [okN] at h
    | win _ _ _ _ => simp [okN] at h
    | lsx _ _ => simp [okN] at h
theorem eq_same {d : D} (h : okN 10 d = true) : dEq d d = some (.bl true) := by
  unfold dEq; rw [h, eqN_refl 10 d h]; rfl
theorem ne_same {d : D} (h : okN 10 d = true) : dNe d d = some (.bl false) := by
  unfold dNe; rw [h, eqN_refl 10 d h]; rfl
/-! loops -/
/-- a loop over items, each of which leaves the state as it was -/
theorem for_same {t : Tgt} {b : Ss} {ρ : Sig} (I : Sig → Prop) : ∀ (ds : List D) (ρ : Sig), I ρ → (∀ d, d ∈ ds → ∀ ρ, I ρ → ∃ ρ1, t d ρ = some ρ1 ∧ ∃ ρ2, b ρ1 = some (.nx ρ2) ∧ I ρ2) → ∃ ρ', forS t b ds ρ = some (.nx ρ') ∧ I ρ'
  | [], ρ, h, _ => ⟨ρ, rfl, h⟩
  | d :: ds, ρ, h, hb => by
    obtain ⟨ρ1, e1, ρ2, e2, h2⟩ := hb d List.mem_cons_self ρ h
    obtain ⟨ρ', e3, h3⟩ := for_same (ρ := ρ) I ds ρ2 h2 fun d hd => hb d (List.mem_cons_of_mem _ hd)
    exact ⟨ρ', by simp only [forS, e1, e2]; exact e3, h3⟩
/-- .. the state named by its own invariant -/
theorem for_inv {t : Tgt} {b : Ss} {ds : List D} {ρ : Sig} (I : Sig → Prop) (h : I ρ) (hb : ∀ d, d ∈ ds → ∀ ρ, I ρ → ∃ ρ1, t d ρ = some ρ1 ∧ ∃ ρ2, b ρ1 = some (.nx ρ2) ∧ I ρ2) : ∃ ρ', forS t b ds ρ = some (.nx ρ') ∧ I ρ' := for_same (ρ := ρ) I ds ρ h hb
/-- .. that counts -/
theorem for_at {t : Tgt} {b : Ss} (I : Nat → Sig → Prop) : ∀ (ds : List D) (k : Nat) (ρ : Sig), I k ρ → (∀ i d, ds[i]? = some d → ∀ ρ, I (k + i) ρ → ∃ ρ1, t d ρ = some ρ1 ∧ ∃ ρ2, b ρ1 = some (.nx ρ2) ∧ I (k + i + 1) ρ2) → ∃ ρ', forS t b ds ρ = some (.nx ρ') ∧ I (k + ds.length) ρ'
  | [], k, ρ, h, _ => ⟨ρ, rfl, h⟩
  | d :: ds, k, ρ, h, hb => by
    obtain ⟨ρ1, e1, ρ2, e2, h2⟩ := hb 0 d rfl ρ h
    obtain ⟨ρ', e3, h3⟩ := for_at I ds (k + 1) ρ2 h2 fun i d hd ρ hi => by
      have := hb (i + 1) d (by simpa using hd) ρ (by rw [show k + (i + 1) = k + 1 + i by omega]; exact hi)
      rw [show k + (i + 1) = k + 1 + i by omega] at this
      exact this
    refine ⟨ρ', by simp only [forS, e1, e2]; exact e3, ?_⟩
    rw [List.length_cons, show k + (ds.length + 1) = k + 1 + ds.length by omega]; exact h3
theorem rgD_len (lo : Int) (n : Nat) : (rgD lo n).length = n := by simp [rgD]
theorem rgD_mem {lo : Int} {n : Nat} {d : D} (h : d ∈ rgD lo n) : ∃ i : Nat, i < n ∧ d = .int (lo + i) := by
  unfold rgD at h
  obtain ⟨i, hi, e⟩ := List.mem_map.mp h
  exact ⟨i, List.mem_range.mp hi, e.symm⟩
/-- a comprehension that yields, item by item -/
theorem lc_map {t : TgtR} {elt : Sx} {ρ : Rho} (g : D → D) : ∀ (ds : List D), (∀ d, d ∈ ds → ∃ ρ2, t d ρ = some ρ2 ∧ elt ρ2 = some (.ok (g d))) → lcS t bTrue elt ρ ds = some (ds.map g)
  | [], _ => rfl
  | d :: ds, h => by
    obtain ⟨ρ2, e1, e2⟩ := h d List.mem_cons_self
    unfold lcS
    rw [e1]
    show (match elt ρ2 with | some (.ok y) => (lcS t bTrue elt ρ ds).map (y :: ·) | _ => none) = _
    rw [e2, lc_map g ds fun d hd => h d (List.mem_cons_of_mem _ hd)]
    rfl
/-- .. that picks and yields -/
theorem lc_filter {t : TgtR} {test : Sb} {elt : Sx} {ρ : Rho} (p : D → Bool) (g : D → D) : ∀ (ds : List D), (∀ d, d ∈ ds → ∃ ρ2, t d ρ = some ρ2 ∧ test ρ2 = some (.ok (p d)) ∧ elt ρ2 = some (.ok (g d))) → lcS t test elt ρ ds = some ((ds.filter p).map g)
  | [], _ => rfl
  | d :: ds, h => by
    obtain ⟨ρ2, e1, e2, e3⟩ := h d List.mem_cons_self
    have ih := lc_filter (ρ := ρ) p g ds fun d hd => h d (List.mem_cons_of_mem _ hd)
    unfold lcS
    rw [e1]
    cases hp : p d with
    | true =>
      rw [hp] at e2
      simp only [e2, e3, ih, List.filter_cons, hp, if_true, List.map_cons]
      rfl
    | false =>
      rw [hp] at e2
      simp only [e2, ih, List.filter_cons, hp]
      rfl
section
variable {ρ : Sig} {e : Sx} {ms : List Nat} {i : Nat} {k : Str}
@[simp] theorem e_SetD {g : Rho → Oe (List (L2.Key × L2.V))} : sSetD ms i g ρ = stp ms g ρ fun kvs => some (.nx (ρ.set i (.own (.dic kvs)))) := rfl
@[simp] theorem e_PutD : sPutD ms i k e ρ = match ρ[i]? with
  | some (.own (.dic kvs)) => stp ms e ρ fun d =>
    match toV d with
    | some v => if decide (kvs.length ≤ 15) then some (.nx (ρ.set i (.own (.dic (L2.putK kvs (Sum.inr k) v))))) else none
    | none => none
  | _ => none := rfl
@[simp] theorem e_Disp {l : List (Str × Sx)} {ρ : Rho} : sDisp l ρ = match sPairs l ρ with
  | some (.ok kvs) => if decide (kvs.length ≤ 15) then some (.ok (L2.mergeK [] kvs)) else none
  | _ => none := rfl
@[simp] theorem e_Pairs0 {ρ : Rho} : sPairs [] ρ = some (.ok []) := rfl
@[simp] theorem e_Pairs {ρ : Rho} {r : List (Str × Sx)} : sPairs ((k, e) :: r) ρ = bd (e ρ) fun d => bd (lift (toV d)) fun v => bd (sPairs r ρ) fun l => some (.ok ((Sum.inr k, v) :: l)) := rfl
@[simp] theorem e_toVi {n : Int} : toV (.int n) = some (.int n) := rfl
@[simp] theorem e_ofVi {n : Int} : ofV (.int n) = .int n := rfl
@[simp] theorem e_getK {kvs : List (L2.Key × L2.V)} : dGetK (.dic kvs) (.str k) = (L2.valV kvs (Sum.inr k)).map ofV := rfl
end
/-- how a def's body ends -/
def fin : Option Fl → Oe D
  | some (.nx _) => some (.ok .non)
  | some (.rt d) => some (.ok d)
  | some (.ex c _) => some (.error c)
  | some (.rs d _) => some (.ok d)
  | _ => none
theorem runD_fin {n : Nat} {b : Ss} {ds : List D} : runD n b ds = fin (b (ds.map SL.dat ++ List.replicate (n - ds.length) SL.no)) := by
  unfold runD fin
  rfl
theorem fin_seq {a b : Ss} {ρ ρ' : Sig} (h : a ρ = some (.nx ρ')) : fin (sSeq a b ρ) = fin (b ρ') := by rw [q_Seq h]
@[simp] theorem fin_rt {d : D} : fin (some (.rt d)) = some (.ok d) := rfl
@[simp] theorem fin_rs {d : D} {ρ : Sig} : fin (some (.rs d ρ)) = some (.ok d) := rfl
@[simp] theorem fin_nx {ρ : Sig} : fin (some (.nx ρ)) = some (.ok .non) := rfl
@[simp] theorem fin_ex {c : Str} {ρ : Sig} : fin (some (.ex c ρ)) = some (.error c) := rfl
theorem ne_scr_nil (ns : List Int) : dNe (.scr ns) (.lst []) = some (.bl (!ns.isEmpty)) := by cases ns <;> rfl
theorem eq_scr_nil (ns : List Int) : dEq (.scr ns) (.lst []) = some (.bl ns.isEmpty) := by cases ns <;> rfl
theorem at_in {α : Type} {xs : List α} {i : Int} (h : 0 ≤ i) (h2 : i < xs.length) : ∃ a, L2.atI xs i = some a ∧ a ∈ xs := by
  unfold L2.atI L2.ixN
  rw [if_pos h, if_pos h2]
  have h3 : i.toNat < xs.length := by omega
  exact ⟨xs[i.toNat], by simp [List.getElem?_eq_getElem h3], List.getElem_mem _⟩
@[simp] theorem e_AppPop {ρ : Sig} {ms : List Nat} {i j : Nat} {e : Sx} : sAppPop ms i j e ρ = match ρ[i]?, ρ[j]? with
  | some (.own (.lst ds)), some (.own (.lst es)) => if i = j then none else stp ms e ρ fun d =>
    match d with
    | .int n => if decide (0 ≤ n) && okLen (ds.length + 1) && okLen es.length then
        match es[n.toNat]? with
        | some c => some (.nx ((ρ.set j (.own (.lst (es.eraseIdx n.toNat)))).set i (.own (.lst (ds ++ [c])))))
        | none => none
      else none
    | _ => none
  | _, _ => none := rfl
section
variable {t : Tgt} {b a : Ss} {ρ ρ' ρ0 : Sig} {it : Sl} {ms ks : List Nat} {ds : List D}
theorem for_const : ∀ (ds : List D), (∀ d, d ∈ ds → ∃ ρ1, t d ρ0 = some ρ1 ∧ b ρ1 = some (.nx ρ0)) → forS t b ds ρ0 = some (.nx ρ0)
  | [], _ => rfl
  | d :: ds, h => by
    obtain ⟨ρ1, e1, e2⟩ := h d List.mem_cons_self
    simp only [forS, e1, e2]
    exact for_const ds fun d hd => h d (List.mem_cons_of_mem _ hd)
/-- a loop that leaves the state as it is -/
theorem run_for (ds : List D) (ρ0 : Sig) (hi : it (expo ms ρ) = some (.ok ds)) (hf : frz ms ρ = ρ0) (hb : ∀ d, d ∈ ds → ∃ ρ1, t d ρ0 = some ρ1 ∧ b ρ1 = some (.nx ρ0)) : sFor ms it t b ρ = some (.nx ρ0) := by
  unfold sFor
  rw [hi, hf]
  exact for_const ds hb
theorem run_aft (ρ' : Sig) (h : b ρ = some (.nx ρ')) (hk : killS ks ρ' = ρ0) : sAft ks b ρ = some (.nx ρ0) := by
  unfold sAft
  rw [h]
  show some (Fl.nx (killS ks ρ')) = _
  rw [hk]
theorem run_seq (ρ' : Sig) {o : Option Fl} (h : a ρ = some (.nx ρ')) (h2 : b ρ' = o) : sSeq a b ρ = o := (q_Seq h).trans h2
theorem fin_run (ρ' : Sig) {o : Oe D} (h : a ρ = some (.nx ρ')) (h2 : fin (b ρ') = o) : fin (sSeq a b ρ) = o := (fin_seq h).trans h2
end
theorem rg0_mem {n : Nat} {d : D} (h : d ∈ rgD 0 n) : ∃ i : Nat, i < n ∧ d = .int i := by
  obtain ⟨i, hi, rfl⟩ := rgD_mem h
  exact ⟨i, hi, by rw [Int.zero_add]⟩
theorem ne_lst_nil (xs : List D) (h : okN 10 (.lst xs) = true) : dNe (.lst xs) (.lst []) = some (.bl (!xs.isEmpty)) := by
  unfold dNe
  rw [h, show okN 10 (.lst []) = true from rfl]
  cases xs <;> rfl
end Dl
/-! DlW1: methods, instances made, len by an own def: what is raised is wished for at the slots. -/
namespace Dl
open PySem L2 PySem.Spec PyProof.Rows
section
variable {X : Cx} {CX : CXT} {k : Nat} {f C : Addr} {fd : FuncData} {ps : List Str} {sp : Sp} {E : L2.St → XK} {x m : Str} {p pos apos : Pos} {e o : Expr} {es : List Expr} {ta : TE} {t : TA}
def tMethS (C : Addr) (m : Str) (sp : Sp) (E : L2.St → XK) (ta : TE) (t : TA) : TE := fun σ H Q => ta σ H fun x H1 => ∃ a dx fs, x = .ref a ∧ H1 a = some (.ins C dx fs) ∧ fs.lookup m = none ∧ t σ H1 fun vs H2 => sp (x :: vs) H2 Q (E σ)
theorem pe_methS {pl : Sem Bool} (he : PE X o ta) (c : Cls X.K C) (hm : Meth X.K C m f) (F : FnOk X.prog X.w X.K X.mg X.base CX k f fd ps sp) (hr : Room k X.A) (hb : Binds X.K fd ps []) (hx : ∀ σ, PassesAt CX X σ (E σ)) (ha : PA X (e :: es) t)
    (hst : starEach (e :: es) X.env = (false, eval e X.env) :: starEach es X.env := by rfl) (hpl : (backTo pos (starEach es X.env)).any (·.1) = false := by rfl)
    (ht : eval (.Call (.Attribute o m apos) (e :: es) [] pos) X.env = (do
      let ov ← eval o X.env
      standAt apos.atName
      let (f, first) ← holding [ov] (getMethod ov m pl)
      callWith pos f first (backTo pos (starEach (e :: es) X.env)) (backToKw pos (keywordEach [] X.env))) := by rfl) :
    PE X (.Call (.Attribute o m apos) (e :: es) [] pos) (tMethS C m sp E ta t) := by
  refine ⟨fun pins s σ H Q I h => ?_⟩
  refine PySem.W.methodCall_KW (pl := pl) (thn (he.run pins s σ H _ I h) fun u s1 ⟨x, H1, I1, rx, a, dx, fs, ex, ea, l, q⟩ => ?_) ht
  subst ex
  obtain rfl : u = Value.ref a := rx
  refine getmeth_ok I1 ea c hm l ?_
  refine PySem.W.callWith_K (first := [.ref a]) (h₀ := X.base) I.ok.mod.kin hm.kp (thn (ha.run pos pins s1 σ H1 _ I1 q) fun us s2 ⟨vs, H2, I2, r, q2⟩ => ⟨I2.kIn, ?_⟩) hst hpl
  exact run_fnS (us := .ref a :: us) (vs := .ref a :: vs) F hr hb (hx σ) I2 (.cons rfl r) q2
theorem pe_methS0 {pl : Sem Bool} (he : PE X o ta) (c : Cls X.K C) (hm : Meth X.K C m f) (F : FnOk X.prog X.w X.K X.mg X.base CX k f fd ps sp) (hr : Room k X.A) (hb : Binds X.K fd ps []) (hx : ∀ σ, PassesAt CX X σ (E σ))
    (ht : eval (.Call (.Attribute o m apos) [] [] pos) X.env = (do
      let ov ← eval o X.env
      standAt apos.atName
      let (f, first) ← holding [ov] (getMethod ov m pl)
      callWith pos f first (backTo pos (starEach [] X.env)) (backToKw pos (keywordEach [] X.env))) := by rfl) :
    PE X (.Call (.Attribute o m apos) [] [] pos) (tMethS C m sp E ta tNil) := by
  refine ⟨fun pins s σ H Q I h => ?_⟩
  refine PySem.W.methodCall_KW (pl := pl) (thn (he.run pins s σ H _ I h) fun u s1 ⟨x, H1, I1, rx, a, dx, fs, ex, ea, l, q⟩ => ?_) ht
  subst ex
  obtain rfl : u = Value.ref a := rx
  refine getmeth_ok I1 ea c hm l ?_
  exact PySem.W.callWith_K0 (first := [.ref a]) I1.kIn hm.kp (run_fnS (us := [.ref a]) (vs := [.ref a]) F hr hb (hx σ) I1 (.cons rfl .nil) q)
def tMakeS (C : Addr) (sp : Sp) (E : L2.St → XK) (t : TA) : TE := fun σ H Q => t σ H fun vs H1 => ∀ x dx, H1 x = none → H1 dx = none → dx ≠ x → sp (.ref x :: vs) (upd (upd H1 dx (.own x)) x (.ins C dx [])) (fun v H2 => v = .non ∧ Q (.ref x) H2) (E σ)
theorem pe_makeS (M : Mk X.K C f) (F : FnOk X.prog X.w X.K X.mg X.base CX k f fd ps sp) (hr : Room (k + 1) X.A) (hg : Gl X x) (hm : X.mg x = some (.ref C)) (hb : Binds X.K fd ps []) (hx : ∀ σ, PassesAt CX X σ (E σ))
    (ha : PA X (e :: es) t) (hdb : (x == ("__debug__" : Str)) = false := by decide) (he : starEach (e :: es) X.env = (false, eval e X.env) :: starEach es X.env := by rfl) (hpl : (backTo pos (starEach es X.env)).any (·.1) = false := by rfl) :
    PE X (.Call (.Name x p) (e :: es) [] pos) (tMakeS C sp E t) := by
  refine ⟨fun pins s σ H Q I0 h => ?_⟩
  refine wpAny_Call_Name_kw (ld_glob I0 hg hm ?_ hdb)
  refine PySem.W.callWith_K (h₀ := X.base) I0.ok.mod.kin M.kp (thn (ha.run pos pins s σ H _ I0 h) fun us s1 ⟨vs, H1, I, r, q⟩ => ⟨I.kIn, ?_⟩) he hpl
  have hq := q (s1.heap.objs.size + 1) s1.heap.objs.size (I.hok.fresh (Nat.le_succ _)) (I.hok.fresh (Nat.le_refl _)) (Nat.ne_of_lt (Nat.lt_succ_self _))
  have I2 := Inv.made (C := C) I
  have r2 : Vals (V.ref (s1.heap.objs.size + 1) :: vs) (Value.ref (s1.heap.objs.size + 1) :: us) := .cons rfl r
  have hl : (Value.ref (s1.heap.objs.size + 1) :: us ++ []).length = ps.length := by
    rw [List.append_nil]
    have e := r2.length
    rw [F.len _ _ _ _ hq] at e
    exact e.symm
  have hb' := hb _ (Value.ref (s1.heap.objs.size + 1) :: us) I2.kIn hl
  rw [List.append_nil] at hb'
  refine wpAny_call (make_map (f := f) I.kIn M.makes M.init (beq_iff_eq.mp M.fn) (codeAny_mono (F.run _ X.stack _ _ ⟨Value.ref (s1.heap.objs.size + 1) :: us, []⟩ (Value.ref (s1.heap.objs.size + 1) :: us) _ _ (E σ) (hr.make C us [])
    (I2.env0.make C us []) hb' r2 hq) fun r s' hq' => ?_))
  cases r with
  | error e => exact hx σ pins _ _ e s' I2 hq'
  | ok fl =>
    cases fl with
    | ret u =>
      obtain ⟨v, H', I3, rv, ev, q3⟩ := I2.after hq'
      subst ev
      exact ⟨rv, ⟨V.ref (s1.heap.objs.size + 1), H', I3, rfl, q3⟩⟩
    | next => exact False.elim hq'
    | brk => exact False.elim hq'
    | cont => exact False.elim hq'
/-- len(o) by an own __len__ that raises nothing -/
theorem call_lenOwn (hs : PySem.W.findIn X.K (.ref C) "__len__" = some (some (.ref f))) (hf : PySem.W.isFn X.K (.ref f) = true) (F : FnOk X.prog X.w X.K X.mg X.base (L2.CX X.prog X.w) k f fd ps sp) (hr : Room (k + 1) X.A) (hb : Binds X.K fd ps []) :
    CallR X (.builtin "len") (fun xs H Q => ∃ a dx fs, xs = [.ref a] ∧ H a = some (.ins C dx fs) ∧ sp [.ref a] H (fun v H' => ∃ n : Int, v = .int n ∧ 0 ≤ n ∧ n < 2 ^ 63 ∧ Q (.int n) H') fun _ _ _ => False) := by
  intro pins s σ H xs us Q I r h
  obtain ⟨a, dx, fs, rfl, hy, q⟩ := h
  obtain ⟨u, rfl, ru⟩ := vals1 r
  obtain rfl : u = Value.ref a := ru
  obtain ⟨m, Fr'⟩ := I.fr
  obtain ⟨mA, O, _⟩ := ins_get I.hok hy
  obtain ⟨od, J, _⟩ := O.look
  refine PySem.W.len_K Fr' I.mod.kin J hs hf ?_
  have hl : ([Value.ref a] ++ []).length = ps.length := by
    have e := F.len _ _ _ _ q
    simpa using e
  have hb' := hb s [Value.ref a] I.kIn hl
  rw [List.append_nil] at hb'
  have e0 := I.env0
  refine wpAny_call (codeAny_mono (F.run X.A.in1 X.stack s H ⟨[.ref a], []⟩ [.ref a] [.ref a] _ _ hr.in1 ⟨e0.frames, e0.mod, e0.bs, e0.bsz, e0.funs, e0.frf, e0.hok, e0.bare⟩ hb' (.cons rfl .nil) q) fun r s' hq => ?_)
  cases r with
  | error e =>
    obtain ⟨_, _, _, _, _, _, _, _, _, _, _, _, hE⟩ := hq
    exact hE.elim
  | ok fl =>
    cases fl with
    | ret u =>
      obtain ⟨v, H', I', rv, n, rfl, h0, h1, q'⟩ := I.after hq
      obtain ⟨t, rfl⟩ := rv
      exact ⟨⟨h0, h1⟩, .int n, H', I'.tok _, ⟨_, rfl⟩, q'⟩
    | next => exact False.elim hq
    | brk => exact False.elim hq
    | cont => exact False.elim hq
end
end Dl
/-! DlW2: what changes a window: promises, expressions with an effect. -/
namespace Dl
open PySem L2
/-- the class Window -/
structure WinC (K : PySem.W.Frag) (mg : Str → Option Value) (C : Addr) : Prop where
  gl : mg "Window" = some (.ref C)
  c : Cls K C
  np : NoAttr K C "present"
  nd : NoAttr K C "done"
  nu : NoAttr K C "undone"
def slOf : D → SL
  | .win a p d u => .own (.win a p d u)
  | d => .dat d
def isW : D → Bool
  | .win _ _ _ _ => true
  | _ => false
theorem slOf_dat {d : D} (h : isW d = false) : slOf d = .dat d := by cases d <;> first | rfl | cases h
/-- a plain function of data and a window: the answer, the window behind -/
abbrev GW := List D → Option (Except Str D × D)
section
variable (K : PySem.W.Frag) (mg : Str → Option Value)
structure WEnd (F H : Hp) (a : Addr) (F' H' : Hp) (p : D) (dn un : List D) : Prop where
  g : Grow F (delH H (a :: kids H a)) F' H'
  w : WinAt K mg F' H' a p dn un
  f : ∀ x, x ∈ a :: kids H' a → F' x = none ∧ delH H (a :: kids H a) x = none
def PostW (F H : Hp) (a : Addr) (r : Except Str D) (p : D) (dn un : List D) (Q : VK) (E : XK) : Prop :=
  match r with
  | .ok d => ∀ v F' H', WEnd K mg F H a F' H' p dn un → Rep K mg F' v d → Q v H'
  | .error c => ∀ C F' H', WEnd K mg F H a F' H' p dn un → mg c = some (.ref C) → E (.ref C) none H'
def spW (n i : Nat) (g : GW) : Sp := fun vs H Q E => ∃ (F : Hp) (ds : List D) (a : Addr) (p : D) (dn un : List D) (r : Except Str D) (p' : D) (dn' un' : List D),
  ds.length = n ∧ vs.length = n ∧ Ex F H ∧ WinAt K mg F H a p dn un ∧ (∀ x, x ∈ a :: kids H a → F x = none) ∧ vs[i]? = some (.ref a) ∧ ds[i]? = some (.win a p dn un) ∧
  (∀ j v d, j ≠ i → vs[j]? = some v → ds[j]? = some d → Rep K mg F v d ∧ isW d = false) ∧ g ds = some (r, .win a p' dn' un') ∧ PostW K mg F H a r p' dn' un' Q E
end
def finW (i : Nat) (r : Except Str D) (ρ : Sig) : Option (Except Str D × D) := match ρ[i]? with
  | some (.own (.win a p d u)) => some (r, .win a p d u)
  | _ => none
def runW (n i : Nat) (body : Ss) : GW := fun ds =>
  match body (ds.map slOf ++ List.replicate (n - ds.length) SL.no) with
  | some (.nx ρ) => finW i (.ok .non) ρ
  | some (.rs d ρ) => finW i (.ok d) ρ
  | some (.ex c ρ) => finW i (.error c) ρ
  | _ => none
section
variable {K : PySem.W.Frag} {mg : Str → Option Value} {F0 H0 F H F' H' : Hp} {σ : St} {ρ : Sig}
theorem start_okW {N : List Str} {vs : List V} {ds : List D} {i : Nat} {a : Addr} {p : D} {dn un : List D} (hl : vs.length = ds.length) (e : Ex F H) (w : WinAt K mg F H a p dn un) (hf : ∀ x, x ∈ a :: kids H a → F x = none) (hv : vs[i]? = some (.ref a)) (hd : ds[i]? = some (.win a p dn un))
    (ho : ∀ j v d, j ≠ i → vs[j]? = some v → ds[j]? = some d → Rep K mg F v d ∧ isW d = false) : StOk K mg F (delH H (a :: kids H a)) F H (L2.start N vs) (ds.map slOf ++ List.replicate (N.length - ds.length) SL.no) := by
  have at_ : ∀ (j : Nat) (s : SL), (ds.map slOf ++ List.replicate (N.length - ds.length) SL.no)[j]? = some s → s = .no ∨ ∃ d v, ds[j]? = some d ∧ s = slOf d ∧ vs[j]? = some v ∧ (L2.start N vs)[j]? = some (some v) := fun j s hs => by
    by_cases hi : j < ds.length
    · rw [List.getElem?_append_left (by rw [List.length_map]; exact hi), List.getElem?_map] at hs
      obtain ⟨d, hd, rfl⟩ := Option.map_eq_some_iff.mp hs
      have hv : vs[j]? = some vs[j] := List.getElem?_eq_getElem (by omega)
      refine .inr ⟨d, _, hd, rfl, hv, ?_⟩
      unfold L2.start
      rw [List.getElem?_append_left (by rw [List.length_map]; omega), List.getElem?_map, hv]; rfl
    · rw [List.getElem?_append_right (by rw [List.length_map]; omega), List.getElem?_replicate] at hs
      split at hs
      · cases hs; exact .inl rfl
      · cases hs
  have own_ : ∀ (j : Nat) (d : D), (ds.map slOf ++ List.replicate (N.length - ds.length) SL.no)[j]? = some (.own d) → j = i ∧ d = .win a p dn un ∧ (L2.start N vs)[j]? = some (some (.ref a)) := fun j d hs => by
    rcases at_ j _ hs with z | ⟨c, v, h1, h2, h3, h4⟩
    · cases z
    · by_cases hj : j = i
      · subst hj
        rw [hd] at h1; cases h1
        cases h2
        rw [hv] at h3; cases h3
        exact ⟨rfl, rfl, h4⟩
      · rw [slOf_dat (ho j v c hj h3 h1).2] at h2
        cases h2
  refine ⟨⟨.refl _, fun x o q => ?_, e, fun _ _ q => .inl q⟩, fun j s hs => ?_, fun j k c d q hjk h1 h2 => ?_, by unfold L2.start; simp [hl], fun j d q h1 h2 x hx => ?_⟩
  · by_cases hm : x ∈ a :: kids H a
    · rw [delH_in hm] at q; cases q
    · rw [delH_out hm] at q; exact q
  · rcases at_ j s hs with rfl | ⟨c, v, h1, rfl, h3, h4⟩
    · trivial
    · by_cases hj : j = i
      · subst hj
        rw [hd] at h1; cases h1
        rw [hv] at h3; cases h3
        exact ⟨a, h4, delH_in List.mem_cons_self, hf a List.mem_cons_self, rfl, w⟩
      · obtain ⟨r, z⟩ := ho j v c hj h3 h1
        rw [slOf_dat z]
        exact ⟨v, h4, r⟩
  · exact (hjk ((own_ j c h1).1.trans (own_ k d h2).1.symm)).elim
  · obtain ⟨rfl, rfl, h3⟩ := own_ j d h1
    rw [h2] at h3; cases h3
    obtain ⟨C, dx, pv, dl, ul, xs, ys, w1, w2, w3, w4, w5, _⟩ := w.ex
    have hk := kids_ins w2
    refine ⟨delH_in (List.mem_cons_of_mem _ hx), hf x (List.mem_cons_of_mem _ hx), ?_, fun k e q hk1 hk2 => ?_⟩
    · rw [hk] at hx
      simp only [List.mem_cons, List.not_mem_nil, or_false] at hx
      rcases hx with rfl | rfl
      · exact ⟨_, w3⟩
      · exact ⟨_, w4⟩
    · obtain ⟨rfl, _, h5⟩ := own_ k e hk1
      rw [hk2] at h5; cases h5
      refine ⟨fun z => ?_, fun z => absurd rfl z⟩
      rw [hk] at hx
      simp only [List.mem_cons, List.not_mem_nil, or_false] at hx
      rcases hx with rfl | rfl
      · rw [z, w2] at w3; cases w3
      · rw [z, w2] at w4; cases w4
theorem wend_of {a : Addr} {i : Nat} {r r' : Except Str D} {p : D} {dn un : List D} (S : StOk K mg F (delH H (a :: kids H a)) F' H' σ ρ) (h : finW i r ρ = some (r', .win a p dn un)) : r = r' ∧ WEnd K mg F H a F' H' p dn un := by
  unfold finW at h
  split at h
  · rename_i b q d u hb
    cases h
    obtain ⟨x, hx, x0, xF, e, w⟩ := S.s i _ hb
    subst e
    refine ⟨rfl, S.g, w, fun y hy => ?_⟩
    rcases List.mem_cons.mp hy with rfl | hy
    · exact ⟨xF, x0⟩
    · obtain ⟨y0, yF, _⟩ := S.kd i _ _ hb hx y hy
      exact ⟨yF, y0⟩
  · cases h
theorem own0 : ownAddrs [] ρ σ = [] := by
  refine List.eq_nil_iff_forall_not_mem.mpr fun p h => ?_
  obtain ⟨i, d, _, _, h3⟩ := mem_ownAddrs.mp h
  cases h3
theorem add0 : addH F H (ownAddrs [] ρ σ) = F := by
  funext x
  rw [own0]
  exact addH_out (fun h => nomatch h)
theorem StOk.view0 (S : StOk K mg F0 H0 F H σ ρ) : View K mg F H σ (expo [] ρ) := by
  have v := S.view []
  rw [add0] at v
  exact v
end
/-- the def x of n parameters, the i-th a window, computes g -/
structure FnW (P : Program) (w : World) (K : PySem.W.Frag) (mg : Str → Option Value) (base : Heap) (k : Nat) (x : Str) (n i : Nat) (g : GW) : Prop where
  ex : ∃ (a : Addr) (fd : FuncData) (ps : List Str), FnOk P w K mg base (L2.CX P w) k a fd ps (spW K mg n i g) ∧ mg x = some (.ref a) ∧ PySem.W.keepIn K (.ref a) = true ∧ Binds K fd ps []
/-- the method m computes g -/
structure MtW (P : Program) (w : World) (K : PySem.W.Frag) (mg : Str → Option Value) (base : Heap) (k : Nat) (m : Str) (n : Nat) (g : GW) : Prop where
  ex : ∃ (C a : Addr) (fd : FuncData) (ps : List Str), WinC K mg C ∧ Meth K C m a ∧ FnOk P w K mg base (L2.CX P w) k a fd ps (spW K mg n 0 g) ∧ Binds K fd ps []
/-- the method m that changes nothing -/
structure MtD (P : Program) (w : World) (K : PySem.W.Frag) (mg : Str → Option Value) (base : Heap) (k : Nat) (m : Str) (n : Nat) (f : List D → Oe D) : Prop where
  ex : ∃ (C a : Addr) (fd : FuncData) (ps : List Str), WinC K mg C ∧ Meth K C m a ∧ FnOk P w K mg base (L2.CX P w) k a fd ps (spOf K mg n f) ∧ Binds K fd ps []
theorem FnW.mkOk {P : Program} {w : World} {K : PySem.W.Frag} {mg : Str → Option Value} {base : Heap} {x qual : Str} {st : Stmt} {f : Addr} {fd : FuncData} {N ps : List Str} {k i : Nat} {body : Ss} (Fu : Fun K x qual st f fd) (S : FnScope N ps (defScope st))
    (hbody : ∀ (cdv : Value) (A : Around) (outer : List Env) (s : Shared) (H : Hp) (E : XK), Room k (A.deeper (PyProof.Rows.envOfC qual (defScope st) s.heap.objs.size f cdv)) →
      PSs (cxOf (L2.CX P w) P w K mg base N qual (defScope st) f cdv A outer s H E) (defBody st) (tP K mg (fun cls d _ H => E cls d H) body)) : FnOk P w K mg base (L2.CX P w) (k + 1) f fd ps (spW K mg ps.length i (runW N.length i body)) := by
  refine Fu.okX S (fun vs H Q E h => ?_) (fun cdv A outer s H vs Q E hr h => ⟨_, hbody cdv A outer s H E hr, ?_⟩)
  · obtain ⟨F, ds, a, p, dn, un, r, p', dn', un', h1, h2, _⟩ := h
    exact h2
  · obtain ⟨F, ds, a, p, dn, un, r, p', dn', un', h1, h2, h3, h4, h5, h6, h7, h8, hg, post⟩ := h
    have S0 := start_okW (N := N) (h2.trans h1.symm) h3 h4 h5 h6 h7 h8
    unfold runW at hg
    split at hg
    · rename_i ρ hb
      refine ⟨F, _, _, F, _, S0, hb, fun σ' F' H' S' _ => ?_⟩
      obtain ⟨e, we⟩ := wend_of S' hg
      subst e
      exact post .non F' H' we .non
    · rename_i d ρ hb
      refine ⟨F, _, _, F, _, S0, hb, fun v σ' F' H' S' _ rv => ?_⟩
      obtain ⟨e, we⟩ := wend_of S' hg
      subst e
      exact post v F' H' we rv
    · rename_i c ρ hb
      refine ⟨F, _, _, F, _, S0, hb, fun C σ' F' H' S' _ hc => ?_⟩
      obtain ⟨e, we⟩ := wend_of S' hg
      subst e
      exact post C F' H' we hc
    · cases hg

/-! ### expressions with an effect -/
abbrev SigE := Sig → Option (Except Str D × Sig)
section
variable (K : PySem.W.Frag) (mg : Str → Option Value) (W : WX)
def FinE {α : Type} (F0 H0 F : Hp) (σ : St) (r : Except Str α) (ρ' : Sig) (ok : α → Hp → Hp → Prop) : Prop :=
  match r with
  | .ok d => ∀ F' H', StOk K mg F0 H0 F' H' σ ρ' → Ex F F' → ok d F' H'
  | .error c => ∀ C F' H', StOk K mg F0 H0 F' H' σ ρ' → Ex F F' → mg c = some (.ref C) → W (.ref C) none σ H'
def tW (s : SigE) : TE := fun σ H Q => ∃ F0 H0 ρ F r ρ', StOk K mg F0 H0 F H σ ρ ∧ s ρ = some (r, ρ') ∧ FinE K mg W F0 H0 F σ r ρ' fun d F' H' => ∀ v, Rep K mg F' v d → Q v H'
def tWT (s : Sig → Option (Except Str Bool × Sig)) : TT := fun σ H Q => ∃ F0 H0 ρ F r ρ', StOk K mg F0 H0 F H σ ρ ∧ s ρ = some (r, ρ') ∧ FinE K mg W F0 H0 F σ r ρ' fun b _ H' => Q b H'
def tWA (s : Sig → Option (Except Str (List D) × Sig)) : TA := fun σ H Q => ∃ F0 H0 ρ F r ρ', StOk K mg F0 H0 F H σ ρ ∧ s ρ = some (r, ρ') ∧ FinE K mg W F0 H0 F σ r ρ' fun ds F' H' => ∀ vs, RepAll K mg F' vs ds → Q vs H'
end
def wBd {α β : Type} (a : Sig → Option (Except Str α × Sig)) (k : α → Sig → Option (Except Str β × Sig)) : Sig → Option (Except Str β × Sig) := fun ρ =>
  match a ρ with
  | some (.ok x, ρ') => k x ρ'
  | some (.error c, ρ') => some (.error c, ρ')
  | none => none
theorem wBd_some {α β : Type} {a : Sig → Option (Except Str α × Sig)} {k : α → Sig → Option (Except Str β × Sig)} {ρ : Sig} {z : Except Str β × Sig} (h : wBd a k ρ = some z) :
    (∃ x ρ', a ρ = some (.ok x, ρ') ∧ k x ρ' = some z) ∨ ∃ c ρ', a ρ = some (.error c, ρ') ∧ z = (.error c, ρ') := by
  unfold wBd at h
  split at h
  · exact .inl ⟨_, _, by assumption, h⟩
  · exact .inr ⟨_, _, by assumption, (Option.some.inj h).symm⟩
  · cases h
section
variable {K : PySem.W.Frag} {mg : Str → Option Value} {W : WX} {F0 H0 F H F' H' : Hp} {σ : St} {ρ ρ' : Sig} {α β : Type}
theorem FinE.mo {r : Except Str α} {ok : α → Hp → Hp → Prop} (h : FinE K mg W F0 H0 F σ r ρ' ok) (e : Ex F F') : FinE K mg W F0 H0 F' σ r ρ' ok := by
  cases r with
  | ok d => exact fun F2 H2 s x => h F2 H2 s (e.trans x)
  | error c => exact fun C F2 H2 s x => h C F2 H2 s (e.trans x)
theorem FinE.err {c : Str} {ok : α → Hp → Hp → Prop} {ok' : β → Hp → Hp → Prop} (h : FinE K mg W F0 H0 F σ (.error c) ρ' ok) : FinE K mg W F0 H0 F σ (.error c) ρ' ok' := h
end
/-- a part without effect -/
def wPure (ms : List Nat) (s : Sx) : SigE := fun ρ => match s (expo ms ρ) with
  | some (.ok d) => if lf d then some (.ok d, ρ) else none
  | some (.error c) => some (.error c, ρ)
  | none => none
def wPureB (ms : List Nat) (s : Sb) : Sig → Option (Except Str Bool × Sig) := fun ρ => match s (expo ms ρ) with
  | some (.ok d) => some (.ok d, ρ)
  | some (.error c) => some (.error c, ρ)
  | none => none
section
variable {X : Cx} {W : WX} {pos : Pos} {a b : Expr} {es : List Expr} {sa sb : SigE} {se : Sx} {st : Sb}
theorem w_pure (ms : List Nat) (he : PE X a (tS X.K X.mg W se)) : PE X a (tW X.K X.mg W (wPure ms se)) := by
  refine pe_imp he fun σ H Q ⟨F0, H0, ρ, F, r, ρ', S, e, fin⟩ => ?_
  unfold wPure at e
  split at e
  · rename_i d ed
    split at e
    · rename_i hl
      cases e
      refine ⟨_, _, _, S.view ms, ed, fun v F1 H1 gr rv => ?_⟩
      obtain ⟨S', e', tp⟩ := S.seen gr
      exact fin _ _ S' e' v (Rep.lf tp _ _ hl rv)
    · cases e
  · rename_i c ed
    cases e
    refine ⟨_, _, _, S.view ms, ed, fun C F1 H1 gr hc => ?_⟩
    obtain ⟨S', e', tp⟩ := S.seen gr
    exact fin C _ _ S' e' hc
  · cases e
theorem w_pureB (ms : List Nat) (he : PT X a (tT X.K X.mg W st)) : PT X a (tWT X.K X.mg W (wPureB ms st)) := by
  refine pt_imp he fun σ H Q ⟨F0, H0, ρ, F, r, ρ', S, e, fin⟩ => ?_
  unfold wPureB at e
  split at e
  · rename_i d ed
    cases e
    refine ⟨_, _, _, S.view ms, ed, fun v F1 H1 gr rv => ?_⟩
    obtain ⟨S', e', tp⟩ := S.seen gr
    have rv' : v = d := rv
    subst rv'
    exact fin _ _ S' e'
  · rename_i c ed
    cases e
    refine ⟨_, _, _, S.view ms, ed, fun C F1 H1 gr hc => ?_⟩
    obtain ⟨S', e', tp⟩ := S.seen gr
    exact fin C _ _ S' e' hc
  · cases e
/-- two parts, then an operator on what they gave -/
def wOp (f : D → D → Option D) (a b : SigE) : SigE := wBd a fun x => wBd b fun y ρ => (f x y).map fun d => (.ok d, ρ)
def wCmp (f : D → D → Option D) (a b : SigE) : Sig → Option (Except Str Bool × Sig) := wBd a fun x => wBd b fun y ρ => match f x y with
  | some (.bl k) => some (.ok k, ρ)
  | _ => none
theorem wt_cmp {op : CmpOp} {r : R2} {f : D → D → Option D} (ho : OpR X (compareOp op) r) (hf : Op2 X.K X.mg r f) (ha : PE X a (tW X.K X.mg W sa)) (hb : PE X b (tW X.K X.mg W sb)) (hm : behindInMarks op b = false := by first | exact nomark _ | rfl) : PT X (.Compare a [op] [b] pos) (tWT X.K X.mg W (wCmp f sa sb)) := by
  refine pt_imp (pt_cmpR ho ha hb hm) fun σ H Q ⟨F0, H0, ρ, F, r, ρ', S, e, fin⟩ => ?_
  rcases wBd_some e with ⟨x, ρ1, ea, e1⟩ | ⟨c, ρ1, ea, hz⟩
  · refine ⟨F0, H0, ρ, F, _, ρ1, S, ea, fun F1 H1 S1 x1 v1 r1 => ?_⟩
    rcases wBd_some e1 with ⟨y, ρ2, eb, e2⟩ | ⟨c, ρ2, eb, hz⟩
    · refine ⟨F0, H0, ρ1, F1, _, ρ2, S1, eb, fun F2 H2 S2 x2 v2 r2 => ?_⟩
      split at e2
      · rename_i k hk
        cases e2
        exact hf F2 H2 v1 v2 x y _ _ S2.g.s (r1.mo x2) r2 hk fun v F3 H3 g3 r3 => by
          cases r3
          exact ⟨k, rfl, fin F3 H3 (S2.grow g3) ((x1.trans x2).trans g3.f)⟩
      · cases e2
    · cases hz
      exact ⟨F0, H0, ρ1, F1, _, _, S1, eb, (fin.mo x1).err⟩
  · cases hz
    exact ⟨F0, H0, ρ, F, _, _, S, ea, fin.err⟩
/-- a if t else b -/
def wIfE (ms : List Nat) (t : Sb) (a b : SigE) : SigE := wBd (wPureB ms t) fun k => if k then a else b
theorem w_ifE {c : Expr} (ms : List Nat) (hc : PT X c (tT X.K X.mg W st)) (ha : PE X a (tW X.K X.mg W sa)) (hb : PE X b (tW X.K X.mg W sb)) : PE X (.IfExp c a b pos) (tW X.K X.mg W (wIfE ms st sa sb)) := by
  refine pe_imp (pe_ifExp (w_pureB ms hc) ha hb) fun σ H Q ⟨F0, H0, ρ, F, r, ρ', S, e, fin⟩ => ?_
  rcases wBd_some e with ⟨k, ρ1, ea, e1⟩ | ⟨c, ρ1, ea, hz⟩
  · refine ⟨F0, H0, ρ, F, _, ρ1, S, ea, fun F1 H1 S1 x1 => ?_⟩
    cases k with
    | true => exact ⟨F0, H0, ρ1, F1, r, ρ', S1, e1, fin.mo x1⟩
    | false => exact ⟨F0, H0, ρ1, F1, r, ρ', S1, e1, fin.mo x1⟩
  · cases hz
    exact ⟨F0, H0, ρ, F, _, _, S, ea, fin.err⟩
/-- [a, ..] of parts with an effect, frozen; what it holds leans on no list -/
def wNil : Sig → Option (Except Str (List D) × Sig) := fun ρ => some (.ok [], ρ)
def wCons (a : SigE) (l : Sig → Option (Except Str (List D) × Sig)) : Sig → Option (Except Str (List D) × Sig) := wBd a fun x => wBd l fun xs ρ => some (.ok (x :: xs), ρ)
theorem wa_nil : PA X [] (tWA X.K X.mg W wNil) := pa_imp pa_nil fun σ H Q ⟨F0, H0, ρ, F, r, ρ', S, e, fin⟩ => by
  cases e
  exact fin F H S (.refl F) [] .nil
theorem wa_cons {sl : Sig → Option (Except Str (List D) × Sig)} (ha : PE X a (tW X.K X.mg W sa)) (hr : PA X es (tWA X.K X.mg W sl)) (hs : starEach (a :: es) X.env = (false, eval a X.env) :: starEach es X.env := by rfl) : PA X (a :: es) (tWA X.K X.mg W (wCons sa sl)) := by
  refine pa_imp (pa_cons ha hr hs) fun σ H Q ⟨F0, H0, ρ, F, r, ρ', S, e, fin⟩ => ?_
  rcases wBd_some e with ⟨x, ρ1, ea, e1⟩ | ⟨c, ρ1, ea, hz⟩
  · refine ⟨F0, H0, ρ, F, _, ρ1, S, ea, fun F1 H1 S1 x1 v1 r1 => ?_⟩
    rcases wBd_some e1 with ⟨y, ρ2, eb, e2⟩ | ⟨c, ρ2, eb, hz⟩
    · refine ⟨F0, H0, ρ1, F1, _, ρ2, S1, eb, fun F2 H2 S2 x2 v2 r2 => ?_⟩
      cases e2
      exact fin F2 H2 S2 (x1.trans x2) (v1 :: v2) (.cons (r1.mo x2) r2)
    · cases hz
      exact ⟨F0, H0, ρ1, F1, _, _, S1, eb, (fin.mo x1).err⟩
  · cases hz
    exact ⟨F0, H0, ρ, F, _, _, S, ea, fin.err⟩
def wLst (l : Sig → Option (Except Str (List D) × Sig)) : SigE := wBd l fun xs ρ => if okLen xs.length then some (.ok (.lst xs), ρ) else none
theorem w_lst {sl : Sig → Option (Except Str (List D) × Sig)} (h : PA X es (tWA X.K X.mg W sl)) : PE X (.List es pos) (tW X.K X.mg W (wLst sl)) := by
  refine pe_imp (pe_lst h) fun σ H Q ⟨F0, H0, ρ, F, r, ρ', S, e, fin⟩ => ?_
  rcases wBd_some e with ⟨ds, ρ1, ea, e1⟩ | ⟨c, ρ1, ea, hz⟩
  · refine ⟨F0, H0, ρ, F, _, ρ1, S, ea, fun F1 H1 S1 x1 vs r1 => ?_⟩
    split at e1
    · rename_i ho
      cases e1
      refine ⟨by rw [r1.length]; exact okLen_line ho, fun p hp => ?_⟩
      have g : Grow F1 H1 (upd F1 p (.lst vs)) (upd H1 p (.lst vs)) := .both S1.g.s hp
      exact fin _ _ (S1.grow g) (x1.trans g.f) (.ref p) (.lst upd_same (r1.mo g.f))
    · cases e1
  · cases hz
    exact ⟨F0, H0, ρ, F, _, _, S, ea, fin.err⟩
end
end Dl
/-! DlW3: calls that change a window, methods, statements with an effect. -/
namespace Dl
open PySem L2
def isEx (a : Addr) : Option D → Bool
  | some (.exn b) => decide (b = a)
  | _ => false
/-- behind a call -/
def wAfter (j : Nat) (a : Addr) (ρ : Sig) : Option (Except Str D × D) → Option (Except Str D × Sig)
  | some (r, .win b p' dn' un') => if b = a then some (r, ρ.set j (.own (.win a p' dn' un'))) else none
  | _ => none
/-- f(..), its i-th argument the window that slot j holds -/
def wCall (n i j : Nat) (g : GW) (sl : Sl) : SigE := fun ρ => match ρ[j]? with
  | some (.own (.win a p dn un)) => match sl (expo [] ρ) with
    | some (.ok ds) => if decide (ds.length = n) && isEx a ds[i]? && ds.all (fun d => !isW d) then wAfter j a ρ (g (ds.set i (.win a p dn un))) else none
    | _ => none
  | _ => none
/-- w.m(..) -/
def wMeth (n j : Nat) (g : GW) (sl : Sl) : SigE := fun ρ => match ρ[j]? with
  | some (.own (.win a p dn un)) => match sl (expo [] ρ) with
    | some (.ok ds) => if decide (ds.length + 1 = n) && ds.all (fun d => !isW d) then wAfter j a ρ (g (.win a p dn un :: ds)) else none
    | _ => none
  | _ => none
theorem after_some {j : Nat} {a : Addr} {ρ : Sig} {o : Option (Except Str D × D)} {r : Except Str D} {ρ' : Sig} (h : wAfter j a ρ o = some (r, ρ')) : ∃ p' dn' un', o = some (r, .win a p' dn' un') ∧ ρ' = ρ.set j (.own (.win a p' dn' un')) := by
  unfold wAfter at h
  split at h
  · split at h
    · rename_i hb
      subst hb
      cases h
      exact ⟨_, _, _, rfl, rfl⟩
    · cases h
  · cases h
section
variable {X : Cx} {W : WX} {pos p1 apos : Pos} {a b e : Expr} {es : List Expr} {sa sb : SigE} {se : Sx} {st : Sb} {sl : Sl} {k n i j : Nat} {x m : Str} {g : GW} {f : List D → Oe D}
theorem spW_of {K : PySem.W.Frag} {mg : Str → Option Value} {F0 H0 F H : Hp} {σ : L2.St} {ρ : Sig} {w : Addr} {p p' : D} {dn un dn' un' : List D} {r : Except Str D} {xs : List V} {ds : List D} {Q : VK} (S : StOk K mg F0 H0 F H σ ρ) (hρ : ρ[j]? = some (.own (.win w p dn un))) (rs : RepAll K mg F xs ds) (hn : ds.length = n)
    (hi : isEx w ds[i]? = true) (hw : ds.all (fun d => !isW d) = true) (hg : g (ds.set i (.win w p dn un)) = some (r, .win w p' dn' un')) (fin : FinE K mg W F0 H0 F σ r (ρ.set j (.own (.win w p' dn' un'))) fun d F' H' => ∀ v, Rep K mg F' v d → Q v H') : spW K mg n i g xs H Q (fun cls d H => W cls d σ H) := by
  obtain ⟨w', hj, w0, wF, ha, wa⟩ := S.s j _ hρ
  have ha2 := ha.symm
  subst ha2
  have hi' : ds[i]? = some (.exn w) := by
    unfold isEx at hi
    split at hi
    · rename_i b hb
      rw [of_decide_eq_true hi] at hb
      exact hb
    · cases hi
  obtain ⟨v, hv, rv⟩ := rs.get hi'
  cases rv
  have hlt : i < ds.length := (List.getElem?_eq_some_iff.mp hi').1
  refine ⟨F, ds.set i (.win w p dn un), w, p, dn, un, r, p', dn', un', by rw [List.length_set]; exact hn, rs.length.trans hn, S.g.s, wa, fun x hx => ?_, hv, List.getElem?_set_self hlt, fun k v d hk hv hd => ?_, hg, ?_⟩
  · rcases List.mem_cons.mp hx with rfl | hx
    · exact wF
    · exact (S.kd j _ _ hρ hj x hx).2.1
  · rw [List.getElem?_set_ne (Ne.symm hk)] at hd
    obtain ⟨v', hv', rv⟩ := rs.get hd
    rw [hv] at hv'; cases hv'
    have := List.all_eq_true.mp hw d (List.mem_of_getElem? hd)
    exact ⟨rv, by simpa using this⟩
  · cases r with
    | ok d => exact fun v F' H' we rv => fin F' H' (S.wcall hρ we.g we.w we.f) we.g.f v rv
    | error c => exact fun C F' H' we hc => fin C F' H' (S.wcall hρ we.g we.w we.f) we.g.f hc
theorem w_call (G : FnW X.prog X.w X.K X.mg X.base k x n i g) (hr : Room k X.A) (tk : Takes X W) (ha : PA X (a :: es) (tA X.K X.mg W sl)) (hg : Gl X x := by rfl) (hdb : (x == ("__debug__" : Str)) = false := by decide)
    (he : starEach (a :: es) X.env = (false, eval a X.env) :: starEach es X.env := by rfl) (hpl : (backTo pos (starEach es X.env)).any (·.1) = false := by rfl) :
    PE X (.Call (.Name x p1) (a :: es) [] pos) (tW X.K X.mg W (wCall n i j g sl)) := by
  obtain ⟨fa, fd, ps, hF, hm, hk, hb⟩ := G.ex
  refine pe_imp (pe_callS hF hr hg hm hk hb (fun σ => passAt tk σ) ha hdb he hpl) fun σ H Q ⟨F0, H0, ρ, F, r, ρ', S, e, fin⟩ => ?_
  unfold wCall at e
  split at e
  · rename_i w p dn un hρ
    split at e
    · rename_i ds hsl
      split at e
      · rename_i hc
        simp only [Bool.and_eq_true, decide_eq_true_eq] at hc
        obtain ⟨p', dn', un', hg', rfl⟩ := after_some e
        exact ⟨expo [] ρ, F, .ok ds, S.view0, hsl, fun xs F1 H1 gr rs => spW_of (S.grow gr) hρ rs hc.1.1 hc.1.2 hc.2 hg' (fin.mo gr.f)⟩
      · cases e
    · cases e
  · cases e
theorem w_meth {pl : Sem Bool} (G : MtW X.prog X.w X.K X.mg X.base k m n g) (hr : Room k X.A) (tk : Takes X W) (ha : PA X (e :: es) (tA X.K X.mg W sl)) (hN : X.N[j]? = some x := by rfl) (hv : Vis X.env.scope x := by first | exact Or.inl rfl | exact Or.inr (Or.inl rfl) | exact Or.inr (Or.inr rfl)) (hd : (x == ("__debug__" : Str)) = false := by decide)
    (hcd : (x == ("__classdict__" : Str)) = false := by decide) (hnm : ∀ x y z : V, ([("present", x), ("done", y), ("undone", z)] : List (Str × V)).lookup m = none := by intros; rfl)
    (hst : starEach (e :: es) X.env = (false, eval e X.env) :: starEach es X.env := by rfl) (hpl : (backTo pos (starEach es X.env)).any (·.1) = false := by rfl)
    (ht : eval (.Call (.Attribute (.Name x p1) m apos) (e :: es) [] pos) X.env = (do
      let ov ← eval (.Name x p1) X.env
      standAt apos.atName
      let (f, first) ← holding [ov] (getMethod ov m pl)
      callWith pos f first (backTo pos (starEach (e :: es) X.env)) (backToKw pos (keywordEach [] X.env))) := by rfl) :
    PE X (.Call (.Attribute (.Name x p1) m apos) (e :: es) [] pos) (tW X.K X.mg W (wMeth n j g sl)) := by
  obtain ⟨C, fa, fd, ps, hW, hM, hF, hb⟩ := G.ex
  refine pe_imp (pe_methS (pe_var hN hv hd hcd) hW.c hM hF hr hb (fun σ => passAt tk σ) ha hst hpl ht) fun σ H Q ⟨F0, H0, ρ, F, r, ρ', S, e, fin⟩ => ?_
  unfold wMeth at e
  split at e
  · rename_i w p dn un hρ
    split at e
    · rename_i ds hsl
      split at e
      · rename_i hc
        simp only [Bool.and_eq_true, decide_eq_true_eq] at hc
        obtain ⟨p', dn', un', hg', rfl⟩ := after_some e
        obtain ⟨w', hj, w0, wF, hww, wa⟩ := S.s j _ hρ
        have ha2 := hww.symm
        subst ha2
        obtain ⟨C', dx, pv, dl, ul, ys, zs, h1, h2, _⟩ := wa.ex
        rw [hW.gl] at h1; cases h1
        refine ⟨.ref w, hj, w, dx, _, rfl, h2, hnm _ _ _, expo [] ρ, F, .ok ds, S.view0, hsl, fun xs F1 H1 gr rs => ?_⟩
        exact spW_of (ds := .exn w :: ds) (S.grow gr) hρ (.cons (.exn w) rs) hc.1 (by simp [isEx]) (by simpa [isW] using hc.2) hg' (fin.mo gr.f)
      · cases e
    · cases e
  · cases e
theorem w_meth0 {pl : Sem Bool} (G : MtW X.prog X.w X.K X.mg X.base k m n g) (hr : Room k X.A) (tk : Takes X W) (hN : X.N[j]? = some x := by rfl) (hv : Vis X.env.scope x := by first | exact Or.inl rfl | exact Or.inr (Or.inl rfl) | exact Or.inr (Or.inr rfl)) (hd : (x == ("__debug__" : Str)) = false := by decide)
    (hcd : (x == ("__classdict__" : Str)) = false := by decide) (hnm : ∀ x y z : V, ([("present", x), ("done", y), ("undone", z)] : List (Str × V)).lookup m = none := by intros; rfl)
    (ht : eval (.Call (.Attribute (.Name x p1) m apos) [] [] pos) X.env = (do
      let ov ← eval (.Name x p1) X.env
      standAt apos.atName
      let (f, first) ← holding [ov] (getMethod ov m pl)
      callWith pos f first (backTo pos (starEach [] X.env)) (backToKw pos (keywordEach [] X.env))) := by rfl) :
    PE X (.Call (.Attribute (.Name x p1) m apos) [] [] pos) (tW X.K X.mg W (wMeth n j g sNil)) := by
  obtain ⟨C, fa, fd, ps, hW, hM, hF, hb⟩ := G.ex
  refine pe_imp (pe_methS0 (pe_var hN hv hd hcd) hW.c hM hF hr hb (fun σ => passAt tk σ) ht) fun σ H Q ⟨F0, H0, ρ, F, r, ρ', S, e, fin⟩ => ?_
  unfold wMeth at e
  split at e
  · rename_i w p dn un hρ
    split at e
    · rename_i ds hsl
      cases hsl
      split at e
      · rename_i hc
        simp only [Bool.and_eq_true, decide_eq_true_eq] at hc
        obtain ⟨p', dn', un', hg', rfl⟩ := after_some e
        obtain ⟨w', hj, w0, wF, hww, wa⟩ := S.s j _ hρ
        have ha2 := hww.symm
        subst ha2
        obtain ⟨C', dx, pv, dl, ul, ys, zs, h1, h2, _⟩ := wa.ex
        rw [hW.gl] at h1; cases h1
        refine ⟨.ref w, hj, w, dx, _, rfl, h2, hnm _ _ _, ?_⟩
        exact spW_of (ds := [.exn w]) S hρ (.cons (.exn w) .nil) hc.1 (by simp [isEx]) (by simp [isW]) hg' fin
      · cases e
    · cases e
  · cases e
theorem rep_win {K : PySem.W.Frag} {mg : Str → Option Value} {F : Hp} {v : V} {d : D} (hw : isW d = true) (r : Rep K mg F v d) : ∃ (w C dx : Addr) (pv y z : V) (p : D) (dn un : List D), v = .ref w ∧ d = .win w p dn un ∧ mg "Window" = some (.ref C) ∧
    F w = some (.ins C dx [("present", pv), ("done", y), ("undone", z)]) ∧ Rep K mg F pv p := by
  cases r <;> first | (cases hw; done) | skip
  exact ⟨_, _, _, _, _, _, _, _, _, rfl, rfl, by assumption, by assumption, by assumption⟩
/-- w.present -/
def sPres (a : Sx) : Sx := fun ρ => bd (a ρ) fun d => match d with
  | .win _ p _ _ => some (.ok p)
  | _ => none
theorem d_pres {C : Addr} (hW : WinC X.K X.mg C) (ha : PE X a (tS X.K X.mg W se)) (hb : attributeBase a "present" X.env (eval a X.env) = eval a X.env := by rfl) : PE X (.Attribute a "present" pos) (tS X.K X.mg W (sPres se)) := by
  refine pe_imp (pe_fld ha hb) fun σ H Q ⟨ρ, F, z, v, e, fin⟩ => ?_
  refine part v e fin fun dx y F1 H1 _ e g v1 rx fin1 => ?_
  split at e
  · cases e
    cases rx with
    | win h1 h2 h3 =>
      rw [hW.gl] at h1; cases h1
      exact ⟨_, _, _, _, _, rfl, v1.e _ _ h2, hW.c, hW.np, rfl, fin1 _ F1 H1 (.refl v1.e) h3⟩
  · cases e
/-- w.m() that changes nothing -/
def sMeth0 (f : List D → Oe D) (a : Sx) : Sx := fun ρ => bd (a ρ) fun d => if isW d then f [d] else none
theorem d_meth0 {pl : Sem Bool} (G : MtD X.prog X.w X.K X.mg X.base k m 1 f) (hr : Room k X.A) (tk : Takes X W) (ha : PE X a (tS X.K X.mg W se)) (hnm : ∀ x y z : V, ([("present", x), ("done", y), ("undone", z)] : List (Str × V)).lookup m = none := by intros; rfl)
    (ht : eval (.Call (.Attribute a m apos) [] [] pos) X.env = (do
      let ov ← eval a X.env
      standAt apos.atName
      let (f, first) ← holding [ov] (getMethod ov m pl)
      callWith pos f first (backTo pos (starEach [] X.env)) (backToKw pos (keywordEach [] X.env))) := by rfl) :
    PE X (.Call (.Attribute a m apos) [] [] pos) (tS X.K X.mg W (sMeth0 f se)) := by
  obtain ⟨C, fa, fd, ps, hW, hM, hF, hb⟩ := G.ex
  refine pe_imp (pe_methS0 ha hW.c hM hF hr hb (fun σ => passAt tk σ) ht) fun σ H Q ⟨ρ, F, z, v, e, fin⟩ => ?_
  refine part v e fin fun dx y F1 H1 _ e g v1 rx fin1 => ?_
  split at e
  · rename_i hw
    obtain ⟨w', C', dx', pv, y', z', p, dn, un, rfl, rfl, h1, h2, h3⟩ := rep_win hw rx
    rw [hW.gl] at h1; cases h1
    refine ⟨_, _, _, rfl, v1.e _ _ h2, hnm _ _ _, F1, [.win w' p dn un], z, v1.e, .cons (.win hW.gl h2 h3) .nil, rfl, e, ?_⟩
    cases z with
    | ok d => exact fun u F2 H2 g2 r2 => fin1 u F2 H2 g2 r2
    | error c => exact fun C F2 H2 g2 hc => fin1 C F2 H2 g2 hc
  · cases e
/-- len(w) -/
def sLenW (f : List D → Oe D) (a : Sx) : Sx := fun ρ => bd (a ρ) fun d => if isW d then (match f [d] with
  | some (.ok (.int n)) => if decide (0 ≤ n) && decide (n < 9223372036854775808) then some (.ok (.int n)) else none
  | _ => none) else none
theorem d_lenW (G : MtD X.prog X.w X.K X.mg X.base k "__len__" 1 f) (hr : Room (k + 1) X.A) (ha : PE X a (tS X.K X.mg W se)) (hm : X.mg "len" = none) (hg : Gl X "len" := by rfl) (hv : bootBuiltins "len" = some (.builtin "len") := by decide +kernel)
    (he : starEach [a] X.env = (false, eval a X.env) :: starEach [] X.env := by rfl) (hpl : (backTo pos (starEach [] X.env)).any (·.1) = false := by rfl) :
    PE X (.Call (.Name "len" p1) [a] [] pos) (tS X.K X.mg W (sLenW f se)) := by
  obtain ⟨C, fa, fd, ps, hW, hM, hF, hb⟩ := G.ex
  refine pe_imp (pe_callB (call_lenOwn hM.at_ hM.fn hF hr hb) hg hm hv (pa_cons ha pa_nil he) (by decide) (by decide) he hpl) fun σ H Q ⟨ρ, F, z, v, e, fin⟩ => ?_
  refine part v e fin fun dx y F1 H1 _ e g v1 rx fin1 => ?_
  split at e
  · rename_i hw
    split at e
    · rename_i nn hf
      split at e
      · rename_i hc
        simp only [Bool.and_eq_true, decide_eq_true_eq] at hc
        cases e
        obtain ⟨w', C', dx', pv, y', z', p, dn, un, rfl, rfl, h1, h2, h3⟩ := rep_win hw rx
        rw [hW.gl] at h1; cases h1
        refine ⟨w', _, _, rfl, v1.e _ _ h2, F1, [.win w' p dn un], .ok (.int nn), v1.e, .cons (.win hW.gl h2 h3) .nil, rfl, hf, fun u F2 H2 g2 r2 => ?_⟩
        cases r2
        exact ⟨nn, rfl, hc.1, hc.2, fin1 (.int nn) F2 H2 g2 (.int nn)⟩
      · cases e
    · cases e
  · cases e
/-- data of a slot, as it is -/
def wVar (i : Nat) : SigE := fun ρ => match ρ[i]? with
  | some (.dat d) => some (.ok d, ρ)
  | _ => none
theorem w_var (i : Nat) (hN : X.N[i]? = some x := by rfl) (hv : Vis X.env.scope x := by first | exact Or.inl rfl | exact Or.inr (Or.inl rfl) | exact Or.inr (Or.inr rfl)) (hd : (x == ("__debug__" : Str)) = false := by decide)
    (hcd : (x == ("__classdict__" : Str)) = false := by decide) : PE X (.Name x pos) (tW X.K X.mg W (wVar i)) := by
  refine pe_imp (pe_var hN hv hd hcd) fun σ H Q ⟨F0, H0, ρ, F, r, ρ', S, e, fin⟩ => ?_
  unfold wVar at e
  split at e
  · rename_i d hd
    cases e
    obtain ⟨v, e1, rv⟩ := S.s i _ hd
    exact ⟨v, e1, fin F H S (.refl F) v rv⟩
  · cases e
/-- xs + ys, lists, frozen -/
def wCat (a b : SigE) : SigE := wBd a fun x => wBd b fun y ρ => match x, y with
  | .lst xs, .lst ys => if okLen (xs.length + ys.length) then some (.ok (.lst (xs ++ ys)), ρ) else none
  | _, _ => none
theorem w_cat (ha : PE X a (tW X.K X.mg W sa)) (hb : PE X b (tW X.K X.mg W sb)) : PE X (.BinOp a .Add b pos) (tW X.K X.mg W (wCat sa sb)) := by
  refine pe_imp (pe_op op_cat ha hb) fun σ H Q ⟨F0, H0, ρ, F, r, ρ', S, e, fin⟩ => ?_
  rcases wBd_some e with ⟨x, ρ1, ea, e1⟩ | ⟨c, ρ1, ea, hz⟩
  · refine ⟨F0, H0, ρ, F, _, ρ1, S, ea, fun F1 H1 S1 x1 v1 r1 => ?_⟩
    rcases wBd_some e1 with ⟨y, ρ2, eb, e2⟩ | ⟨c, ρ2, eb, hz⟩
    · refine ⟨F0, H0, ρ1, F1, _, ρ2, S1, eb, fun F2 H2 S2 x2 v2 r2 => ?_⟩
      split at e2
      · split at e2
        · rename_i hl
          cases e2
          cases r1 with
          | @lst l1 ys1 _ h1 q1 =>
            cases r2 with
            | @lst l2 ys2 _ h2 q2 =>
              refine ⟨_, _, _, _, rfl, rfl, S2.g.s _ _ (x2 _ _ h1), S2.g.s _ _ h2, by rw [q1.length, q2.length]; exact okLen_line hl, fun p hp => ?_⟩
              have gr : Grow F2 H2 (upd F2 p (.lst (ys1 ++ ys2))) (upd H2 p (.lst (ys1 ++ ys2))) := .both S2.g.s hp
              exact fin _ _ (S2.grow gr) ((x1.trans x2).trans gr.f) (.ref p) (.lst upd_same (((q1.mo x2).append q2).mo gr.f))
        · cases e2
      · cases e2
    · cases hz
      exact ⟨F0, H0, ρ1, F1, _, _, S1, eb, (fin.mo x1).err⟩
  · cases hz
    exact ⟨F0, H0, ρ, F, _, _, S, ea, fin.err⟩
/-! ### statements -/
def sSetW (i : Nat) (s : SigE) : Ss := fun ρ => match s ρ with
  | some (.ok d, ρ') => some (.nx (ρ'.set i (.dat d)))
  | some (.error c, ρ') => some (.ex c ρ')
  | none => none
def sRetW (s : SigE) : Ss := fun ρ => match s ρ with
  | some (.ok d, ρ') => some (.rs d ρ')
  | some (.error c, ρ') => some (.ex c ρ')
  | none => none
def sDropW (s : SigE) : Ss := fun ρ => match s ρ with
  | some (.ok _, ρ') => some (.nx ρ')
  | some (.error c, ρ') => some (.ex c ρ')
  | none => none
def sIfW (c : Sig → Option (Except Str Bool × Sig)) (a b : Ss) : Ss := fun ρ => match c ρ with
  | some (.ok t, ρ') => if t then a ρ' else b ρ'
  | some (.error c, ρ') => some (.ex c ρ')
  | none => none
theorem s_setW {i : Nat} {pos' : Pos} (hN : X.N.Nodup) (he : PE X e (tW X.K X.mg W sa)) (hi : X.N[i]? = some x := by rfl) (hx : Loc X.env.scope x := by first | exact Or.inl rfl | exact Or.inr rfl) (hs : swapsWith e (some (.Name x pos')) pos.line X.env = pure false := by rfl)
    (hf : X.fn x = true ∨ X.env.scope.names.lookup x = some .local := by first | exact .inl rfl | exact .inr rfl | assumption) : PS X (.Assign [.Name x pos'] e pos) (tP X.K X.mg W (sSetW i sa)) := by
  refine ps_imp (ps_set hN hi hx he hs hf) fun D σ H ⟨F0, H0, ρ, F, fl, S, e, post⟩ => ?_
  unfold sSetW at e
  split at e
  · rename_i d ρ' ea
    cases e
    exact ⟨F0, H0, ρ, F, _, ρ', S, ea, fun F1 H1 S1 x1 v r => post _ F1 H1 (S1.set r) x1⟩
  · rename_i c ρ' ea
    cases e
    exact ⟨F0, H0, ρ, F, _, ρ', S, ea, fun C F1 H1 S1 x1 hc => post C σ F1 H1 S1 x1 hc⟩
  · cases e
theorem s_retW (he : PE X e (tW X.K X.mg W sa)) : PS X (.Return (some e) pos) (tP X.K X.mg W (sRetW sa)) := by
  refine ps_imp (ps_ret he) fun D σ H ⟨F0, H0, ρ, F, fl, S, e, post⟩ => ?_
  unfold sRetW at e
  split at e
  · rename_i d ρ' ea
    cases e
    exact ⟨F0, H0, ρ, F, _, ρ', S, ea, fun F1 H1 S1 x1 v r => post v σ F1 H1 S1 x1 r⟩
  · rename_i c ρ' ea
    cases e
    exact ⟨F0, H0, ρ, F, _, ρ', S, ea, fun C F1 H1 S1 x1 hc => post C σ F1 H1 S1 x1 hc⟩
  · cases e
theorem s_dropW (he : PE X e (tW X.K X.mg W sa)) (hs : swapsWith e none pos.line X.env = pure false := by rfl) : PS X (.Expr e pos) (tP X.K X.mg W (sDropW sa)) := by
  refine ps_imp (ps_expr he hs) fun D σ H ⟨F0, H0, ρ, F, fl, S, e, post⟩ => ?_
  unfold sDropW at e
  split at e
  · rename_i d ρ' ea
    cases e
    exact ⟨F0, H0, ρ, F, _, ρ', S, ea, fun F1 H1 S1 x1 v r => post σ F1 H1 S1 x1⟩
  · rename_i c ρ' ea
    cases e
    exact ⟨F0, H0, ρ, F, _, ρ', S, ea, fun C F1 H1 S1 x1 hc => post C σ F1 H1 S1 x1 hc⟩
  · cases e
theorem s_ifW {c : Expr} {p q : List Stmt} {sc : Sig → Option (Except Str Bool × Sig)} {A B : Ss} (hc : PT X c (tWT X.K X.mg W sc)) (ha : PSs X p (tP X.K X.mg W A)) (hb : PSs X q (tP X.K X.mg W B)) : PS X (.If c p q pos) (tP X.K X.mg W (sIfW sc A B)) := by
  refine ps_imp (ps_if hc ha hb) fun D σ H ⟨F0, H0, ρ, F, fl, S, e, post⟩ => ?_
  unfold sIfW at e
  split at e
  · rename_i t ρ' ea
    refine ⟨F0, H0, ρ, F, _, ρ', S, ea, fun F1 H1 S1 x1 => ?_⟩
    cases t with
    | true => exact ⟨F0, H0, ρ', F1, fl, S1, e, post.mo x1⟩
    | false => exact ⟨F0, H0, ρ', F1, fl, S1, e, post.mo x1⟩
  · rename_i c ρ' ea
    cases e
    exact ⟨F0, H0, ρ, F, _, ρ', S, ea, fun C F1 H1 S1 x1 hc => post C σ F1 H1 S1 x1 hc⟩
  · cases e
/-- return e, the state kept (nothing that is shown is kept in what is handed back) -/
def sRetS (ms : List Nat) (s : Sx) : Ss := sRetW (wPure ms s)
theorem s_retS (ms : List Nat) (he : PE X e (tS X.K X.mg W se)) : PS X (.Return (some e) pos) (tP X.K X.mg W (sRetS ms se)) := s_retW (w_pure ms he)
end
end Dl
/-! DlW4: the fields of a window. -/
namespace Dl
open PySem L2
section
variable {K : PySem.W.Frag} {mg : Str → Option Value} {F0 H0 F H F' H' : Hp} {σ : L2.St} {ρ : Sig}
theorem StOk.wset (S : StOk K mg F0 H0 F H σ ρ) {i : Nat} {a : Addr} {p p' : D} {dn un dn' un' : List D} (h : ρ[i]? = some (.own (.win a p dn un))) (hk : ∀ x o, x ∉ a :: kids H a → H x = some o → H' x = some o) (w : WinAt K mg F H' a p' dn' un')
    (hn : ∀ x, x ∈ kids H' a → x ∈ kids H a ∨ H x = none) : StOk K mg F0 H0 F H' σ (ρ.set i (.own (.win a p' dn' un'))) := by
  obtain ⟨a', hp, a0, aF, ha, _⟩ := S.s i _ h
  have ha2 := ha.symm
  subst ha2
  have ka := S.kd i _ _ h hp
  have Fp : ∀ x, x ∈ a :: kids H a → F x = none := fun x hx => by
    rcases List.mem_cons.mp hx with rfl | hx
    · exact aF
    · exact (ka x hx).2.1
  refine S.wcall h ⟨.refl _, fun x o e => ?_, fun x o e => ?_, fun _ _ q => .inl q⟩ w fun x hx => ?_
  · by_cases hm : x ∈ a :: kids H a
    · rw [delH_in hm] at e; cases e
    · rw [delH_out hm] at e; exact hk x o hm e
  · exact hk x o (fun hm => by rw [Fp x hm] at e; cases e) (S.g.s x o e)
  · have dl : ∀ x, x ∈ a :: kids H a ∨ H x = none → F x = none ∧ delH H (a :: kids H a) x = none := fun x hx => by
      rcases hx with hm | hz
      · exact ⟨Fp x hm, delH_in hm⟩
      · refine ⟨S.g.s.none hz, ?_⟩
        by_cases hm : x ∈ a :: kids H a
        · exact delH_in hm
        · rw [delH_out hm]; exact hz
    rcases List.mem_cons.mp hx with rfl | hx
    · exact dl _ (.inl List.mem_cons_self)
    · rcases hn x hx with z | z
      · exact dl x (.inl (List.mem_cons_of_mem _ z))
      · exact dl x (.inr z)
theorem StOk.win (S : StOk K mg F0 H0 F H σ ρ) {i : Nat} {a : Addr} {p : D} {dn un : List D} (h : ρ[i]? = some (.own (.win a p dn un))) : σ[i]? = some (some (.ref a)) ∧ WinAt K mg F H a p dn un := by
  obtain ⟨a', hp, _, _, ha, w⟩ := S.s i _ h
  have ha2 := ha.symm
  subst ha2
  exact ⟨hp, w⟩
end
section
variable {X : Cx} {W : WX} {pos p1 p2 p3 p4 apos aq cq pos' spos : Pos} {e : Expr} {se : Sx} {i : Nat} {x : Str} {C : Addr}
/-- self.present = e -/
def sWPres (ms : List Nat) (i : Nat) (e : Sx) : Ss := fun ρ => stp ms e ρ fun d => if lf d then (match ρ[i]? with
  | some (.own (.win a p dn un)) => some (.nx (ρ.set i (.own (.win a d dn un))))
  | _ => none) else none
theorem s_wPres (ms : List Nat) (hW : WinC X.K X.mg C) (he : PE X e (tS X.K X.mg W se)) (hN : X.N[i]? = some x := by rfl) (hv : Vis X.env.scope x := by first | exact Or.inl rfl | exact Or.inr (Or.inl rfl) | exact Or.inr (Or.inr rfl)) (hd : (x == ("__debug__" : Str)) = false := by decide)
    (hcd : (x == ("__classdict__" : Str)) = false := by decide) (hs : swapsWith e (some (.Attribute (.Name x p1) "present" pos')) pos.line X.env = pure false := by rfl) :
    PS X (.Assign [.Attribute (.Name x p1) "present" pos'] e pos) (tP X.K X.mg W (sWPres ms i se)) := by
  refine ps_imp (ps_fld (pe_var hN hv hd hcd) he hs) fun D σ H ⟨F0, H0, ρ, F, fl, S, e, post⟩ => ?_
  refine stK S e post fun d v F2 H1 e gr r => ?_
  split at e
  · rename_i hl
    split at e
    · rename_i a p dn un hρ
      cases e
      obtain ⟨S', e', tp⟩ := S.seen gr
      obtain ⟨hp, w⟩ := S'.win hρ
      obtain ⟨C', dx, pv, dl, ul, xs, ys, h1, h2, h3, h4, h5, h6, h7, h8⟩ := w.ex
      rw [hW.gl] at h1; cases h1
      have hk := kids_ins h2
      refine ⟨.ref a, hp, a, C, dx, _, rfl, h2, hW.c, hW.np, by show 3 < 1000; decide, ?_⟩
      have hH : upd H1 a (.ins C dx (putF "present" v [("present", pv), ("done", .ref dl), ("undone", .ref ul)])) a = some (.ins C dx [("present", v), ("done", .ref dl), ("undone", .ref ul)]) := by rw [upd_same]; rfl
      have n1 : dl ≠ a := fun z => by rw [z, h2] at h3; cases h3
      have n2 : ul ≠ a := fun z => by rw [z, h2] at h4; cases h4
      refine post σ _ _ (S'.wset hρ (fun x o hx ho => by rw [upd_ne (fun z => hx (by rw [z]; exact List.mem_cons_self))]; exact ho) ⟨C, dx, v, dl, ul, xs, ys, hW.gl, hH, by rw [upd_ne n1]; exact h3, by rw [upd_ne n2]; exact h4, h5, Rep.lf tp _ _ hl r, h7, h8⟩ fun x hx => ?_) e'
      rw [kids_ins hH] at hx
      rw [hk]
      exact .inl hx
    · cases e
  · cases e
/-- self.done.append(self.present) -/
def sWPushD (i : Nat) : Ss := fun ρ => match ρ[i]? with
  | some (.own (.win a p dn un)) => if okLen (dn.length + 1) then some (.nx (ρ.set i (.own (.win a p (dn ++ [p]) un)))) else none
  | _ => none
theorem s_wPushD (hW : WinC X.K X.mg C) (hN : X.N[i]? = some x := by rfl) (hv : Vis X.env.scope x := by first | exact Or.inl rfl | exact Or.inr (Or.inl rfl) | exact Or.inr (Or.inr rfl)) (hd : (x == ("__debug__" : Str)) = false := by decide)
    (hcd : (x == ("__classdict__" : Str)) = false := by decide) (b1 : attributeBase (.Name x p1) "done" X.env (eval (.Name x p1) X.env) = eval (.Name x p1) X.env := by rfl) (b2 : attributeBase (.Name x p3) "present" X.env (eval (.Name x p3) X.env) = eval (.Name x p3) X.env := by rfl)
    (h1 : attributeBase (.Attribute (.Name x p1) "done" p2) "append" X.env (eval (.Attribute (.Name x p1) "done" p2) X.env) = eval (.Attribute (.Name x p1) "done" p2) X.env := by rfl)
    (h2 : ((backTo pos (starEach [.Attribute (.Name x p3) "present" p4] X.env)).all (fun x => !x.1) && (backToKw pos (keywordEach [] X.env)).all (fun x => x.1.isSome) && decide ([Expr.Attribute (.Name x p3) "present" p4].length + ([] : List Keyword).length + (if ([] : List Keyword).isEmpty then 0 else 1) < 30)) = true := by rfl)
    (h3 : (apos.endLine == pos.line) = true := by rfl) (h4 : starEach [.Attribute (.Name x p3) "present" p4] X.env = (false, eval (.Attribute (.Name x p3) "present" p4) X.env) :: starEach [] X.env := by rfl) (h5 : (backTo pos (starEach [] X.env)).any (·.1) = false := by rfl)
    (hs : swapsWith (.Call (.Attribute (.Attribute (.Name x p1) "done" p2) "append" apos) [.Attribute (.Name x p3) "present" p4] [] pos) none spos.line X.env = pure false := by rfl) :
    PS X (.Expr (.Call (.Attribute (.Attribute (.Name x p1) "done" p2) "append" apos) [.Attribute (.Name x p3) "present" p4] [] pos) spos) (tP X.K X.mg W (sWPushD i)) := by
  refine ps_imp (ps_expr (pe_bm PySem.F.plainAttrs_list PySem.F.slot_list_append PySem.F.type_list_append mt_append (pe_fld (pe_var hN hv hd hcd) b1) (pa_cons (pe_fld (pe_var hN hv hd hcd) b2) pa_nil h4) h1 h2 h3 h4 h5) hs) fun D σ H ⟨F0, H0, ρ, F, fl, S, e, post⟩ => ?_
  unfold sWPushD at e
  split at e
  · rename_i a p dn un hρ
    split at e
    · rename_i hl
      cases e
      obtain ⟨hp, w⟩ := S.win hρ
      obtain ⟨C', dx, pv, dl, ul, xs, ys, h1, h2, h3, h4, h5, h6, h7, h8⟩ := w.ex
      rw [hW.gl] at h1; cases h1
      have hk := kids_ins h2
      have n1 : dl ≠ a := fun z => by rw [z, h2] at h3; cases h3
      have n2 : ul ≠ a := fun z => by rw [z, h2] at h4; cases h4
      refine ⟨.ref a, hp, a, C, dx, _, _, rfl, h2, hW.c, hW.nd, rfl, .inl ⟨rfl, xs, .inl (.inl h3)⟩, ?_⟩
      refine ⟨.ref a, hp, a, C, dx, _, pv, rfl, h2, hW.c, hW.np, rfl, ?_⟩
      refine ⟨dl, xs, pv, rfl, rfl, h3, Nat.lt_of_lt_of_le (Nat.lt_succ_self _) (by rw [h7.length]; exact okLen_line hl), ?_⟩
      have hH : upd H dl (.lst (xs ++ [pv])) a = some (.ins C dx [("present", pv), ("done", .ref dl), ("undone", .ref ul)]) := by rw [upd_ne (Ne.symm n1)]; exact h2
      refine post σ F _ (S.wset hρ (fun x o hx ho => by rw [upd_ne (fun z => hx (by rw [z, hk]; simp))]; exact ho) ⟨C, dx, pv, dl, ul, xs ++ [pv], ys, hW.gl, hH, upd_same, by rw [upd_ne (Ne.symm h5)]; exact h4, h5, h6, h7.append (.cons h6 .nil), h8⟩ fun x hx => ?_) (.refl F)
      rw [kids_ins hH] at hx
      rw [hk]
      exact .inl hx
    · cases e
  · cases e
/-- self.present = self.done.pop() -/
def sWPopD (i : Nat) : Ss := fun ρ => match ρ[i]? with
  | some (.own (.win a p dn un)) => match dn.getLast? with
    | some d => some (.nx (ρ.set i (.own (.win a d dn.dropLast un))))
    | none => none
  | _ => none
theorem s_wPopD (hW : WinC X.K X.mg C) (hN : X.N[i]? = some x := by rfl) (hv : Vis X.env.scope x := by first | exact Or.inl rfl | exact Or.inr (Or.inl rfl) | exact Or.inr (Or.inr rfl)) (hd : (x == ("__debug__" : Str)) = false := by decide)
    (hcd : (x == ("__classdict__" : Str)) = false := by decide) (b1 : attributeBase (.Name x p3) "done" X.env (eval (.Name x p3) X.env) = eval (.Name x p3) X.env := by rfl)
    (h1 : attributeBase (.Attribute (.Name x p3) "done" p4) "pop" X.env (eval (.Attribute (.Name x p3) "done" p4) X.env) = eval (.Attribute (.Name x p3) "done" p4) X.env := by rfl) (h3 : (apos.endLine == cq.line) = true := by rfl)
    (hs : swapsWith (.Call (.Attribute (.Attribute (.Name x p3) "done" p4) "pop" apos) [] [] cq) (some (.Attribute (.Name x p1) "present" pos')) pos.line X.env = pure false := by rfl) :
    PS X (.Assign [.Attribute (.Name x p1) "present" pos'] (.Call (.Attribute (.Attribute (.Name x p3) "done" p4) "pop" apos) [] [] cq) pos) (tP X.K X.mg W (sWPopD i)) := by
  refine ps_imp (ps_fld (pe_var hN hv hd hcd) (pe_bm0 PySem.F.plainAttrs_list PySem.F.slot_list_pop PySem.F.type_list_pop mt_pop (pe_fld (pe_var hN hv hd hcd) b1) h1 h3) hs) fun D σ H ⟨F0, H0, ρ, F, fl, S, e, post⟩ => ?_
  unfold sWPopD at e
  split at e
  · rename_i a p dn un hρ
    split at e
    · rename_i d hl
      cases e
      obtain ⟨hp, w⟩ := S.win hρ
      obtain ⟨C', dx, pv, dl, ul, xs, ys, h1, h2, h3, h4, h5, h6, h7, h8⟩ := w.ex
      rw [hW.gl] at h1; cases h1
      have hk := kids_ins h2
      have n1 : dl ≠ a := fun z => by rw [z, h2] at h3; cases h3
      have n2 : ul ≠ a := fun z => by rw [z, h2] at h4; cases h4
      rw [List.getLast?_eq_getElem?] at hl
      obtain ⟨v, hv, rv⟩ := h7.get hl
      rw [← h7.length] at hv
      refine ⟨.ref a, hp, a, C, dx, _, _, rfl, h2, hW.c, hW.nd, rfl, .inl ⟨rfl, xs, .inl (.inl h3)⟩, ?_⟩
      refine ⟨dl, xs, v, rfl, rfl, h3, hv, ?_⟩
      refine ⟨.ref a, hp, a, C, dx, _, rfl, by rw [upd_ne (Ne.symm n1)]; exact h2, hW.c, hW.np, by show 3 < 1000; decide, ?_⟩
      have hH : upd (upd H dl (.lst xs.dropLast)) a (.ins C dx (putF "present" v [("present", pv), ("done", .ref dl), ("undone", .ref ul)])) a = some (.ins C dx [("present", v), ("done", .ref dl), ("undone", .ref ul)]) := by rw [upd_same]; rfl
      have rd : RepAll X.K X.mg F xs.dropLast dn.dropLast := by rw [List.dropLast_eq_take, List.dropLast_eq_take, h7.length]; exact h7.take _
      refine post σ F _ (S.wset hρ (fun x o hx ho => by rw [upd_ne (fun z => hx (by rw [z]; exact List.mem_cons_self)), upd_ne (fun z => hx (by rw [z, hk]; simp))]; exact ho) ⟨C, dx, v, dl, ul, xs.dropLast, ys, hW.gl, hH, by rw [upd_ne n1, upd_same], by rw [upd_ne n2, upd_ne (Ne.symm h5)]; exact h4, h5, rv, rd, h8⟩ fun x hx => ?_) (.refl F)
      rw [kids_ins hH] at hx
      rw [hk]
      exact .inl hx
    · cases e
  · cases e
/-- if self.done == []: .. -/
def sWIfD (i : Nat) (A B : Ss) : Ss := fun ρ => match ρ[i]? with
  | some (.own (.win a p dn un)) => if okN 10 (.lst dn) then (if dn.isEmpty then A ρ else B ρ) else none
  | _ => none
theorem s_wIfD {q r : List Stmt} {A B : Ss} (hu : X.A.units + 64 < cLine) (hW : WinC X.K X.mg C) (ha : PSs X q (tP X.K X.mg W A)) (hb : PSs X r (tP X.K X.mg W B)) (hN : X.N[i]? = some x := by rfl) (hv : Vis X.env.scope x := by first | exact Or.inl rfl | exact Or.inr (Or.inl rfl) | exact Or.inr (Or.inr rfl)) (hd : (x == ("__debug__" : Str)) = false := by decide)
    (hcd : (x == ("__classdict__" : Str)) = false := by decide) (b1 : attributeBase (.Name x p1) "done" X.env (eval (.Name x p1) X.env) = eval (.Name x p1) X.env := by rfl) :
    PS X (.If (.Compare (.Attribute (.Name x p1) "done" p2) [.Eq] [.List [] p3] p4) q r pos) (tP X.K X.mg W (sWIfD i A B)) := by
  refine ps_imp (ps_if (pt_cmpR (op_eqD hu) (pe_fld (pe_var hN hv hd hcd) b1) (pe_lst pa_nil) (nomark _)) ha hb) fun D σ H ⟨F0, H0, ρ, F, fl, S, e, post⟩ => ?_
  unfold sWIfD at e
  split at e
  · rename_i a p dn un hρ
    split at e
    · rename_i hok
      obtain ⟨hp, w⟩ := S.win hρ
      obtain ⟨C', dx, pv, dl, ul, xs, ys, h1, h2, h3, h4, h5, h6, h7, h8⟩ := w.ex
      rw [hW.gl] at h1; cases h1
      refine ⟨.ref a, hp, a, C, dx, _, _, rfl, h2, hW.c, hW.nd, rfl, Nat.zero_le _, fun q hq => ?_⟩
      have gr : Grow F H F (upd H q (.lst [])) := .only S.g.s hq
      have S2 := S.grow gr
      have d1 : Dp X.K (upd H q (.lst [])) (.ref dl) (toPy (.lst dn)) := Rep.dp 10 (.lst dn) (.ref dl) hok (.lst ((Ex.new hq) _ _ h3) (h7.mo (S.g.s.trans (.new hq))))
      have d2 : Dp X.K (upd H q (.lst [])) (.ref q) (toPy (.lst [])) := Rep.dp (mg := X.mg) 10 (.lst []) (.ref q) rfl (.lst upd_same .nil)
      refine ⟨_, _, d1, d2, ok_shaped (by decide) hok, ok_shaped (n := 10) (d := .lst []) (by decide) rfl, ?_⟩
      rw [eqv_eqN 10 _ _ hok rfl]
      refine ⟨_, rfl, ?_⟩
      cases hz : dn with
      | nil =>
        rw [hz] at e
        exact ⟨F0, H0, ρ, F, fl, S2, e, post⟩
      | cons y ys' =>
        rw [hz] at e
        exact ⟨F0, H0, ρ, F, fl, S2, e, post⟩
    · cases e
  · cases e
/-- self.undone.append(self.present) -/
def sWPushU (i : Nat) : Ss := fun ρ => match ρ[i]? with
  | some (.own (.win a p dn un)) => if okLen (un.length + 1) then some (.nx (ρ.set i (.own (.win a p dn (un ++ [p]))))) else none
  | _ => none
theorem s_wPushU (hW : WinC X.K X.mg C) (hN : X.N[i]? = some x := by rfl) (hv : Vis X.env.scope x := by first | exact Or.inl rfl | exact Or.inr (Or.inl rfl) | exact Or.inr (Or.inr rfl)) (hd : (x == ("__debug__" : Str)) = false := by decide)
    (hcd : (x == ("__classdict__" : Str)) = false := by decide) (b1 : attributeBase (.Name x p1) "undone" X.env (eval (.Name x p1) X.env) = eval (.Name x p1) X.env := by rfl) (b2 : attributeBase (.Name x p3) "present" X.env (eval (.Name x p3) X.env) = eval (.Name x p3) X.env := by rfl)
    (h1 : attributeBase (.Attribute (.Name x p1) "undone" p2) "append" X.env (eval (.Attribute (.Name x p1) "undone" p2) X.env) = eval (.Attribute (.Name x p1) "undone" p2) X.env := by rfl)
    (h2 : ((backTo pos (starEach [.Attribute (.Name x p3) "present" p4] X.env)).all (fun x => !x.1) && (backToKw pos (keywordEach [] X.env)).all (fun x => x.1.isSome) && decide ([Expr.Attribute (.Name x p3) "present" p4].length + ([] : List Keyword).length + (if ([] : List Keyword).isEmpty then 0 else 1) < 30)) = true := by rfl)
    (h3 : (apos.endLine == pos.line) = true := by rfl) (h4 : starEach [.Attribute (.Name x p3) "present" p4] X.env = (false, eval (.Attribute (.Name x p3) "present" p4) X.env) :: starEach [] X.env := by rfl) (h5 : (backTo pos (starEach [] X.env)).any (·.1) = false := by rfl)
    (hs : swapsWith (.Call (.Attribute (.Attribute (.Name x p1) "undone" p2) "append" apos) [.Attribute (.Name x p3) "present" p4] [] pos) none spos.line X.env = pure false := by rfl) :
    PS X (.Expr (.Call (.Attribute (.Attribute (.Name x p1) "undone" p2) "append" apos) [.Attribute (.Name x p3) "present" p4] [] pos) spos) (tP X.K X.mg W (sWPushU i)) := by
  refine ps_imp (ps_expr (pe_bm PySem.F.plainAttrs_list PySem.F.slot_list_append PySem.F.type_list_append mt_append (pe_fld (pe_var hN hv hd hcd) b1) (pa_cons (pe_fld (pe_var hN hv hd hcd) b2) pa_nil h4) h1 h2 h3 h4 h5) hs) fun D σ H ⟨F0, H0, ρ, F, fl, S, e, post⟩ => ?_
  unfold sWPushU at e
  split at e
  · rename_i a p dn un hρ
    split at e
    · rename_i hl
      cases e
      obtain ⟨hp, w⟩ := S.win hρ
      obtain ⟨C', dx, pv, dl, ul, xs, ys, h1, h2, h3, h4, h5, h6, h7, h8⟩ := w.ex
      rw [hW.gl] at h1; cases h1
      have hk := kids_ins h2
      have n1 : dl ≠ a := fun z => by rw [z, h2] at h3; cases h3
      have n2 : ul ≠ a := fun z => by rw [z, h2] at h4; cases h4
      refine ⟨.ref a, hp, a, C, dx, _, _, rfl, h2, hW.c, hW.nu, rfl, .inl ⟨rfl, ys, .inl (.inl h4)⟩, ?_⟩
      refine ⟨.ref a, hp, a, C, dx, _, pv, rfl, h2, hW.c, hW.np, rfl, ?_⟩
      refine ⟨ul, ys, pv, rfl, rfl, h4, Nat.lt_of_lt_of_le (Nat.lt_succ_self _) (by rw [h8.length]; exact okLen_line hl), ?_⟩
      have hH : upd H ul (.lst (ys ++ [pv])) a = some (.ins C dx [("present", pv), ("done", .ref dl), ("undone", .ref ul)]) := by rw [upd_ne (Ne.symm n2)]; exact h2
      refine post σ F _ (S.wset hρ (fun x o hx ho => by rw [upd_ne (fun z => hx (by rw [z, hk]; simp))]; exact ho) ⟨C, dx, pv, dl, ul, xs, ys ++ [pv], hW.gl, hH, by rw [upd_ne h5]; exact h3, upd_same, h5, h6, h7, h8.append (.cons h6 .nil)⟩ fun x hx => ?_) (.refl F)
      rw [kids_ins hH] at hx
      rw [hk]
      exact .inl hx
    · cases e
  · cases e
/-- self.present = self.undone.pop() -/
def sWPopU (i : Nat) : Ss := fun ρ => match ρ[i]? with
  | some (.own (.win a p dn un)) => match un.getLast? with
    | some d => some (.nx (ρ.set i (.own (.win a d dn un.dropLast))))
    | none => none
  | _ => none
theorem s_wPopU (hW : WinC X.K X.mg C) (hN : X.N[i]? = some x := by rfl) (hv : Vis X.env.scope x := by first | exact Or.inl rfl | exact Or.inr (Or.inl rfl) | exact Or.inr (Or.inr rfl)) (hd : (x == ("__debug__" : Str)) = false := by decide)
    (hcd : (x == ("__classdict__" : Str)) = false := by decide) (b1 : attributeBase (.Name x p3) "undone" X.env (eval (.Name x p3) X.env) = eval (.Name x p3) X.env := by rfl)
    (h1 : attributeBase (.Attribute (.Name x p3) "undone" p4) "pop" X.env (eval (.Attribute (.Name x p3) "undone" p4) X.env) = eval (.Attribute (.Name x p3) "undone" p4) X.env := by rfl) (h3 : (apos.endLine == cq.line) = true := by rfl)
    (hs : swapsWith (.Call (.Attribute (.Attribute (.Name x p3) "undone" p4) "pop" apos) [] [] cq) (some (.Attribute (.Name x p1) "present" pos')) pos.line X.env = pure false := by rfl) :
    PS X (.Assign [.Attribute (.Name x p1) "present" pos'] (.Call (.Attribute (.Attribute (.Name x p3) "undone" p4) "pop" apos) [] [] cq) pos) (tP X.K X.mg W (sWPopU i)) := by
  refine ps_imp (ps_fld (pe_var hN hv hd hcd) (pe_bm0 PySem.F.plainAttrs_list PySem.F.slot_list_pop PySem.F.type_list_pop mt_pop (pe_fld (pe_var hN hv hd hcd) b1) h1 h3) hs) fun D σ H ⟨F0, H0, ρ, F, fl, S, e, post⟩ => ?_
  unfold sWPopU at e
  split at e
  · rename_i a p dn un hρ
    split at e
    · rename_i d hl
      cases e
      obtain ⟨hp, w⟩ := S.win hρ
      obtain ⟨C', dx, pv, dl, ul, xs, ys, h1, h2, h3, h4, h5, h6, h7, h8⟩ := w.ex
      rw [hW.gl] at h1; cases h1
      have hk := kids_ins h2
      have n1 : dl ≠ a := fun z => by rw [z, h2] at h3; cases h3
      have n2 : ul ≠ a := fun z => by rw [z, h2] at h4; cases h4
      rw [List.getLast?_eq_getElem?] at hl
      obtain ⟨v, hv, rv⟩ := h8.get hl
      rw [← h8.length] at hv
      refine ⟨.ref a, hp, a, C, dx, _, _, rfl, h2, hW.c, hW.nu, rfl, .inl ⟨rfl, ys, .inl (.inl h4)⟩, ?_⟩
      refine ⟨ul, ys, v, rfl, rfl, h4, hv, ?_⟩
      refine ⟨.ref a, hp, a, C, dx, _, rfl, by rw [upd_ne (Ne.symm n2)]; exact h2, hW.c, hW.np, by show 3 < 1000; decide, ?_⟩
      have hH : upd (upd H ul (.lst ys.dropLast)) a (.ins C dx (putF "present" v [("present", pv), ("done", .ref dl), ("undone", .ref ul)])) a = some (.ins C dx [("present", v), ("done", .ref dl), ("undone", .ref ul)]) := by rw [upd_same]; rfl
      have rd : RepAll X.K X.mg F ys.dropLast un.dropLast := by rw [List.dropLast_eq_take, List.dropLast_eq_take, h8.length]; exact h8.take _
      refine post σ F _ (S.wset hρ (fun x o hx ho => by rw [upd_ne (fun z => hx (by rw [z]; exact List.mem_cons_self)), upd_ne (fun z => hx (by rw [z, hk]; simp))]; exact ho) ⟨C, dx, v, dl, ul, xs, ys.dropLast, hW.gl, hH, by rw [upd_ne n1, upd_ne h5]; exact h3, by rw [upd_ne n2, upd_same], h5, rv, h7, rd⟩ fun x hx => ?_) (.refl F)
      rw [kids_ins hH] at hx
      rw [hk]
      exact .inl hx
    · cases e
  · cases e
/-- if self.undone == []: .. -/
def sWIfU (i : Nat) (A B : Ss) : Ss := fun ρ => match ρ[i]? with
  | some (.own (.win a p dn un)) => if okN 10 (.lst un) then (if un.isEmpty then A ρ else B ρ) else none
  | _ => none
theorem s_wIfU {q r : List Stmt} {A B : Ss} (hu : X.A.units + 64 < cLine) (hW : WinC X.K X.mg C) (ha : PSs X q (tP X.K X.mg W A)) (hb : PSs X r (tP X.K X.mg W B)) (hN : X.N[i]? = some x := by rfl) (hv : Vis X.env.scope x := by first | exact Or.inl rfl | exact Or.inr (Or.inl rfl) | exact Or.inr (Or.inr rfl)) (hd : (x == ("__debug__" : Str)) = false := by decide)
    (hcd : (x == ("__classdict__" : Str)) = false := by decide) (b1 : attributeBase (.Name x p1) "undone" X.env (eval (.Name x p1) X.env) = eval (.Name x p1) X.env := by rfl) :
    PS X (.If (.Compare (.Attribute (.Name x p1) "undone" p2) [.Eq] [.List [] p3] p4) q r pos) (tP X.K X.mg W (sWIfU i A B)) := by
  refine ps_imp (ps_if (pt_cmpR (op_eqD hu) (pe_fld (pe_var hN hv hd hcd) b1) (pe_lst pa_nil) (nomark _)) ha hb) fun D σ H ⟨F0, H0, ρ, F, fl, S, e, post⟩ => ?_
  unfold sWIfU at e
  split at e
  · rename_i a p dn un hρ
    split at e
    · rename_i hok
      obtain ⟨hp, w⟩ := S.win hρ
      obtain ⟨C', dx, pv, dl, ul, xs, ys, h1, h2, h3, h4, h5, h6, h7, h8⟩ := w.ex
      rw [hW.gl] at h1; cases h1
      refine ⟨.ref a, hp, a, C, dx, _, _, rfl, h2, hW.c, hW.nu, rfl, Nat.zero_le _, fun q hq => ?_⟩
      have gr : Grow F H F (upd H q (.lst [])) := .only S.g.s hq
      have S2 := S.grow gr
      have d1 : Dp X.K (upd H q (.lst [])) (.ref ul) (toPy (.lst un)) := Rep.dp 10 (.lst un) (.ref ul) hok (.lst ((Ex.new hq) _ _ h4) (h8.mo (S.g.s.trans (.new hq))))
      have d2 : Dp X.K (upd H q (.lst [])) (.ref q) (toPy (.lst [])) := Rep.dp (mg := X.mg) 10 (.lst []) (.ref q) rfl (.lst upd_same .nil)
      refine ⟨_, _, d1, d2, ok_shaped (by decide) hok, ok_shaped (n := 10) (d := .lst []) (by decide) rfl, ?_⟩
      rw [eqv_eqN 10 _ _ hok rfl]
      refine ⟨_, rfl, ?_⟩
      cases hz : un with
      | nil =>
        rw [hz] at e
        exact ⟨F0, H0, ρ, F, fl, S2, e, post⟩
      | cons y ys' =>
        rw [hz] at e
        exact ⟨F0, H0, ρ, F, fl, S2, e, post⟩
    · cases e
  · cases e
/-- self.undone = [] -/
def sWClr (i : Nat) : Ss := fun ρ => match ρ[i]? with
  | some (.own (.win a p dn un)) => some (.nx (ρ.set i (.own (.win a p dn []))))
  | _ => none
theorem s_wClr (hW : WinC X.K X.mg C) (hN : X.N[i]? = some x := by rfl) (hv : Vis X.env.scope x := by first | exact Or.inl rfl | exact Or.inr (Or.inl rfl) | exact Or.inr (Or.inr rfl)) (hd : (x == ("__debug__" : Str)) = false := by decide)
    (hcd : (x == ("__classdict__" : Str)) = false := by decide) (hs : swapsWith (.List [] p3) (some (.Attribute (.Name x p1) "undone" pos')) pos.line X.env = pure false := by rfl) :
    PS X (.Assign [.Attribute (.Name x p1) "undone" pos'] (.List [] p3) pos) (tP X.K X.mg W (sWClr i)) := by
  refine ps_imp (ps_fld (pe_var hN hv hd hcd) (pe_lst pa_nil) hs) fun D σ H ⟨F0, H0, ρ, F, fl, S, e, post⟩ => ?_
  unfold sWClr at e
  split at e
  · rename_i a p dn un hρ
    cases e
    obtain ⟨hp, w⟩ := S.win hρ
    obtain ⟨C', dx, pv, dl, ul, xs, ys, h1, h2, h3, h4, h5, h6, h7, h8⟩ := w.ex
    rw [hW.gl] at h1; cases h1
    have hk := kids_ins h2
    refine ⟨Nat.zero_le _, fun q hq => ?_⟩
    have nqa : a ≠ q := fun z => by rw [← z, h2] at hq; cases hq
    have nqd : dl ≠ q := fun z => by rw [← z, h3] at hq; cases hq
    have n1 : dl ≠ a := fun z => by rw [z, h2] at h3; cases h3
    refine ⟨.ref a, hp, a, C, dx, _, rfl, by rw [upd_ne nqa]; exact h2, hW.c, hW.nu, by show 3 < 1000; decide, ?_⟩
    have hH : upd (upd H q (.lst [])) a (.ins C dx (putF "undone" (.ref q) [("present", pv), ("done", .ref dl), ("undone", .ref ul)])) a = some (.ins C dx [("present", pv), ("done", .ref dl), ("undone", .ref q)]) := by rw [upd_same]; rfl
    refine post σ F _ (S.wset hρ (fun x o hx ho => by rw [upd_ne (fun z => hx (by rw [z]; exact List.mem_cons_self)), upd_ne (fun z => by rw [z, hq] at ho; cases ho)]; exact ho) ⟨C, dx, pv, dl, q, xs, [], hW.gl, hH, by rw [upd_ne n1, upd_ne nqd]; exact h3, by rw [upd_ne (Ne.symm nqa), upd_same], nqd, h6, h7, .nil⟩ fun x hx => ?_) (.refl F)
    rw [kids_ins hH] at hx
    rw [hk]
    simp only [List.mem_cons, List.not_mem_nil, or_false] at hx ⊢
    rcases hx with rfl | rfl
    · exact .inl (.inl rfl)
    · exact .inr hq
  · cases e
end
end Dl
/-! DlW5: windows made, lists known by their addresses, try that keeps the state. -/
namespace Dl
open PySem L2
section
variable (K : PySem.W.Frag) (mg : Str → Option Value)
/-- what __init__ promises: f raises or not -/
def spInit (f : List D → Oe D) : Sp := fun vs H Q E => ∃ (F : Hp) (x C dx : Addr) (v1 v2 : V) (d1 d2 : D) (r : Except Str D), vs = [.ref x, v1, v2] ∧ mg "Window" = some (.ref C) ∧ H x = some (.ins C dx []) ∧ Ex F H ∧ F x = none ∧
  Rep K mg F v1 d1 ∧ Rep K mg F v2 d2 ∧ f [d1, d2] = some r ∧ match r with
    | .ok _ => ∀ F' H', Grow F (delH H [x]) F' H' → F' x = none → WinAt K mg F' H' x (.tup [d1, d2]) [] [] → (∀ y, y ∈ kids H' x → F' y = none ∧ H y = none) → Q .non H'
    | .error c => ∀ C' F' H', Grow F H F' H' → mg c = some (.ref C') → E (.ref C') none H'
end
structure MkW (P : Program) (w : World) (K : PySem.W.Frag) (mg : Str → Option Value) (base : Heap) (k : Nat) (f : List D → Oe D) : Prop where
  ex : ∃ (C a : Addr) (fd : FuncData) (ps : List Str), WinC K mg C ∧ Mk K C a ∧ FnOk P w K mg base (L2.CX P w) k a fd ps (spInit K mg f) ∧ Binds K fd ps []
/-- the three stores of __init__ -/
def tInit (K : PySem.W.Frag) : TS := tSeq (sFld K (tVar 0) (tTup (tCons (tVar 1) (tCons (tVar 2) tNil))) "present") (tSeq (sFld K (tVar 0) (tLst tNil) "done") (sFld K (tVar 0) (tLst tNil) "undone"))
theorem init_reads {K : PySem.W.Frag} {mg : Str → Option Value} {F H : Hp} {x C dx : Addr} {v1 v2 : V} {d1 d2 : D} {D' : Ends} (hW : WinC K mg C) (hx : H x = some (.ins C dx [])) (e : Ex F H) (hF : F x = none) (r1 : Rep K mg F v1 d1) (r2 : Rep K mg F v2 d2)
    (h : ∀ F' H', Grow F (delH H [x]) F' H' → F' x = none → WinAt K mg F' H' x (.tup [d1, d2]) [] [] → (∀ y, y ∈ kids H' x → F' y = none ∧ H y = none) → ∀ σ, D'.nx σ H') : tInit K D' [some (.ref x), some v1, some v2] H := by
  refine ⟨v1, rfl, v2, rfl, (by show 2 ≤ sizeLine; decide), fun t ht => ?_⟩
  have xt : x ≠ t := fun z => by rw [← z, hx] at ht; cases ht
  refine ⟨.ref x, rfl, x, C, dx, [], rfl, by rw [upd_ne xt]; exact hx, hW.c, hW.np, by decide, ?_⟩
  refine ⟨by decide, fun p hp => ?_⟩
  have px : x ≠ p := fun z => by rw [← z, upd_same] at hp; cases hp
  have pt : p ≠ t := fun z => by rw [z, upd_ne (Ne.symm xt), upd_same] at hp; cases hp
  have hp' : H p = none := by rw [upd_ne (Ne.symm px), upd_ne pt] at hp; exact hp
  refine ⟨.ref x, rfl, x, C, dx, _, rfl, by rw [upd_ne px, upd_same], hW.c, hW.nd, by show 1 < 1000; decide, ?_⟩
  refine ⟨by decide, fun q hq => ?_⟩
  have qx : x ≠ q := fun z => by rw [← z, upd_same] at hq; cases hq
  have qp : p ≠ q := fun z => by rw [← z, upd_ne (Ne.symm px), upd_same] at hq; cases hq
  have qt : q ≠ t := fun z => by rw [z, upd_ne (Ne.symm xt), upd_ne (Ne.symm pt), upd_ne (Ne.symm xt), upd_same] at hq; cases hq
  have hq' : H q = none := by rw [upd_ne (Ne.symm qx), upd_ne (Ne.symm qp), upd_ne (Ne.symm qx), upd_ne qt] at hq; exact hq
  refine ⟨.ref x, rfl, x, C, dx, _, rfl, by rw [upd_ne qx, upd_same], hW.c, hW.nu, by show 2 < 1000; decide, ?_⟩
  have tF : F t = none := e.none ht
  -- the heap behind
  have rT : Rep K mg (upd F t (.tup [v1, v2])) (.ref t) (.tup [d1, d2]) := .tup (.inl (.inl upd_same)) (.cons (r1.mo (.new tF)) (.cons (r2.mo (.new tF)) .nil))
  generalize hH' : upd (upd (upd (upd (upd (upd H t (.tup [v1, v2])) x (.ins C dx (putF "present" (.ref t) []))) p (.lst [])) x (.ins C dx (putF "done" (.ref p) (putF "present" (.ref t) [])))) q (.lst [])) x (.ins C dx (putF "undone" (.ref q) (putF "done" (.ref p) (putF "present" (.ref t) [])))) = H'
  have aX : H' x = some (.ins C dx [("present", .ref t), ("done", .ref p), ("undone", .ref q)]) := by rw [← hH', upd_same]; rfl
  have aQ : H' q = some (.lst []) := by rw [← hH', upd_ne (Ne.symm qx), upd_same]
  have aP : H' p = some (.lst []) := by rw [← hH', upd_ne (Ne.symm px), upd_ne qp, upd_ne (Ne.symm px), upd_same]
  have aT : H' t = some (.tup [v1, v2]) := by rw [← hH', upd_ne (Ne.symm xt), upd_ne (Ne.symm qt), upd_ne (Ne.symm xt), upd_ne (Ne.symm pt), upd_ne (Ne.symm xt), upd_same]
  have aO : ∀ y o, y ≠ x → H y = some o → H' y = some o := fun y o hy ho => by
    rw [← hH', upd_ne hy, upd_ne (fun z => by rw [z, hq'] at ho; cases ho), upd_ne hy, upd_ne (fun z => by rw [z, hp'] at ho; cases ho), upd_ne hy, upd_ne (fun z => by rw [z, ht] at ho; cases ho)]
    exact ho
  refine h (upd F t (.tup [v1, v2])) H' ⟨.new tF, fun y o hy => ?_, fun y o hy => ?_, fun y o hy => ?_⟩ (by rw [upd_ne xt]; exact hF) ⟨C, dx, .ref t, p, q, [], [], hW.gl, aX, aP, aQ, qp, rT, .nil, .nil⟩ (fun y hy => ?_) _
  · by_cases hm : y ∈ [x]
    · rw [delH_in hm] at hy; cases hy
    · rw [delH_out hm] at hy
      exact aO y o (fun z => hm (by rw [z]; simp)) hy
  · by_cases hy' : y = t
    · subst hy'; rw [upd_same] at hy; cases hy; exact aT
    · rw [upd_ne hy'] at hy
      exact aO y o (fun z => by rw [z, hF] at hy; cases hy) (e y o hy)
  · by_cases hy' : y = t
    · subst hy'
      refine .inr ?_
      rw [delH_out (by simpa using Ne.symm xt)]
      exact ht
    · rw [upd_ne hy'] at hy
      exact .inl hy
  · rw [kids_ins aX] at hy
    simp only [List.mem_cons, List.not_mem_nil, or_false] at hy
    rcases hy with rfl | rfl
    · exact ⟨by rw [upd_ne pt]; exact e.none hp', hp'⟩
    · exact ⟨by rw [upd_ne qt]; exact e.none hq', hq'⟩
theorem MkW.mkOk {P : Program} {w : World} {K : PySem.W.Frag} {mg : Str → Option Value} {base : Heap} {x qual : Str} {st : Stmt} {f : Addr} {fd : FuncData} {N ps : List Str} {k : Nat} {g : List D → Oe D} {b0 : Stmt} {rest : List Stmt} (Fu : Fun K x qual st f fd) (S : FnScope N ps (defScope st)) (hN : N.length = 3) (hps : ps.length = 3) (hst : defBody st = b0 :: rest) (hW : ∃ C, WinC K mg C)
    (hbody : ∀ (cdv : Value) (A : Around) (outer : List Env) (s : Shared) (H : Hp) (E : XK), Room k (A.deeper (PyProof.Rows.envOfC qual (defScope st) s.heap.objs.size f cdv)) →
      PS (cxOf (L2.CX P w) P w K mg base N qual (defScope st) f cdv A outer s H E) b0 (tP K mg (fun cls d _ H => E cls d H) (sDrop [] (sFn 2 g (sCons (sV 1) (sCons (sV 2) sNil))))) ∧
      PSs (cxOf (L2.CX P w) P w K mg base N qual (defScope st) f cdv A outer s H E) rest (tInit K)) : FnOk P w K mg base (L2.CX P w) (k + 1) f fd ps (spInit K mg g) := by
  refine Fu.okX S (fun vs H Q E h => ?_) (fun cdv A outer s H vs Q E hr h => ?_)
  · obtain ⟨F, x, C, dx, v1, v2, d1, d2, r, rfl, _⟩ := h
    exact hps.symm
  · obtain ⟨F, y, C, dx, v1, v2, d1, d2, r, rfl, hC, hx, e, hF, r1, r2, hg, post⟩ := h
    obtain ⟨b1, b2⟩ := hbody cdv A outer s H E hr
    refine ⟨_, by rw [hst]; exact pss_cons b1 b2, ?_⟩
    obtain ⟨C', hW⟩ := hW
    rw [hW.gl] at hC; cases hC
    have S0 := start_ok (N := N) (F := F) (H := H) (vs := [.ref y, v1, v2]) (ds := [.exn y, d1, d2]) e (.cons (.exn y) (.cons r1 (.cons r2 .nil)))
    have hs : L2.start N [V.ref y, v1, v2] = [some (.ref y), some v1, some v2] := by unfold L2.start; rw [hN]; rfl
    have hr : ([D.exn y, d1, d2].map SL.dat ++ List.replicate (N.length - [D.exn y, d1, d2].length) SL.no : Sig) = [.dat (.exn y), .dat d1, .dat d2] := by rw [hN]; rfl
    rw [hs, hr] at S0
    rw [hs]
    have hexp : sFn 2 g (sCons (sV 1) (sCons (sV 2) sNil)) (expo [] [.dat (.exn y), .dat d1, .dat d2]) = some r := by
      show (if ([d1, d2] : List D).length = 2 then g [d1, d2] else none) = some r
      exact (if_pos rfl).trans hg
    cases r with
    | ok d =>
      refine ⟨F, H, _, F, .nx [.dat (.exn y), .dat d1, .dat d2], S0, by unfold sDrop stp; rw [hexp], fun σ F1 H1 S1 x1 => ?_⟩
      have hH1 := S1.g.h _ _ hx
      have hF1 : F1 y = none := by
        cases q : F1 y with
        | none => rfl
        | some o =>
          rcases S1.g.n y o q with z | z
          · rw [hF] at z; cases z
          · rw [hx] at z; cases z
      have hσ : σ = [some (.ref y), some v1, some v2] ∨ True := .inr trivial
      obtain ⟨u0, e0, q0⟩ := S1.s 0 _ rfl
      obtain ⟨u1, e1, q1⟩ := S1.s 1 _ rfl
      obtain ⟨u2, e2, q2⟩ := S1.s 2 _ rfl
      cases q0
      have hl : σ.length = 3 := by have := S1.len; simpa using this.symm
      have hσ : σ = [some (.ref y), some u1, some u2] := by
        match σ, hl with
        | [a, b, c], _ =>
          simp at e0 e1 e2
          rw [e0, e1, e2]
      rw [hσ]
      refine init_reads hW hH1 S1.g.s hF1 q1 q2 fun F' H' g' f' w' k' σ' => ?_
      refine post F' H' ⟨S1.g.f.trans g'.f, fun z o hz => ?_, g'.s, fun z o hz => ?_⟩ f' w' fun z hz => ⟨(k' z hz).1, S1.g.h.none (k' z hz).2⟩
      · by_cases hm : z ∈ [y]
        · rw [delH_in hm] at hz; cases hz
        · rw [delH_out hm] at hz
          exact g'.h z o (by rw [delH_out hm]; exact S1.g.h z o hz)
      · rcases g'.n z o hz with q | q
        · rcases S1.g.n z o q with q | q
          · exact .inl q
          · refine .inr ?_
            by_cases hm : z ∈ [y]
            · exact delH_in hm
            · rw [delH_out hm]; exact q
        · refine .inr ?_
          by_cases hm : z ∈ [y]
          · exact delH_in hm
          · rw [delH_out hm] at q ⊢
            exact S1.g.h.none q
    | error c =>
      exact ⟨F, H, _, F, .ex c [.dat (.exn y), .dat d1, .dat d2], S0, by unfold sDrop stp; rw [hexp], fun C2 σ F1 H1 S1 x1 hc => post C2 F1 H1 S1.g hc⟩
section
variable {K : PySem.W.Frag} {mg : Str → Option Value} {F0 H0 F H F' H' : Hp} {σ : L2.St} {ρ : Sig}
/-- a new window is owned -/
theorem StOk.setWin (S : StOk K mg F0 H0 F H σ ρ) {i : Nat} {a : Addr} {p : D} {dn un : List D} (ha : H a = none) (g : Grow F H F' H') (hF : F' a = none) (w : WinAt K mg F' H' a p dn un) (hk : ∀ y, y ∈ kids H' a → F' y = none ∧ H y = none) :
    StOk K mg F0 H0 F' H' (σ.set i (some (.ref a))) (ρ.set i (.own (.win a p dn un))) := by
  have S1 := S.grow g
  have there' : ∀ x, x ∈ kids H' a → ∃ xs, H' x = some (.lst xs) := fun x hx => by
    obtain ⟨C, dx, pv, dl, ul, xs, ys, w1, w2, w3, w4, w5, _⟩ := w.ex
    rw [kids_ins w2] at hx
    simp only [List.mem_cons, List.not_mem_nil, or_false] at hx
    rcases hx with rfl | rfl
    · exact ⟨_, w3⟩
    · exact ⟨_, w4⟩
  have apart : ∀ x, x ∈ kids H' a → x ≠ a := fun x hx z => by
    obtain ⟨xs, hxs⟩ := there' x hx
    obtain ⟨C, dx, pv, dl, ul, _, _, w1, w2, _⟩ := w.ex
    rw [z, w2] at hxs; cases hxs
  have old : ∀ (j : Nat) (e : D) (q : Addr), ρ[j]? = some (.own e) → σ[j]? = some (some (.ref q)) → ∀ z, H z = none → q ≠ z ∧ z ∉ kids H' q := fun j e q h1 h2 z hz => ⟨(S.fresh hz h1 h2).1, (S.fresh hz h1 h2).2 H' g.h⟩
  have own' : ∀ (j : Nat) (e : D) (q : Addr), (ρ.set i (.own (.win a p dn un)))[j]? = some (.own e) → (σ.set i (some (.ref a)))[j]? = some (some (.ref q)) → (i = j ∧ a = q) ∨ (j ≠ i ∧ ρ[j]? = some (.own e) ∧ σ[j]? = some (some (.ref q))) := fun j e q h1 h2 => by
    by_cases hj : i = j
    · subst hj
      by_cases hi : i < ρ.length
      · rw [List.getElem?_set_self (by rw [← S.len]; exact hi)] at h2
        cases h2
        exact .inl ⟨rfl, rfl⟩
      · rw [List.getElem?_eq_none (by rw [List.length_set]; omega)] at h1; cases h1
    · rw [List.getElem?_set_ne hj] at h1 h2
      exact .inr ⟨Ne.symm hj, h1, h2⟩
  refine ⟨S1.g, fun j s e => ?_, fun j k c e q hjk h1 h2 h3 => ?_, by rw [List.length_set, List.length_set]; exact S.len, fun j c q h1 h2 x hx => ?_⟩
  · by_cases hj : i = j
    · subst hj
      by_cases hi : i < ρ.length
      · rw [List.getElem?_set_self hi] at e
        cases e
        exact ⟨a, List.getElem?_set_self (by rw [← S.len]; exact hi), S.g.h.none ha, hF, rfl, w⟩
      · rw [List.getElem?_eq_none (by rw [List.length_set]; omega)] at e; cases e
    · rw [List.getElem?_set_ne hj] at e
      have := S1.s j s e
      cases s with
      | no => trivial
      | dat c => obtain ⟨u, e1, r1⟩ := this; exact ⟨u, by rw [List.getElem?_set_ne hj]; exact e1, r1⟩
      | own c => obtain ⟨q, e1, r1⟩ := this; exact ⟨q, by rw [List.getElem?_set_ne hj]; exact e1, r1⟩
  · intro z
    rcases own' j c q h1 h3 with ⟨rfl, rfl⟩ | ⟨hj, g1, g3⟩
    · rcases own' k e a h2 z with ⟨rfl, _⟩ | ⟨hk, g2, gz⟩
      · exact hjk rfl
      · exact (old k e a g2 gz a ha).1 rfl
    · rcases own' k e q h2 z with ⟨rfl, rfl⟩ | ⟨hk, g2, gz⟩
      · exact (old j c a g1 g3 a ha).1 rfl
      · exact S.d j k c e q hjk g1 g2 g3 gz
  · rcases own' j c q h1 h2 with ⟨rfl, rfl⟩ | ⟨hj, g1, g2⟩
    · obtain ⟨xs, hxs⟩ := there' x hx
      have hz := hk x hx
      refine ⟨S.g.h.none hz.2, hz.1, ⟨_, hxs⟩, fun k e q2 z1 z2 => ?_⟩
      rcases own' k e q2 z1 z2 with ⟨rfl, rfl⟩ | ⟨hk2, y1, y2⟩
      · exact ⟨apart x hx, fun z => absurd rfl z⟩
      · have := old k e q2 y1 y2 x hz.2
        exact ⟨Ne.symm this.1, fun _ => this.2⟩
    · obtain ⟨b1, b2, b3, b4⟩ := S1.kd j c q g1 g2 x hx
      refine ⟨b1, b2, b3, fun k e q2 z1 z2 => ?_⟩
      rcases own' k e q2 z1 z2 with ⟨rfl, rfl⟩ | ⟨hk2, y1, y2⟩
      · refine ⟨fun z => ?_, fun _ hm => ?_⟩
        · subst z
          exact (old j c q g1 g2 _ ha).2 hx
        · exact (old j c q g1 g2 x (hk x hm).2).2 hx
      · exact b4 k e q2 y1 y2
end
/-- for all addresses -/
noncomputable def allA1 (g : Addr → Option Fl) : Option Fl := by
  classical exact if h : ∃ o, ∀ a, g a = some o then some h.choose else none
theorem allA1_some {g : Addr → Option Fl} {fl : Fl} (h : allA1 g = some fl) : ∀ a, g a = some fl := by
  unfold allA1 at h
  split at h
  · rename_i hx
    cases h
    exact hx.choose_spec
  · cases h
theorem allA1_of {g : Addr → Option Fl} {fl : Fl} (h : ∀ a, g a = some fl) : allA1 g = some fl := by
  have hx : ∃ o, ∀ a, g a = some o := ⟨fl, h⟩
  unfold allA1
  rw [dif_pos hx]
  have h1 := hx.choose_spec 0
  rw [h 0] at h1
  exact h1.symm
section
variable {X : Cx} {W : WX} {pos p1 p2 pos' : Pos} {a b e : Expr} {sl : Sl} {k i : Nat} {x : Str} {f : List D → Oe D} {r : Ss} {rest : List Stmt}
/-- x = Window(a, b), and what comes behind -/
noncomputable def sNewW (i : Nat) (f : List D → Oe D) (sl : Sl) (rest : Ss) : Ss := fun ρ => match sl (expo [] ρ) with
  | some (.ok [d1, d2]) => match f [d1, d2] with
    | some (.ok _) => allA1 fun a => rest (ρ.set i (.own (.win a (.tup [d1, d2]) [] [])))
    | _ => none
  | _ => none
theorem new_reads {x dx C : Addr} {H : Hp} (hx : H x = none) (hd : H dx = none) (hne : dx ≠ x) : Ex H (upd (upd H dx (.own x)) x (.ins C dx [])) := fun y o h => (Ex.new (by rw [upd_ne (Ne.symm hne)]; exact hx)) _ _ ((Ex.new hd) _ _ h)
theorem qs_newW (G : MkW X.prog X.w X.K X.mg X.base k f) (hr : Room (k + 1) X.A) (tk : Takes X W) (hN : X.N.Nodup) (ha : PA X [a, b] (tA X.K X.mg W sl)) (hrest : PSs X rest (tP X.K X.mg W r)) (hi : X.N[i]? = some x := by rfl) (hx : Loc X.env.scope x := by first | exact Or.inl rfl | exact Or.inr rfl) (hg : Gl X "Window" := by rfl)
    (hs : swapsWith (.Call (.Name "Window" p1) [a, b] [] p2) (some (.Name x pos')) pos.line X.env = pure false := by rfl) (hf : X.fn x = true ∨ X.env.scope.names.lookup x = some .local := by first | exact .inl rfl | exact .inr rfl | assumption)
    (he : starEach [a, b] X.env = (false, eval a X.env) :: starEach [b] X.env := by rfl) (hpl : (backTo p2 (starEach [b] X.env)).any (·.1) = false := by rfl) :
    PSs X (.Assign [.Name x pos'] (.Call (.Name "Window" p1) [a, b] [] p2) pos :: rest) (tP X.K X.mg W (sNewW i f sl r)) := by
  obtain ⟨C, fa, fd, ps, hW, hM, hF, hb⟩ := G.ex
  refine pss_imp (pss_cons (ps_set hN hi hx (pe_makeS hM hF hr hg hW.gl hb (fun σ => passAt tk σ) ha (by decide) he hpl) hs hf) hrest) fun D σ H ⟨F0, H0, ρ, F, fl, S, e, post⟩ => ?_
  unfold sNewW at e
  split at e
  · rename_i d1 d2 hsl
    split at e
    · rename_i d hfd
      refine ⟨expo [] ρ, F, .ok [d1, d2], S.view0, hsl, fun vs F1 H1 gr rs y dx hy hdx hne => ?_⟩
      obtain ⟨v1, v2, rfl, r1, r2⟩ := rs.two
      have S1 := S.grow gr
      have hyd : (upd H1 dx (.own y)) y = none := by rw [upd_ne (Ne.symm hne)]; exact hy
      refine ⟨F1, y, C, dx, v1, v2, d1, d2, .ok d, rfl, hW.gl, upd_same, S1.g.s.trans (new_reads hy hdx hne), S1.g.s.none hy, r1, r2, hfd, fun F' H' g' f' w' k' => ⟨rfl, ?_⟩⟩
      have g2 : Grow F1 H1 F' H' := ⟨g'.f, fun z o hz => g'.h z o (by rw [delH_out (by rw [List.mem_singleton]; exact ne_of_none hz hy), upd_ne (ne_of_none hz hy), upd_ne (ne_of_none hz hdx)]; exact hz), g'.s, fun z o hz => (g'.n z o hz).elim .inl fun q => .inr (by
        by_cases hm : z ∈ [y]
        · rw [List.mem_singleton] at hm; rw [hm]; exact hy
        · rw [delH_out hm] at q
          exact (new_reads hy hdx hne).none q)⟩
      have S2 := S1.setWin (i := i) hy g2 f' w' fun z hz => ⟨(k' z hz).1, (new_reads hy hdx hne).none (k' z hz).2⟩
      exact ⟨F0, H0, _, F', fl, S2, allA1_some e y, post.mo (gr.f.trans g'.f)⟩
    · cases e
  · cases e
/-- Window(a, b) that raises -/
def sMkErr (f : List D → Oe D) (sl : Sl) : Sx := fun ρ => bd (sl ρ) fun ds => match ds with
  | [d1, d2] => match f [d1, d2] with
    | some (.error c) => some (.error c)
    | _ => none
  | _ => none
theorem d_mkErr (G : MkW X.prog X.w X.K X.mg X.base k f) (hr : Room (k + 1) X.A) (tk : Takes X W) (ha : PA X [a, b] (tA X.K X.mg W sl)) (hg : Gl X "Window" := by rfl)
    (he : starEach [a, b] X.env = (false, eval a X.env) :: starEach [b] X.env := by rfl) (hpl : (backTo p2 (starEach [b] X.env)).any (·.1) = false := by rfl) :
    PE X (.Call (.Name "Window" p1) [a, b] [] p2) (tS X.K X.mg W (sMkErr f sl)) := by
  obtain ⟨C, fa, fd, ps, hW, hM, hF, hb⟩ := G.ex
  refine pe_imp (pe_makeS hM hF hr hg hW.gl hb (fun σ => passAt tk σ) ha (by decide) he hpl) fun σ H Q ⟨ρ, F, z, v, e, fin⟩ => ?_
  refine part v e fin fun ds vs F1 H1 _ e gr v1 rs fin1 y dx hy hdx hne => ?_
  split at e
  · rename_i d1 d2 _
    split at e
    · rename_i c hfd
      cases e
      obtain ⟨u1, u2, rfl, r1, r2⟩ := rs.two
      have hyd : (upd H1 dx (.own y)) y = none := by rw [upd_ne (Ne.symm hne)]; exact hy
      refine ⟨F1, y, C, dx, u1, u2, d1, d2, .error c, rfl, hW.gl, upd_same, v1.e.trans (new_reads hy hdx hne), v1.e.none hy, r1, r2, hfd, fun C' F' H' g' hc => fin1 C' F' H' ⟨g'.f, (new_reads hy hdx hne).trans g'.h, g'.s, fun z o hz => (g'.n z o hz).elim .inl fun q => .inr ((new_reads hy hdx hne).none q)⟩ hc⟩
    · cases e
  · cases e

/-! ### try whose clause keeps the state -/
def sTryS (N : Nat) (ks : List Nat) (b : Ss) (res : Str → Option D) : Ss := fun ρ => match b ρ with
  | some (.ex c ρ') => if ρ'.length = N then (res c).map (fun d => Fl.rs d (killS ks ρ')) else none
  | o => o
theorem s_tryS {i N : Nat} {ks : List Nat} {n x : Str} {body suite : List Stmt} {b₀ : Stmt} {np pos' : Pos} {sb : Ss} {h : Str → Addr → Ss} {res : Str → Option D} (hN : X.N.Nodup) (tk : Takes X W) (hs : X.stack = X.env :: X.outer) (hf : X.env.frame = some X.env.locals)
    (hb : ∀ (W : WX) (pn : List (Addr × Obj)) (xe : Value → Shared → Prop), Takes (X.tr pn xe) W → PassesOwn (model X.prog X.w) X.A X.env xe → PSs (X.tr pn xe) body (tP X.K X.mg W sb))
    (hsu : ∀ (c : Str) (d : D), res c = some d → ∀ (a : Addr) (oe : Obj) (cls : Value) (pn : List (Addr × Obj)), X.mg c = some cls → Zc cls none oe → (∃ vs, oe.data = .fields vs) → PSs (X.suite a ((a, oe) :: pn)) (b₀ :: suite) (tP X.K X.mg W (h c a)))
    (hres : ∀ (c : Str) (d : D), res c = some d → ∀ (a : Addr) (ρ : Sig), ρ.length = N → ∃ ρ2, h c a (ρ.set i (.dat (.exn a))) = some (.rs d ρ2) ∧ killS ks ρ2 = killS ks ρ)
    (hct : ∀ (c : Str) (d : D), res c = some d → Caught X.K X.mg c x) (hx : ∃ P : Addr, X.mg x = some (.ref P)) (hgx : Gl X x := by rfl) (hdx : (x == ("__debug__" : Str)) = false := by decide) (hi : X.N[i]? = some n := by rfl) (hln : X.env.kindOf n = some .local := by rfl) :
    PS X (.Try body [.ExceptHandler (some (.Name x np)) (some n) (b₀ :: suite) pos'] [] [] pos) (tP X.K X.mg W (sTryS N ks sb res)) := by
  obtain ⟨P, hP⟩ := hx
  refine ps_imp (ps_try_as (c := .ref P) (i := i) (ts := fun a cls d D σ H => ∃ c d', res c = some d' ∧ X.mg c = some cls ∧ d = none ∧ tP X.K X.mg W (h c a) D σ H) (Wout := W) hs hf hN hi hln ⟨hgx, hdx, .inl hP⟩ tk hb ?_) fun D σ H hh => ?_
  · intro a oe cls d pn hz hv
    refine ⟨fun pins s σ H D I q => ?_⟩
    obtain ⟨c, d', hr, hm, rfl, q⟩ := q
    exact (hsu c d' hr a oe cls pn hm hz hv).run pins s σ H D I q
  · obtain ⟨F0, H0, ρ, F, fl, S, e, post⟩ := hh
    unfold sTryS at e
    split at e
    · rename_i c ρ' eb
      split at e
      case isFalse => cases e
      rename_i hlen
      obtain ⟨d, hr, rfl⟩ := Option.map_eq_some_iff.mp e
      refine ⟨F0, H0, ρ, F, .ex c ρ', S, eb, fun C σ' F' H' S' eF hC => ?_⟩
      obtain ⟨C', P', hC', hP', hex⟩ := (hct c d hr).ex
      rw [hC] at hC'; cases hC'
      rw [hP] at hP'; cases hP'
      refine ⟨true, hex, fun _ a ha => ?_, fun z => nomatch z⟩
      obtain ⟨ρ2, h2, hk⟩ := hres c d hr a ρ' hlen
      exact ⟨c, d, hr, hC, rfl, F0, H0, ρ'.set i (.dat (.exn a)), F', .rs d ρ2, S'.set (.exn a), h2, fun v σ2 F2 H2 S2 x2 r2 => post v σ2 F2 H2 (by rw [← hk]; exact S2.kill ks) (eF.trans x2) r2⟩
    · rename_i hne
      refine ⟨F0, H0, ρ, F, fl, S, e, ?_⟩
      cases fl with
      | nx ρ' => exact post
      | bk ρ' => exact post
      | ct ρ' => exact post
      | rt d => exact post
      | rs d ρ' => exact post
      | ex c ρ' => exact (hne c ρ' e).elim
end
end Dl
/-! DlW6: owned lists under several names. -/
namespace Dl
open PySem L2
section
variable {K : PySem.W.Frag} {mg : Str → Option Value} {F0 H0 F H F' H' : Hp} {σ : L2.St} {ρ : Sig}
theorem upd_self {p : Addr} {o : HO} (h : H p = some o) : upd H p o = H := by
  funext b
  unfold upd
  split
  · rename_i e; rw [e, h]
  · rfl
/-- an owned list under another description -/
theorem StOk.reown (S : StOk K mg F0 H0 F H σ ρ) {i : Nat} {p : Addr} {c d : D} {xs : List V} (h : ρ[i]? = some (.own c)) (hp : σ[i]? = some (some (.ref p))) (hx : H p = some (.lst xs)) (o : OwnAt K mg F H p d) : StOk K mg F0 H0 F H σ (ρ.set i (.own d)) := by
  have e := upd_self hx
  have S2 := S.write (o := .lst xs) (d := d) h hp (by rw [e]; exact o)
  rw [e] at S2
  exact S2
def unX : SL → SL
  | .own (.lsx _ ds) => .own (.lst ds)
  | s => s
theorem StOk.unXs (S : StOk K mg F0 H0 F H σ ρ) : StOk K mg F0 H0 F H σ (ρ.map unX) := by
  have key : ∀ (i : Nat) (d : D), (ρ.map unX)[i]? = some (.own d) → ∃ c, ρ[i]? = some (.own c) ∧ unX (.own c) = .own d := fun i d h => by
    rw [List.getElem?_map] at h
    obtain ⟨s, hs, e⟩ := Option.map_eq_some_iff.mp h
    cases s with
    | no => cases e
    | dat c => cases e
    | own c => exact ⟨c, hs, e⟩
  refine ⟨S.g, fun i s e => ?_, fun i j d e p hij h1 h2 h3 => ?_, by rw [List.length_map]; exact S.len, S.kd.tr (fun i d p h1 h2 => ?_) (fun _ _ _ _ _ => rfl) (fun x o h => ⟨o, h⟩) fun x o h1 h2 h3 => h2⟩
  · rw [List.getElem?_map] at e
    obtain ⟨t, ht, rfl⟩ := Option.map_eq_some_iff.mp e
    have := S.s i t ht
    cases t with
    | no => exact this
    | dat c => exact this
    | own c =>
      obtain ⟨p, e1, a, b, o⟩ := this
      cases c with
      | lsx q ds => exact ⟨p, e1, a, b, o.2⟩
      | _ => exact ⟨p, e1, a, b, o⟩
  · obtain ⟨c, hc, _⟩ := key i d h1
    obtain ⟨c', hc', _⟩ := key j e h2
    exact S.d i j c c' p hij hc hc' h3
  · obtain ⟨c, hc, _⟩ := key i d h1
    exact ⟨c, hc, h2⟩
end
/-- slots that are not read any more are forgotten, addresses of lists too -/
def sUnX (ks : List Nat) (s : Ss) : Ss := fun ρ => match s ρ with
  | some (.nx ρ') => some (.nx ((killS ks ρ').map unX))
  | some (.ct ρ') => some (.ct ((killS ks ρ').map unX))
  | some (.bk ρ') => some (.bk ((killS ks ρ').map unX))
  | some (.rs d ρ') => some (.rs d ((killS ks ρ').map unX))
  | some (.ex c ρ') => some (.ex c ((killS ks ρ').map unX))
  | o => o
/-- the lists of slots i, j, by their addresses, in what comes -/
noncomputable def sAddr2 (i j : Nat) (rest : Ss) : Ss := fun ρ => match ρ[i]?, ρ[j]? with
  | some (.own (.lst ds)), some (.own (.lst es)) => if i = j then none else allA fun p q => rest ((ρ.set i (.own (.lsx p ds))).set j (.own (.lsx q es)))
  | _, _ => none
section
variable {X : Cx} {W : WX} {pos p1 apos spos pos' : Pos} {a e : Expr} {sa se : Sx} {i j t : Nat} {x y : Str} {s r : Ss} {rest : List Stmt}
theorem ss_unX (ks : List Nat) (h : PSs X rest (tP X.K X.mg W s)) : PSs X rest (tP X.K X.mg W (sUnX ks s)) := pss_imp h fun D σ H ⟨F0, H0, ρ, F, fl, S, e, post⟩ => by
  unfold sUnX at e
  split at e
  · rename_i ρ' ea; cases e; exact ⟨F0, H0, ρ, F, .nx ρ', S, ea, fun σ1 F1 H1 S1 e1 => post σ1 F1 H1 (S1.kill ks).unXs e1⟩
  · rename_i ρ' ea; cases e; exact ⟨F0, H0, ρ, F, .ct ρ', S, ea, fun σ1 F1 H1 S1 e1 => post σ1 F1 H1 (S1.kill ks).unXs e1⟩
  · rename_i ρ' ea; cases e; exact ⟨F0, H0, ρ, F, .bk ρ', S, ea, fun σ1 F1 H1 S1 e1 => post σ1 F1 H1 (S1.kill ks).unXs e1⟩
  · rename_i d ρ' ea; cases e; exact ⟨F0, H0, ρ, F, .rs d ρ', S, ea, fun v σ1 F1 H1 S1 e1 r => post v σ1 F1 H1 (S1.kill ks).unXs e1 r⟩
  · rename_i c ρ' ea; cases e; exact ⟨F0, H0, ρ, F, .ex c ρ', S, ea, fun C σ1 F1 H1 S1 e1 hc => post C σ1 F1 H1 (S1.kill ks).unXs e1 hc⟩
  · exact ⟨F0, H0, ρ, F, _, S, e, post⟩
theorem ss_addr2 (i j : Nat) (h : PSs X rest (tP X.K X.mg W r)) : PSs X rest (tP X.K X.mg W (sAddr2 i j r)) := pss_imp h fun D σ H ⟨F0, H0, ρ, F, fl, S, e, post⟩ => by
  unfold sAddr2 at e
  split at e
  · rename_i ds es hi hj
    split at e
    · cases e
    · rename_i hij
      obtain ⟨p, hp, _, _, xs, hx, rx⟩ := S.s i _ hi
      obtain ⟨q, hq, _, _, ys, hy, ry⟩ := S.s j _ hj
      have hpq : p ≠ q := fun z => by subst z; exact S.d i j _ _ p hij hi hj hp hq
      have S1 := S.reown (d := .lsx p ds) hi hp hx ⟨rfl, xs, hx, rx⟩
      have S2 := S1.reown (i := j) (c := .lst es) (d := .lsx q es) (by rw [List.getElem?_set_ne hij]; exact hj) hq hy ⟨rfl, ys, hy, ry⟩
      exact ⟨F0, H0, _, F, fl, S2, allA_some e p q hpq, post⟩
  · cases e
/-- the list behind an address -/
def findL (ρ : Rho) (p : Addr) : Option D := ρ.findSome? fun o => match o with
  | some (.lsx q ds) => if q = p then some (.lst ds) else none
  | _ => none
def sLs (s : Sx) : Sx := fun ρ => bd (s ρ) fun d => match d with
  | .exn p => lift (findL ρ p)
  | _ => none
theorem d_ls (ha : PE X a (tS X.K X.mg W sa)) : PE X a (tS X.K X.mg W (sLs sa)) := by
  refine pe_imp ha fun σ H Q ⟨ρ, F, z, v, e, fin⟩ => ?_
  refine part v e fin fun dx x F1 H1 _ e g v1 rx fin1 => ?_
  split at e
  · rename_i p _
    obtain ⟨dz, e', rfl⟩ := lift_some e
    unfold findL at e'
    obtain ⟨o, ho, e''⟩ := List.exists_of_findSome?_eq_some e'
    obtain ⟨i, hi, hio⟩ := List.getElem_of_mem ho
    have hi' : ρ[i]? = some o := by rw [List.getElem?_eq_getElem hi, hio]
    split at e''
    · rename_i q ds
      split at e''
      · rename_i hq
        cases e''
        subst hq
        obtain ⟨u, _, r⟩ := v1.v i _ hi'
        cases rx
        cases r with
        | lsx h1 h2 => exact fin1 _ F1 H1 (.refl v1.e) (.lst h1 h2)
      · cases e''
    · cases e''
  · cases e
def ownIxL (ms : List Nat) (p : Addr) (ρ : Sig) : Option Nat := ms.find? fun i => match ρ[i]? with
  | some (.own (.lsx q _)) => decide (q = p)
  | _ => false
/-- t.append(e), t a name of a list that one of the slots ms holds -/
def sAppL (ms : List Nat) (t : Nat) (e : Sx) : Ss := fun ρ => match ρ[t]? with
  | some (.dat (.exn p)) => match ownIxL ms p ρ with
    | some i => match ρ[i]? with
      | some (.own (.lsx q ds)) => if q = p then stp [] e ρ fun d => if okLen (ds.length + 1) && lf d then some (.nx (ρ.set i (.own (.lsx q (ds ++ [d]))))) else none else none
      | _ => none
    | none => none
  | _ => none
theorem s_appL (ms : List Nat) (he : PE X e (tS X.K X.mg W se)) (hN : X.N[t]? = some x := by rfl) (hv : Vis X.env.scope x := by first | exact Or.inl rfl | exact Or.inr (Or.inl rfl) | exact Or.inr (Or.inr rfl)) (hd : (x == ("__debug__" : Str)) = false := by decide)
    (hcd : (x == ("__classdict__" : Str)) = false := by decide) (h1 : attributeBase (.Name x p1) "append" X.env (eval (.Name x p1) X.env) = eval (.Name x p1) X.env := by rfl)
    (h2 : ((backTo pos (starEach [e] X.env)).all (fun x => !x.1) && (backToKw pos (keywordEach [] X.env)).all (fun x => x.1.isSome) && decide ([e].length + ([] : List Keyword).length + (if ([] : List Keyword).isEmpty then 0 else 1) < 30)) = true := by rfl)
    (h3 : (apos.endLine == pos.line) = true := by rfl) (h4 : starEach [e] X.env = (false, eval e X.env) :: starEach [] X.env := by rfl) (h5 : (backTo pos (starEach [] X.env)).any (·.1) = false := by rfl)
    (hs : swapsWith (.Call (.Attribute (.Name x p1) "append" apos) [e] [] pos) none spos.line X.env = pure false := by rfl) :
    PS X (.Expr (.Call (.Attribute (.Name x p1) "append" apos) [e] [] pos) spos) (tP X.K X.mg W (sAppL ms t se)) := by
  refine ps_imp (ps_expr (pe_bm PySem.F.plainAttrs_list PySem.F.slot_list_append PySem.F.type_list_append mt_append (pe_var (i := t) hN hv hd hcd) (pa_cons he pa_nil h4) h1 h2 h3 h4 h5) hs) fun D σ H ⟨F0, H0, ρ, F, fl, S, e, post⟩ => ?_
  unfold sAppL at e
  split at e
  · rename_i p ht
    split at e
    · rename_i i hi
      split at e
      · rename_i q ds hρ
        split at e
        · rename_i hq
          subst hq
          obtain ⟨v, hvt, rv⟩ := S.s t _ ht
          cases rv
          obtain ⟨p', hp, _, _, hpp, xs, hx, rx⟩ := S.s i _ hρ
          subst hpp
          refine ⟨_, hvt, .inl ⟨rfl, xs, .inl (.inl hx)⟩, ?_⟩
          refine stK S e post fun d v F2 H1 e gr r => ?_
          split at e
          · rename_i c
            rw [Bool.and_eq_true] at c
            cases e
            obtain ⟨S', e', tp⟩ := S.seen gr
            have hx1 : H1 p' = some (.lst xs) := gr.h _ _ hx
            refine ⟨p', xs, v, rfl, rfl, hx1, Nat.lt_of_lt_of_le (Nat.lt_succ_self _) (by rw [rx.length]; exact okLen_line c.1), ?_⟩
            exact post σ _ _ (S'.write (d := .lsx p' (ds ++ [d])) hρ hp ⟨rfl, xs ++ [v], upd_same, (rx.mo e').append (.cons (Rep.lf tp _ _ c.2 r) .nil)⟩) e'
          · cases e
        · cases e
      · cases e
    · cases e
  · cases e
/-- x = t.pop(), t a name of a list that one of the slots ms holds -/
def sPopL (i : Nat) (ms : List Nat) (t : Nat) : Ss := fun ρ => match ρ[t]? with
  | some (.dat (.exn p)) => match ownIxL ms p ρ with
    | some o => match ρ[o]? with
      | some (.own (.lsx q ds)) => if q = p then (match ds.getLast? with
        | some d => some (.nx ((ρ.set o (.own (.lsx q ds.dropLast))).set i (.dat d)))
        | none => none) else none
      | _ => none
    | none => none
  | _ => none
theorem s_popL {pn cp : Pos} (ms : List Nat) (hNd : X.N.Nodup) (hN : X.N[t]? = some x := by rfl) (hv : Vis X.env.scope x := by first | exact Or.inl rfl | exact Or.inr (Or.inl rfl) | exact Or.inr (Or.inr rfl)) (hd : (x == ("__debug__" : Str)) = false := by decide)
    (hcd : (x == ("__classdict__" : Str)) = false := by decide) (h1 : attributeBase (.Name x p1) "pop" X.env (eval (.Name x p1) X.env) = eval (.Name x p1) X.env := by rfl) (h3 : (apos.endLine == cp.line) = true := by rfl)
    (hi : X.N[i]? = some y := by rfl) (hy : Loc X.env.scope y := by first | exact Or.inl rfl | exact Or.inr rfl) (hs : swapsWith (.Call (.Attribute (.Name x p1) "pop" apos) [] [] cp) (some (.Name y pn)) pos.line X.env = pure false := by rfl)
    (hf : X.fn y = true ∨ X.env.scope.names.lookup y = some .local := by first | exact .inl rfl | exact .inr rfl | assumption) :
    PS X (.Assign [.Name y pn] (.Call (.Attribute (.Name x p1) "pop" apos) [] [] cp) pos) (tP X.K X.mg W (sPopL i ms t)) := by
  refine ps_imp (ps_set hNd hi hy (pe_bm0 PySem.F.plainAttrs_list PySem.F.slot_list_pop PySem.F.type_list_pop mt_pop (pe_var (i := t) hN hv hd hcd) h1 h3) hs hf) fun D σ H ⟨F0, H0, ρ, F, fl, S, e, post⟩ => ?_
  unfold sPopL at e
  split at e
  · rename_i p ht
    split at e
    · rename_i o ho
      split at e
      · rename_i q ds hρ
        split at e
        · rename_i hq
          subst hq
          split at e
          · rename_i d hl
            cases e
            obtain ⟨v, hvt, rv⟩ := S.s t _ ht
            cases rv
            obtain ⟨p', hp, _, _, hpp, xs, hx, rx⟩ := S.s o _ hρ
            subst hpp
            rw [List.getLast?_eq_getElem?] at hl
            obtain ⟨u, hu, ru⟩ := rx.get hl
            rw [← rx.length] at hu
            refine ⟨_, hvt, .inl ⟨rfl, xs, .inl (.inl hx)⟩, ?_⟩
            refine ⟨p', xs, u, rfl, rfl, hx, hu, ?_⟩
            have rd : RepAll X.K X.mg F xs.dropLast ds.dropLast := by rw [List.dropLast_eq_take, List.dropLast_eq_take, rx.length]; exact rx.take _
            have S2 := S.write (o := .lst xs.dropLast) (d := .lsx p' ds.dropLast) hρ hp ⟨rfl, _, upd_same, rd⟩
            exact post _ F _ (S2.set ru) (.refl F)
          · cases e
        · cases e
      · cases e
    · cases e
  · cases e
end
/-- return e, an effect in e, in a def that need not tell of its state -/
def sRetWp (s : SigE) : Ss := fun ρ => match s ρ with
  | some (.ok d, _) => some (.rt d)
  | some (.error c, ρ') => some (.ex c ρ')
  | none => none
theorem s_retWp {X : Cx} {W : WX} {pos : Pos} {e : Expr} {sa : SigE} (he : PE X e (tW X.K X.mg W sa)) : PS X (.Return (some e) pos) (tP X.K X.mg W (sRetWp sa)) := by
  refine ps_imp (ps_ret he) fun D σ H ⟨F0, H0, ρ, F, fl, S, e, post⟩ => ?_
  unfold sRetWp at e
  split at e
  · rename_i d ρ' ea
    cases e
    exact ⟨F0, H0, ρ, F, _, ρ', S, ea, fun F1 H1 S1 x1 v r => post v F1 H1 S1.g r⟩
  · rename_i c ρ' ea
    cases e
    exact ⟨F0, H0, ρ, F, _, ρ', S, ea, fun C F1 H1 S1 x1 hc => post C σ F1 H1 S1 x1 hc⟩
  · cases e
/-! ### facts of the start heap -/
structure ClsIn (K : PySem.W.Frag) : Prop where
  ex : ∃ C : Addr, PySem.W.nsIn K mainGlobals "Window" = some (some (.ref C)) ∧ Cls K C ∧ NoAttr K C "present" ∧ NoAttr K C "done" ∧ NoAttr K C "undone"
theorem clsIn {K : PySem.W.Frag} {C : Addr} (n : PySem.W.nsIn K mainGlobals "Window" = some (some (.ref C))) (a : PySem.W.plainGet K C Str.empty = true) (b : PySem.W.hasDictIn K C = true) (c : PySem.W.plainOver K C = true)
    (d : PySem.W.findIn K (.ref C) "__setattr__" = some (some (.builtin "object.__setattr__"))) (e : PySem.W.findIn K (.ref C) "present" = some none) (f : PySem.W.findIn K (.ref C) "done" = some none) (g : PySem.W.findIn K (.ref C) "undone" = some none) : ClsIn K :=
  ⟨C, n, ⟨a, b, c, d⟩, e, f, g⟩
theorem ClsIn.gl {K : PySem.W.Frag} {h : Heap} {mg : Str → Option Value} (g : ClsIn K) (X : K.In h) (G : h.Ns mainGlobals mg) : ∃ C, WinC K mg C := by
  obtain ⟨C, n, c, p, d, u⟩ := g.ex
  exact ⟨C, PySem.W.mg_of X G n, c, p, d, u⟩
structure MethIn (K : PySem.W.Frag) (m q : Str) (st : Stmt) : Prop where
  ex : ∃ (C f : Addr) (oc : Value) (od : Option Addr) (kV doc pm : Value) (an : Option Addr) (cdv ct : Value) (osl : Array (Option Value)), PySem.W.nsIn K mainGlobals "Window" = some (some (.ref C)) ∧ PySem.W.findIn K (.ref C) m = some (some (.ref f)) ∧ PySem.W.isFn K (.ref f) = true ∧
    K.lookup f = some ⟨oc, od, .func (PySem.W.fnOf m q (defArgs st) (defBody st) (defScope st) .none kV doc pm an cdv ct), osl⟩ ∧ PySem.W.codeIn K cdv q = true ∧ PySem.W.keepIn K (.ref f) = true
theorem methIn {K : PySem.W.Frag} {m q : Str} {st : Stmt} {C f : Addr} {oc : Value} {od : Option Addr} {kV doc pm : Value} {an : Option Addr} {cdv ct : Value} {osl : Array (Option Value)} (n : PySem.W.nsIn K mainGlobals "Window" = some (some (.ref C))) (a : PySem.W.findIn K (.ref C) m = some (some (.ref f))) (b : PySem.W.isFn K (.ref f) = true)
    (l : K.lookup f = some ⟨oc, od, .func (PySem.W.fnOf m q (defArgs st) (defBody st) (defScope st) .none kV doc pm an cdv ct), osl⟩) (c : PySem.W.codeIn K cdv q = true) (k : PySem.W.keepIn K (.ref f) = true) : MethIn K m q st :=
  ⟨C, f, oc, od, kV, doc, pm, an, cdv, ct, osl, n, a, b, l, c, k⟩
theorem MethIn.get {K : PySem.W.Frag} {m q : Str} {st : Stmt} {ps : List Str} {h : Heap} {mg : Str → Option Value} (g : MethIn K m q st) (X : K.In h) (G : h.Ns mainGlobals mg)
    (b : ∀ (kV doc pm : Value) (an : Option Addr) (cdv ct : Value) (us : List Value), us.length = ps.length → bindArgs (PySem.W.fnOf m q (defArgs st) (defBody st) (defScope st) .none kV doc pm an cdv ct) ⟨us, []⟩ = pure (ps.zip us)) :
    ∃ C f fd, Fun K m q st f fd ∧ mg "Window" = some (.ref C) ∧ Meth K C m f ∧ Binds K fd ps [] := by
  obtain ⟨C, f, oc, od, kV, doc, pm, an, cdv, ct, osl, n, a, i, l, c, k⟩ := g.ex
  exact ⟨C, f, _, fun_mk l c k, PySem.W.mg_of X G n, ⟨a, i, k⟩, .all (b kV doc pm an cdv ct)⟩
structure MakeIn (K : PySem.W.Frag) : Prop where
  ex : ∃ C : Addr, PySem.W.nsIn K mainGlobals "Window" = some (some (.ref C)) ∧ PySem.W.makesIn K C = true ∧ PySem.W.keepIn K (.ref C) = true
theorem makeIn {K : PySem.W.Frag} {C : Addr} (n : PySem.W.nsIn K mainGlobals "Window" = some (some (.ref C))) (a : PySem.W.makesIn K C = true) (b : PySem.W.keepIn K (.ref C) = true) : MakeIn K := ⟨C, n, a, b⟩
section
variable {P : Program} {w : World} {K : PySem.W.Frag} {mg : Str → Option Value} {base : Heap} {m q : Str} {st : Stmt} {f C C' : Addr} {fd : FuncData} {N ps : List Str} {k : Nat} {body : Ss}
/-- a method that changes nothing, by its body -/
theorem MtD.mk' (hW : WinC K mg C) (hC : mg "Window" = some (.ref C')) (hM : Meth K C' m f) (Fu : Fun K m q st f fd) (S : FnScope N ps (defScope st)) (hb : Binds K fd ps [])
    (hbody : ∀ (cdv : Value) (A : Around) (outer : List Env) (s : Shared) (H : Hp) (E : XK), Room k (A.deeper (PyProof.Rows.envOfC q (defScope st) s.heap.objs.size f cdv)) →
      PSs (cxOf (L2.CX P w) P w K mg base N q (defScope st) f cdv A outer s H E) (defBody st) (tP K mg (fun cls d _ H => E cls d H) body)) : MtD P w K mg base (k + 1) m ps.length (runD N.length body) := by
  rw [hW.gl] at hC
  cases hC
  refine ⟨C, f, fd, ps, hW, hM, ?_, hb⟩
  refine Fu.okX S (fun vs H Q E h => ?_) (fun cdv A outer s H vs Q E hr h => ⟨_, hbody cdv A outer s H E hr, ?_⟩)
  · obtain ⟨F, ds, r, _, rs, hn, _⟩ := h
    rw [rs.length]; exact hn
  · obtain ⟨F, ds, r, e, rs, hn, hf, post⟩ := h
    unfold runD at hf
    split at hf
    · rename_i ρ hb
      cases hf
      exact ⟨F, H, _, F, _, start_ok e rs, hb, fun σ' F' H' S' _ => post .non F' H' S'.g .non⟩
    · rename_i d hb
      cases hf
      exact ⟨F, H, _, F, _, start_ok e rs, hb, fun v F' H' g r => post v F' H' g r⟩
    · rename_i c ρ hb
      cases hf
      exact ⟨F, H, _, F, _, start_ok e rs, hb, fun C σ' F' H' S' _ hc => post C F' H' S'.g hc⟩
    · rename_i d ρ hb
      cases hf
      exact ⟨F, H, _, F, _, start_ok e rs, hb, fun v σ' F' H' S' _ r => post v F' H' S'.g r⟩
    · cases hf
theorem MtW.mk' (hW : WinC K mg C) (hC : mg "Window" = some (.ref C')) (hM : Meth K C' m f) (Fu : Fun K m q st f fd) (S : FnScope N ps (defScope st)) (hb : Binds K fd ps [])
    (hbody : ∀ (cdv : Value) (A : Around) (outer : List Env) (s : Shared) (H : Hp) (E : XK), Room k (A.deeper (PyProof.Rows.envOfC q (defScope st) s.heap.objs.size f cdv)) →
      PSs (cxOf (L2.CX P w) P w K mg base N q (defScope st) f cdv A outer s H E) (defBody st) (tP K mg (fun cls d _ H => E cls d H) body)) : MtW P w K mg base (k + 1) m ps.length (runW N.length 0 body) := by
  rw [hW.gl] at hC
  cases hC
  exact ⟨C, f, fd, ps, hW, hM, FnW.mkOk Fu S hbody, hb⟩
theorem FnW.mk' {x : Str} {i : Nat} (Fu : Fun K x q st f fd) (S : FnScope N ps (defScope st)) (hm : mg x = some (.ref f)) (hb : Binds K fd ps [])
    (hbody : ∀ (cdv : Value) (A : Around) (outer : List Env) (s : Shared) (H : Hp) (E : XK), Room k (A.deeper (PyProof.Rows.envOfC q (defScope st) s.heap.objs.size f cdv)) →
      PSs (cxOf (L2.CX P w) P w K mg base N q (defScope st) f cdv A outer s H E) (defBody st) (tP K mg (fun cls d _ H => E cls d H) body)) : FnW P w K mg base (k + 1) x ps.length i (runW N.length i body) :=
  ⟨f, fd, ps, FnW.mkOk Fu S hbody, hm, Fu.kp, hb⟩
theorem MkW.mk' {g : List D → Oe D} {b0 : Stmt} {rest : List Stmt} (hW : WinC K mg C) (hC : mg "Window" = some (.ref C')) (hM : Meth K C' "__init__" f) (hI : MakeIn K) {h : Heap} (X : K.In h) (G : h.Ns mainGlobals mg) (Fu : Fun K "__init__" q st f fd) (S : FnScope N ps (defScope st)) (hb : Binds K fd ps []) (hN : N.length = 3) (hps : ps.length = 3) (hst : defBody st = b0 :: rest)
    (hbody : ∀ (cdv : Value) (A : Around) (outer : List Env) (s : Shared) (H : Hp) (E : XK), Room k (A.deeper (PyProof.Rows.envOfC q (defScope st) s.heap.objs.size f cdv)) →
      PS (cxOf (L2.CX P w) P w K mg base N q (defScope st) f cdv A outer s H E) b0 (tP K mg (fun cls d _ H => E cls d H) (sDrop [] (sFn 2 g (sCons (sV 1) (sCons (sV 2) sNil))))) ∧
      PSs (cxOf (L2.CX P w) P w K mg base N q (defScope st) f cdv A outer s H E) rest (tInit K)) : MkW P w K mg base (k + 1) g := by
  rw [hW.gl] at hC
  cases hC
  obtain ⟨C2, n, mk, kp⟩ := hI.ex
  have e := PySem.W.mg_of X G n
  rw [hW.gl] at e
  cases e
  exact ⟨C, f, fd, ps, hW, ⟨mk, hM.at_, hM.fn, kp⟩, MkW.mkOk Fu S hN hps hst ⟨C, hW⟩ hbody, hb⟩
end
end Dl
/-! DlN1: defs that hand back new lists; lists of new lists; a def that changes them. -/
namespace Dl
open PySem L2
section
variable (K : PySem.W.Frag) (mg : Str → Option Value)
def spOfL (n : Nat) (f : List D → Option (List D)) : Sp := fun vs H Q E =>
  ∃ F ds r, Ex F H ∧ RepAll K mg F vs ds ∧ ds.length = n ∧ f ds = some r ∧ ∀ v F' H', Grow F H F' H' → (kL K mg).rep H F' H' v r → Q v H'
end
/-- the def x of n parameters hands back a new list, f tells its items -/
structure FnL (P : Program) (w : World) (K : PySem.W.Frag) (mg : Str → Option Value) (base : Heap) (k : Nat) (x : Str) (n : Nat) (f : List D → Option (List D)) : Prop where
  ex : ∃ (a : Addr) (fd : FuncData) (ps : List Str), FnOk P w K mg base (L2.CX P w) k a fd ps (spOfL K mg n f) ∧ mg x = some (.ref a) ∧ PySem.W.keepIn K (.ref a) = true ∧ Binds K fd ps []
def sFnL (n : Nat) (f : List D → Option (List D)) (l : Sl) : Sl := fun ρ => bd (l ρ) fun ds => if ds.length = n then (f ds).map .ok else none
abbrev Sr := Sig → Option (List D)
def sSeqR (a : Ss) (b : Sr) : Sr := fun ρ => match a ρ with
  | some (.nx ρ') => b ρ'
  | _ => none
def sRetO (i : Nat) : Sr := fun ρ => match ρ[i]? with
  | some (.own (.lst ds)) => some ds
  | _ => none
def sRetNew (se : Sl) : Sr := fun ρ => match se (expo [] ρ) with
  | some (.ok ds) => some ds
  | _ => none
def runR (n : Nat) (b : Sr) : List D → Option (List D) := fun ds => b (ds.map SL.dat ++ List.replicate (n - ds.length) SL.no)
def tR (K : PySem.W.Frag) (mg : Str → Option Value) (s : Sr) : TS := fun D σ H => ∃ F0 H0 ρ F r, StOk K mg F0 H0 F H σ ρ ∧ s ρ = some r ∧ ∀ v F' H', Grow F0 H0 F' H' → (kL K mg).rep H0 F' H' v r → D.rt v H'
section
variable {X : Cx} {W : WX} {pos p : Pos} {a : Expr} {es : List Expr} {sl : Sl} {k n : Nat} {x : Str} {f : List D → Option (List D)} {st : Stmt} {rest : List Stmt} {s1 : Ss} {s2 : Sr}
theorem l_call (G : FnL X.prog X.w X.K X.mg X.base k x n f) (hr : Room k X.A) (tk : Takes X W) (ha : PA X (a :: es) (tA X.K X.mg W sl)) (hg : Gl X x := by rfl) (hdb : (x == ("__debug__" : Str)) = false := by decide)
    (he : starEach (a :: es) X.env = (false, eval a X.env) :: starEach es X.env := by rfl) (hpl : (backTo pos (starEach es X.env)).any (·.1) = false := by rfl) :
    PE X (.Call (.Name x p) (a :: es) [] pos) (tL X.K X.mg W (sFnL n f sl)) := by
  obtain ⟨fa, fd, ps, hF, hm, hk, hb⟩ := G.ex
  refine pe_imp (pe_callS hF hr hg hm hk hb (fun σ => passAt tk σ) ha hdb he hpl) fun σ H Q ⟨ρ, F, z, v, e, fin⟩ => ?_
  refine part v e fin fun ds xs F1 H1 _ e g v1 rs fin1 => ?_
  split at e
  · rename_i hn
    obtain ⟨r, hr, rfl⟩ := Option.map_eq_some_iff.mp e
    exact ⟨F1, ds, r, v1.e, rs, hn, hr, fun v F' H' g r => fin1 v F' H' g r⟩
  · cases e
theorem ss_consR (h1 : PS X st (tP X.K X.mg W s1)) (h2 : PSs X rest (tR X.K X.mg s2)) : PSs X (st :: rest) (tR X.K X.mg (sSeqR s1 s2)) := pss_imp (pss_cons h1 h2) fun D σ H ⟨F0, H0, ρ, F, r, S, e, post⟩ => by
  unfold sSeqR at e
  split at e
  · rename_i ρ' ea
    exact ⟨F0, H0, ρ, F, .nx ρ', S, ea, fun σ1 F1 H1 S1 e1 => ⟨F0, H0, ρ', F1, r, S1, e, post⟩⟩
  · cases e
theorem s_retO {i : Nat} {p1 : Pos} (hN : X.N[i]? = some x := by rfl) (hv : Vis X.env.scope x := by first | exact Or.inl rfl | exact Or.inr (Or.inl rfl) | exact Or.inr (Or.inr rfl)) (hd : (x == ("__debug__" : Str)) = false := by decide)
    (hcd : (x == ("__classdict__" : Str)) = false := by decide) : PSs X [.Return (some (.Name x p1)) pos] (tR X.K X.mg (sRetO i)) := by
  refine pss_one (ps_imp (ps_ret (pe_var (i := i) hN hv hd hcd)) fun D σ H ⟨F0, H0, ρ, F, r, S, e, post⟩ => ?_)
  unfold sRetO at e
  split at e
  · rename_i ds hi
    cases e
    obtain ⟨q, hq, h0, hF, xs, hx, rx⟩ := S.s i _ hi
    exact ⟨.ref q, hq, post (.ref q) F H S.g ⟨q, xs, rfl, h0, hF, hx, rx⟩⟩
  · cases e
theorem s_retNew (he : PE X a (tL X.K X.mg W sl)) : PSs X [.Return (some a) pos] (tR X.K X.mg (sRetNew sl)) := by
  refine pss_one (ps_imp (ps_ret he) fun D σ H ⟨F0, H0, ρ, F, r, S, e, post⟩ => ?_)
  unfold sRetNew at e
  split at e
  · rename_i ds hs
    cases e
    refine ⟨expo [] ρ, F, .ok r, S.view0, hs, fun v F1 H1 g q => post v F1 H1 (S.g.trans g) ?_⟩
    obtain ⟨p, xs, a, b, c⟩ := q
    exact ⟨p, xs, a, S.g.h.none b, c⟩
  · cases e
end
theorem FnL.mk' {P : Program} {w : World} {K : PySem.W.Frag} {mg : Str → Option Value} {base : Heap} {x qual : Str} {st : Stmt} {f : Addr} {fd : FuncData} {N ps : List Str} {k : Nat} {body : Sr} (Fu : Fun K x qual st f fd) (S : FnScope N ps (defScope st)) (hm : mg x = some (.ref f)) (hb : Binds K fd ps [])
    (hbody : ∀ (cdv : Value) (A : Around) (outer : List Env) (s : Shared) (H : Hp) (E : XK), Room k (A.deeper (PyProof.Rows.envOfC qual (defScope st) s.heap.objs.size f cdv)) →
      PSs (cxOf (L2.CX P w) P w K mg base N qual (defScope st) f cdv A outer s H E) (defBody st) (tR K mg body)) : FnL P w K mg base (k + 1) x ps.length (runR N.length body) := by
  refine ⟨f, fd, ps, Fu.okX S (fun vs H Q E h => ?_) (fun cdv A outer s H vs Q E hr h => ⟨_, hbody cdv A outer s H E hr, ?_⟩), hm, Fu.kp, hb⟩
  · obtain ⟨F, ds, r, _, rs, hn, _⟩ := h
    rw [rs.length]; exact hn
  · obtain ⟨F, ds, r, e, rs, hn, hf, post⟩ := h
    exact ⟨F, H, _, F, _, start_ok e rs, hf, fun v F' H' g r => post v F' H' g r⟩

/-! ### three new lists in a new list -/
structure LLat (H H' : Hp) (v : V) (n : Nat × Nat × Nat) (q p1 p2 p3 : Addr) (x1 x2 x3 : List V) : Prop where
  hv : v = .ref q
  hq : H' q = some (.lst [.ref p1, .ref p2, .ref p3])
  h1 : H' p1 = some (.lst x1)
  h2 : H' p2 = some (.lst x2)
  h3 : H' p3 = some (.lst x3)
  l1 : x1.length = n.1
  l2 : x2.length = n.2.1
  l3 : x3.length = n.2.2
  n1 : H p1 = none
  n2 : H p2 = none
  n3 : H p3 = none
  d1 : p1 ≠ q ∧ p2 ≠ q ∧ p3 ≠ q
  d2 : p1 ≠ p2 ∧ p1 ≠ p3 ∧ p2 ≠ p3
def LL (H H' : Hp) (v : V) (n : Nat × Nat × Nat) : Prop := ∃ q p1 p2 p3 x1 x2 x3, LLat H H' v n q p1 p2 p3 x1 x2 x3
def spLL (K : PySem.W.Frag) (mg : Str → Option Value) (n : Nat) (f : List D → Option (Nat × Nat × Nat)) : Sp := fun vs H Q E =>
  ∃ F ds r, Ex F H ∧ RepAll K mg F vs ds ∧ ds.length = n ∧ f ds = some r ∧ ∀ v H', Ex H H' → LL H H' v r → Q v H'
structure FnLL (P : Program) (w : World) (K : PySem.W.Frag) (mg : Str → Option Value) (base : Heap) (k : Nat) (x : Str) (n : Nat) (f : List D → Option (Nat × Nat × Nat)) : Prop where
  ex : ∃ (a : Addr) (fd : FuncData) (ps : List Str), FnOk P w K mg base (L2.CX P w) k a fd ps (spLL K mg n f) ∧ mg x = some (.ref a) ∧ PySem.W.keepIn K (.ref a) = true ∧ Binds K fd ps []
abbrev S3 := Rho → Option (Nat × Nat × Nat)
def s3 (a b c : Sl) : S3 := fun ρ => match a ρ, b ρ, c ρ with
  | some (.ok x), some (.ok y), some (.ok z) => some (x.length, y.length, z.length)
  | _, _, _ => none
def t3 (K : PySem.W.Frag) (mg : Str → Option Value) (s : S3) : TE := fun σ H Q => ∃ ρ F r, View K mg F H σ ρ ∧ s ρ = some r ∧ ∀ v H', Ex H H' → LL H H' v r → Q v H'
section
variable {X : Cx} {W : WX} {pos p : Pos} {a b c : Expr} {es : List Expr} {sa sb sc sl : Sl} {k j n : Nat} {x y : Str} {f : List D → Option (Nat × Nat × Nat)}
theorem e_three (ha : PE X a (tL X.K X.mg W sa)) (hb : PE X b (tL X.K X.mg W sb)) (hc : PE X c (tL X.K X.mg W sc))
    (h1 : starEach [a, b, c] X.env = (false, eval a X.env) :: starEach [b, c] X.env := by rfl) (h2 : starEach [b, c] X.env = (false, eval b X.env) :: starEach [c] X.env := by rfl) (h3 : starEach [c] X.env = (false, eval c X.env) :: starEach [] X.env := by rfl) :
    PE X (.List [a, b, c] pos) (t3 X.K X.mg (s3 sa sb sc)) := by
  refine pe_imp (pe_lst (pa_cons ha (pa_cons hb (pa_cons hc pa_nil h3) h2) h1)) fun σ H Q ⟨ρ, F, r, v, e, fin⟩ => ?_
  unfold s3 at e
  split at e
  · rename_i d1 d2 d3 e1 e2 e3
    cases e
    refine ⟨ρ, F, .ok d1, v, e1, fun u1 F1 H1 g1 r1 => ⟨ρ, F1, .ok d2, v.mo g1, e2, fun u2 F2 H2 g2 r2 => ⟨ρ, F2, .ok d3, (v.mo g1).mo g2, e3, fun u3 F3 H3 g3 r3 => ⟨show (3 : Nat) ≤ sizeLine by decide, fun q hq => ?_⟩⟩⟩⟩
    obtain ⟨p1, x1, rfl, a1, _, b1, c1⟩ := r1
    obtain ⟨p2, x2, rfl, a2, _, b2, c2⟩ := r2
    obtain ⟨p3, x3, rfl, a3, _, b3, c3⟩ := r3
    have y1 : H3 p1 = some (.lst x1) := g3.h _ _ (g2.h _ _ b1)
    have y2 : H3 p2 = some (.lst x2) := g3.h _ _ b2
    have q1 : p1 ≠ q := ne_of_none y1 hq
    have q2 : p2 ≠ q := ne_of_none y2 hq
    have q3 : p3 ≠ q := ne_of_none b3 hq
    refine fin _ _ (((g1.h.trans g2.h).trans g3.h).trans (.new hq)) ⟨q, p1, p2, p3, x1, x2, x3, rfl, upd_same, by rw [upd_ne q1]; exact y1, by rw [upd_ne q2]; exact y2, by rw [upd_ne q3]; exact b3, c1.length, c2.length, c3.length, a1, g1.h.none a2, (g1.h.trans g2.h).none a3, ⟨q1, q2, q3⟩, ne_of_none b1 a2, ne_of_none (g2.h _ _ b1) a3, ne_of_none b2 a3⟩
  · cases e
def run3 (n : Nat) (b : S3) : List D → Option (Nat × Nat × Nat) := fun ds => b (expo [] (ds.map SL.dat ++ List.replicate (n - ds.length) SL.no))
def tR3 (K : PySem.W.Frag) (mg : Str → Option Value) (s : S3) : TS := tRet (t3 K mg s)
theorem FnLL.mk' {P : Program} {w : World} {K : PySem.W.Frag} {mg : Str → Option Value} {base : Heap} {x qual : Str} {st : Stmt} {f : Addr} {fd : FuncData} {N ps : List Str} {k : Nat} {body : S3} (Fu : Fun K x qual st f fd) (S : FnScope N ps (defScope st)) (hm : mg x = some (.ref f)) (hb : Binds K fd ps [])
    (hbody : ∀ (cdv : Value) (A : Around) (outer : List Env) (s : Shared) (H : Hp) (E : XK), Room k (A.deeper (PyProof.Rows.envOfC qual (defScope st) s.heap.objs.size f cdv)) →
      PSs (cxOf (L2.CX P w) P w K mg base N qual (defScope st) f cdv A outer s H E) (defBody st) (tR3 K mg body)) : FnLL P w K mg base (k + 1) x ps.length (run3 N.length body) := by
  refine ⟨f, fd, ps, Fu.okX S (fun vs H Q E h => ?_) (fun cdv A outer s H vs Q E hr h => ⟨_, hbody cdv A outer s H E hr, ?_⟩), hm, Fu.kp, hb⟩
  · obtain ⟨F, ds, r, _, rs, hn, _⟩ := h
    rw [rs.length]; exact hn
  · obtain ⟨F, ds, r, e, rs, hn, hf, post⟩ := h
    exact ⟨_, F, r, (start_ok e rs).view0, hf, fun v H' g r => post v H' g r⟩
/-! ### a def that changes each of three lists -/
def spCh : Sp := fun vs H Q _ => ∃ v n H0 q p1 p2 p3 x1 x2 x3, vs = [v] ∧ LLat H0 H v n q p1 p2 p3 x1 x2 x3 ∧ n.1 ≤ 1000000 ∧ n.2.1 ≤ 1000000 ∧ n.2.2 ≤ 1000000 ∧ ∀ H', (∀ y, y ≠ p1 → y ≠ p2 → y ≠ p3 → H' y = H y) → Q (.bl true) H'
structure FnCh (P : Program) (w : World) (K : PySem.W.Frag) (mg : Str → Option Value) (base : Heap) (k : Nat) (x : Str) : Prop where
  ex : ∃ (a : Addr) (fd : FuncData) (ps : List Str), FnOk P w K mg base (L2.CX P w) k a fd ps spCh ∧ mg x = some (.ref a) ∧ PySem.W.keepIn K (.ref a) = true ∧ Binds K fd ps []
/-- changed(lists(..)) -/
def sChLL (n : Nat) (f : List D → Option (Nat × Nat × Nat)) (l : Sl) : Sx := fun ρ => bd (l ρ) fun ds => if ds.length = n then (match f ds with
  | some r => if decide (r.1 ≤ 1000000) && decide (r.2.1 ≤ 1000000) && decide (r.2.2 ≤ 1000000) then some (.ok (.bl true)) else none
  | none => none) else none
theorem d_chLL {p2 pos2 : Pos} (G : FnCh X.prog X.w X.K X.mg X.base j y) (G2 : FnLL X.prog X.w X.K X.mg X.base k x n f) (hr1 : Room j X.A) (hr : Room k X.A) (tk : Takes X W) (ha : PA X (a :: es) (tA X.K X.mg W sl)) (hg : Gl X x := by rfl) (hdb : (x == ("__debug__" : Str)) = false := by decide) (hg2 : Gl X y := by rfl) (hdb2 : (y == ("__debug__" : Str)) = false := by decide)
    (he : starEach (a :: es) X.env = (false, eval a X.env) :: starEach es X.env := by rfl) (hpl : (backTo pos (starEach es X.env)).any (·.1) = false := by rfl)
    (he2 : starEach [.Call (.Name x p) (a :: es) [] pos] X.env = (false, eval (.Call (.Name x p) (a :: es) [] pos) X.env) :: starEach [] X.env := by rfl) (hpl2 : (backTo pos2 (starEach [] X.env)).any (·.1) = false := by rfl) :
    PE X (.Call (.Name y p2) [.Call (.Name x p) (a :: es) [] pos] [] pos2) (tS X.K X.mg W (sChLL n f sl)) := by
  obtain ⟨fa, fd, ps, hF, hm, hk, hb⟩ := G2.ex
  obtain ⟨fa', fd', ps', hF', hm', hk', hb'⟩ := G.ex
  have h1 := pe_callS (pos := pos) (p := p) hF hr hg hm hk hb (fun σ => passAt tk σ) ha hdb he hpl
  refine pe_imp (pe_callS (e := .Call (.Name x p) (a :: es) [] pos) (es := []) hF' hr1 hg2 hm' hk' hb' (fun σ => passAt tk σ) (pa_cons h1 pa_nil he2) hdb2 he2 hpl2) fun σ H Q ⟨ρ, F, z, v, e, fin⟩ => ?_
  refine part v e fin fun ds xs F1 H1 _ e g v1 rs fin1 => ?_
  split at e
  · rename_i hn
    split at e
    · rename_i r hr
      split at e
      · rename_i hb
        cases e
        simp only [Bool.and_eq_true, decide_eq_true_eq] at hb
        refine ⟨F1, ds, r, v1.e, rs, hn, hr, fun v H2 e2 ⟨q, p1, p2, p3, x1, x2, x3, L⟩ => ⟨v, r, H1, q, p1, p2, p3, x1, x2, x3, rfl, L, hb.1.1, hb.1.2, hb.2, fun H3 h3 => ?_⟩⟩
        have e3 : Ex H1 H3 := fun z o hz => by
          rw [h3 z (ne_of_none hz L.n1) (ne_of_none hz L.n2) (ne_of_none hz L.n3)]
          exact e2 z o hz
        exact fin1 (.bl true) F1 H3 ⟨.refl _, e3, v1.e.trans e3, fun _ _ h => .inl h⟩ (.bl true)
      · cases e
    · cases e
  · cases e
end
end Dl
/-! DlN2: w.copy(); two windows in one assignment. -/
namespace Dl
open PySem L2 PySem.Spec PyProof.Rows
/-- o.f, a target -/
def gFld (K : PySem.W.Frag) (ta : TE) (f : Str) : TG := fun y σ H Q => ta σ H fun x H2 => ∃ a C dx fs, x = .ref a ∧ H2 a = some (.ins C dx fs) ∧ Cls K C ∧ NoAttr K C f ∧ fs.length < 1000 ∧ Q σ (upd H2 a (.ins C dx (putF f y fs)))
theorem pg_fld {X : Cx} {o : Expr} {f : Str} {pos : Pos} {ta : TE} (ha : PE X o ta) : PG X (.Attribute o f pos) (gFld X.K ta f) := by
  refine ⟨fun pins s σ H v u Q I r h => ?_⟩
  have key : wpAny (model X.prog X.w) X.A (eval o X.env) (fun ov s₂ => wpAny (model X.prog X.w) X.A (setAttr ov f u) (fun _ s' => ∃ σ' H', Inv X pins σ' H' s' ∧ Q σ' H') X.xe s₂) X.xe s := by
    refine thn (ha.run pins s σ H _ I h) fun ov s2 ⟨x, H2, I2, rx, a, C, dx, fs, ex, ea, c, n, l, q2⟩ => ?_
    subst ex
    obtain rfl : ov = Value.ref a := rx
    exact setattr_ok I2 ea c n l r fun s3 I3 => ⟨σ, _, I3, q2⟩
  intro Γ p hΓ
  simp only [assign_Attribute, Sem.wp_bind', Sem.wp_holding, Sem.wp_cmd_standAt, Sem.wp_release, Sem.wp_pure']
  exact Sem.wp_mono (model X.prog X.w) Γ _ (fun ov _ s₂ h₂ => h₂ Γ _ hΓ) (fun _ _ _ h' => h') _ _ (key Γ p hΓ)
section
variable (K : PySem.W.Frag) (mg : Str → Option Value)
def NewWin (H F' H' : Hp) (v : V) (p : D) (dn un : List D) : Prop := ∃ b, v = .ref b ∧ H b = none ∧ F' b = none ∧ WinAt K mg F' H' b p dn un ∧ ∀ y, y ∈ kids H' b → F' y = none ∧ H y = none
/-- what copy promises -/
def spCp (f : List D → Oe D) : Sp := fun vs H Q E => ∃ (F : Hp) (a : Addr) (d1 d2 : D) (dn un : List D) (x : D), vs = [.ref a] ∧ Ex F H ∧ WinAt K mg F H a (.tup [d1, d2]) dn un ∧ (∀ z, z ∈ a :: kids H a → F z = none) ∧ f [d1, d2] = some (.ok x) ∧
  lf d1 = true ∧ lf d2 = true ∧ ∀ v F' H', Grow F H F' H' → NewWin K mg H F' H' v (.tup [d1, d2]) dn un → Q v H'
end
structure CpW (P : Program) (w : World) (K : PySem.W.Frag) (mg : Str → Option Value) (base : Heap) (k : Nat) (m : Str) (f : List D → Oe D) : Prop where
  ex : ∃ (C a : Addr) (fd : FuncData) (ps : List Str), WinC K mg C ∧ Meth K C m a ∧ FnOk P w K mg base (L2.CX P w) k a fd ps (spCp K mg f) ∧ Binds K fd ps []
/-- the body of copy -/
def tCopy (K : PySem.W.Frag) (C : Addr) (sp : Sp) (E : L2.St → XK) (ta : TA) : TS :=
  tSeq (tAsg (tMakeS C sp E ta) (gName 1)) (tSeq (tAsg (tTup (tCons (tCB (fun xs H Q => ∃ p ys, xs = [.ref p] ∧ (SqL K H p ys ∨ SqT K H p ys) ∧ ∀ l, H l = none → Q (.ref l) (upd H l (.lst ys))) (tCons (tFld K (tVar 0) "done") tNil)) (tCons (tCB (fun xs H Q => ∃ p ys, xs = [.ref p] ∧ (SqL K H p ys ∨ SqT K H p ys) ∧ ∀ l, H l = none → Q (.ref l) (upd H l (.lst ys))) (tCons (tFld K (tVar 0) "undone") tNil)) tNil)))
    (gTup K 2 (gCons (gFld K (tVar 1) "done") (gCons (gFld K (tVar 1) "undone") gNil)))) (tRet (tVar 1)))
section
variable {K : PySem.W.Frag} {mg : Str → Option Value} {F H : Hp} {W : WX}
theorem copy_reads {N : List Str} {f : List D → Oe D} {a C : Addr} {d1 d2 x : D} {dn un : List D} {E : L2.St → XK} {D' : Ends} (hN : N.length = 2) (hW : WinC K mg C) (e : Ex F H) (w : WinAt K mg F H a (.tup [d1, d2]) dn un) (hf : ∀ z, z ∈ a :: kids H a → F z = none) (hg : f [d1, d2] = some (.ok x))
    (l1 : lf d1 = true) (l2 : lf d2 = true) (post : ∀ v F' H', Grow F H F' H' → NewWin K mg H F' H' v (.tup [d1, d2]) dn un → D'.rt v H') :
    tCopy K C (spInit K mg f) E (tA K mg W (sCons (sOp dIx (sPres (sV 0)) (sC (.int 0))) (sCons (sOp dIx (sPres (sV 0)) (sC (.int 1))) sNil))) D' (L2.start N [.ref a]) H := by
  have S0 := start_okW (K := K) (mg := mg) (N := N) (vs := [.ref a]) (ds := [.win a (.tup [d1, d2]) dn un]) (i := 0) rfl e w hf rfl rfl (fun j v d hj hv hd => by
    cases j with
    | zero => exact (hj rfl).elim
    | succ j => cases hv)
  have hs : L2.start N [V.ref a] = [some (.ref a), none] := by unfold L2.start; rw [hN]; rfl
  have hr : ([D.win a (.tup [d1, d2]) dn un].map slOf ++ List.replicate (N.length - [D.win a (.tup [d1, d2]) dn un].length) SL.no : Sig) = [.own (.win a (.tup [d1, d2]) dn un), .no] := by rw [hN]; rfl
  rw [hs, hr] at S0
  rw [hs]
  have ev : sCons (sOp dIx (sPres (sV 0)) (sC (.int 0))) (sCons (sOp dIx (sPres (sV 0)) (sC (.int 1))) sNil) (expo [0] [.own (.win a (.tup [d1, d2]) dn un), .no]) = some (.ok [d1, d2]) := rfl
  refine ⟨_, _, .ok [d1, d2], S0.view [0], ev, fun vs F1 H1 gr rs y dx hy hdx hne => ?_⟩
  obtain ⟨S1, e1, tp⟩ := S0.seen gr
  obtain ⟨v1, v2, rfl, r1, r2⟩ := RepAll.two rs
  have r1' := Rep.lf tp _ _ l1 r1
  have r2' := Rep.lf tp _ _ l2 r2
  generalize delH F1 (ownAddrs [0] [.own (.win a (.tup [d1, d2]) dn un), .no] [some (.ref a), none]) = G at *
  have hyd : (upd H1 dx (.own y)) y = none := by rw [upd_ne (Ne.symm hne)]; exact hy
  refine ⟨G, y, C, dx, v1, v2, d1, d2, .ok x, rfl, hW.gl, upd_same, S1.g.s.trans (new_reads hy hdx hne), S1.g.s.none hy, r1', r2', hg, fun F' H' g' f' w' k' => ⟨rfl, ?_⟩⟩
  have g2 : Grow G H1 F' H' := ⟨g'.f, fun z o hz => g'.h z o (by rw [delH_out (by rw [List.mem_singleton]; exact ne_of_none hz hy), upd_ne (ne_of_none hz hy), upd_ne (ne_of_none hz hdx)]; exact hz), g'.s, fun z o hz => (g'.n z o hz).elim .inl fun q => .inr (by
    by_cases hm : z ∈ [y]
    · rw [List.mem_singleton] at hm; rw [hm]; exact hy
    · rw [delH_out hm] at q
      exact (new_reads hy hdx hne).none q)⟩
  have S2 := S1.setWin (i := 1) hy g2 f' w' fun z hz => ⟨(k' z hz).1, (new_reads hy hdx hne).none (k' z hz).2⟩
  have hH : Ex H H' := gr.h.trans g2.h
  have hyH : H y = none := gr.h.none hy
  -- the window as it stands
  obtain ⟨q, hq, _, hFa, hqa, wa⟩ := S2.s 0 _ rfl
  cases hq
  clear hqa
  obtain ⟨C1, dx1, pv, dl, ul, xs, ys, c1, c2, c3, c4, c5, c6, c7, c8⟩ := wa.ex
  rw [hW.gl] at c1; cases c1
  obtain ⟨C3, dx3, pv3, dl3, ul3, xs3, ys3, b1, b2, b3, b4, b5, b6, b7, b8⟩ := w'.ex
  rw [hW.gl] at b1; cases b1
  have ay : a ≠ y := fun z => by
    subst z
    obtain ⟨_, _, _, _, _, _, _, _, t2, _⟩ := w.ex
    rw [hyH] at t2; cases t2
  refine ⟨_, rfl, a, C, dx1, _, _, rfl, c2, hW.c, hW.nd, rfl, ?_⟩
  refine ⟨dl, xs, rfl, .inl (.inl (.inl c3)), fun p1 hp1 => ?_⟩
  have n1 : ∀ {z : Addr} {o : HO}, H' z = some o → z ≠ p1 := fun hz => ne_of_none hz hp1
  refine ⟨_, rfl, a, C, dx1, _, _, rfl, (by rw [upd_ne (n1 c2)]; exact c2), hW.c, hW.nu, rfl, ?_⟩
  refine ⟨ul, ys, rfl, .inl (.inl (.inl (by rw [upd_ne (n1 c4)]; exact c4))), fun p2 hp2 => ?_⟩
  have p12 : p1 ≠ p2 := fun z => by rw [← z, upd_same] at hp2; cases hp2
  have hp2' : H' p2 = none := by rw [upd_ne (Ne.symm p12)] at hp2; exact hp2
  have n2 : ∀ {z : Addr} {o : HO}, H' z = some o → z ≠ p2 := fun hz => ne_of_none hz hp2'
  refine ⟨(by show 2 ≤ sizeLine; decide), fun t ht => ?_⟩
  have tp1 : p1 ≠ t := fun z => by rw [← z, upd_ne p12, upd_same] at ht; cases ht
  have tp2 : p2 ≠ t := fun z => by rw [← z, upd_same] at ht; cases ht
  have ht' : H' t = none := by rw [upd_ne (Ne.symm tp2), upd_ne (Ne.symm tp1)] at ht; exact ht
  have nt : ∀ {z : Addr} {o : HO}, H' z = some o → z ≠ t := fun hz => ne_of_none hz ht'
  have hy3 : upd (upd (upd H' p1 (.lst xs)) p2 (.lst ys)) t (.tup [.ref p1, .ref p2]) y = some (.ins C dx3 [("present", pv3), ("done", .ref dl3), ("undone", .ref ul3)]) := by
    rw [upd_ne (nt b2), upd_ne (n2 b2), upd_ne (n1 b2)]; exact b2
  refine ⟨t, [.ref p1, .ref p2], rfl, .inl (.inl upd_same), rfl, ?_⟩
  refine ⟨.ref p1, [.ref p2], rfl, .ref y, rfl, y, C, dx3, _, rfl, hy3, hW.c, hW.nd, (by show 3 < 1000; decide), ?_⟩
  refine ⟨.ref p2, [], rfl, .ref y, rfl, y, C, dx3, _, rfl, upd_same, hW.c, hW.nu, (by show 3 < 1000; decide), ?_⟩
  refine ⟨rfl, .ref y, rfl, ?_⟩
  generalize hH6 : upd (upd (upd (upd (upd H' p1 (.lst xs)) p2 (.lst ys)) t (.tup [.ref p1, .ref p2])) y (.ins C dx3 (putF "done" (.ref p1) [("present", pv3), ("done", .ref dl3), ("undone", .ref ul3)]))) y (.ins C dx3 (putF "undone" (.ref p2) (putF "done" (.ref p1) [("present", pv3), ("done", .ref dl3), ("undone", .ref ul3)]))) = H6
  have yp1 : p1 ≠ y := Ne.symm (n1 b2)
  have yp2 : p2 ≠ y := Ne.symm (n2 b2)
  have a6 : H6 y = some (.ins C dx3 [("present", pv3), ("done", .ref p1), ("undone", .ref p2)]) := by rw [← hH6, upd_same]; rfl
  have a1 : H6 p1 = some (.lst xs) := by rw [← hH6, upd_ne yp1, upd_ne yp1, upd_ne tp1, upd_ne p12, upd_same]
  have a2 : H6 p2 = some (.lst ys) := by rw [← hH6, upd_ne yp2, upd_ne yp2, upd_ne tp2, upd_same]
  have old : ∀ z o, z ≠ y → H' z = some o → H6 z = some o := fun z o hz ho => by
    rw [← hH6, upd_ne hz, upd_ne hz, upd_ne (nt ho), upd_ne (n2 ho), upd_ne (n1 ho)]; exact ho
  have hk := kids_ins a6
  refine post (.ref y) F' H6 ⟨S2.g.f, fun z o hz => old z o (ne_of_none hz hyH) (hH z o hz), fun z o hz => old z o (fun q => by rw [q, f'] at hz; cases hz) (g2.s z o hz), fun z o hz => ?_⟩ ⟨y, rfl, hyH, f', ⟨C, dx3, pv3, p1, p2, xs, ys, hW.gl, a6, a1, a2, p12, b6, c7, c8⟩, fun z hz => ?_⟩
  · rcases S2.g.n z o hz with q | q
    · exact .inl q
    · by_cases hm : z ∈ a :: kids H a
      · have : F' z = none := by
          rcases List.mem_cons.mp hm with rfl | hm
          · exact hFa
          · obtain ⟨_, _, _, _, _, _, _, t1, t2, t3, t4, t5, _⟩ := w.ex
            rw [kids_ins t2] at hm
            have t2' := hH _ _ t2
            rw [c2] at t2'
            cases t2'
            have hk0 := kids_ins c2
            exact (S2.kd 0 _ _ rfl rfl z (by rw [hk0]; exact hm)).2.1
        rw [this] at hz; cases hz
      · rw [delH_out hm] at q; exact .inr q
  · rw [hk] at hz
    simp only [List.mem_cons, List.not_mem_nil, or_false] at hz
    rcases hz with rfl | rfl
    · exact ⟨g2.s.none hp1, hH.none hp1⟩
    · exact ⟨g2.s.none hp2', hH.none hp2'⟩
end
theorem CpW.mk' {P : Program} {w : World} {K : PySem.W.Frag} {mg : Str → Option Value} {base : Heap} {m q : Str} {st : Stmt} {f C C' : Addr} {fd : FuncData} {N ps : List Str} {k : Nat} {g : List D → Oe D} (hW : WinC K mg C) (hC : mg "Window" = some (.ref C')) (hM : Meth K C' m f) (Fu : Fun K m q st f fd) (S : FnScope N ps (defScope st)) (hb : Binds K fd ps []) (hN : N.length = 2) (hps : ps.length = 1)
    (hbody : ∀ (cdv : Value) (A : Around) (outer : List Env) (s : Shared) (H : Hp) (E : XK), Room k (A.deeper (PyProof.Rows.envOfC q (defScope st) s.heap.objs.size f cdv)) →
      ∃ E', PSs (cxOf (L2.CX P w) P w K mg base N q (defScope st) f cdv A outer s H E) (defBody st) (tCopy K C (spInit K mg g) E' (tA K mg (fun cls d _ H => E cls d H) (sCons (sOp dIx (sPres (sV 0)) (sC (.int 0))) (sCons (sOp dIx (sPres (sV 0)) (sC (.int 1))) sNil))))) : CpW P w K mg base (k + 1) m g := by
  rw [hW.gl] at hC
  cases hC
  refine ⟨C, f, fd, ps, hW, hM, Fu.okX S (fun vs H Q E h => ?_) (fun cdv A outer s H vs Q E hr h => ?_), hb⟩
  · obtain ⟨F, a, d1, d2, dn, un, x, rfl, _⟩ := h
    exact hps.symm
  · obtain ⟨F, a, d1, d2, dn, un, x, rfl, e, wa, hf, hg, l1, l2, post⟩ := h
    obtain ⟨E', hb⟩ := hbody cdv A outer s H E hr
    exact ⟨_, hb, copy_reads hN hW e wa hf hg l1 l2 fun v F' H' gr nw => post v F' H' gr nw⟩
/-- x = w.copy(), and what comes behind -/
noncomputable def sNewC (i j : Nat) (f : List D → Oe D) (rest : Ss) : Ss := fun ρ => match ρ[j]? with
  | some (.own (.win _ (.tup [d1, d2]) dn un)) => match f [d1, d2] with
    | some (.ok _) => if lf d1 && lf d2 then allA1 fun b => rest (ρ.set i (.own (.win b (.tup [d1, d2]) dn un))) else none
    | _ => none
  | _ => none
section
variable {X : Cx} {W : WX} {pos p1 p2 pos' apos : Pos} {a b c d e : Expr} {sl sl2 : Sl} {k i j : Nat} {x y m : Str} {f : List D → Oe D} {r : Ss} {rest : List Stmt}
theorem qs_newC {pl : Sem Bool} (G : CpW X.prog X.w X.K X.mg X.base k m f) (hr : Room k X.A) (tk : Takes X W) (hN : X.N.Nodup) (hrest : PSs X rest (tP X.K X.mg W r)) (hi : X.N[i]? = some x := by rfl) (hx : Loc X.env.scope x := by first | exact Or.inl rfl | exact Or.inr rfl)
    (hj : X.N[j]? = some y := by rfl) (hv : Vis X.env.scope y := by first | exact Or.inl rfl | exact Or.inr (Or.inl rfl) | exact Or.inr (Or.inr rfl)) (hd : (y == ("__debug__" : Str)) = false := by decide) (hcd : (y == ("__classdict__" : Str)) = false := by decide)
    (hnm : ∀ x y z : V, ([("present", x), ("done", y), ("undone", z)] : List (Str × V)).lookup m = none := by intros; rfl)
    (ht : eval (.Call (.Attribute (.Name y p1) m apos) [] [] p2) X.env = (do
      let ov ← eval (.Name y p1) X.env
      standAt apos.atName
      let (f, first) ← holding [ov] (getMethod ov m pl)
      callWith p2 f first (backTo p2 (starEach [] X.env)) (backToKw p2 (keywordEach [] X.env))) := by rfl)
    (hs : swapsWith (.Call (.Attribute (.Name y p1) m apos) [] [] p2) (some (.Name x pos')) pos.line X.env = pure false := by rfl) (hf : X.fn x = true ∨ X.env.scope.names.lookup x = some .local := by first | exact .inl rfl | exact .inr rfl | assumption) :
    PSs X (.Assign [.Name x pos'] (.Call (.Attribute (.Name y p1) m apos) [] [] p2) pos :: rest) (tP X.K X.mg W (sNewC i j f r)) := by
  obtain ⟨C, fa, fd, ps, hW, hM, hF, hb⟩ := G.ex
  refine pss_imp (pss_cons (ps_set hN hi hx (pe_methS0 (pe_var (i := j) hj hv hd hcd) hW.c hM hF hr hb (fun σ => passAt tk σ) ht) hs hf) hrest) fun D σ H ⟨F0, H0, ρ, F, fl, S, e, post⟩ => ?_
  unfold sNewC at e
  split at e
  · rename_i w d1 d2 dn un hρ
    split at e
    · rename_i d hfd
      split at e
      · rename_i hl
        rw [Bool.and_eq_true] at hl
        obtain ⟨q, hq, h0, hFq, rfl, wa⟩ := S.s j _ hρ
        obtain ⟨C1, dx1, pv, dl, ul, xs, ys, c1, c2, c3, c4, c5, c6, c7, c8⟩ := wa.ex
        rw [hW.gl] at c1; cases c1
        refine ⟨_, hq, _, _, _, rfl, c2, hnm _ _ _, F, _, d1, d2, dn, un, d, rfl, S.g.s, wa, fun z hz => ?_, hfd, hl.1, hl.2, fun v F' H' g ⟨b, hv, hb, hFb, wb, kb⟩ => ?_⟩
        · rcases List.mem_cons.mp hz with rfl | hz
          · exact hFq
          · exact (S.kd j _ _ hρ hq z hz).2.1
        · subst hv
          have S2 := S.setWin (i := i) hb g hFb wb kb
          exact ⟨F0, H0, _, F', fl, S2, allA1_some e b, post.mo g.f⟩
      · cases e
    · cases e
  · cases e
/-- x, y = Window(a, b), Window(c, d), and what comes behind -/
noncomputable def sNewW2 (i j : Nat) (f : List D → Oe D) (sl sl2 : Sl) (rest : Ss) : Ss := fun ρ => match sl (expo [] ρ) with
  | some (.ok [d1, d2]) => match sl2 (expo [] ρ) with
    | some (.ok [e1, e2]) => match f [d1, d2] with
      | some (.ok _) => match f [e1, e2] with
        | some (.ok _) => if i = j then none else allA fun a b => rest ((ρ.set i (.own (.win a (.tup [d1, d2]) [] []))).set j (.own (.win b (.tup [e1, e2]) [] [])))
        | _ => none
      | _ => none
    | _ => none
  | _ => none
theorem qs_newW2 {px py pt p3 p4 : Pos} {kt k2 pt2} (G : MkW X.prog X.w X.K X.mg X.base k f) (hr : Room (k + 1) X.A) (tk : Takes X W) (hc : X.calm = true) (hN : X.N.Nodup) (ha : PA X [a, b] (tA X.K X.mg W sl)) (ha2 : PA X [c, d] (tA X.K X.mg W sl2)) (hrest : PSs X rest (tP X.K X.mg W r))
    (hi : X.N[i]? = some x := by rfl) (hj : X.N[j]? = some y := by rfl) (hij : i ≠ j := by decide) (hx : X.env.scope.names.lookup x = some .local := by rfl) (hy : X.env.scope.names.lookup y = some .local := by rfl) (hg : Gl X "Window" := by rfl)
    (hw : swappedStores [.Tuple [.Name x px, .Name y py] kt pt] (.Tuple [.Call (.Name "Window" p1) [a, b] [] p2, .Call (.Name "Window" p3) [c, d] [] p4] k2 pt2) X.env = pure (some [x, y]) := by rfl)
    (hs : swapsWithSole [.Tuple [.Name x px, .Name y py] kt pt] (.Tuple [.Call (.Name "Window" p1) [a, b] [] p2, .Call (.Name "Window" p3) [c, d] [] p4] k2 pt2) pos.line X.env = pure false := by rfl)
    (he : starEach [a, b] X.env = (false, eval a X.env) :: starEach [b] X.env := by rfl) (hpl : (backTo p2 (starEach [b] X.env)).any (·.1) = false := by rfl)
    (he2 : starEach [c, d] X.env = (false, eval c X.env) :: starEach [d] X.env := by rfl) (hpl2 : (backTo p4 (starEach [d] X.env)).any (·.1) = false := by rfl)
    (h1 : starEach [.Call (.Name "Window" p1) [a, b] [] p2, .Call (.Name "Window" p3) [c, d] [] p4] X.env = (false, eval (.Call (.Name "Window" p1) [a, b] [] p2) X.env) :: starEach [.Call (.Name "Window" p3) [c, d] [] p4] X.env := by rfl)
    (h2 : starEach [.Call (.Name "Window" p3) [c, d] [] p4] X.env = (false, eval (.Call (.Name "Window" p3) [c, d] [] p4) X.env) :: starEach [] X.env := by rfl) :
    PSs X (.Assign [.Tuple [.Name x px, .Name y py] kt pt] (.Tuple [.Call (.Name "Window" p1) [a, b] [] p2, .Call (.Name "Window" p3) [c, d] [] p4] k2 pt2) pos :: rest) (tP X.K X.mg W (sNewW2 i j f sl sl2 r)) := by
  obtain ⟨C, fa, fd, ps, hW, hM, hF, hb⟩ := G.ex
  refine pss_imp (pss_cons (ps_par hc hN hi hj hij hx hy (pa_cons (pe_makeS hM hF hr hg hW.gl hb (fun σ => passAt tk σ) ha (by decide) he hpl) (pa_cons (pe_makeS hM hF hr hg hW.gl hb (fun σ => passAt tk σ) ha2 (by decide) he2 hpl2) pa_nil h2) h1) hw hs) hrest) fun D σ H ⟨F0, H0, ρ, F, fl, S, e, post⟩ => ?_
  unfold sNewW2 at e
  split at e
  · rename_i d1 d2 hsl
    split at e
    · rename_i e1 e2 hsl2
      split at e
      · rename_i u hfd
        split at e
        · rename_i u2 hfe
          rw [if_neg hij] at e
          have step : ∀ {σ : L2.St} {ρ : Sig} {F H : Hp} {i : Nat} {d1 d2 u : Dl.D} {v1 v2 : V} (S : StOk X.K X.mg F0 H0 F H σ ρ) (hfd : f [d1, d2] = some (.ok u)) (r1 : Rep X.K X.mg F v1 d1) (r2 : Rep X.K X.mg F v2 d2) (y dx : Addr) (hy : H y = none) (hdx : H dx = none) (hne : dx ≠ y) (Q : V → Hp → Prop) (E : XK)
              (h : ∀ F' H', Grow F H F' H' → (∃ o, H' y = some o) → StOk X.K X.mg F0 H0 F' H' (σ.set i (some (.ref y))) (ρ.set i (.own (.win y (.tup [d1, d2]) [] []))) → StOk X.K X.mg F0 H0 F' H' σ ρ → Q .non H'), spInit X.K X.mg f [.ref y, v1, v2] (upd (upd H dx (.own y)) y (.ins C dx [])) Q E := by
            intro σ ρ F H i d1 d2 u v1 v2 S hfd r1 r2 y dx hy hdx hne Q E h
            refine ⟨F, y, C, dx, v1, v2, d1, d2, .ok u, rfl, hW.gl, upd_same, S.g.s.trans (new_reads hy hdx hne), S.g.s.none hy, r1, r2, hfd, fun F' H' g' f' w' k' => ?_⟩
            have g2 : Grow F H F' H' := ⟨g'.f, fun z o hz => g'.h z o (by rw [delH_out (by rw [List.mem_singleton]; exact ne_of_none hz hy), upd_ne (ne_of_none hz hy), upd_ne (ne_of_none hz hdx)]; exact hz), g'.s, fun z o hz => (g'.n z o hz).elim .inl fun q => .inr (by
              by_cases hm : z ∈ [y]
              · rw [List.mem_singleton] at hm; rw [hm]; exact hy
              · rw [delH_out hm] at q
                exact (new_reads hy hdx hne).none q)⟩
            have S2 := S.setWin (i := i) hy g2 f' w' fun z hz => ⟨(k' z hz).1, (new_reads hy hdx hne).none (k' z hz).2⟩
            obtain ⟨_, _, _, _, _, _, _, _, t2, _⟩ := w'.ex
            exact h F' H' g2 ⟨_, t2⟩ S2 (S.grow g2)
          refine ⟨expo [] ρ, F, .ok [d1, d2], S.view0, hsl, fun vs F1 H1 gr rs y1 dx hy1 hdx hne => ?_⟩
          obtain ⟨v1, v2, rfl, r1, r2⟩ := rs.two
          refine step (i := i) (S.grow gr) hfd r1 r2 y1 dx hy1 hdx hne _ _ fun F2 H2 g2 hex S2 S2' => ⟨rfl, ?_⟩
          refine ⟨expo [] ρ, F2, .ok [e1, e2], S2'.view0, hsl2, fun vs F3 H3 gr3 rs3 y2 dx2 hy2 hdx2 hne2 => ?_⟩
          obtain ⟨v3, v4, rfl, r3, r4⟩ := rs3.two
          refine step (i := j) (S2.grow gr3) hfe r3 r4 y2 dx2 hy2 hdx2 hne2 _ _ fun F4 H4 g4 _ S4 _ => ⟨rfl, _, _, rfl, ?_⟩
          have hne3 : y1 ≠ y2 := by
            obtain ⟨o, ho⟩ := hex
            exact ne_of_none (gr3.h _ _ ho) hy2
          exact ⟨F0, H0, _, F4, fl, S4, allA_some e y1 y2 hne3, post.mo (((gr.f.trans g2.f).trans gr3.f).trans g4.f)⟩
        · cases e
      · cases e
    · cases e
  · cases e
end
end Dl
/-! DlN3: a def that changes each of three lists: its body. -/
namespace Dl
open PySem L2 PySem.Spec PyProof.Rows
def rIns : V → List V → Hp → VK → Prop := fun x vs H Q => ∃ (l : Addr) (xs : List V) (i : Int) (y : V), x = .ref l ∧ vs = [.int i, y] ∧ H l = some (.lst xs) ∧ xs.length < sizeLine ∧ 0 ≤ i ∧ i < 2 ^ 63 ∧ Q .non (upd H l (.lst (xs.take i.toNat ++ [y] ++ xs.drop i.toNat)))
def tTurn (K : PySem.W.Frag) : TS := tSeq (tIfS (tNot (tB (tCB (rIsi K) (tCons (tVar 1) (tCons (tC (.ty "list")) tNil))))) (tRet (tC (.bl false))) tNext) (tSeq (tDrop (tBM K "list" rAppend (tVar 1) (tCons (tC .non) tNil))) (tDrop (tBM K "list" rIns (tVar 1) (tCons (tC (.int 0)) (tCons (tC (.int 7)) tNil)))))
def tChW (K : PySem.W.Frag) : TS := tSeq (tFor (iList K (tVar 0)) (gName 1) (tTurn K)) (tRet (tC (.bl true)))
section
variable {K : PySem.W.Frag} {D' : Ends}
theorem turn_reads {H : Hp} {σ : L2.St} {p : Addr} {xs : List V} (hσ : σ[1]? = some (some (.ref p))) (hp : H p = some (.lst xs)) (hl : xs.length ≤ 1000000) (h : ∀ H', (∀ z, z ≠ p → H' z = H z) → D'.nx σ H') : tTurn K D' σ H := by
  have e5 : kitB "list" "list" = some true := by decide +kernel
  refine ⟨_, hσ, .ref p, .ty "list", .type "list", .type "list", true, rfl, .ty "list", .base (.lst hp), kit_ty e5, true, rfl, ?_⟩
  show (if (!true) = true then _ else _)
  rw [if_neg (by decide)]
  refine ⟨_, hσ, .inl ⟨rfl, xs, .inl (.inl hp)⟩, ?_⟩
  refine ⟨p, xs, .non, rfl, rfl, hp, Nat.lt_of_le_of_lt hl (by decide), ?_⟩
  refine ⟨_, hσ, .inl ⟨rfl, _, .inl (.inl upd_same)⟩, ?_⟩
  refine ⟨p, xs ++ [.non], 0, .int 7, rfl, rfl, upd_same, ?_, by decide, by decide, ?_⟩
  · rw [List.length_append, List.length_singleton]
    exact Nat.lt_of_le_of_lt (Nat.succ_le_succ hl) (by decide)
  · exact h _ fun z hz => by rw [upd_ne hz, upd_ne hz]
theorem ch_reads {N : List Str} {H0 H : Hp} {v : V} {n : Nat × Nat × Nat} {q p1 p2 p3 : Addr} {x1 x2 x3 : List V} (hN : N.length = 2) (L : LLat H0 H v n q p1 p2 p3 x1 x2 x3) (l1 : n.1 ≤ 1000000) (l2 : n.2.1 ≤ 1000000) (l3 : n.2.2 ≤ 1000000)
    (post : ∀ H', (∀ y, y ≠ p1 → y ≠ p2 → y ≠ p3 → H' y = H y) → D'.rt (.bl true) H') : tChW K D' (L2.start N [v]) H := by
  have hs : L2.start N [v] = [some (.ref q), none] := by unfold L2.start; rw [hN, L.hv]; rfl
  rw [hs]
  have hq := L.hq
  refine ⟨.ref q, rfl, q, rfl, ⟨_, .inl (.inl hq)⟩, ?_⟩
  refine ⟨fun i m σ H' => m = 3 - i ∧ i ≤ 3 ∧ (∃ y, σ = [some (.ref q), y]) ∧ (∀ z, z ≠ p1 → z ≠ p2 → z ≠ p3 → H' z = H z) ∧ (i ≤ 0 → H' p1 = some (.lst x1)) ∧ (i ≤ 1 → H' p2 = some (.lst x2)) ∧ (i ≤ 2 → H' p3 = some (.lst x3)), ⟨3, rfl, by decide, ⟨_, rfl⟩, fun _ _ _ _ => rfl, fun _ => L.h1, fun _ => L.h2, fun _ => L.h3⟩, ?_⟩
  rintro i m σ H' ⟨rfl, hi, ⟨y, rfl⟩, ho, h1, h2, h3⟩
  have hq' : H' q = some (.lst [.ref p1, .ref p2, .ref p3]) := by rw [ho q (Ne.symm L.d1.1) (Ne.symm L.d1.2.1) (Ne.symm L.d1.2.2)]; exact hq
  by_cases hlt : i < 3
  · have hx : ∃ x, [V.ref p1, V.ref p2, V.ref p3][i]? = some x := ⟨_, List.getElem?_eq_getElem hlt⟩
    obtain ⟨x, hx⟩ := hx
    refine .inr ⟨⟨_, _, .inl (.inl hq'), hx⟩, fun σ' H2 => 3 - (i + 1) < 3 - i ∧ i + 1 ≤ 3 ∧ (∃ y, σ' = [some (.ref q), y]) ∧ (∀ z, z ≠ p1 → z ≠ p2 → z ≠ p3 → H2 z = H z) ∧ (i + 1 ≤ 0 → H2 p1 = some (.lst x1)) ∧ (i + 1 ≤ 1 → H2 p2 = some (.lst x2)) ∧ (i + 1 ≤ 2 → H2 p3 = some (.lst x3)), fun σ' H2 ⟨a, b⟩ => ⟨_, a, rfl, b⟩, fun z H2 yl => ?_⟩
    obtain ⟨rfl, yl⟩ := yl
    have hz := yl _ (.inl (.inl hq'))
    show tTurn K _ [some (.ref q), some z] H2
    have hi3 : i = 0 ∨ i = 1 ∨ i = 2 := by omega
    rcases hi3 with rfl | rfl | rfl
    · cases hz
      refine turn_reads rfl (h1 (Nat.le_refl _)) (by rw [L.l1]; exact l1) fun H3 k3 => ⟨by decide, by decide, ⟨_, rfl⟩, fun z a b c => (k3 z a).trans (ho z a b c), fun h => absurd h (by decide), fun _ => (k3 _ (Ne.symm L.d2.1)).trans (h2 (by decide)), fun _ => (k3 _ (Ne.symm L.d2.2.1)).trans (h3 (by decide))⟩
    · cases hz
      refine turn_reads rfl (h2 (Nat.le_refl _)) (by rw [L.l2]; exact l2) fun H3 k3 => ⟨by decide, by decide, ⟨_, rfl⟩, fun z a b c => (k3 z b).trans (ho z a b c), fun h => absurd h (by decide), fun h => absurd h (by decide), fun _ => (k3 _ (Ne.symm L.d2.2.2)).trans (h3 (by decide))⟩
    · cases hz
      refine turn_reads rfl (h3 (Nat.le_refl _)) (by rw [L.l3]; exact l3) fun H3 k3 => ⟨by decide, by decide, ⟨_, rfl⟩, fun z a b c => (k3 z c).trans (ho z a b c), fun h => absurd h (by decide), fun h => absurd h (by decide), fun h => absurd h (by decide)⟩
  · have : i = 3 := by omega
    subst this
    exact .inl ⟨⟨_, .inl (.inl hq'), Nat.le_refl 3⟩, post H' ho⟩
end
theorem FnCh.mk' {P : Program} {w : World} {K : PySem.W.Frag} {mg : Str → Option Value} {base : Heap} {x qual : Str} {st : Stmt} {f : Addr} {fd : FuncData} {N ps : List Str} {k : Nat} (Fu : Fun K x qual st f fd) (S : FnScope N ps (defScope st)) (hm : mg x = some (.ref f)) (hb : Binds K fd ps []) (hN : N.length = 2) (hps : ps.length = 1)
    (hbody : ∀ (cdv : Value) (A : Around) (outer : List Env) (s : Shared) (H : Hp) (E : XK), Room k (A.deeper (PyProof.Rows.envOfC qual (defScope st) s.heap.objs.size f cdv)) →
      PSs (cxOf (L2.CX P w) P w K mg base N qual (defScope st) f cdv A outer s H E) (defBody st) (tChW K)) : FnCh P w K mg base (k + 1) x := by
  refine ⟨f, fd, ps, Fu.okX S (fun vs H Q E h => ?_) (fun cdv A outer s H vs Q E hr h => ⟨_, hbody cdv A outer s H E hr, ?_⟩), hm, Fu.kp, hb⟩
  · obtain ⟨v, n, H0, q, p1, p2, p3, x1, x2, x3, rfl, _⟩ := h
    exact hps.symm
  · obtain ⟨v, n, H0, q, p1, p2, p3, x1, x2, x3, rfl, L, l1, l2, l3, post⟩ := h
    exact ch_reads hN L l1 l2 l3 fun H' hh => post H' hh
end Dl
namespace Pk
open PySem L2 Dl
/-- is_int(value, least, most): slots 0 value, 1 least, 2 most -/
def b_is_int : Ss :=
  (sRet [] (sAnd (sUn (dTy tyInt) (sV 0)) (sAnd (sUn dNot (sUn (dTy tyBool) (sV 0))) (sChain dLe dLe (sV 1) (sV 0) (sV 2)))))
def f_is_int : List D → Oe D := runD 3 b_is_int
/-- is_side(value): slots 0 value -/
def b_is_side : Ss :=
  (sRet [] (sAnd (sUn (dTy tyStr) (sV 0)) (sOp dIn (sV 0) (sC (.tup [(.str "top"), (.str "bottom"), (.str "left"), (.str "right")])))))
def f_is_side : List D → Oe D := runD 1 b_is_side
/-- are_sides(value): slots 0 value, 1 side -/
def b_are_sides : Ss :=
  (sSeq (sIf [] (bOr (bNot (toB (sUn (dTy tyTuple) (sV 0)))) (bOr (toB (sOp dEq (sV 0) (sTup sNil))) (bNot (toB (sCall dAll (sCons (sOfL (sLc (sSeqItems (sV 0)) [1] (tgRN 1) bTrue (sFn 1 f_is_side (sCons (sV 1) sNil)))) sNil)))))) (sRet [] (sC (.bl false))) sNext)
    (sRet [] (sOp dEq (sUn dLenSet (sV 0)) (sCall dLen (sCons (sV 0) sNil)))))
def f_are_sides : List D → Oe D := runD 2 b_are_sides
/-- is_size(value, wide, high): slots 0 value, 1 wide, 2 high -/
def b_is_size : Ss :=
  (sSeq (sIf [] (bOr (bNot (toB (sUn (dTy tyTuple) (sV 0)))) (toB (sOp dNe (sCall dLen (sCons (sV 0) sNil)) (sC (.int 2))))) (sRet [] (sC (.bl false))) sNext)
    (sRet [] (sAnd (sFn 3 f_is_int (sCons (sOp dIx (sV 0) (sC (.int 0))) (sCons (sC (.int 1)) (sCons (sV 1) sNil)))) (sFn 3 f_is_int (sCons (sOp dIx (sV 0) (sC (.int 1))) (sCons (sC (.int 1)) (sCons (sV 2) sNil)))))))
def f_is_size : List D → Oe D := runD 3 b_is_size
/-- is_setting(candidate): slots 0 candidate, 1 screen, 2 box, 3 gap, 4 sides -/
def b_is_setting : Ss :=
  (sSeq (sIf [] (bOr (bNot (toB (sUn (dTy tyTuple) (sV 0)))) (toB (sOp dNe (sCall dLen (sCons (sV 0) sNil)) (sC (.int 4))))) (sRet [] (sC (.bl false))) sNext)
    (sSeq (sUnp [] [1, 2, 3, 4] (sV 0))
    (sSeq (sIf [] (bOr (bNot (toB (sFn 3 f_is_size (sCons (sV 1) (sCons (sC (.int 30)) (sCons (sC (.int 30)) sNil)))))) (bNot (toB (sFn 3 f_is_size (sCons (sV 2) (sCons (sOp dIx (sV 1) (sC (.int 0))) (sCons (sOp dIx (sV 1) (sC (.int 1))) sNil))))))) (sRet [] (sC (.bl false))) sNext)
    (sRet [] (sAnd (sFn 3 f_is_int (sCons (sV 3) (sCons (sC (.int 0)) (sCons (sC (.int 5)) sNil)))) (sFn 1 f_are_sides (sCons (sV 4) sNil)))))))
def f_is_setting : List D → Oe D := runD 5 b_is_setting
/-- check_setting(value): slots 0 value -/
def b_check_setting : Ss :=
  (sIf [] (bNot (toB (sFn 1 f_is_setting (sCons (sV 0) sNil)))) (sRaise "InvalidSetting") sNext)
def f_check_setting : List D → Oe D := runD 1 b_check_setting
/-- has_anchor(setting, candidate): slots 0 setting, 1 candidate, 2 left, 3 top, 4 width, 5 height, 6 wide, 7 high -/
def b_has_anchor : Ss :=
  (sSeq (sIf [] (bOr (bNot (toB (sUn (dTy tyTuple) (sV 1)))) (toB (sOp dNe (sCall dLen (sCons (sV 1) sNil)) (sC (.int 4))))) (sRet [] (sC (.bl false))) sNext)
    (sSeq (sUnp [] [2, 3, 4, 5] (sV 1))
    (sSeq (sUnp [] [6, 7] (sOp dIx (sV 0) (sC (.int 0))))
    (sSeq (sIf [] (bOr (bNot (toB (sFn 3 f_is_int (sCons (sV 2) (sCons (sC (.int 0)) (sCons (sV 6) sNil)))))) (bNot (toB (sFn 3 f_is_int (sCons (sV 3) (sCons (sC (.int 0)) (sCons (sV 7) sNil))))))) (sRet [] (sC (.bl false))) sNext)
    (sRet [] (sAnd (sFn 3 f_is_int (sCons (sV 4) (sCons (sC (.int 1)) (sCons (sOp dSub (sV 6) (sV 2)) sNil)))) (sFn 3 f_is_int (sCons (sV 5) (sCons (sC (.int 1)) (sCons (sOp dSub (sV 7) (sV 3)) sNil))))))))))
def f_has_anchor : List D → Oe D := runD 8 b_has_anchor
/-- check_anchors(setting, anchors): slots 0 setting, 1 anchors, 2 anchor -/
def b_check_anchors : Ss :=
  (sSeq (sDrop [] (sFn 1 f_check_setting (sCons (sV 0) sNil)))
    (sSeq (sIf [] (bOr (bNot (toB (sUn (dTy tyList) (sV 1)))) (toB (sOp dGt (sCall dLen (sCons (sV 1) sNil)) (sC (.int 6))))) (sRaise "InvalidAnchors") sNext)
    (sIf [] (bNot (toB (sCall dAll (sCons (sOfL (sLc (sSeqItems (sV 1)) [2] (tgRN 2) bTrue (sFn 2 f_has_anchor (sCons (sV 0) (sCons (sV 2) sNil))))) sNil)))) (sRaise "InvalidAnchors") sNext)))
def f_check_anchors : List D → Oe D := runD 3 b_check_anchors
/-- inside(start, box, low, size): slots 0 start, 1 box, 2 low, 3 size -/
def b_inside : Ss :=
  (sRet [] (sCall dMax2 (sCons (sV 2) (sCons (sCall dMin2 (sCons (sV 0) (sCons (sOp dSub (sOp dAdd (sV 2) (sV 3)) (sV 1)) sNil))) sNil))))
def f_inside : List D → Oe D := runD 4 b_inside
/-- centred(start, size, box): slots 0 start, 1 size, 2 box -/
def b_centred : Ss :=
  (sRet [] (sOp dAdd (sV 0) (sOp dDiv (sOp dSub (sV 1) (sV 2)) (sC (.int 2)))))
def f_centred : List D → Oe D := runD 3 b_centred
/-- spot_on(setting, region, anchor, side): slots 0 setting, 1 region, 2 anchor, 3 side, 4 screen, 5 box, 6 gap, 7 sides, 8 left, 9 top, 10 width, 11 height, 12 x, 13 y -/
def b_spot_on : Ss :=
  (sSeq (sUnp [] [4, 5, 6, 7] (sV 0))
    (sSeq (sUnp [] [8, 9, 10, 11] (sV 2))
    (sSeq (sSet [] 12 (sFn 4 f_inside (sCons (sFn 3 f_centred (sCons (sV 8) (sCons (sV 10) (sCons (sOp dIx (sV 5) (sC (.int 0))) sNil)))) (sCons (sOp dIx (sV 5) (sC (.int 0))) (sCons (sOp dIx (sV 1) (sC (.int 0))) (sCons (sOp dIx (sV 1) (sC (.int 2))) sNil))))))
    (sSeq (sSet [] 13 (sFn 4 f_inside (sCons (sFn 3 f_centred (sCons (sV 9) (sCons (sV 11) (sCons (sOp dIx (sV 5) (sC (.int 1))) sNil)))) (sCons (sOp dIx (sV 5) (sC (.int 1))) (sCons (sOp dIx (sV 1) (sC (.int 1))) (sCons (sOp dIx (sV 1) (sC (.int 3))) sNil))))))
    (sSeq (sIf [] (toB (sOp dEq (sV 3) (sC (.str "top")))) (sSet [] 13 (sOp dSub (sOp dSub (sV 9) (sV 6)) (sOp dIx (sV 5) (sC (.int 1))))) sNext)
    (sSeq (sIf [] (toB (sOp dEq (sV 3) (sC (.str "bottom")))) (sSet [] 13 (sOp dAdd (sOp dAdd (sV 9) (sV 11)) (sV 6))) sNext)
    (sSeq (sIf [] (toB (sOp dEq (sV 3) (sC (.str "left")))) (sSet [] 12 (sOp dSub (sOp dSub (sV 8) (sV 6)) (sOp dIx (sV 5) (sC (.int 0))))) sNext)
    (sSeq (sIf [] (toB (sOp dEq (sV 3) (sC (.str "right")))) (sSet [] 12 (sOp dAdd (sOp dAdd (sV 8) (sV 10)) (sV 6))) sNext)
    (sRet [] (sTup (sCons (sV 12) (sCons (sV 13) (sCons (sOp dIx (sV 5) (sC (.int 0))) (sCons (sOp dIx (sV 5) (sC (.int 1))) sNil))))))))))))))
def f_spot_on : List D → Oe D := runD 14 b_spot_on
/-- has_room(setting, anchor, side): slots 0 setting, 1 anchor, 2 side, 3 screen, 4 box, 5 gap, 6 sides, 7 left, 8 top, 9 width, 10 height -/
def b_has_room : Ss :=
  (sSeq (sUnp [] [3, 4, 5, 6] (sV 0))
    (sSeq (sUnp [] [7, 8, 9, 10] (sV 1))
    (sSeq (sIf [] (toB (sOp dEq (sV 2) (sC (.str "top")))) (sRet [] (sOp dGe (sV 8) (sOp dAdd (sOp dIx (sV 4) (sC (.int 1))) (sV 5)))) sNext)
    (sSeq (sIf [] (toB (sOp dEq (sV 2) (sC (.str "bottom")))) (sRet [] (sOp dLe (sOp dAdd (sOp dAdd (sOp dAdd (sV 8) (sV 10)) (sV 5)) (sOp dIx (sV 4) (sC (.int 1)))) (sOp dIx (sV 3) (sC (.int 1))))) sNext)
    (sSeq (sIf [] (toB (sOp dEq (sV 2) (sC (.str "left")))) (sRet [] (sOp dGe (sV 7) (sOp dAdd (sOp dIx (sV 4) (sC (.int 0))) (sV 5)))) sNext)
    (sRet [] (sOp dLe (sOp dAdd (sOp dAdd (sOp dAdd (sV 7) (sV 9)) (sV 5)) (sOp dIx (sV 4) (sC (.int 0)))) (sOp dIx (sV 3) (sC (.int 0))))))))))
def f_has_room : List D → Oe D := runD 11 b_has_room
/-- find_fitting(setting, anchor): slots 0 setting, 1 anchor, 2 side -/
def b_find_fitting : Ss :=
  (sRet [] (sOfL (sLc (sSeqItems (sOp dIx (sV 0) (sC (.int 3)))) [2] (tgRN 2) (toB (sFn 3 f_has_room (sCons (sV 0) (sCons (sV 1) (sCons (sV 2) sNil))))) (sV 2))))
def f_find_fitting : List D → Oe D := runD 3 b_find_fitting
/-- common(start, size, other, length): slots 0 start, 1 size, 2 other, 3 length -/
def b_common : Ss :=
  (sRet [] (sCall dMax2 (sCons (sC (.int 0)) (sCons (sOp dSub (sCall dMin2 (sCons (sOp dAdd (sV 0) (sV 1)) (sCons (sOp dAdd (sV 2) (sV 3)) sNil))) (sCall dMax2 (sCons (sV 0) (sCons (sV 2) sNil)))) sNil))))
def f_common : List D → Oe D := runD 4 b_common
/-- overlap(one, other): slots 0 one, 1 other -/
def b_overlap : Ss :=
  (sRet [] (sOp dMul (sFn 4 f_common (sCons (sOp dIx (sV 0) (sC (.int 0))) (sCons (sOp dIx (sV 0) (sC (.int 2))) (sCons (sOp dIx (sV 1) (sC (.int 0))) (sCons (sOp dIx (sV 1) (sC (.int 2))) sNil))))) (sFn 4 f_common (sCons (sOp dIx (sV 0) (sC (.int 1))) (sCons (sOp dIx (sV 0) (sC (.int 3))) (sCons (sOp dIx (sV 1) (sC (.int 1))) (sCons (sOp dIx (sV 1) (sC (.int 3))) sNil)))))))
def f_overlap : List D → Oe D := runD 2 b_overlap
/-- find_open(setting, anchors): slots 0 setting, 1 anchors, 2 found, 3 taken, 4 screen, 5 anchor, 6 spots, 7 free, 8 side, 9 spot, 10 other -/
def b_find_open : Ss :=
  (sSeq (sPar [] [2, 3] [.l (sLst sNil), .l (sListOf (sV 1))])
    (sSeq (sSet [] 4 (sTup (sCons (sC (.int 0)) (sCons (sC (.int 0)) (sCons (sOp dIx (sOp dIx (sV 0) (sC (.int 0))) (sC (.int 0))) (sCons (sOp dIx (sOp dIx (sV 0) (sC (.int 0))) (sC (.int 1))) sNil))))))
    (sSeq (sFor [] (sSeqItems (sV 1)) (tgN 5)
    (sAft [5, 6, 7] (sSeq (sSetL [] 6 (sLc (sSeqItems (sFn 2 f_find_fitting (sCons (sV 0) (sCons (sV 5) sNil)))) [8] (tgRN 8) bTrue (sFn 4 f_spot_on (sCons (sV 0) (sCons (sV 4) (sCons (sV 5) (sCons (sV 8) sNil)))))))
    (sSeq (sSetL [3, 6] 7 (sLc (sSeqItems (sV 6)) [9] (tgRN 9) (bNot (toB (sCall dAny (sCons (sOfL (sLc (sSeqItems (sV 3)) [10] (tgRN 10) bTrue (sOp dGt (sFn 2 f_overlap (sCons (sV 9) (sCons (sV 10) sNil))) (sC (.int 0))))) sNil)))) (sV 9)))
    (sSeq (sApp [7] 2 (sIfE (toB (sOp dNe (sV 7) (sOfL (sLst sNil)))) (sOp dIx (sV 7) (sC (.int 0))) (sC .non)))
    (sExt [7] 3 (sOfL (sCutL (sV 7) sNoPart (sPart (sC (.int 1)))))))))))
    (sRet [2] (sV 2)))))
def f_find_open : List D → Oe D := runD 11 b_find_open
/-- open_all(setting, anchors): slots 0 setting, 1 anchors -/
def b_open_all : Ss :=
  (sSeq (sDrop [] (sFn 2 f_check_anchors (sCons (sV 0) (sCons (sV 1) sNil))))
    (sRet [] (sFn 2 f_find_open (sCons (sV 0) (sCons (sV 1) sNil)))))
def f_open_all : List D → Oe D := runD 2 b_open_all
/-- find_shown(setting, anchors): slots 0 setting, 1 anchors, 2 spot -/
def b_find_shown : Ss :=
  (sRet [] (sCall dLen (sCons (sOfL (sLc (sSeqItems (sFn 2 f_find_open (sCons (sV 0) (sCons (sV 1) sNil)))) [2] (tgRN 2) (toB (sOp dIsNot (sV 2) (sC .non))) (sV 2))) sNil)))
def f_find_shown : List D → Oe D := runD 3 b_find_shown
/-- in_each_others_way(setting, anchors): slots 0 setting, 1 anchors, 2 found, 3 one, 4 anchor, 5 other -/
def b_in_each_others_way : Ss :=
  (sSeq (sDrop [] (sFn 2 f_check_anchors (sCons (sV 0) (sCons (sV 1) sNil))))
    (sSeq (sSetL [] 2 (sLst sNil))
    (sSeq (sFor [] (sEnum (sCons (sV 1) sNil)) (tgT [3, 4])
    (sAft [3, 4, 5] (sFor [] (sRange (sCons (sOp dAdd (sV 3) (sC (.int 1))) (sCons (sCall dLen (sCons (sV 1) sNil)) sNil))) (tgN 5)
    (sAft [5] (sIf [] (toB (sOp dLt (sFn 2 f_find_shown (sCons (sV 0) (sCons (sOfL (sLst (sCons (sV 4) (sCons (sOp dIx (sV 1) (sV 5)) sNil)))) sNil))) (sC (.int 2)))) (sApp [] 2 (sTup (sCons (sV 3) (sCons (sV 5) sNil)))) sNext)))))
    (sRet [2] (sV 2)))))
def f_in_each_others_way : List D → Oe D := runD 6 b_in_each_others_way
/-- check_anchor(setting, value): slots 0 setting, 1 value -/
def b_check_anchor : Ss :=
  (sIf [] (bNot (toB (sFn 2 f_has_anchor (sCons (sV 0) (sCons (sV 1) sNil))))) (sRaise "InvalidAnchor") sNext)
def f_check_anchor : List D → Oe D := runD 2 b_check_anchor
/-- check_both(setting, anchor): slots 0 setting, 1 anchor -/
def b_check_both : Ss :=
  (sSeq (sDrop [] (sFn 1 f_check_setting (sCons (sV 0) sNil)))
    (sDrop [] (sFn 2 f_check_anchor (sCons (sV 0) (sCons (sV 1) sNil)))))
def f_check_both : List D → Oe D := runD 2 b_check_both
/-- find_side(setting, anchor): slots 0 setting, 1 anchor -/
def b_find_side : Ss :=
  (sRet [] (sOp dIx (sOfL (sCat (sFn 2 f_find_fitting (sCons (sV 0) (sCons (sV 1) sNil))) (sOfL (sLst (sCons (sC (.str "over")) sNil))))) (sC (.int 0))))
def f_find_side : List D → Oe D := runD 2 b_find_side
/-- find_raw(setting, anchor): slots 0 setting, 1 anchor, 2 screen, 3 box, 4 gap, 5 sides, 6 left, 7 top, 8 width, 9 height, 10 x, 11 y, 12 side -/
def b_find_raw : Ss :=
  (sSeq (sUnp [] [2, 3, 4, 5] (sV 0))
    (sSeq (sUnp [] [6, 7, 8, 9] (sV 1))
    (sSeq (sPar [] [10, 11, 12] [.s (sFn 3 f_centred (sCons (sV 6) (sCons (sV 8) (sCons (sOp dIx (sV 3) (sC (.int 0))) sNil)))), .s (sFn 3 f_centred (sCons (sV 7) (sCons (sV 9) (sCons (sOp dIx (sV 3) (sC (.int 1))) sNil)))), .s (sFn 2 f_find_side (sCons (sV 0) (sCons (sV 1) sNil)))])
    (sSeq (sIf [] (toB (sOp dEq (sV 12) (sC (.str "top")))) (sRet [] (sTup (sCons (sV 10) (sCons (sOp dSub (sOp dSub (sV 7) (sV 4)) (sOp dIx (sV 3) (sC (.int 1)))) sNil)))) sNext)
    (sSeq (sIf [] (toB (sOp dEq (sV 12) (sC (.str "bottom")))) (sRet [] (sTup (sCons (sV 10) (sCons (sOp dAdd (sOp dAdd (sV 7) (sV 9)) (sV 4)) sNil)))) sNext)
    (sSeq (sIf [] (toB (sOp dEq (sV 12) (sC (.str "left")))) (sRet [] (sTup (sCons (sOp dSub (sOp dSub (sV 6) (sV 4)) (sOp dIx (sV 3) (sC (.int 0)))) (sCons (sV 11) sNil)))) sNext)
    (sSeq (sIf [] (toB (sOp dEq (sV 12) (sC (.str "right")))) (sRet [] (sTup (sCons (sOp dAdd (sOp dAdd (sV 6) (sV 8)) (sV 4)) (sCons (sV 11) sNil)))) sNext)
    (sRet [] (sTup (sCons (sV 10) (sCons (sV 11) sNil)))))))))))
def f_find_raw : List D → Oe D := runD 13 b_find_raw
/-- within(start, box, screen): slots 0 start, 1 box, 2 screen -/
def b_within : Ss :=
  (sRet [] (sCall dMax2 (sCons (sC (.int 0)) (sCons (sCall dMin2 (sCons (sV 0) (sCons (sOp dSub (sV 2) (sV 1)) sNil))) sNil))))
def f_within : List D → Oe D := runD 3 b_within
/-- find_place(setting, anchor): slots 0 setting, 1 anchor, 2 screen, 3 box, 4 x, 5 y -/
def b_find_place : Ss :=
  (sSeq (sPar [] [2, 3] [.s (sOp dIx (sV 0) (sC (.int 0))), .s (sOp dIx (sV 0) (sC (.int 1)))])
    (sSeq (sUnp [] [4, 5] (sFn 2 f_find_raw (sCons (sV 0) (sCons (sV 1) sNil))))
    (sRet [] (sTup (sCons (sFn 3 f_within (sCons (sV 4) (sCons (sOp dIx (sV 3) (sC (.int 0))) (sCons (sOp dIx (sV 2) (sC (.int 0))) sNil)))) (sCons (sFn 3 f_within (sCons (sV 5) (sCons (sOp dIx (sV 3) (sC (.int 1))) (sCons (sOp dIx (sV 2) (sC (.int 1))) sNil)))) (sCons (sOp dIx (sV 3) (sC (.int 0))) (sCons (sOp dIx (sV 3) (sC (.int 1))) sNil))))))))
def f_find_place : List D → Oe D := runD 6 b_find_place
/-- picture(setting, anchor): slots 0 setting, 1 anchor, 2 box, 3 rows, 4 y, 5 row, 6 x, 7 field, 8 sign -/
def b_picture : Ss :=
  (sSeq (sDrop [] (sFn 2 f_check_both (sCons (sV 0) (sCons (sV 1) sNil))))
    (sSeq (sPar [] [2, 3] [.s (sFn 2 f_find_place (sCons (sV 0) (sCons (sV 1) sNil))), .l (sLst sNil)])
    (sSeq (sFor [] (sRange (sCons (sOp dIx (sOp dIx (sV 0) (sC (.int 0))) (sC (.int 1))) sNil)) (tgN 4)
    (sAft [4, 5, 6, 7, 8] (sSeq (sSet [] 5 (sC (.str "")))
    (sSeq (sFor [] (sRange (sCons (sOp dIx (sOp dIx (sV 0) (sC (.int 0))) (sC (.int 0))) sNil)) (tgN 6)
    (sAft [6, 7, 8] (sSeq (sSet [] 7 (sTup (sCons (sV 6) (sCons (sV 4) (sCons (sC (.int 1)) (sCons (sC (.int 1)) sNil))))))
    (sSeq (sSet [] 8 (sIfE (toB (sOp dGt (sFn 2 f_overlap (sCons (sV 7) (sCons (sV 2) sNil))) (sC (.int 0)))) (sC (.str "#")) (sC (.str "."))))
    (sSet [] 5 (sOp dAdd (sV 5) (sIfE (toB (sOp dGt (sFn 2 f_overlap (sCons (sV 7) (sCons (sV 1) sNil))) (sC (.int 0)))) (sC (.str "@")) (sV 8))))))))
    (sApp [] 3 (sV 5))))))
    (sRet [3] (sV 3)))))
def f_picture : List D → Oe D := runD 9 b_picture
/-- _law_lists(_law_setting_here, _law_anchors): slots 0 _law_setting_here, 1 _law_anchors -/
def b_L_lists : Ss :=
  (sRet [] (sOfL (sLst (sCons (sFn 2 f_open_all (sCons (sV 0) (sCons (sV 1) sNil))) (sCons (sFn 2 f_in_each_others_way (sCons (sV 0) (sCons (sV 1) sNil))) (sCons (sFn 2 f_picture (sCons (sV 0) (sCons (sOp dIx (sV 1) (sC (.int 0))) sNil))) sNil))))))
def f_L_lists : List D → Oe D := runD 2 b_L_lists
/-- find_open, the new list it hands back -/
def b_R_find_open : Sr :=
  (sSeqR (sPar [] [2, 3] [.l (sLst sNil), .l (sListOf (sV 1))])
    (sSeqR (sSet [] 4 (sTup (sCons (sC (.int 0)) (sCons (sC (.int 0)) (sCons (sOp dIx (sOp dIx (sV 0) (sC (.int 0))) (sC (.int 0))) (sCons (sOp dIx (sOp dIx (sV 0) (sC (.int 0))) (sC (.int 1))) sNil))))))
    (sSeqR (sFor [] (sSeqItems (sV 1)) (tgN 5)
    (sAft [5, 6, 7] (sSeq (sSetL [] 6 (sLc (sSeqItems (sFn 2 f_find_fitting (sCons (sV 0) (sCons (sV 5) sNil)))) [8] (tgRN 8) bTrue (sFn 4 f_spot_on (sCons (sV 0) (sCons (sV 4) (sCons (sV 5) (sCons (sV 8) sNil)))))))
    (sSeq (sSetL [3, 6] 7 (sLc (sSeqItems (sV 6)) [9] (tgRN 9) (bNot (toB (sCall dAny (sCons (sOfL (sLc (sSeqItems (sV 3)) [10] (tgRN 10) bTrue (sOp dGt (sFn 2 f_overlap (sCons (sV 9) (sCons (sV 10) sNil))) (sC (.int 0))))) sNil)))) (sV 9)))
    (sSeq (sApp [7] 2 (sIfE (toB (sOp dNe (sV 7) (sOfL (sLst sNil)))) (sOp dIx (sV 7) (sC (.int 0))) (sC .non)))
    (sExt [7] 3 (sOfL (sCutL (sV 7) sNoPart (sPart (sC (.int 1)))))))))))
    (sRetO 2))))
def f_R_find_open : List D → Option (List D) := runR 11 b_R_find_open
/-- open_all, the new list it hands back -/
def b_R_open_all : Sr :=
  (sSeqR (sDrop [] (sFn 2 f_check_anchors (sCons (sV 0) (sCons (sV 1) sNil))))
    (sRetNew (sFnL 2 f_R_find_open (sCons (sV 0) (sCons (sV 1) sNil)))))
def f_R_open_all : List D → Option (List D) := runR 2 b_R_open_all
/-- in_each_others_way, the new list it hands back -/
def b_R_in_each_others_way : Sr :=
  (sSeqR (sDrop [] (sFn 2 f_check_anchors (sCons (sV 0) (sCons (sV 1) sNil))))
    (sSeqR (sSetL [] 2 (sLst sNil))
    (sSeqR (sFor [] (sEnum (sCons (sV 1) sNil)) (tgT [3, 4])
    (sAft [3, 4, 5] (sFor [] (sRange (sCons (sOp dAdd (sV 3) (sC (.int 1))) (sCons (sCall dLen (sCons (sV 1) sNil)) sNil))) (tgN 5)
    (sAft [5] (sIf [] (toB (sOp dLt (sFn 2 f_find_shown (sCons (sV 0) (sCons (sOfL (sLst (sCons (sV 4) (sCons (sOp dIx (sV 1) (sV 5)) sNil)))) sNil))) (sC (.int 2)))) (sApp [] 2 (sTup (sCons (sV 3) (sCons (sV 5) sNil)))) sNext)))))
    (sRetO 2))))
def f_R_in_each_others_way : List D → Option (List D) := runR 6 b_R_in_each_others_way
/-- picture, the new list it hands back -/
def b_R_picture : Sr :=
  (sSeqR (sDrop [] (sFn 2 f_check_both (sCons (sV 0) (sCons (sV 1) sNil))))
    (sSeqR (sPar [] [2, 3] [.s (sFn 2 f_find_place (sCons (sV 0) (sCons (sV 1) sNil))), .l (sLst sNil)])
    (sSeqR (sFor [] (sRange (sCons (sOp dIx (sOp dIx (sV 0) (sC (.int 0))) (sC (.int 1))) sNil)) (tgN 4)
    (sAft [4, 5, 6, 7, 8] (sSeq (sSet [] 5 (sC (.str "")))
    (sSeq (sFor [] (sRange (sCons (sOp dIx (sOp dIx (sV 0) (sC (.int 0))) (sC (.int 0))) sNil)) (tgN 6)
    (sAft [6, 7, 8] (sSeq (sSet [] 7 (sTup (sCons (sV 6) (sCons (sV 4) (sCons (sC (.int 1)) (sCons (sC (.int 1)) sNil))))))
    (sSeq (sSet [] 8 (sIfE (toB (sOp dGt (sFn 2 f_overlap (sCons (sV 7) (sCons (sV 2) sNil))) (sC (.int 0)))) (sC (.str "#")) (sC (.str "."))))
    (sSet [] 5 (sOp dAdd (sV 5) (sIfE (toB (sOp dGt (sFn 2 f_overlap (sCons (sV 7) (sCons (sV 1) sNil))) (sC (.int 0)))) (sC (.str "@")) (sV 8))))))))
    (sApp [] 3 (sV 5))))))
    (sRetO 3))))
def f_R_picture : List D → Option (List D) := runR 9 b_R_picture
/-- _law_lists, three new lists in a new list -/
def b_R_L_lists : S3 :=
  (s3 (sFnL 2 f_R_open_all (sCons (sV 0) (sCons (sV 1) sNil))) (sFnL 2 f_R_in_each_others_way (sCons (sV 0) (sCons (sV 1) sNil))) (sFnL 2 f_R_picture (sCons (sV 0) (sCons (sOp dIx (sV 1) (sC (.int 0))) sNil))))
def f_R_L_lists : List D → Option (Nat × Nat × Nat) := run3 2 b_R_L_lists
/-- Window.change(self, setting, anchor): slots 0 self, 1 setting, 2 anchor -/
def b_W_change : Ss :=
  (sSeq (sWPushD 0)
    (sSeq (sWPres [] 0 (sTup (sCons (sV 1) (sCons (sV 2) sNil))))
    (sWClr 0)))
def g_W_change : GW := runW 3 0 b_W_change
/-- find_way(setting, anchor, other): slots 0 setting, 1 anchor, 2 other, 3 one, 4 two -/
def b_find_way : Ss :=
  (sSeq (sPar [] [3, 4] [.s (sFn 2 f_find_place (sCons (sV 0) (sCons (sV 1) sNil))), .s (sFn 2 f_find_place (sCons (sV 0) (sCons (sV 2) sNil)))])
    (sRet [] (sOp dAdd (sCall dAbs (sCons (sOp dSub (sOp dIx (sV 3) (sC (.int 0))) (sOp dIx (sV 4) (sC (.int 0)))) sNil)) (sCall dAbs (sCons (sOp dSub (sOp dIx (sV 3) (sC (.int 1))) (sOp dIx (sV 4) (sC (.int 1)))) sNil)))))
def f_find_way : List D → Oe D := runD 5 b_find_way
/-- Window.step(self, across, down): slots 0 self, 1 across, 2 down, 3 setting, 4 anchor, 5 later -/
def b_W_step : Ss :=
  (sSeq (sIf [] (bOr (bNot (toB (sFn 3 f_is_int (sCons (sV 1) (sCons (sOp dSub (sC (.int 0)) (sC (.int 30))) (sCons (sC (.int 30)) sNil)))))) (bNot (toB (sFn 3 f_is_int (sCons (sV 2) (sCons (sOp dSub (sC (.int 0)) (sC (.int 30))) (sCons (sC (.int 30)) sNil))))))) (sRaise "InvalidNumber") sNext)
    (sSeq (sUnp [0] [3, 4] (sPres (sV 0)))
    (sSeq (sSet [] 5 (sTup (sCons (sOp dAdd (sOp dIx (sV 4) (sC (.int 0))) (sV 1)) (sCons (sOp dAdd (sOp dIx (sV 4) (sC (.int 1))) (sV 2)) (sCons (sOp dIx (sV 4) (sC (.int 2))) (sCons (sOp dIx (sV 4) (sC (.int 3))) sNil))))))
    (sSeq (sDrop [] (sFn 2 f_check_anchor (sCons (sV 3) (sCons (sV 5) sNil))))
    (sSeq (sDropW (wMeth 3 0 g_W_change (sCons (sV 3) (sCons (sV 5) sNil))))
    (sRetS [] (sFn 3 f_find_way (sCons (sV 3) (sCons (sV 4) (sCons (sV 5) sNil))))))))))
def g_W_step : GW := runW 6 0 b_W_step
/-- _law_drawn(_law_script, _law_k, _law_many): slots 0 _law_script, 1 _law_k, 2 _law_many, 3 _law_cell, 4 _law_turn, 5 _law_rest -/
def b_L_drawn : Ss :=
  (sSeq (sSet [] 3 (sOp dMul (sC (.int 7)) (sV 1)))
    (sSeq (sIf [] (toB (sOp dNe (sV 0) (sOfL (sLst sNil)))) (sSeq (sSet [] 3 (sOp dIx (sV 0) (sOp dMod (sV 1) (sCall dLen (sCons (sV 0) sNil)))))
    (sSeq (sSet [] 4 (sOp dDiv (sV 1) (sCall dLen (sCons (sV 0) sNil))))
    (sSeq (sIf [] (bAnd (toB (sOp dGe (sV 3) (sOp dPow (sC (.int 10)) (sC (.int 18))))) (toB (sOp dLt (sV 4) (sC (.int 60))))) (sSeq (sSet [] 5 (sOp dDiv (sV 3) (sOp dPow (sC (.int 10)) (sC (.int 18)))))
    (sSeq (whileS [] (bAnd (toB (sOp dGt (sV 5) (sC (.int 0)))) (toB (sOp dGt (sV 4) (sC (.int 0))))) (sSeq (sSet [] 5 (sOp dDiv (sV 5) (sC (.int 1000000))))
    (sSet [] 4 (sOp dSub (sV 4) (sC (.int 1))))) 100000)
    (sIf [] (toB (sOp dGt (sV 5) (sC (.int 0)))) (sRet [] (sOp dMod (sOp dMod (sV 5) (sC (.int 1000000))) (sV 2))) sNext))) sNext)
    (sSet [] 3 (sOp dAdd (sV 3) (sOp dMul (sC (.int 6553)) (sOp dDiv (sV 1) (sCall dLen (sCons (sV 0) sNil))))))))) sNext)
    (sSeq (sSet [] 3 (sOp dMod (sOp dAdd (sOp dMul (sOp dMod (sV 3) (sC (.int 2147483563))) (sC (.int 69069))) (sOp dMul (sC (.int 104723)) (sOp dAdd (sV 1) (sC (.int 1))))) (sC (.int 2147483563))))
    (sSeq (sSet [] 3 (sOp dMod (sOp dAdd (sOp dMul (sV 3) (sV 3)) (sOp dDiv (sV 3) (sC (.int 3)))) (sC (.int 2147483399))))
    (sRet [] (sOp dMod (sOp dDiv (sOp dMod (sOp dAdd (sOp dMul (sV 3) (sV 3)) (sOp dDiv (sV 3) (sC (.int 7)))) (sC (.int 2147483647))) (sC (.int 11))) (sV 2)))))))
def f_L_drawn : List D → Oe D := runD 6 b_L_drawn
/-- _law_setting(_law_script, _law_at): slots 0 _law_script, 1 _law_at, 2 _law_wide, 3 _law_high, 4 _law_box, 5 _law_some, 6 _law_found, 7 _law_k, 8 _law_side -/
def b_L_setting : Ss :=
  (sSeq (sPar [] [2, 3] [.s (sOp dAdd (sC (.int 1)) (sFn 3 f_L_drawn (sCons (sV 0) (sCons (sV 1) (sCons (sC (.int 10)) sNil))))), .s (sOp dAdd (sC (.int 1)) (sFn 3 f_L_drawn (sCons (sV 0) (sCons (sOp dAdd (sV 1) (sC (.int 1))) (sCons (sC (.int 9)) sNil)))))])
    (sSeq (sSet [] 4 (sTup (sCons (sOp dAdd (sC (.int 1)) (sFn 3 f_L_drawn (sCons (sV 0) (sCons (sOp dAdd (sV 1) (sC (.int 2))) (sCons (sCall dMin2 (sCons (sV 2) (sCons (sC (.int 5)) sNil))) sNil))))) (sCons (sOp dAdd (sC (.int 1)) (sFn 3 f_L_drawn (sCons (sV 0) (sCons (sOp dAdd (sV 1) (sC (.int 3))) (sCons (sCall dMin2 (sCons (sV 3) (sCons (sC (.int 5)) sNil))) sNil))))) sNil))))
    (sSeq (sSetL [] 5 (sLst (sCons (sC (.str "top")) (sCons (sC (.str "bottom")) (sCons (sC (.str "left")) (sCons (sC (.str "right")) sNil))))))
    (sSeq (sSetL [] 6 (sLst sNil))
    (sSeq (sFor [] (sRange (sCons (sOp dAdd (sC (.int 1)) (sFn 3 f_L_drawn (sCons (sV 0) (sCons (sOp dAdd (sV 1) (sC (.int 4))) (sCons (sC (.int 4)) sNil))))) sNil)) (tgN 7)
    (sAft [7] (sSeq (sApp [5] 6 (sOp dIx (sV 5) (sFn 3 f_L_drawn (sCons (sV 0) (sCons (sOp dAdd (sOp dAdd (sV 1) (sC (.int 5))) (sV 7)) (sCons (sCall dLen (sCons (sV 5) sNil)) sNil))))))
    (sSetL [5, 6] 5 (sLc (sSeqItems (sV 5)) [8] (tgRN 8) (toB (sOp dNe (sV 8) (sOp dIx (sV 6) (sUn dNeg (sC (.int 1)))))) (sV 8))))))
    (sRet [6] (sTup (sCons (sTup (sCons (sV 2) (sCons (sV 3) sNil))) (sCons (sV 4) (sCons (sFn 3 f_L_drawn (sCons (sV 0) (sCons (sOp dAdd (sV 1) (sC (.int 9))) (sCons (sC (.int 3)) sNil)))) (sCons (sCall dTupleOf (sCons (sV 6) sNil)) sNil)))))))))))
def f_L_setting : List D → Oe D := runD 9 b_L_setting
/-- Window.anchor(self): slots 0 self -/
def b_W_anchor : Ss :=
  (sRet [0] (sOp dIx (sPres (sV 0)) (sC (.int 1))))
def f_W_anchor : List D → Oe D := runD 1 b_W_anchor
/-- _law_anchor(_law_script, _law_at, _law_setting_here): slots 0 _law_script, 1 _law_at, 2 _law_setting_here, 3 _law_wide, 4 _law_high, 5 _law_left, 6 _law_top, 7 _law_width -/
def b_L_anchor : Ss :=
  (sSeq (sUnp [] [3, 4] (sOp dIx (sV 2) (sC (.int 0))))
    (sSeq (sPar [] [5, 6] [.s (sFn 3 f_L_drawn (sCons (sV 0) (sCons (sV 1) (sCons (sV 3) sNil)))), .s (sFn 3 f_L_drawn (sCons (sV 0) (sCons (sOp dAdd (sV 1) (sC (.int 1))) (sCons (sV 4) sNil))))])
    (sSeq (sSet [] 7 (sOp dAdd (sC (.int 1)) (sCall dMin2 (sCons (sFn 3 f_L_drawn (sCons (sV 0) (sCons (sOp dAdd (sV 1) (sC (.int 2))) (sCons (sOp dSub (sV 3) (sV 5)) sNil)))) (sCons (sFn 3 f_L_drawn (sCons (sV 0) (sCons (sOp dAdd (sV 1) (sC (.int 4))) (sCons (sC (.int 4)) sNil)))) sNil)))))
    (sRet [] (sTup (sCons (sV 5) (sCons (sV 6) (sCons (sV 7) (sCons (sOp dAdd (sC (.int 1)) (sCall dMin2 (sCons (sFn 3 f_L_drawn (sCons (sV 0) (sCons (sOp dAdd (sV 1) (sC (.int 3))) (sCons (sOp dSub (sV 4) (sV 6)) sNil)))) (sCons (sFn 3 f_L_drawn (sCons (sV 0) (sCons (sOp dAdd (sV 1) (sC (.int 5))) (sCons (sC (.int 4)) sNil)))) sNil)))) sNil)))))))))
def f_L_anchor : List D → Oe D := runD 8 b_L_anchor
/-- all_orders(many): slots 0 many, 1 found, 2 turn, 3 begun, 4 index -/
def b_all_orders : Ss :=
  (sSeq (sSetL [] 1 (sLst (sCons (sTup sNil) sNil)))
    (sSeq (sFor [] (sRange (sCons (sV 0) sNil)) (tgN 2)
    (sAft [2] (sSetL [1] 1 (sLc2 (sSeqItems (sV 1)) [3, 4] (tgRN 3) bTrue (sRange (sCons (sV 0) sNil)) [4] (tgRN 4) (toB (sOp dNotIn (sV 4) (sV 3))) (sOp dAdd (sV 3) (sTup (sCons (sV 4) sNil)))))))
    (sRet [1] (sV 1))))
def f_all_orders : List D → Oe D := runD 5 b_all_orders
/-- find_best(setting, anchors): slots 0 setting, 1 anchors, 2 found, 3 order, 4 index -/
def b_find_best : Ss :=
  (sSeq (sDrop [] (sFn 2 f_check_anchors (sCons (sV 0) (sCons (sV 1) sNil))))
    (sSeq (sIf [] (toB (sOp dGt (sCall dLen (sCons (sV 1) sNil)) (sC (.int 4)))) (sRaise "TooLarge") sNext)
    (sSeq (sSetL [] 2 (sLst sNil))
    (sSeq (sFor [] (sSeqItems (sFn 1 f_all_orders (sCons (sCall dLen (sCons (sV 1) sNil)) sNil))) (tgN 3)
    (sAft [3] (sApp [] 2 (sTup (sCons (sOp dSub (sC (.int 0)) (sFn 2 f_find_shown (sCons (sV 0) (sCons (sOfL (sLc (sSeqItems (sV 3)) [4] (tgRN 4) bTrue (sOp dIx (sV 1) (sV 4)))) sNil)))) (sCons (sV 3) sNil))))))
    (sRet [2] (sCall dMinL (sCons (sV 2) sNil)))))))
def f_find_best : List D → Oe D := runD 5 b_find_best
/-- best_order(setting, anchors): slots 0 setting, 1 anchors -/
def b_best_order : Ss :=
  (sRet [] (sOp dIx (sFn 2 f_find_best (sCons (sV 0) (sCons (sV 1) sNil))) (sC (.int 1))))
def f_best_order : List D → Oe D := runD 2 b_best_order
/-- has_region(setting, candidate): slots 0 setting, 1 candidate -/
def b_has_region : Ss :=
  (sRet [] (sAnd (sFn 2 f_has_anchor (sCons (sV 0) (sCons (sV 1) sNil))) (sAnd (sOp dGe (sOp dIx (sV 1) (sC (.int 2))) (sOp dIx (sOp dIx (sV 0) (sC (.int 1))) (sC (.int 0)))) (sOp dGe (sOp dIx (sV 1) (sC (.int 3))) (sOp dIx (sOp dIx (sV 0) (sC (.int 1))) (sC (.int 1)))))))
def f_has_region : List D → Oe D := runD 2 b_has_region
/-- check_region(setting, region): slots 0 setting, 1 region -/
def b_check_region : Ss :=
  (sSeq (sDrop [] (sFn 1 f_check_setting (sCons (sV 0) sNil)))
    (sIf [] (bNot (toB (sFn 2 f_has_region (sCons (sV 0) (sCons (sV 1) sNil))))) (sRaise "InvalidRegion") sNext))
def f_check_region : List D → Oe D := runD 2 b_check_region
/-- lies_in(rectangle, region): slots 0 rectangle, 1 region, 2 left, 3 top, 4 width, 5 height -/
def b_lies_in : Ss :=
  (sSeq (sUnp [] [2, 3, 4, 5] (sV 0))
    (sSeq (sIf [] (bOr (toB (sOp dLt (sV 2) (sOp dIx (sV 1) (sC (.int 0))))) (toB (sOp dLt (sV 3) (sOp dIx (sV 1) (sC (.int 1)))))) (sRet [] (sC (.bl false))) sNext)
    (sRet [] (sAnd (sOp dLe (sOp dAdd (sV 2) (sV 4)) (sOp dAdd (sOp dIx (sV 1) (sC (.int 0))) (sOp dIx (sV 1) (sC (.int 2))))) (sOp dLe (sOp dAdd (sV 3) (sV 5)) (sOp dAdd (sOp dIx (sV 1) (sC (.int 1))) (sOp dIx (sV 1) (sC (.int 3)))))))))
def f_lies_in : List D → Oe D := runD 6 b_lies_in
/-- find_side_in(setting, region, anchor): slots 0 setting, 1 region, 2 anchor, 3 side -/
def b_find_side_in : Ss :=
  (sSeq (sFor [] (sSeqItems (sOp dIx (sV 0) (sC (.int 3)))) (tgN 3)
    (sAft [3] (sIf [] (bAnd (toB (sFn 3 f_has_room (sCons (sV 0) (sCons (sV 2) (sCons (sV 3) sNil))))) (toB (sFn 2 f_lies_in (sCons (sFn 4 f_spot_on (sCons (sV 0) (sCons (sV 1) (sCons (sV 2) (sCons (sV 3) sNil))))) (sCons (sV 1) sNil))))) (sRet [] (sV 3)) sNext)))
    (sRet [] (sC (.str "over"))))
def f_find_side_in : List D → Oe D := runD 4 b_find_side_in
/-- place_in(setting, region, anchor): slots 0 setting, 1 region, 2 anchor -/
def b_place_in : Ss :=
  (sSeq (sDrop [] (sFn 2 f_check_region (sCons (sV 0) (sCons (sV 1) sNil))))
    (sSeq (sDrop [] (sFn 2 f_check_anchor (sCons (sV 0) (sCons (sV 2) sNil))))
    (sRet [] (sFn 4 f_spot_on (sCons (sV 0) (sCons (sV 1) (sCons (sV 2) (sCons (sFn 3 f_find_side_in (sCons (sV 0) (sCons (sV 1) (sCons (sV 2) sNil)))) sNil))))))))
def f_place_in : List D → Oe D := runD 3 b_place_in
/-- check_size(setting, size): slots 0 setting, 1 size -/
def b_check_size : Ss :=
  (sSeq (sDrop [] (sFn 1 f_check_setting (sCons (sV 0) sNil)))
    (sIf [] (bNot (toB (sFn 3 f_is_size (sCons (sV 1) (sCons (sOp dIx (sOp dIx (sV 0) (sC (.int 0))) (sC (.int 0))) (sCons (sOp dIx (sOp dIx (sV 0) (sC (.int 0))) (sC (.int 1))) sNil)))))) (sRaise "InvalidSize") sNext))
def f_check_size : List D → Oe D := runD 2 b_check_size
/-- all_anchors(setting, size): slots 0 setting, 1 size, 2 wide, 3 high, 4 lefts, 5 tops, 6 left, 7 top -/
def b_all_anchors : Ss :=
  (sSeq (sUnp [] [2, 3] (sOp dIx (sV 0) (sC (.int 0))))
    (sSeq (sPar [] [4, 5] [.l (sListRg1 (sOp dAdd (sOp dSub (sV 2) (sOp dIx (sV 1) (sC (.int 0)))) (sC (.int 1)))), .l (sListRg1 (sOp dAdd (sOp dSub (sV 3) (sOp dIx (sV 1) (sC (.int 1)))) (sC (.int 1))))])
    (sRet [4, 5] (sOfL (sLc2 (sSeqItems (sV 4)) [6, 7] (tgRN 6) bTrue (sSeqItems (sV 5)) [7] (tgRN 7) bTrue (sTup (sCons (sV 6) (sCons (sV 7) (sCons (sOp dIx (sV 1) (sC (.int 0))) (sCons (sOp dIx (sV 1) (sC (.int 1))) sNil))))))))))
def f_all_anchors : List D → Oe D := runD 8 b_all_anchors
/-- find_middle(anchor): slots 0 anchor, 1 left, 2 top, 3 width, 4 height -/
def b_find_middle : Ss :=
  (sSeq (sUnp [] [1, 2, 3, 4] (sV 0))
    (sRet [] (sTup (sCons (sOp dAdd (sV 1) (sOp dDiv (sOp dSub (sV 3) (sC (.int 1))) (sC (.int 2)))) (sCons (sOp dAdd (sV 2) (sOp dDiv (sOp dSub (sV 4) (sC (.int 1))) (sC (.int 2)))) sNil)))))
def f_find_middle : List D → Oe D := runD 5 b_find_middle
/-- nearest(value, start, size): slots 0 value, 1 start, 2 size, 3 spare -/
def b_nearest : Ss :=
  (sSeq (sSet [] 3 (sIfE (toB (sOp dGt (sV 2) (sC (.int 2)))) (sC (.int 1)) (sC (.int 0))))
    (sRet [] (sCall dMax2 (sCons (sOp dAdd (sV 1) (sV 3)) (sCons (sCall dMin2 (sCons (sV 0) (sCons (sOp dSub (sOp dSub (sOp dAdd (sV 1) (sV 2)) (sC (.int 1))) (sV 3)) sNil))) sNil)))))
def f_nearest : List D → Oe D := runD 4 b_nearest
/-- find_arrow(setting, anchor): slots 0 setting, 1 anchor, 2 side, 3 left, 4 top, 5 width, 6 height, 7 x, 8 y -/
def b_find_arrow : Ss :=
  (sSeq (sSet [] 2 (sFn 2 f_find_side (sCons (sV 0) (sCons (sV 1) sNil))))
    (sSeq (sUnp [] [3, 4, 5, 6] (sFn 2 f_find_place (sCons (sV 0) (sCons (sV 1) sNil))))
    (sSeq (sUnp [] [7, 8] (sFn 1 f_find_middle (sCons (sV 1) sNil)))
    (sSeq (sIf [] (toB (sOp dEq (sV 2) (sC (.str "over")))) (sRet [] (sC .non)) sNext)
    (sSeq (sIf [] (toB (sOp dIn (sV 2) (sTup (sCons (sC (.str "top")) (sCons (sC (.str "bottom")) sNil))))) (sRet [] (sTup (sCons (sFn 3 f_nearest (sCons (sV 7) (sCons (sV 3) (sCons (sV 5) sNil)))) (sCons (sIfE (toB (sOp dEq (sV 2) (sC (.str "top")))) (sOp dSub (sOp dAdd (sV 4) (sV 6)) (sC (.int 1))) (sV 4)) sNil)))) sNext)
    (sRet [] (sTup (sCons (sIfE (toB (sOp dEq (sV 2) (sC (.str "left")))) (sOp dSub (sOp dAdd (sV 3) (sV 5)) (sC (.int 1))) (sV 3)) (sCons (sFn 3 f_nearest (sCons (sV 8) (sCons (sV 4) (sCons (sV 6) sNil)))) sNil)))))))))
def f_find_arrow : List D → Oe D := runD 9 b_find_arrow
/-- find_off(setting, anchor): slots 0 setting, 1 anchor, 2 place, 3 aim, 4 which -/
def b_find_off : Ss :=
  (sSeq (sPar [] [2, 3] [.s (sFn 2 f_find_arrow (sCons (sV 0) (sCons (sV 1) sNil))), .s (sFn 1 f_find_middle (sCons (sV 1) sNil))])
    (sSeq (sIf [] (toB (sOp dIs (sV 2) (sC .non))) (sRet [] (sC .non)) sNext)
    (sSeq (sSet [] 4 (sIfE (toB (sOp dIn (sFn 2 f_find_side (sCons (sV 0) (sCons (sV 1) sNil))) (sTup (sCons (sC (.str "left")) (sCons (sC (.str "right")) sNil))))) (sC (.int 1)) (sC (.int 0))))
    (sRet [] (sCall dAbs (sCons (sOp dSub (sOp dIx (sV 2) (sV 4)) (sOp dIx (sV 3) (sV 4))) sNil))))))
def f_find_off : List D → Oe D := runD 5 b_find_off
/-- count_straight(setting, size): slots 0 setting, 1 size, 2 anchor -/
def b_count_straight : Ss :=
  (sSeq (sDrop [] (sFn 2 f_check_size (sCons (sV 0) (sCons (sV 1) sNil))))
    (sRet [] (sCall dLen (sCons (sOfL (sLc (sSeqItems (sFn 2 f_all_anchors (sCons (sV 0) (sCons (sV 1) sNil)))) [2] (tgRN 2) (toB (sOp dEq (sFn 2 f_find_off (sCons (sV 0) (sCons (sV 2) sNil))) (sC (.int 0)))) (sV 2))) sNil))))
def f_count_straight : List D → Oe D := runD 3 b_count_straight
/-- arrow(setting, anchor): slots 0 setting, 1 anchor -/
def b_arrow : Ss :=
  (sSeq (sDrop [] (sFn 2 f_check_both (sCons (sV 0) (sCons (sV 1) sNil))))
    (sRet [] (sFn 2 f_find_arrow (sCons (sV 0) (sCons (sV 1) sNil)))))
def f_arrow : List D → Oe D := runD 2 b_arrow
/-- law(_law_script): slots 0 _law_script, 1 _law_setting_here, 2 _law_anchors, 3 _law_kept, 4 _law_first, 5 _law_region, 6 _law_small, 7 _law_window, 8 _law_second, 9 _law_third, 10 _law_k, 11 _law_some -/
noncomputable def b_law : Ss :=
  (sSeq (sSet [] 1 (sFn 2 f_L_setting (sCons (sV 0) (sCons (sC (.int 10)) sNil))))
    (sSeq (sSetL [] 2 (sLc (sRange (sCons (sC (.int 3)) sNil)) [10] (tgRN 10) bTrue (sFn 3 f_L_anchor (sCons (sV 0) (sCons (sOp dAdd (sC (.int 40)) (sOp dMul (sC (.int 6)) (sV 10))) (sCons (sV 1) sNil))))))
    (sSeq (sPar [2] [3, 4] [.l (sListOf (sV 2)), .l (sLc (sSeqItems (sFn 2 f_L_lists (sCons (sV 1) (sCons (sV 2) sNil)))) [11] (tgRN 11) bTrue (sOfL (sListOf (sV 11))))])
    (sSeq (sIf [2] (bNot (toB (sChLL 2 f_R_L_lists (sCons (sV 1) (sCons (sV 2) sNil))))) (sRet [] (sC (.bl false))) sNext)
    (sSeq (sIf [2, 3, 4] (bOr (toB (sOp dNe (sFn 2 f_L_lists (sCons (sV 1) (sCons (sV 2) sNil))) (sV 4))) (toB (sOp dNe (sV 2) (sV 3)))) (sRet [] (sC (.bl false))) sNext)
    (sSeq (sIf [2] (toB (sOp dNe (sFn 2 f_best_order (sCons (sV 1) (sCons (sV 2) sNil))) (sFn 2 f_best_order (sCons (sV 1) (sCons (sV 2) sNil))))) (sRet [] (sC (.bl false))) sNext)
    (sSeq (sIf [2, 3] (bOr (toB (sOp dNe (sFn 2 f_arrow (sCons (sV 1) (sCons (sOp dIx (sV 3) (sC (.int 0))) sNil))) (sFn 2 f_arrow (sCons (sV 1) (sCons (sOp dIx (sV 3) (sC (.int 0))) sNil))))) (toB (sOp dNe (sV 2) (sV 3)))) (sRet [] (sC (.bl false))) sNext)
    (sSeq (sSet [] 5 (sTup (sCons (sC (.int 0)) (sCons (sC (.int 0)) (sCons (sOp dIx (sOp dIx (sV 1) (sC (.int 0))) (sC (.int 0))) (sCons (sOp dIx (sOp dIx (sV 1) (sC (.int 0))) (sC (.int 1))) sNil))))))
    (sSeq (sIf [3] (toB (sOp dNe (sFn 3 f_place_in (sCons (sV 1) (sCons (sV 5) (sCons (sOp dIx (sV 3) (sC (.int 0))) sNil)))) (sFn 3 f_place_in (sCons (sV 1) (sCons (sV 5) (sCons (sOp dIx (sV 3) (sC (.int 0))) sNil)))))) (sRet [] (sC (.bl false))) sNext)
    (sSeq (sIf [3] (toB (sOp dNe (sFn 2 f_count_straight (sCons (sV 1) (sCons (sCutT (sOp dIx (sV 3) (sC (.int 0))) (sPart (sC (.int 2))) sNoPart) sNil))) (sFn 2 f_count_straight (sCons (sV 1) (sCons (sCutT (sOp dIx (sV 3) (sC (.int 0))) (sPart (sC (.int 2))) sNoPart) sNil))))) (sRet [] (sC (.bl false))) sNext)
    (sSeq (sSet [] 6 (sTup (sCons (sTup (sCons (sC (.int 6)) (sCons (sC (.int 6)) sNil))) (sCons (sTup (sCons (sC (.int 1)) (sCons (sC (.int 1)) sNil))) (sCons (sC (.int 0)) (sCons (sTup (sCons (sC (.str "top")) sNil)) sNil))))))
    (sNewW2 7 8 f_check_both (sCons (sV 6) (sCons (sTup (sCons (sC (.int 0)) (sCons (sC (.int 0)) (sCons (sC (.int 1)) (sCons (sC (.int 1)) sNil))))) sNil)) (sCons (sV 6) (sCons (sTup (sCons (sC (.int 0)) (sCons (sC (.int 0)) (sCons (sC (.int 1)) (sCons (sC (.int 1)) sNil))))) sNil))
    (sSeq (sDropW (wMeth 3 7 g_W_step (sCons (sC (.int 1)) (sCons (sC (.int 1)) sNil))))
    (sNewC 9 7 f_check_both
    (sSeq (sDropW (wMeth 3 9 g_W_step (sCons (sC (.int 1)) (sCons (sC (.int 1)) sNil))))
    (sSeq (sIf [7, 8] (bNot (bAnd (toB (sOp dEq (sMeth0 f_W_anchor (sV 7)) (sTup (sCons (sC (.int 1)) (sCons (sC (.int 1)) (sCons (sC (.int 1)) (sCons (sC (.int 1)) sNil))))))) (toB (sOp dEq (sMeth0 f_W_anchor (sV 8)) (sTup (sCons (sC (.int 0)) (sCons (sC (.int 0)) (sCons (sC (.int 1)) (sCons (sC (.int 1)) sNil))))))))) (sRet [] (sC (.bl false))) sNext)
    (sRet [9] (sOp dEq (sMeth0 f_W_anchor (sV 9)) (sTup (sCons (sC (.int 2)) (sCons (sC (.int 2)) (sCons (sC (.int 1)) (sCons (sC (.int 1)) sNil)))))))))))))))))))))))
noncomputable def f_law : List D → Oe D := runD 12 b_law
end Pk
namespace Pk
open PySem L2 Dl
def top (i : Nat) : Stmt := PySem.Challenge.pw_popupsides_k99_repeated_calls.main.body.getD i (.Pass ⟨0, 0, 0, 0⟩)
structure Txt (K : PySem.W.Frag) (mg : Str → Option Value) : Prop where
  b_abs : mg "abs" = none
  b_all : mg "all" = none
  b_any : mg "any" = none
  b_bool : mg "bool" = none
  b_enumerate : mg "enumerate" = none
  b_int : mg "int" = none
  b_isinstance : mg "isinstance" = none
  b_len : mg "len" = none
  b_list : mg "list" = none
  b_max : mg "max" = none
  b_min : mg "min" = none
  b_range : mg "range" = none
  b_set : mg "set" = none
  b_str : mg "str" = none
  b_tuple : mg "tuple" = none
  c_BOTTOM : GlD K mg "BOTTOM" (.str "bottom")
  c_BOX : GlD K mg "BOX" (.str "#")
  c_EMPTY : GlD K mg "EMPTY" (.str ".")
  c_HERE : GlD K mg "HERE" (.str "@")
  c_LEFT : GlD K mg "LEFT" (.str "left")
  c_MAX_ANCHORS : GlD K mg "MAX_ANCHORS" (.int 6)
  c_MAX_GAP : GlD K mg "MAX_GAP" (.int 5)
  c_MAX_ORDERED : GlD K mg "MAX_ORDERED" (.int 4)
  c_MAX_SIZE : GlD K mg "MAX_SIZE" (.int 30)
  c_OVER : GlD K mg "OVER" (.str "over")
  c_RIGHT : GlD K mg "RIGHT" (.str "right")
  c_SIDES : GlD K mg "SIDES" (.tup [(.str "top"), (.str "bottom"), (.str "left"), (.str "right")])
  c_TOP : GlD K mg "TOP" (.str "top")
  x_InvalidAnchor : ExcD K mg "InvalidAnchor"
  x_InvalidAnchors : ExcD K mg "InvalidAnchors"
  x_InvalidNumber : ExcD K mg "InvalidNumber"
  x_InvalidRegion : ExcD K mg "InvalidRegion"
  x_InvalidSetting : ExcD K mg "InvalidSetting"
  x_InvalidSize : ExcD K mg "InvalidSize"
  x_TooLarge : ExcD K mg "TooLarge"
section
variable {P : Program} {w : World} {K : PySem.W.Frag} {mg : Str → Option Value} {base : Heap}
abbrev s_is_int : Stmt := top 19
theorem sc_is_int : FnScope ["value", "least", "most"] ["value", "least", "most"] (defScope s_is_int) := ⟨rfl, rfl, rfl, by decide +kernel, rfl, by decide +kernel, by decide +kernel⟩
theorem w_is_int {fa : Addr} {fd : FuncData} (T : Txt K mg) (Fu : Fun K "is_int" "is_int" s_is_int fa fd) (hm : mg "is_int" = some (.ref fa)) (hb : Binds K fd ["value", "least", "most"] []) : FnD P w K mg base 2 "is_int" 3 f_is_int := by
  refine FnD.mk' (x := "is_int") (N := ["value", "least", "most"]) (ps := ["value", "least", "most"]) (k := 1) Fu sc_is_int hm hb fun cdv A outer s H E hr => ?_
  have nd : (["value", "least", "most"] : List Str).Nodup := sc_is_int.nd
  have tk := takes_of (X := cxOf (L2.CX P w) P w K mg base ["value", "least", "most"] "is_int" (defScope s_is_int) fa cdv A outer s H E) rfl rfl rfl rfl
  have po := passes_of (X := cxOf (L2.CX P w) P w K mg base ["value", "least", "most"] "is_int" (defScope s_is_int) fa cdv A outer s H E) rfl
  unfold b_is_int
  exact (ss_one (s_ret [] (d_and (d_isi ty_int T.b_isinstance T.b_int (by decide +kernel) (d_var 0)) (d_and (d_not (d_isi ty_bool T.b_isinstance T.b_bool (by decide +kernel) (d_var 0))) (d_one (d_chain op_le o_le op_le o_le (d_var 1) (d_var 0) (d_var 2)))))))
abbrev s_is_side : Stmt := top 21
theorem sc_is_side : FnScope ["value"] ["value"] (defScope s_is_side) := ⟨rfl, rfl, rfl, by decide +kernel, rfl, by decide +kernel, by decide +kernel⟩
theorem w_is_side {fa : Addr} {fd : FuncData} (T : Txt K mg) (Fu : Fun K "is_side" "is_side" s_is_side fa fd) (hm : mg "is_side" = some (.ref fa)) (hb : Binds K fd ["value"] []) : FnD P w K mg base 2 "is_side" 1 f_is_side := by
  refine FnD.mk' (x := "is_side") (N := ["value"]) (ps := ["value"]) (k := 1) Fu sc_is_side hm hb fun cdv A outer s H E hr => ?_
  have nd : (["value"] : List Str).Nodup := sc_is_side.nd
  have tk := takes_of (X := cxOf (L2.CX P w) P w K mg base ["value"] "is_side" (defScope s_is_side) fa cdv A outer s H E) rfl rfl rfl rfl
  have po := passes_of (X := cxOf (L2.CX P w) P w K mg base ["value"] "is_side" (defScope s_is_side) fa cdv A outer s H E) rfl
  unfold b_is_side
  exact (ss_one (s_ret [] (d_and (d_isi ty_str T.b_isinstance T.b_str (by decide +kernel) (d_var 0)) (d_one (d_cmp (op_inB (hu65 hr)) o_in (d_var 0) (d_gl T.c_SIDES))))))
abbrev s_are_sides : Stmt := top 22
theorem sc_are_sides : FnScope ["value", "side"] ["value"] (defScope s_are_sides) := ⟨rfl, rfl, rfl, by decide +kernel, rfl, by decide +kernel, by decide +kernel⟩
theorem w_are_sides {fa : Addr} {fd : FuncData} (T : Txt K mg) (Fu : Fun K "are_sides" "are_sides" s_are_sides fa fd) (hm : mg "are_sides" = some (.ref fa)) (hb : Binds K fd ["value"] []) (G_is_side : FnD P w K mg base 2 "is_side" 1 f_is_side) : FnD P w K mg base 3 "are_sides" 1 f_are_sides := by
  refine FnD.mk' (x := "are_sides") (N := ["value", "side"]) (ps := ["value"]) (k := 2) Fu sc_are_sides hm hb fun cdv A outer s H E hr => ?_
  have nd : (["value", "side"] : List Str).Nodup := sc_are_sides.nd
  have tk := takes_of (X := cxOf (L2.CX P w) P w K mg base ["value", "side"] "are_sides" (defScope s_are_sides) fa cdv A outer s H E) rfl rfl rfl rfl
  have po := passes_of (X := cxOf (L2.CX P w) P w K mg base ["value", "side"] "are_sides" (defScope s_are_sides) fa cdv A outer s H E) rfl
  unfold b_are_sides
  exact (ss_cons (s_if [] (t_w (w_or (t_not (t_val (d_isi ty_tuple T.b_isinstance T.b_tuple (by decide +kernel) (d_var 0)))) (w_or (t_cmp (op_eqD hr.units) o_eq (d_var 0) (d_tup da_nil)) (w_or1 (t_not (t_val (d_callB (cr_all rfl) c_all T.b_all (by decide +kernel) (da_cons (d_ofL (l_lc rfl nd (i_seq (d_var 0)) (blkOk_by (own := [("side", 1)]) rfl) (gokR_name (by decide)) (fun _ _ _ _ _ => (pg_name (i := 1) nd rfl (Or.inl rfl))) (fun _ _ _ _ _ => ts_nil) (fun _ _ _ _ _ => (d_call G_is_side (hr.mono (by decide)) takes0 (da_cons (d_var 1) da_nil))))) da_nil)))))))) (ss_one (s_ret [] d_bl)) ss_nil)
    (ss_one (s_ret [] (d_cmp (op_eqD hr.units) o_eq (d_lenSet rfl T.b_len T.b_set (d_var 0)) (d_callB cr_len c_len T.b_len (by decide +kernel) (da_cons (d_var 0) da_nil))))))
abbrev s_is_size : Stmt := top 20
theorem sc_is_size : FnScope ["value", "wide", "high"] ["value", "wide", "high"] (defScope s_is_size) := ⟨rfl, rfl, rfl, by decide +kernel, rfl, by decide +kernel, by decide +kernel⟩
theorem w_is_size {fa : Addr} {fd : FuncData} (T : Txt K mg) (Fu : Fun K "is_size" "is_size" s_is_size fa fd) (hm : mg "is_size" = some (.ref fa)) (hb : Binds K fd ["value", "wide", "high"] []) (G_is_int : FnD P w K mg base 2 "is_int" 3 f_is_int) : FnD P w K mg base 3 "is_size" 3 f_is_size := by
  refine FnD.mk' (x := "is_size") (N := ["value", "wide", "high"]) (ps := ["value", "wide", "high"]) (k := 2) Fu sc_is_size hm hb fun cdv A outer s H E hr => ?_
  have nd : (["value", "wide", "high"] : List Str).Nodup := sc_is_size.nd
  have tk := takes_of (X := cxOf (L2.CX P w) P w K mg base ["value", "wide", "high"] "is_size" (defScope s_is_size) fa cdv A outer s H E) rfl rfl rfl rfl
  have po := passes_of (X := cxOf (L2.CX P w) P w K mg base ["value", "wide", "high"] "is_size" (defScope s_is_size) fa cdv A outer s H E) rfl
  unfold b_is_size
  exact (ss_cons (s_if [] (t_w (w_or (t_not (t_val (d_isi ty_tuple T.b_isinstance T.b_tuple (by decide +kernel) (d_var 0)))) (w_or1 (t_cmp (op_neD hr.units) o_ne (d_callB cr_len c_len T.b_len (by decide +kernel) (da_cons (d_var 0) da_nil)) d_int)))) (ss_one (s_ret [] d_bl)) ss_nil)
    (ss_one (s_ret [] (d_and (d_call G_is_int (hr.mono (by decide)) tk (da_cons (d_ix ix_B o_ix (d_var 0) d_int) (da_cons d_int (da_cons (d_var 1) da_nil)))) (d_one (d_call G_is_int (hr.mono (by decide)) tk (da_cons (d_ix ix_B o_ix (d_var 0) d_int) (da_cons d_int (da_cons (d_var 2) da_nil)))))))))
abbrev s_is_setting : Stmt := top 23
theorem sc_is_setting : FnScope ["candidate", "screen", "box", "gap", "sides"] ["candidate"] (defScope s_is_setting) := ⟨rfl, rfl, rfl, by decide +kernel, rfl, by decide +kernel, by decide +kernel⟩
theorem w_is_setting {fa : Addr} {fd : FuncData} (T : Txt K mg) (Fu : Fun K "is_setting" "is_setting" s_is_setting fa fd) (hm : mg "is_setting" = some (.ref fa)) (hb : Binds K fd ["candidate"] []) (G_is_int : FnD P w K mg base 2 "is_int" 3 f_is_int) (G_are_sides : FnD P w K mg base 3 "are_sides" 1 f_are_sides) (G_is_size : FnD P w K mg base 3 "is_size" 3 f_is_size) : FnD P w K mg base 4 "is_setting" 1 f_is_setting := by
  refine FnD.mk' (x := "is_setting") (N := ["candidate", "screen", "box", "gap", "sides"]) (ps := ["candidate"]) (k := 3) Fu sc_is_setting hm hb fun cdv A outer s H E hr => ?_
  have nd : (["candidate", "screen", "box", "gap", "sides"] : List Str).Nodup := sc_is_setting.nd
  have tk := takes_of (X := cxOf (L2.CX P w) P w K mg base ["candidate", "screen", "box", "gap", "sides"] "is_setting" (defScope s_is_setting) fa cdv A outer s H E) rfl rfl rfl rfl
  have po := passes_of (X := cxOf (L2.CX P w) P w K mg base ["candidate", "screen", "box", "gap", "sides"] "is_setting" (defScope s_is_setting) fa cdv A outer s H E) rfl
  unfold b_is_setting
  exact (ss_cons (s_if [] (t_w (w_or (t_not (t_val (d_isi ty_tuple T.b_isinstance T.b_tuple (by decide +kernel) (d_var 0)))) (w_or1 (t_cmp (op_neD hr.units) o_ne (d_callB cr_len c_len T.b_len (by decide +kernel) (da_cons (d_var 0) da_nil)) d_int)))) (ss_one (s_ret [] d_bl)) ss_nil)
    (ss_cons (s_unp [] rfl (g_cons (i := 1) nd (g_cons (i := 2) nd (g_cons (i := 3) nd (g_cons (i := 4) nd g_nil)))) (d_var 0))
    (ss_cons (s_if [] (t_w (w_or (t_not (t_val (d_call G_is_size (hr.mono (by decide)) tk (da_cons (d_var 1) (da_cons (d_gl T.c_MAX_SIZE) (da_cons (d_gl T.c_MAX_SIZE) da_nil)))))) (w_or1 (t_not (t_val (d_call G_is_size (hr.mono (by decide)) tk (da_cons (d_var 2) (da_cons (d_ix ix_B o_ix (d_var 1) d_int) (da_cons (d_ix ix_B o_ix (d_var 1) d_int) da_nil))))))))) (ss_one (s_ret [] d_bl)) ss_nil)
    (ss_one (s_ret [] (d_and (d_call G_is_int (hr.mono (by decide)) tk (da_cons (d_var 3) (da_cons d_int (da_cons (d_gl T.c_MAX_GAP) da_nil)))) (d_one (d_call G_are_sides (hr.mono (by decide)) tk (da_cons (d_var 4) da_nil)))))))))
abbrev s_check_setting : Stmt := top 25
theorem sc_check_setting : FnScope ["value"] ["value"] (defScope s_check_setting) := ⟨rfl, rfl, rfl, by decide +kernel, rfl, by decide +kernel, by decide +kernel⟩
theorem w_check_setting {fa : Addr} {fd : FuncData} (T : Txt K mg) (Fu : Fun K "check_setting" "check_setting" s_check_setting fa fd) (hm : mg "check_setting" = some (.ref fa)) (hb : Binds K fd ["value"] []) (G_is_setting : FnD P w K mg base 4 "is_setting" 1 f_is_setting) : FnD P w K mg base 5 "check_setting" 1 f_check_setting := by
  refine FnD.mk' (x := "check_setting") (N := ["value"]) (ps := ["value"]) (k := 4) Fu sc_check_setting hm hb fun cdv A outer s H E hr => ?_
  have nd : (["value"] : List Str).Nodup := sc_check_setting.nd
  have tk := takes_of (X := cxOf (L2.CX P w) P w K mg base ["value"] "check_setting" (defScope s_check_setting) fa cdv A outer s H E) rfl rfl rfl rfl
  have po := passes_of (X := cxOf (L2.CX P w) P w K mg base ["value"] "check_setting" (defScope s_check_setting) fa cdv A outer s H E) rfl
  unfold b_check_setting
  exact (ss_one (s_if [] (t_not (t_val (d_call G_is_setting (hr.mono (by decide)) tk (da_cons (d_var 0) da_nil)))) (ss_one (s_raiseD rfl tk T.x_InvalidSetting)) ss_nil))
abbrev s_has_anchor : Stmt := top 24
theorem sc_has_anchor : FnScope ["setting", "candidate", "left", "top", "width", "height", "wide", "high"] ["setting", "candidate"] (defScope s_has_anchor) := ⟨rfl, rfl, rfl, by decide +kernel, rfl, by decide +kernel, by decide +kernel⟩
theorem w_has_anchor {fa : Addr} {fd : FuncData} (T : Txt K mg) (Fu : Fun K "has_anchor" "has_anchor" s_has_anchor fa fd) (hm : mg "has_anchor" = some (.ref fa)) (hb : Binds K fd ["setting", "candidate"] []) (G_is_int : FnD P w K mg base 2 "is_int" 3 f_is_int) : FnD P w K mg base 3 "has_anchor" 2 f_has_anchor := by
  refine FnD.mk' (x := "has_anchor") (N := ["setting", "candidate", "left", "top", "width", "height", "wide", "high"]) (ps := ["setting", "candidate"]) (k := 2) Fu sc_has_anchor hm hb fun cdv A outer s H E hr => ?_
  have nd : (["setting", "candidate", "left", "top", "width", "height", "wide", "high"] : List Str).Nodup := sc_has_anchor.nd
  have tk := takes_of (X := cxOf (L2.CX P w) P w K mg base ["setting", "candidate", "left", "top", "width", "height", "wide", "high"] "has_anchor" (defScope s_has_anchor) fa cdv A outer s H E) rfl rfl rfl rfl
  have po := passes_of (X := cxOf (L2.CX P w) P w K mg base ["setting", "candidate", "left", "top", "width", "height", "wide", "high"] "has_anchor" (defScope s_has_anchor) fa cdv A outer s H E) rfl
  unfold b_has_anchor
  exact (ss_cons (s_if [] (t_w (w_or (t_not (t_val (d_isi ty_tuple T.b_isinstance T.b_tuple (by decide +kernel) (d_var 1)))) (w_or1 (t_cmp (op_neD hr.units) o_ne (d_callB cr_len c_len T.b_len (by decide +kernel) (da_cons (d_var 1) da_nil)) d_int)))) (ss_one (s_ret [] d_bl)) ss_nil)
    (ss_cons (s_unp [] rfl (g_cons (i := 2) nd (g_cons (i := 3) nd (g_cons (i := 4) nd (g_cons (i := 5) nd g_nil)))) (d_var 1))
    (ss_cons (s_unp [] rfl (g_cons (i := 6) nd (g_cons (i := 7) nd g_nil)) (d_ix ix_B o_ix (d_var 0) d_int))
    (ss_cons (s_if [] (t_w (w_or (t_not (t_val (d_call G_is_int (hr.mono (by decide)) tk (da_cons (d_var 2) (da_cons d_int (da_cons (d_var 6) da_nil)))))) (w_or1 (t_not (t_val (d_call G_is_int (hr.mono (by decide)) tk (da_cons (d_var 3) (da_cons d_int (da_cons (d_var 7) da_nil))))))))) (ss_one (s_ret [] d_bl)) ss_nil)
    (ss_one (s_ret [] (d_and (d_call G_is_int (hr.mono (by decide)) tk (da_cons (d_var 4) (da_cons d_int (da_cons (d_op op_sub o_sub (d_var 6) (d_var 2)) da_nil)))) (d_one (d_call G_is_int (hr.mono (by decide)) tk (da_cons (d_var 5) (da_cons d_int (da_cons (d_op op_sub o_sub (d_var 7) (d_var 3)) da_nil))))))))))))
abbrev s_check_anchors : Stmt := top 68
theorem sc_check_anchors : FnScope ["setting", "anchors", "anchor"] ["setting", "anchors"] (defScope s_check_anchors) := ⟨rfl, rfl, rfl, by decide +kernel, rfl, by decide +kernel, by decide +kernel⟩
theorem w_check_anchors {fa : Addr} {fd : FuncData} (T : Txt K mg) (Fu : Fun K "check_anchors" "check_anchors" s_check_anchors fa fd) (hm : mg "check_anchors" = some (.ref fa)) (hb : Binds K fd ["setting", "anchors"] []) (G_check_setting : FnD P w K mg base 5 "check_setting" 1 f_check_setting) (G_has_anchor : FnD P w K mg base 3 "has_anchor" 2 f_has_anchor) : FnD P w K mg base 6 "check_anchors" 2 f_check_anchors := by
  refine FnD.mk' (x := "check_anchors") (N := ["setting", "anchors", "anchor"]) (ps := ["setting", "anchors"]) (k := 5) Fu sc_check_anchors hm hb fun cdv A outer s H E hr => ?_
  have nd : (["setting", "anchors", "anchor"] : List Str).Nodup := sc_check_anchors.nd
  have tk := takes_of (X := cxOf (L2.CX P w) P w K mg base ["setting", "anchors", "anchor"] "check_anchors" (defScope s_check_anchors) fa cdv A outer s H E) rfl rfl rfl rfl
  have po := passes_of (X := cxOf (L2.CX P w) P w K mg base ["setting", "anchors", "anchor"] "check_anchors" (defScope s_check_anchors) fa cdv A outer s H E) rfl
  unfold b_check_anchors
  exact (ss_cons (s_drop [] (d_call G_check_setting (hr.mono (by decide)) tk (da_cons (d_var 0) da_nil)))
    (ss_cons (s_if [] (t_w (w_or (t_not (t_val (d_isi ty_list T.b_isinstance T.b_list (by decide +kernel) (d_var 1)))) (w_or1 (t_cmp op_gt o_gt (d_callB cr_len c_len T.b_len (by decide +kernel) (da_cons (d_var 1) da_nil)) (d_gl T.c_MAX_ANCHORS))))) (ss_one (s_raiseD rfl tk T.x_InvalidAnchors)) ss_nil)
    (ss_one (s_if [] (t_not (t_val (d_callB (cr_all rfl) c_all T.b_all (by decide +kernel) (da_cons (d_ofL (l_lc rfl nd (i_seq (d_var 1)) (blkOk_by (own := [("anchor", 2)]) rfl) (gokR_name (by decide)) (fun _ _ _ _ _ => (pg_name (i := 2) nd rfl (Or.inl rfl))) (fun _ _ _ _ _ => ts_nil) (fun _ _ _ _ _ => (d_call G_has_anchor (hr.mono (by decide)) takes0 (da_cons (d_var 0) (da_cons (d_var 2) da_nil)))))) da_nil)))) (ss_one (s_raiseD rfl tk T.x_InvalidAnchors)) ss_nil))))
abbrev s_inside : Stmt := top 59
theorem sc_inside : FnScope ["start", "box", "low", "size"] ["start", "box", "low", "size"] (defScope s_inside) := ⟨rfl, rfl, rfl, by decide +kernel, rfl, by decide +kernel, by decide +kernel⟩
theorem w_inside {fa : Addr} {fd : FuncData} (T : Txt K mg) (Fu : Fun K "inside" "inside" s_inside fa fd) (hm : mg "inside" = some (.ref fa)) (hb : Binds K fd ["start", "box", "low", "size"] []) : FnD P w K mg base 2 "inside" 4 f_inside := by
  refine FnD.mk' (x := "inside") (N := ["start", "box", "low", "size"]) (ps := ["start", "box", "low", "size"]) (k := 1) Fu sc_inside hm hb fun cdv A outer s H E hr => ?_
  have nd : (["start", "box", "low", "size"] : List Str).Nodup := sc_inside.nd
  have tk := takes_of (X := cxOf (L2.CX P w) P w K mg base ["start", "box", "low", "size"] "inside" (defScope s_inside) fa cdv A outer s H E) rfl rfl rfl rfl
  have po := passes_of (X := cxOf (L2.CX P w) P w K mg base ["start", "box", "low", "size"] "inside" (defScope s_inside) fa cdv A outer s H E) rfl
  unfold b_inside
  exact (ss_one (s_ret [] (d_callB (call_max2 rfl) c_max2 T.b_max (by decide +kernel) (da_cons (d_var 2) (da_cons (d_callB (call_min2 rfl) c_min2 T.b_min (by decide +kernel) (da_cons (d_var 0) (da_cons (d_op op_sub o_sub (d_op op_addD o_add (d_var 2) (d_var 3)) (d_var 1)) da_nil))) da_nil)))))
abbrev s_centred : Stmt := top 34
theorem sc_centred : FnScope ["start", "size", "box"] ["start", "size", "box"] (defScope s_centred) := ⟨rfl, rfl, rfl, by decide +kernel, rfl, by decide +kernel, by decide +kernel⟩
theorem w_centred {fa : Addr} {fd : FuncData} (T : Txt K mg) (Fu : Fun K "centred" "centred" s_centred fa fd) (hm : mg "centred" = some (.ref fa)) (hb : Binds K fd ["start", "size", "box"] []) : FnD P w K mg base 2 "centred" 3 f_centred := by
  refine FnD.mk' (x := "centred") (N := ["start", "size", "box"]) (ps := ["start", "size", "box"]) (k := 1) Fu sc_centred hm hb fun cdv A outer s H E hr => ?_
  have nd : (["start", "size", "box"] : List Str).Nodup := sc_centred.nd
  have tk := takes_of (X := cxOf (L2.CX P w) P w K mg base ["start", "size", "box"] "centred" (defScope s_centred) fa cdv A outer s H E) rfl rfl rfl rfl
  have po := passes_of (X := cxOf (L2.CX P w) P w K mg base ["start", "size", "box"] "centred" (defScope s_centred) fa cdv A outer s H E) rfl
  unfold b_centred
  exact (ss_one (s_ret [] (d_op op_addD o_add (d_var 0) (d_op op_fdivW o_div (d_op op_sub o_sub (d_var 1) (d_var 2)) d_int))))
abbrev s_spot_on : Stmt := top 60
theorem sc_spot_on : FnScope ["setting", "region", "anchor", "side", "screen", "box", "gap", "sides", "left", "top", "width", "height", "x", "y"] ["setting", "region", "anchor", "side"] (defScope s_spot_on) := ⟨rfl, rfl, rfl, by decide +kernel, rfl, by decide +kernel, by decide +kernel⟩
theorem w_spot_on {fa : Addr} {fd : FuncData} (T : Txt K mg) (Fu : Fun K "spot_on" "spot_on" s_spot_on fa fd) (hm : mg "spot_on" = some (.ref fa)) (hb : Binds K fd ["setting", "region", "anchor", "side"] []) (G_inside : FnD P w K mg base 2 "inside" 4 f_inside) (G_centred : FnD P w K mg base 2 "centred" 3 f_centred) : FnD P w K mg base 3 "spot_on" 4 f_spot_on := by
  refine FnD.mk' (x := "spot_on") (N := ["setting", "region", "anchor", "side", "screen", "box", "gap", "sides", "left", "top", "width", "height", "x", "y"]) (ps := ["setting", "region", "anchor", "side"]) (k := 2) Fu sc_spot_on hm hb fun cdv A outer s H E hr => ?_
  have nd : (["setting", "region", "anchor", "side", "screen", "box", "gap", "sides", "left", "top", "width", "height", "x", "y"] : List Str).Nodup := sc_spot_on.nd
  have tk := takes_of (X := cxOf (L2.CX P w) P w K mg base ["setting", "region", "anchor", "side", "screen", "box", "gap", "sides", "left", "top", "width", "height", "x", "y"] "spot_on" (defScope s_spot_on) fa cdv A outer s H E) rfl rfl rfl rfl
  have po := passes_of (X := cxOf (L2.CX P w) P w K mg base ["setting", "region", "anchor", "side", "screen", "box", "gap", "sides", "left", "top", "width", "height", "x", "y"] "spot_on" (defScope s_spot_on) fa cdv A outer s H E) rfl
  unfold b_spot_on
  exact (ss_cons (s_unp [] rfl (g_cons (i := 4) nd (g_cons (i := 5) nd (g_cons (i := 6) nd (g_cons (i := 7) nd g_nil)))) (d_var 0))
    (ss_cons (s_unp [] rfl (g_cons (i := 8) nd (g_cons (i := 9) nd (g_cons (i := 10) nd (g_cons (i := 11) nd g_nil)))) (d_var 2))
    (ss_cons (s_set (i := 12) [] nd (d_call G_inside (hr.mono (by decide)) tk (da_cons (d_call G_centred (hr.mono (by decide)) tk (da_cons (d_var 8) (da_cons (d_var 10) (da_cons (d_ix ix_B o_ix (d_var 5) d_int) da_nil)))) (da_cons (d_ix ix_B o_ix (d_var 5) d_int) (da_cons (d_ix ix_B o_ix (d_var 1) d_int) (da_cons (d_ix ix_B o_ix (d_var 1) d_int) da_nil))))))
    (ss_cons (s_set (i := 13) [] nd (d_call G_inside (hr.mono (by decide)) tk (da_cons (d_call G_centred (hr.mono (by decide)) tk (da_cons (d_var 9) (da_cons (d_var 11) (da_cons (d_ix ix_B o_ix (d_var 5) d_int) da_nil)))) (da_cons (d_ix ix_B o_ix (d_var 5) d_int) (da_cons (d_ix ix_B o_ix (d_var 1) d_int) (da_cons (d_ix ix_B o_ix (d_var 1) d_int) da_nil))))))
    (ss_cons (s_if [] (t_cmp (op_eqD hr.units) o_eq (d_var 3) (d_gl T.c_TOP)) (ss_one (s_set (i := 13) [] nd (d_op op_sub o_sub (d_op op_sub o_sub (d_var 9) (d_var 6)) (d_ix ix_B o_ix (d_var 5) d_int)))) ss_nil)
    (ss_cons (s_if [] (t_cmp (op_eqD hr.units) o_eq (d_var 3) (d_gl T.c_BOTTOM)) (ss_one (s_set (i := 13) [] nd (d_op op_addD o_add (d_op op_addD o_add (d_var 9) (d_var 11)) (d_var 6)))) ss_nil)
    (ss_cons (s_if [] (t_cmp (op_eqD hr.units) o_eq (d_var 3) (d_gl T.c_LEFT)) (ss_one (s_set (i := 12) [] nd (d_op op_sub o_sub (d_op op_sub o_sub (d_var 8) (d_var 6)) (d_ix ix_B o_ix (d_var 5) d_int)))) ss_nil)
    (ss_cons (s_if [] (t_cmp (op_eqD hr.units) o_eq (d_var 3) (d_gl T.c_RIGHT)) (ss_one (s_set (i := 12) [] nd (d_op op_addD o_add (d_op op_addD o_add (d_var 8) (d_var 10)) (d_var 6)))) ss_nil)
    (ss_one (s_ret [] (d_tup (da_cons (d_var 12) (da_cons (d_var 13) (da_cons (d_ix ix_B o_ix (d_var 5) d_int) (da_cons (d_ix ix_B o_ix (d_var 5) d_int) da_nil)))))))))))))))
abbrev s_has_room : Stmt := top 27
theorem sc_has_room : FnScope ["setting", "anchor", "side", "screen", "box", "gap", "sides", "left", "top", "width", "height"] ["setting", "anchor", "side"] (defScope s_has_room) := ⟨rfl, rfl, rfl, by decide +kernel, rfl, by decide +kernel, by decide +kernel⟩
theorem w_has_room {fa : Addr} {fd : FuncData} (T : Txt K mg) (Fu : Fun K "has_room" "has_room" s_has_room fa fd) (hm : mg "has_room" = some (.ref fa)) (hb : Binds K fd ["setting", "anchor", "side"] []) : FnD P w K mg base 2 "has_room" 3 f_has_room := by
  refine FnD.mk' (x := "has_room") (N := ["setting", "anchor", "side", "screen", "box", "gap", "sides", "left", "top", "width", "height"]) (ps := ["setting", "anchor", "side"]) (k := 1) Fu sc_has_room hm hb fun cdv A outer s H E hr => ?_
  have nd : (["setting", "anchor", "side", "screen", "box", "gap", "sides", "left", "top", "width", "height"] : List Str).Nodup := sc_has_room.nd
  have tk := takes_of (X := cxOf (L2.CX P w) P w K mg base ["setting", "anchor", "side", "screen", "box", "gap", "sides", "left", "top", "width", "height"] "has_room" (defScope s_has_room) fa cdv A outer s H E) rfl rfl rfl rfl
  have po := passes_of (X := cxOf (L2.CX P w) P w K mg base ["setting", "anchor", "side", "screen", "box", "gap", "sides", "left", "top", "width", "height"] "has_room" (defScope s_has_room) fa cdv A outer s H E) rfl
  unfold b_has_room
  exact (ss_cons (s_unp [] rfl (g_cons (i := 3) nd (g_cons (i := 4) nd (g_cons (i := 5) nd (g_cons (i := 6) nd g_nil)))) (d_var 0))
    (ss_cons (s_unp [] rfl (g_cons (i := 7) nd (g_cons (i := 8) nd (g_cons (i := 9) nd (g_cons (i := 10) nd g_nil)))) (d_var 1))
    (ss_cons (s_if [] (t_cmp (op_eqD hr.units) o_eq (d_var 2) (d_gl T.c_TOP)) (ss_one (s_ret [] (d_cmp op_ge o_ge (d_var 8) (d_op op_addD o_add (d_ix ix_B o_ix (d_var 4) d_int) (d_var 5))))) ss_nil)
    (ss_cons (s_if [] (t_cmp (op_eqD hr.units) o_eq (d_var 2) (d_gl T.c_BOTTOM)) (ss_one (s_ret [] (d_cmp op_le o_le (d_op op_addD o_add (d_op op_addD o_add (d_op op_addD o_add (d_var 8) (d_var 10)) (d_var 5)) (d_ix ix_B o_ix (d_var 4) d_int)) (d_ix ix_B o_ix (d_var 3) d_int)))) ss_nil)
    (ss_cons (s_if [] (t_cmp (op_eqD hr.units) o_eq (d_var 2) (d_gl T.c_LEFT)) (ss_one (s_ret [] (d_cmp op_ge o_ge (d_var 7) (d_op op_addD o_add (d_ix ix_B o_ix (d_var 4) d_int) (d_var 5))))) ss_nil)
    (ss_one (s_ret [] (d_cmp op_le o_le (d_op op_addD o_add (d_op op_addD o_add (d_op op_addD o_add (d_var 7) (d_var 9)) (d_var 5)) (d_ix ix_B o_ix (d_var 4) d_int)) (d_ix ix_B o_ix (d_var 3) d_int)))))))))
abbrev s_find_fitting : Stmt := top 28
theorem sc_find_fitting : FnScope ["setting", "anchor", "side"] ["setting", "anchor"] (defScope s_find_fitting) := ⟨rfl, rfl, rfl, by decide +kernel, rfl, by decide +kernel, by decide +kernel⟩
theorem w_find_fitting {fa : Addr} {fd : FuncData} (T : Txt K mg) (Fu : Fun K "find_fitting" "find_fitting" s_find_fitting fa fd) (hm : mg "find_fitting" = some (.ref fa)) (hb : Binds K fd ["setting", "anchor"] []) (G_has_room : FnD P w K mg base 2 "has_room" 3 f_has_room) : FnD P w K mg base 3 "find_fitting" 2 f_find_fitting := by
  refine FnD.mk' (x := "find_fitting") (N := ["setting", "anchor", "side"]) (ps := ["setting", "anchor"]) (k := 2) Fu sc_find_fitting hm hb fun cdv A outer s H E hr => ?_
  have nd : (["setting", "anchor", "side"] : List Str).Nodup := sc_find_fitting.nd
  have tk := takes_of (X := cxOf (L2.CX P w) P w K mg base ["setting", "anchor", "side"] "find_fitting" (defScope s_find_fitting) fa cdv A outer s H E) rfl rfl rfl rfl
  have po := passes_of (X := cxOf (L2.CX P w) P w K mg base ["setting", "anchor", "side"] "find_fitting" (defScope s_find_fitting) fa cdv A outer s H E) rfl
  unfold b_find_fitting
  exact (ss_one (s_ret [] (d_ofL (l_lc rfl nd (i_seq (d_ix ix_B o_ix (d_var 0) d_int)) (blkOk_by (own := [("side", 2)]) rfl) (gokR_name (by decide)) (fun _ _ _ _ _ => (pg_name (i := 2) nd rfl (Or.inl rfl))) (fun _ _ _ _ _ => (ts_one (t_val (d_call G_has_room (hr.mono (by decide)) takes0 (da_cons (d_var 0) (da_cons (d_var 1) (da_cons (d_var 2) da_nil))))))) (fun _ _ _ _ _ => (d_var 2))))))
abbrev s_common : Stmt := top 39
theorem sc_common : FnScope ["start", "size", "other", "length"] ["start", "size", "other", "length"] (defScope s_common) := ⟨rfl, rfl, rfl, by decide +kernel, rfl, by decide +kernel, by decide +kernel⟩
theorem w_common {fa : Addr} {fd : FuncData} (T : Txt K mg) (Fu : Fun K "common" "common" s_common fa fd) (hm : mg "common" = some (.ref fa)) (hb : Binds K fd ["start", "size", "other", "length"] []) : FnD P w K mg base 2 "common" 4 f_common := by
  refine FnD.mk' (x := "common") (N := ["start", "size", "other", "length"]) (ps := ["start", "size", "other", "length"]) (k := 1) Fu sc_common hm hb fun cdv A outer s H E hr => ?_
  have nd : (["start", "size", "other", "length"] : List Str).Nodup := sc_common.nd
  have tk := takes_of (X := cxOf (L2.CX P w) P w K mg base ["start", "size", "other", "length"] "common" (defScope s_common) fa cdv A outer s H E) rfl rfl rfl rfl
  have po := passes_of (X := cxOf (L2.CX P w) P w K mg base ["start", "size", "other", "length"] "common" (defScope s_common) fa cdv A outer s H E) rfl
  unfold b_common
  exact (ss_one (s_ret [] (d_callB (call_max2 rfl) c_max2 T.b_max (by decide +kernel) (da_cons d_int (da_cons (d_op op_sub o_sub (d_callB (call_min2 rfl) c_min2 T.b_min (by decide +kernel) (da_cons (d_op op_addD o_add (d_var 0) (d_var 1)) (da_cons (d_op op_addD o_add (d_var 2) (d_var 3)) da_nil))) (d_callB (call_max2 rfl) c_max2 T.b_max (by decide +kernel) (da_cons (d_var 0) (da_cons (d_var 2) da_nil)))) da_nil)))))
abbrev s_overlap : Stmt := top 40
theorem sc_overlap : FnScope ["one", "other"] ["one", "other"] (defScope s_overlap) := ⟨rfl, rfl, rfl, by decide +kernel, rfl, by decide +kernel, by decide +kernel⟩
theorem w_overlap {fa : Addr} {fd : FuncData} (T : Txt K mg) (Fu : Fun K "overlap" "overlap" s_overlap fa fd) (hm : mg "overlap" = some (.ref fa)) (hb : Binds K fd ["one", "other"] []) (G_common : FnD P w K mg base 2 "common" 4 f_common) : FnD P w K mg base 3 "overlap" 2 f_overlap := by
  refine FnD.mk' (x := "overlap") (N := ["one", "other"]) (ps := ["one", "other"]) (k := 2) Fu sc_overlap hm hb fun cdv A outer s H E hr => ?_
  have nd : (["one", "other"] : List Str).Nodup := sc_overlap.nd
  have tk := takes_of (X := cxOf (L2.CX P w) P w K mg base ["one", "other"] "overlap" (defScope s_overlap) fa cdv A outer s H E) rfl rfl rfl rfl
  have po := passes_of (X := cxOf (L2.CX P w) P w K mg base ["one", "other"] "overlap" (defScope s_overlap) fa cdv A outer s H E) rfl
  unfold b_overlap
  exact (ss_one (s_ret [] (d_op op_mul o_mul (d_call G_common (hr.mono (by decide)) tk (da_cons (d_ix ix_B o_ix (d_var 0) d_int) (da_cons (d_ix ix_B o_ix (d_var 0) d_int) (da_cons (d_ix ix_B o_ix (d_var 1) d_int) (da_cons (d_ix ix_B o_ix (d_var 1) d_int) da_nil))))) (d_call G_common (hr.mono (by decide)) tk (da_cons (d_ix ix_B o_ix (d_var 0) d_int) (da_cons (d_ix ix_B o_ix (d_var 0) d_int) (da_cons (d_ix ix_B o_ix (d_var 1) d_int) (da_cons (d_ix ix_B o_ix (d_var 1) d_int) da_nil))))))))
abbrev s_find_open : Stmt := top 69
theorem sc_find_open : FnScope ["setting", "anchors", "found", "taken", "screen", "anchor", "spots", "free", "side", "spot", "other"] ["setting", "anchors"] (defScope s_find_open) := ⟨rfl, rfl, rfl, by decide +kernel, rfl, by decide +kernel, by decide +kernel⟩
theorem w_find_open {fa : Addr} {fd : FuncData} (T : Txt K mg) (Fu : Fun K "find_open" "find_open" s_find_open fa fd) (hm : mg "find_open" = some (.ref fa)) (hb : Binds K fd ["setting", "anchors"] []) (G_spot_on : FnD P w K mg base 3 "spot_on" 4 f_spot_on) (G_find_fitting : FnD P w K mg base 3 "find_fitting" 2 f_find_fitting) (G_overlap : FnD P w K mg base 3 "overlap" 2 f_overlap) : FnD P w K mg base 4 "find_open" 2 f_find_open := by
  refine FnD.mk' (x := "find_open") (N := ["setting", "anchors", "found", "taken", "screen", "anchor", "spots", "free", "side", "spot", "other"]) (ps := ["setting", "anchors"]) (k := 3) Fu sc_find_open hm hb fun cdv A outer s H E hr => ?_
  have nd : (["setting", "anchors", "found", "taken", "screen", "anchor", "spots", "free", "side", "spot", "other"] : List Str).Nodup := sc_find_open.nd
  have tk := takes_of (X := cxOf (L2.CX P w) P w K mg base ["setting", "anchors", "found", "taken", "screen", "anchor", "spots", "free", "side", "spot", "other"] "find_open" (defScope s_find_open) fa cdv A outer s H E) rfl rfl rfl rfl
  have po := passes_of (X := cxOf (L2.CX P w) P w K mg base ["setting", "anchors", "found", "taken", "screen", "anchor", "spots", "free", "side", "spot", "other"] "find_open" (defScope s_find_open) fa cdv A outer s H E) rfl
  unfold b_find_open
  exact (ss_cons (s_parT [] rfl (g_cons (i := 2) nd (g_cons (i := 3) nd g_nil)) (dm_l (l_lst da_nil) (dm_l (l_listOf T.b_list (d_var 1)) dm_nil)))
    (ss_cons (s_set (i := 4) [] nd (d_tup (da_cons d_int (da_cons d_int (da_cons (d_ix ix_B o_ix (d_ix ix_B o_ix (d_var 0) d_int) d_int) (da_cons (d_ix ix_B o_ix (d_ix ix_B o_ix (d_var 0) d_int) d_int) da_nil))))))
    (ss_cons (s_for [] po rfl (i_seq (d_var 1)) (pg_name (i := 5) nd rfl (Or.inr rfl)) (gok_name 5)
    (ss_aft [5, 6, 7] (ss_cons (s_setLc (i := 6) [] rfl nd (i_seq (d_call G_find_fitting (hr.mono (by decide)) tk (da_cons (d_var 0) (da_cons (d_var 5) da_nil)))) (blkOk_by (own := [("side", 8)]) rfl) (gokR_name (by decide)) (fun _ _ _ _ _ => (pg_name (i := 8) nd rfl (Or.inl rfl))) (fun _ _ _ _ _ => ts_nil) (fun _ _ _ _ _ => (d_call G_spot_on (hr.mono (by decide)) takes0 (da_cons (d_var 0) (da_cons (d_var 4) (da_cons (d_var 5) (da_cons (d_var 8) da_nil)))))))
    (ss_cons (s_setLc (i := 7) [3, 6] rfl nd (i_seq (d_var 6)) (blkOk_by (own := [("spot", 9)]) rfl) (gokR_name (by decide)) (fun _ _ _ _ _ => (pg_name (i := 9) nd rfl (Or.inr rfl))) (fun _ _ _ _ _ => (ts_one (t_not (t_val (d_callB (cr_any rfl) c_any T.b_any (by decide +kernel) (da_cons (d_ofL (l_lc rfl nd (i_seq (d_var 3)) (blkOk_by (own := [("other", 10)]) rfl) (gokR_name (by decide)) (fun _ _ _ _ _ => (pg_name (i := 10) nd rfl (Or.inl rfl))) (fun _ _ _ _ _ => ts_nil) (fun _ _ _ _ _ => (d_cmp op_gt o_gt (d_call G_overlap (hr.mono (by decide)) takes0 (da_cons (d_var 9) (da_cons (d_var 10) da_nil))) d_int)))) da_nil)))))) (fun _ _ _ _ _ => (d_var 9)))
    (ss_cons (s_app (i := 2) [7] (d_ifE (t_cmp (op_neD hr.units) o_ne (d_var 7) (d_ofL (l_lst da_nil))) (d_ix ix_B o_ix (d_var 7) d_int) d_non))
    (ss_one (s_ext (i := 3) [7] (d_ofL (l_cut (d_var 7) p_none (p_some d_int))))))))))
    (ss_one (s_ret [2] (d_var 2))))))
abbrev s_open_all : Stmt := top 70
theorem sc_open_all : FnScope ["setting", "anchors"] ["setting", "anchors"] (defScope s_open_all) := ⟨rfl, rfl, rfl, by decide +kernel, rfl, by decide +kernel, by decide +kernel⟩
theorem w_open_all {fa : Addr} {fd : FuncData} (T : Txt K mg) (Fu : Fun K "open_all" "open_all" s_open_all fa fd) (hm : mg "open_all" = some (.ref fa)) (hb : Binds K fd ["setting", "anchors"] []) (G_check_anchors : FnD P w K mg base 6 "check_anchors" 2 f_check_anchors) (G_find_open : FnD P w K mg base 4 "find_open" 2 f_find_open) : FnD P w K mg base 7 "open_all" 2 f_open_all := by
  refine FnD.mk' (x := "open_all") (N := ["setting", "anchors"]) (ps := ["setting", "anchors"]) (k := 6) Fu sc_open_all hm hb fun cdv A outer s H E hr => ?_
  have nd : (["setting", "anchors"] : List Str).Nodup := sc_open_all.nd
  have tk := takes_of (X := cxOf (L2.CX P w) P w K mg base ["setting", "anchors"] "open_all" (defScope s_open_all) fa cdv A outer s H E) rfl rfl rfl rfl
  have po := passes_of (X := cxOf (L2.CX P w) P w K mg base ["setting", "anchors"] "open_all" (defScope s_open_all) fa cdv A outer s H E) rfl
  unfold b_open_all
  exact (ss_cons (s_drop [] (d_call G_check_anchors (hr.mono (by decide)) tk (da_cons (d_var 0) (da_cons (d_var 1) da_nil))))
    (ss_one (s_ret [] (d_call G_find_open (hr.mono (by decide)) tk (da_cons (d_var 0) (da_cons (d_var 1) da_nil))))))
abbrev s_find_shown : Stmt := top 71
theorem sc_find_shown : FnScope ["setting", "anchors", "spot"] ["setting", "anchors"] (defScope s_find_shown) := ⟨rfl, rfl, rfl, by decide +kernel, rfl, by decide +kernel, by decide +kernel⟩
theorem w_find_shown {fa : Addr} {fd : FuncData} (T : Txt K mg) (Fu : Fun K "find_shown" "find_shown" s_find_shown fa fd) (hm : mg "find_shown" = some (.ref fa)) (hb : Binds K fd ["setting", "anchors"] []) (G_find_open : FnD P w K mg base 4 "find_open" 2 f_find_open) : FnD P w K mg base 5 "find_shown" 2 f_find_shown := by
  refine FnD.mk' (x := "find_shown") (N := ["setting", "anchors", "spot"]) (ps := ["setting", "anchors"]) (k := 4) Fu sc_find_shown hm hb fun cdv A outer s H E hr => ?_
  have nd : (["setting", "anchors", "spot"] : List Str).Nodup := sc_find_shown.nd
  have tk := takes_of (X := cxOf (L2.CX P w) P w K mg base ["setting", "anchors", "spot"] "find_shown" (defScope s_find_shown) fa cdv A outer s H E) rfl rfl rfl rfl
  have po := passes_of (X := cxOf (L2.CX P w) P w K mg base ["setting", "anchors", "spot"] "find_shown" (defScope s_find_shown) fa cdv A outer s H E) rfl
  unfold b_find_shown
  exact (ss_one (s_ret [] (d_callB cr_len c_len T.b_len (by decide +kernel) (da_cons (d_ofL (l_lc rfl nd (i_seq (d_call G_find_open (hr.mono (by decide)) tk (da_cons (d_var 0) (da_cons (d_var 1) da_nil)))) (blkOk_by (own := [("spot", 2)]) rfl) (gokR_name (by decide)) (fun _ _ _ _ _ => (pg_name (i := 2) nd rfl (Or.inl rfl))) (fun _ _ _ _ _ => (ts_one (t_cmp op_isNotD o_isnot (d_var 2) d_non))) (fun _ _ _ _ _ => (d_var 2)))) da_nil))))
abbrev s_in_each_others_way : Stmt := top 75
theorem sc_in_each_others_way : FnScope ["setting", "anchors", "found", "one", "anchor", "other"] ["setting", "anchors"] (defScope s_in_each_others_way) := ⟨rfl, rfl, rfl, by decide +kernel, rfl, by decide +kernel, by decide +kernel⟩
theorem w_in_each_others_way {fa : Addr} {fd : FuncData} (T : Txt K mg) (Fu : Fun K "in_each_others_way" "in_each_others_way" s_in_each_others_way fa fd) (hm : mg "in_each_others_way" = some (.ref fa)) (hb : Binds K fd ["setting", "anchors"] []) (G_check_anchors : FnD P w K mg base 6 "check_anchors" 2 f_check_anchors) (G_find_shown : FnD P w K mg base 5 "find_shown" 2 f_find_shown) : FnD P w K mg base 7 "in_each_others_way" 2 f_in_each_others_way := by
  refine FnD.mk' (x := "in_each_others_way") (N := ["setting", "anchors", "found", "one", "anchor", "other"]) (ps := ["setting", "anchors"]) (k := 6) Fu sc_in_each_others_way hm hb fun cdv A outer s H E hr => ?_
  have nd : (["setting", "anchors", "found", "one", "anchor", "other"] : List Str).Nodup := sc_in_each_others_way.nd
  have tk := takes_of (X := cxOf (L2.CX P w) P w K mg base ["setting", "anchors", "found", "one", "anchor", "other"] "in_each_others_way" (defScope s_in_each_others_way) fa cdv A outer s H E) rfl rfl rfl rfl
  have po := passes_of (X := cxOf (L2.CX P w) P w K mg base ["setting", "anchors", "found", "one", "anchor", "other"] "in_each_others_way" (defScope s_in_each_others_way) fa cdv A outer s H E) rfl
  unfold b_in_each_others_way
  exact (ss_cons (s_drop [] (d_call G_check_anchors (hr.mono (by decide)) tk (da_cons (d_var 0) (da_cons (d_var 1) da_nil))))
    (ss_cons (s_setL (i := 2) [] nd (l_lst da_nil))
    (ss_cons (s_for [] po rfl (i_enum T.b_enumerate (da_cons (d_var 1) da_nil)) (pg_names rfl (g_cons (i := 3) nd (g_cons (i := 4) nd g_nil))) (gok_tup [3, 4] rfl)
    (ss_aft [3, 4, 5] (ss_one (s_for [] po rfl (i_range2 T.b_range (da_cons (d_op op_addD o_add (d_var 3) d_int) (da_cons (d_callB cr_len c_len T.b_len (by decide +kernel) (da_cons (d_var 1) da_nil)) da_nil)) (h1 := len_cons2)) (pg_name (i := 5) nd rfl (Or.inl rfl)) (gok_name 5)
    (ss_aft [5] (ss_one (s_if [] (t_cmp op_lt o_lt (d_call G_find_shown (hr.mono (by decide)) tk (da_cons (d_var 0) (da_cons (d_ofL (l_lst (da_cons (d_var 4) (da_cons (d_ix ix_B o_ix (d_var 1) (d_var 5)) da_nil)))) da_nil))) d_int) (ss_one (s_app (i := 2) [] (d_tup (da_cons (d_var 3) (da_cons (d_var 5) da_nil))))) ss_nil)))))))
    (ss_one (s_ret [2] (d_var 2))))))
abbrev s_check_anchor : Stmt := top 26
theorem sc_check_anchor : FnScope ["setting", "value"] ["setting", "value"] (defScope s_check_anchor) := ⟨rfl, rfl, rfl, by decide +kernel, rfl, by decide +kernel, by decide +kernel⟩
theorem w_check_anchor {fa : Addr} {fd : FuncData} (T : Txt K mg) (Fu : Fun K "check_anchor" "check_anchor" s_check_anchor fa fd) (hm : mg "check_anchor" = some (.ref fa)) (hb : Binds K fd ["setting", "value"] []) (G_has_anchor : FnD P w K mg base 3 "has_anchor" 2 f_has_anchor) : FnD P w K mg base 4 "check_anchor" 2 f_check_anchor := by
  refine FnD.mk' (x := "check_anchor") (N := ["setting", "value"]) (ps := ["setting", "value"]) (k := 3) Fu sc_check_anchor hm hb fun cdv A outer s H E hr => ?_
  have nd : (["setting", "value"] : List Str).Nodup := sc_check_anchor.nd
  have tk := takes_of (X := cxOf (L2.CX P w) P w K mg base ["setting", "value"] "check_anchor" (defScope s_check_anchor) fa cdv A outer s H E) rfl rfl rfl rfl
  have po := passes_of (X := cxOf (L2.CX P w) P w K mg base ["setting", "value"] "check_anchor" (defScope s_check_anchor) fa cdv A outer s H E) rfl
  unfold b_check_anchor
  exact (ss_one (s_if [] (t_not (t_val (d_call G_has_anchor (hr.mono (by decide)) tk (da_cons (d_var 0) (da_cons (d_var 1) da_nil))))) (ss_one (s_raiseD rfl tk T.x_InvalidAnchor)) ss_nil))
abbrev s_check_both : Stmt := top 38
theorem sc_check_both : FnScope ["setting", "anchor"] ["setting", "anchor"] (defScope s_check_both) := ⟨rfl, rfl, rfl, by decide +kernel, rfl, by decide +kernel, by decide +kernel⟩
theorem w_check_both {fa : Addr} {fd : FuncData} (T : Txt K mg) (Fu : Fun K "check_both" "check_both" s_check_both fa fd) (hm : mg "check_both" = some (.ref fa)) (hb : Binds K fd ["setting", "anchor"] []) (G_check_setting : FnD P w K mg base 5 "check_setting" 1 f_check_setting) (G_check_anchor : FnD P w K mg base 4 "check_anchor" 2 f_check_anchor) : FnD P w K mg base 6 "check_both" 2 f_check_both := by
  refine FnD.mk' (x := "check_both") (N := ["setting", "anchor"]) (ps := ["setting", "anchor"]) (k := 5) Fu sc_check_both hm hb fun cdv A outer s H E hr => ?_
  have nd : (["setting", "anchor"] : List Str).Nodup := sc_check_both.nd
  have tk := takes_of (X := cxOf (L2.CX P w) P w K mg base ["setting", "anchor"] "check_both" (defScope s_check_both) fa cdv A outer s H E) rfl rfl rfl rfl
  have po := passes_of (X := cxOf (L2.CX P w) P w K mg base ["setting", "anchor"] "check_both" (defScope s_check_both) fa cdv A outer s H E) rfl
  unfold b_check_both
  exact (ss_cons (s_drop [] (d_call G_check_setting (hr.mono (by decide)) tk (da_cons (d_var 0) da_nil)))
    (ss_one (s_drop [] (d_call G_check_anchor (hr.mono (by decide)) tk (da_cons (d_var 0) (da_cons (d_var 1) da_nil))))))
abbrev s_find_side : Stmt := top 29
theorem sc_find_side : FnScope ["setting", "anchor"] ["setting", "anchor"] (defScope s_find_side) := ⟨rfl, rfl, rfl, by decide +kernel, rfl, by decide +kernel, by decide +kernel⟩
theorem w_find_side {fa : Addr} {fd : FuncData} (T : Txt K mg) (Fu : Fun K "find_side" "find_side" s_find_side fa fd) (hm : mg "find_side" = some (.ref fa)) (hb : Binds K fd ["setting", "anchor"] []) (G_find_fitting : FnD P w K mg base 3 "find_fitting" 2 f_find_fitting) : FnD P w K mg base 4 "find_side" 2 f_find_side := by
  refine FnD.mk' (x := "find_side") (N := ["setting", "anchor"]) (ps := ["setting", "anchor"]) (k := 3) Fu sc_find_side hm hb fun cdv A outer s H E hr => ?_
  have nd : (["setting", "anchor"] : List Str).Nodup := sc_find_side.nd
  have tk := takes_of (X := cxOf (L2.CX P w) P w K mg base ["setting", "anchor"] "find_side" (defScope s_find_side) fa cdv A outer s H E) rfl rfl rfl rfl
  have po := passes_of (X := cxOf (L2.CX P w) P w K mg base ["setting", "anchor"] "find_side" (defScope s_find_side) fa cdv A outer s H E) rfl
  unfold b_find_side
  exact (ss_one (s_ret [] (d_ix ix_B o_ix (d_ofL (l_cat (d_call G_find_fitting (hr.mono (by decide)) tk (da_cons (d_var 0) (da_cons (d_var 1) da_nil))) (d_ofL (l_lst (da_cons (d_gl T.c_OVER) da_nil))))) d_int)))
abbrev s_find_raw : Stmt := top 36
theorem sc_find_raw : FnScope ["setting", "anchor", "screen", "box", "gap", "sides", "left", "top", "width", "height", "x", "y", "side"] ["setting", "anchor"] (defScope s_find_raw) := ⟨rfl, rfl, rfl, by decide +kernel, rfl, by decide +kernel, by decide +kernel⟩
theorem w_find_raw {fa : Addr} {fd : FuncData} (T : Txt K mg) (Fu : Fun K "find_raw" "find_raw" s_find_raw fa fd) (hm : mg "find_raw" = some (.ref fa)) (hb : Binds K fd ["setting", "anchor"] []) (G_centred : FnD P w K mg base 2 "centred" 3 f_centred) (G_find_side : FnD P w K mg base 4 "find_side" 2 f_find_side) : FnD P w K mg base 5 "find_raw" 2 f_find_raw := by
  refine FnD.mk' (x := "find_raw") (N := ["setting", "anchor", "screen", "box", "gap", "sides", "left", "top", "width", "height", "x", "y", "side"]) (ps := ["setting", "anchor"]) (k := 4) Fu sc_find_raw hm hb fun cdv A outer s H E hr => ?_
  have nd : (["setting", "anchor", "screen", "box", "gap", "sides", "left", "top", "width", "height", "x", "y", "side"] : List Str).Nodup := sc_find_raw.nd
  have tk := takes_of (X := cxOf (L2.CX P w) P w K mg base ["setting", "anchor", "screen", "box", "gap", "sides", "left", "top", "width", "height", "x", "y", "side"] "find_raw" (defScope s_find_raw) fa cdv A outer s H E) rfl rfl rfl rfl
  have po := passes_of (X := cxOf (L2.CX P w) P w K mg base ["setting", "anchor", "screen", "box", "gap", "sides", "left", "top", "width", "height", "x", "y", "side"] "find_raw" (defScope s_find_raw) fa cdv A outer s H E) rfl
  unfold b_find_raw
  exact (ss_cons (s_unp [] rfl (g_cons (i := 2) nd (g_cons (i := 3) nd (g_cons (i := 4) nd (g_cons (i := 5) nd g_nil)))) (d_var 0))
    (ss_cons (s_unp [] rfl (g_cons (i := 6) nd (g_cons (i := 7) nd (g_cons (i := 8) nd (g_cons (i := 9) nd g_nil)))) (d_var 1))
    (ss_cons (s_par3 (i := 10) (j := 11) (l := 12) [] rfl nd (dm_s (d_call G_centred (hr.mono (by decide)) tk (da_cons (d_var 6) (da_cons (d_var 8) (da_cons (d_ix ix_B o_ix (d_var 3) d_int) da_nil)))) (dm_s (d_call G_centred (hr.mono (by decide)) tk (da_cons (d_var 7) (da_cons (d_var 9) (da_cons (d_ix ix_B o_ix (d_var 3) d_int) da_nil)))) (dm_s (d_call G_find_side (hr.mono (by decide)) tk (da_cons (d_var 0) (da_cons (d_var 1) da_nil))) dm_nil))))
    (ss_cons (s_if [] (t_cmp (op_eqD hr.units) o_eq (d_var 12) (d_gl T.c_TOP)) (ss_one (s_ret [] (d_tup (da_cons (d_var 10) (da_cons (d_op op_sub o_sub (d_op op_sub o_sub (d_var 7) (d_var 4)) (d_ix ix_B o_ix (d_var 3) d_int)) da_nil))))) ss_nil)
    (ss_cons (s_if [] (t_cmp (op_eqD hr.units) o_eq (d_var 12) (d_gl T.c_BOTTOM)) (ss_one (s_ret [] (d_tup (da_cons (d_var 10) (da_cons (d_op op_addD o_add (d_op op_addD o_add (d_var 7) (d_var 9)) (d_var 4)) da_nil))))) ss_nil)
    (ss_cons (s_if [] (t_cmp (op_eqD hr.units) o_eq (d_var 12) (d_gl T.c_LEFT)) (ss_one (s_ret [] (d_tup (da_cons (d_op op_sub o_sub (d_op op_sub o_sub (d_var 6) (d_var 4)) (d_ix ix_B o_ix (d_var 3) d_int)) (da_cons (d_var 11) da_nil))))) ss_nil)
    (ss_cons (s_if [] (t_cmp (op_eqD hr.units) o_eq (d_var 12) (d_gl T.c_RIGHT)) (ss_one (s_ret [] (d_tup (da_cons (d_op op_addD o_add (d_op op_addD o_add (d_var 6) (d_var 8)) (d_var 4)) (da_cons (d_var 11) da_nil))))) ss_nil)
    (ss_one (s_ret [] (d_tup (da_cons (d_var 10) (da_cons (d_var 11) da_nil))))))))))))
abbrev s_within : Stmt := top 35
theorem sc_within : FnScope ["start", "box", "screen"] ["start", "box", "screen"] (defScope s_within) := ⟨rfl, rfl, rfl, by decide +kernel, rfl, by decide +kernel, by decide +kernel⟩
theorem w_within {fa : Addr} {fd : FuncData} (T : Txt K mg) (Fu : Fun K "within" "within" s_within fa fd) (hm : mg "within" = some (.ref fa)) (hb : Binds K fd ["start", "box", "screen"] []) : FnD P w K mg base 2 "within" 3 f_within := by
  refine FnD.mk' (x := "within") (N := ["start", "box", "screen"]) (ps := ["start", "box", "screen"]) (k := 1) Fu sc_within hm hb fun cdv A outer s H E hr => ?_
  have nd : (["start", "box", "screen"] : List Str).Nodup := sc_within.nd
  have tk := takes_of (X := cxOf (L2.CX P w) P w K mg base ["start", "box", "screen"] "within" (defScope s_within) fa cdv A outer s H E) rfl rfl rfl rfl
  have po := passes_of (X := cxOf (L2.CX P w) P w K mg base ["start", "box", "screen"] "within" (defScope s_within) fa cdv A outer s H E) rfl
  unfold b_within
  exact (ss_one (s_ret [] (d_callB (call_max2 rfl) c_max2 T.b_max (by decide +kernel) (da_cons d_int (da_cons (d_callB (call_min2 rfl) c_min2 T.b_min (by decide +kernel) (da_cons (d_var 0) (da_cons (d_op op_sub o_sub (d_var 2) (d_var 1)) da_nil))) da_nil)))))
abbrev s_find_place : Stmt := top 37
theorem sc_find_place : FnScope ["setting", "anchor", "screen", "box", "x", "y"] ["setting", "anchor"] (defScope s_find_place) := ⟨rfl, rfl, rfl, by decide +kernel, rfl, by decide +kernel, by decide +kernel⟩
theorem w_find_place {fa : Addr} {fd : FuncData} (T : Txt K mg) (Fu : Fun K "find_place" "find_place" s_find_place fa fd) (hm : mg "find_place" = some (.ref fa)) (hb : Binds K fd ["setting", "anchor"] []) (G_find_raw : FnD P w K mg base 5 "find_raw" 2 f_find_raw) (G_within : FnD P w K mg base 2 "within" 3 f_within) : FnD P w K mg base 6 "find_place" 2 f_find_place := by
  refine FnD.mk' (x := "find_place") (N := ["setting", "anchor", "screen", "box", "x", "y"]) (ps := ["setting", "anchor"]) (k := 5) Fu sc_find_place hm hb fun cdv A outer s H E hr => ?_
  have nd : (["setting", "anchor", "screen", "box", "x", "y"] : List Str).Nodup := sc_find_place.nd
  have tk := takes_of (X := cxOf (L2.CX P w) P w K mg base ["setting", "anchor", "screen", "box", "x", "y"] "find_place" (defScope s_find_place) fa cdv A outer s H E) rfl rfl rfl rfl
  have po := passes_of (X := cxOf (L2.CX P w) P w K mg base ["setting", "anchor", "screen", "box", "x", "y"] "find_place" (defScope s_find_place) fa cdv A outer s H E) rfl
  unfold b_find_place
  exact (ss_cons (s_par2 (i := 2) (j := 3) [] rfl nd (dm_s (d_ix ix_B o_ix (d_var 0) d_int) (dm_s (d_ix ix_B o_ix (d_var 0) d_int) dm_nil)))
    (ss_cons (s_unp [] rfl (g_cons (i := 4) nd (g_cons (i := 5) nd g_nil)) (d_call G_find_raw (hr.mono (by decide)) tk (da_cons (d_var 0) (da_cons (d_var 1) da_nil))))
    (ss_one (s_ret [] (d_tup (da_cons (d_call G_within (hr.mono (by decide)) tk (da_cons (d_var 4) (da_cons (d_ix ix_B o_ix (d_var 3) d_int) (da_cons (d_ix ix_B o_ix (d_var 2) d_int) da_nil)))) (da_cons (d_call G_within (hr.mono (by decide)) tk (da_cons (d_var 5) (da_cons (d_ix ix_B o_ix (d_var 3) d_int) (da_cons (d_ix ix_B o_ix (d_var 2) d_int) da_nil)))) (da_cons (d_ix ix_B o_ix (d_var 3) d_int) (da_cons (d_ix ix_B o_ix (d_var 3) d_int) da_nil)))))))))
abbrev s_picture : Stmt := top 56
theorem sc_picture : FnScope ["setting", "anchor", "box", "rows", "y", "row", "x", "field", "sign"] ["setting", "anchor"] (defScope s_picture) := ⟨rfl, rfl, rfl, by decide +kernel, rfl, by decide +kernel, by decide +kernel⟩
theorem w_picture {fa : Addr} {fd : FuncData} (T : Txt K mg) (Fu : Fun K "picture" "picture" s_picture fa fd) (hm : mg "picture" = some (.ref fa)) (hb : Binds K fd ["setting", "anchor"] []) (G_check_both : FnD P w K mg base 6 "check_both" 2 f_check_both) (G_find_place : FnD P w K mg base 6 "find_place" 2 f_find_place) (G_overlap : FnD P w K mg base 3 "overlap" 2 f_overlap) : FnD P w K mg base 7 "picture" 2 f_picture := by
  refine FnD.mk' (x := "picture") (N := ["setting", "anchor", "box", "rows", "y", "row", "x", "field", "sign"]) (ps := ["setting", "anchor"]) (k := 6) Fu sc_picture hm hb fun cdv A outer s H E hr => ?_
  have nd : (["setting", "anchor", "box", "rows", "y", "row", "x", "field", "sign"] : List Str).Nodup := sc_picture.nd
  have tk := takes_of (X := cxOf (L2.CX P w) P w K mg base ["setting", "anchor", "box", "rows", "y", "row", "x", "field", "sign"] "picture" (defScope s_picture) fa cdv A outer s H E) rfl rfl rfl rfl
  have po := passes_of (X := cxOf (L2.CX P w) P w K mg base ["setting", "anchor", "box", "rows", "y", "row", "x", "field", "sign"] "picture" (defScope s_picture) fa cdv A outer s H E) rfl
  unfold b_picture
  exact (ss_cons (s_drop [] (d_call G_check_both (hr.mono (by decide)) tk (da_cons (d_var 0) (da_cons (d_var 1) da_nil))))
    (ss_cons (s_par2 (i := 2) (j := 3) [] rfl nd (dm_s (d_call G_find_place (hr.mono (by decide)) tk (da_cons (d_var 0) (da_cons (d_var 1) da_nil))) (dm_l (l_lst da_nil) dm_nil)))
    (ss_cons (s_for [] po rfl (i_range1 T.b_range (da_cons (d_ix ix_B o_ix (d_ix ix_B o_ix (d_var 0) d_int) d_int) da_nil) (h1 := len_cons1)) (pg_name (i := 4) nd rfl (Or.inl rfl)) (gok_name 4)
    (ss_aft [4, 5, 6, 7, 8] (ss_cons (s_set (i := 5) [] nd d_str)
    (ss_cons (s_for [] po rfl (i_range1 T.b_range (da_cons (d_ix ix_B o_ix (d_ix ix_B o_ix (d_var 0) d_int) d_int) da_nil) (h1 := len_cons1)) (pg_name (i := 6) nd rfl (Or.inl rfl)) (gok_name 6)
    (ss_aft [6, 7, 8] (ss_cons (s_set (i := 7) [] nd (d_tup (da_cons (d_var 6) (da_cons (d_var 4) (da_cons d_int (da_cons d_int da_nil))))))
    (ss_cons (s_set (i := 8) [] nd (d_ifE (t_cmp op_gt o_gt (d_call G_overlap (hr.mono (by decide)) tk (da_cons (d_var 7) (da_cons (d_var 2) da_nil))) d_int) (d_gl T.c_BOX) (d_gl T.c_EMPTY)))
    (ss_one (s_set (i := 5) [] nd (d_op op_addD o_add (d_var 5) (d_ifE (t_cmp op_gt o_gt (d_call G_overlap (hr.mono (by decide)) tk (da_cons (d_var 7) (da_cons (d_var 1) da_nil))) d_int) (d_gl T.c_HERE) (d_var 8)))))))))
    (ss_one (s_app (i := 3) [] (d_var 5)))))))
    (ss_one (s_ret [3] (d_var 3))))))
abbrev s_L_lists : Stmt := top 80
theorem sc_L_lists : FnScope ["_law_setting_here", "_law_anchors"] ["_law_setting_here", "_law_anchors"] (defScope s_L_lists) := ⟨rfl, rfl, rfl, by decide +kernel, rfl, by decide +kernel, by decide +kernel⟩
theorem w_L_lists {fa : Addr} {fd : FuncData} (T : Txt K mg) (Fu : Fun K "_law_lists" "_law_lists" s_L_lists fa fd) (hm : mg "_law_lists" = some (.ref fa)) (hb : Binds K fd ["_law_setting_here", "_law_anchors"] []) (G_open_all : FnD P w K mg base 7 "open_all" 2 f_open_all) (G_in_each_others_way : FnD P w K mg base 7 "in_each_others_way" 2 f_in_each_others_way) (G_picture : FnD P w K mg base 7 "picture" 2 f_picture) : FnD P w K mg base 8 "_law_lists" 2 f_L_lists := by
  refine FnD.mk' (x := "_law_lists") (N := ["_law_setting_here", "_law_anchors"]) (ps := ["_law_setting_here", "_law_anchors"]) (k := 7) Fu sc_L_lists hm hb fun cdv A outer s H E hr => ?_
  have nd : (["_law_setting_here", "_law_anchors"] : List Str).Nodup := sc_L_lists.nd
  have tk := takes_of (X := cxOf (L2.CX P w) P w K mg base ["_law_setting_here", "_law_anchors"] "_law_lists" (defScope s_L_lists) fa cdv A outer s H E) rfl rfl rfl rfl
  have po := passes_of (X := cxOf (L2.CX P w) P w K mg base ["_law_setting_here", "_law_anchors"] "_law_lists" (defScope s_L_lists) fa cdv A outer s H E) rfl
  unfold b_L_lists
  exact (ss_one (s_ret [] (d_ofL (l_lst (da_cons (d_call G_open_all (hr.mono (by decide)) tk (da_cons (d_var 0) (da_cons (d_var 1) da_nil))) (da_cons (d_call G_in_each_others_way (hr.mono (by decide)) tk (da_cons (d_var 0) (da_cons (d_var 1) da_nil))) (da_cons (d_call G_picture (hr.mono (by decide)) tk (da_cons (d_var 0) (da_cons (d_ix ix_B o_ix (d_var 1) d_int) da_nil))) da_nil)))))))
theorem w_R_find_open {fa : Addr} {fd : FuncData} (T : Txt K mg) (Fu : Fun K "find_open" "find_open" s_find_open fa fd) (hm : mg "find_open" = some (.ref fa)) (hb : Binds K fd ["setting", "anchors"] []) (G_spot_on : FnD P w K mg base 3 "spot_on" 4 f_spot_on) (G_find_fitting : FnD P w K mg base 3 "find_fitting" 2 f_find_fitting) (G_overlap : FnD P w K mg base 3 "overlap" 2 f_overlap) : FnL P w K mg base 4 "find_open" 2 f_R_find_open := by
  refine FnL.mk' (x := "find_open") (N := ["setting", "anchors", "found", "taken", "screen", "anchor", "spots", "free", "side", "spot", "other"]) (ps := ["setting", "anchors"]) (k := 3) Fu sc_find_open hm hb fun cdv A outer s H E hr => ?_
  have nd : (["setting", "anchors", "found", "taken", "screen", "anchor", "spots", "free", "side", "spot", "other"] : List Str).Nodup := sc_find_open.nd
  have tk := takes_of (X := cxOf (L2.CX P w) P w K mg base ["setting", "anchors", "found", "taken", "screen", "anchor", "spots", "free", "side", "spot", "other"] "find_open" (defScope s_find_open) fa cdv A outer s H E) rfl rfl rfl rfl
  have po := passes_of (X := cxOf (L2.CX P w) P w K mg base ["setting", "anchors", "found", "taken", "screen", "anchor", "spots", "free", "side", "spot", "other"] "find_open" (defScope s_find_open) fa cdv A outer s H E) rfl
  unfold b_R_find_open
  exact (ss_consR (W := fun cls d _ H => E cls d H) (s_parT [] rfl (g_cons (i := 2) nd (g_cons (i := 3) nd g_nil)) (dm_l (l_lst da_nil) (dm_l (l_listOf T.b_list (d_var 1)) dm_nil)))
    (ss_consR (W := fun cls d _ H => E cls d H) (s_set (i := 4) [] nd (d_tup (da_cons d_int (da_cons d_int (da_cons (d_ix ix_B o_ix (d_ix ix_B o_ix (d_var 0) d_int) d_int) (da_cons (d_ix ix_B o_ix (d_ix ix_B o_ix (d_var 0) d_int) d_int) da_nil))))))
    (ss_consR (W := fun cls d _ H => E cls d H) (s_for [] po rfl (i_seq (d_var 1)) (pg_name (i := 5) nd rfl (Or.inr rfl)) (gok_name 5)
    (ss_aft [5, 6, 7] (ss_cons (s_setLc (i := 6) [] rfl nd (i_seq (d_call G_find_fitting (hr.mono (by decide)) tk (da_cons (d_var 0) (da_cons (d_var 5) da_nil)))) (blkOk_by (own := [("side", 8)]) rfl) (gokR_name (by decide)) (fun _ _ _ _ _ => (pg_name (i := 8) nd rfl (Or.inl rfl))) (fun _ _ _ _ _ => ts_nil) (fun _ _ _ _ _ => (d_call G_spot_on (hr.mono (by decide)) takes0 (da_cons (d_var 0) (da_cons (d_var 4) (da_cons (d_var 5) (da_cons (d_var 8) da_nil)))))))
    (ss_cons (s_setLc (i := 7) [3, 6] rfl nd (i_seq (d_var 6)) (blkOk_by (own := [("spot", 9)]) rfl) (gokR_name (by decide)) (fun _ _ _ _ _ => (pg_name (i := 9) nd rfl (Or.inr rfl))) (fun _ _ _ _ _ => (ts_one (t_not (t_val (d_callB (cr_any rfl) c_any T.b_any (by decide +kernel) (da_cons (d_ofL (l_lc rfl nd (i_seq (d_var 3)) (blkOk_by (own := [("other", 10)]) rfl) (gokR_name (by decide)) (fun _ _ _ _ _ => (pg_name (i := 10) nd rfl (Or.inl rfl))) (fun _ _ _ _ _ => ts_nil) (fun _ _ _ _ _ => (d_cmp op_gt o_gt (d_call G_overlap (hr.mono (by decide)) takes0 (da_cons (d_var 9) (da_cons (d_var 10) da_nil))) d_int)))) da_nil)))))) (fun _ _ _ _ _ => (d_var 9)))
    (ss_cons (s_app (i := 2) [7] (d_ifE (t_cmp (op_neD hr.units) o_ne (d_var 7) (d_ofL (l_lst da_nil))) (d_ix ix_B o_ix (d_var 7) d_int) d_non))
    (ss_one (s_ext (i := 3) [7] (d_ofL (l_cut (d_var 7) p_none (p_some d_int))))))))))
    (s_retO (i := 2)))))
theorem w_R_open_all {fa : Addr} {fd : FuncData} (T : Txt K mg) (Fu : Fun K "open_all" "open_all" s_open_all fa fd) (hm : mg "open_all" = some (.ref fa)) (hb : Binds K fd ["setting", "anchors"] []) (G_check_anchors : FnD P w K mg base 6 "check_anchors" 2 f_check_anchors) (G_R_find_open : FnL P w K mg base 4 "find_open" 2 f_R_find_open) : FnL P w K mg base 7 "open_all" 2 f_R_open_all := by
  refine FnL.mk' (x := "open_all") (N := ["setting", "anchors"]) (ps := ["setting", "anchors"]) (k := 6) Fu sc_open_all hm hb fun cdv A outer s H E hr => ?_
  have nd : (["setting", "anchors"] : List Str).Nodup := sc_open_all.nd
  have tk := takes_of (X := cxOf (L2.CX P w) P w K mg base ["setting", "anchors"] "open_all" (defScope s_open_all) fa cdv A outer s H E) rfl rfl rfl rfl
  have po := passes_of (X := cxOf (L2.CX P w) P w K mg base ["setting", "anchors"] "open_all" (defScope s_open_all) fa cdv A outer s H E) rfl
  unfold b_R_open_all
  exact (ss_consR (W := fun cls d _ H => E cls d H) (s_drop [] (d_call G_check_anchors (hr.mono (by decide)) tk (da_cons (d_var 0) (da_cons (d_var 1) da_nil))))
    (s_retNew (l_call G_R_find_open (hr.mono (by decide)) tk (da_cons (d_var 0) (da_cons (d_var 1) da_nil)))))
theorem w_R_in_each_others_way {fa : Addr} {fd : FuncData} (T : Txt K mg) (Fu : Fun K "in_each_others_way" "in_each_others_way" s_in_each_others_way fa fd) (hm : mg "in_each_others_way" = some (.ref fa)) (hb : Binds K fd ["setting", "anchors"] []) (G_check_anchors : FnD P w K mg base 6 "check_anchors" 2 f_check_anchors) (G_find_shown : FnD P w K mg base 5 "find_shown" 2 f_find_shown) : FnL P w K mg base 7 "in_each_others_way" 2 f_R_in_each_others_way := by
  refine FnL.mk' (x := "in_each_others_way") (N := ["setting", "anchors", "found", "one", "anchor", "other"]) (ps := ["setting", "anchors"]) (k := 6) Fu sc_in_each_others_way hm hb fun cdv A outer s H E hr => ?_
  have nd : (["setting", "anchors", "found", "one", "anchor", "other"] : List Str).Nodup := sc_in_each_others_way.nd
  have tk := takes_of (X := cxOf (L2.CX P w) P w K mg base ["setting", "anchors", "found", "one", "anchor", "other"] "in_each_others_way" (defScope s_in_each_others_way) fa cdv A outer s H E) rfl rfl rfl rfl
  have po := passes_of (X := cxOf (L2.CX P w) P w K mg base ["setting", "anchors", "found", "one", "anchor", "other"] "in_each_others_way" (defScope s_in_each_others_way) fa cdv A outer s H E) rfl
  unfold b_R_in_each_others_way
  exact (ss_consR (W := fun cls d _ H => E cls d H) (s_drop [] (d_call G_check_anchors (hr.mono (by decide)) tk (da_cons (d_var 0) (da_cons (d_var 1) da_nil))))
    (ss_consR (W := fun cls d _ H => E cls d H) (s_setL (i := 2) [] nd (l_lst da_nil))
    (ss_consR (W := fun cls d _ H => E cls d H) (s_for [] po rfl (i_enum T.b_enumerate (da_cons (d_var 1) da_nil)) (pg_names rfl (g_cons (i := 3) nd (g_cons (i := 4) nd g_nil))) (gok_tup [3, 4] rfl)
    (ss_aft [3, 4, 5] (ss_one (s_for [] po rfl (i_range2 T.b_range (da_cons (d_op op_addD o_add (d_var 3) d_int) (da_cons (d_callB cr_len c_len T.b_len (by decide +kernel) (da_cons (d_var 1) da_nil)) da_nil)) (h1 := len_cons2)) (pg_name (i := 5) nd rfl (Or.inl rfl)) (gok_name 5)
    (ss_aft [5] (ss_one (s_if [] (t_cmp op_lt o_lt (d_call G_find_shown (hr.mono (by decide)) tk (da_cons (d_var 0) (da_cons (d_ofL (l_lst (da_cons (d_var 4) (da_cons (d_ix ix_B o_ix (d_var 1) (d_var 5)) da_nil)))) da_nil))) d_int) (ss_one (s_app (i := 2) [] (d_tup (da_cons (d_var 3) (da_cons (d_var 5) da_nil))))) ss_nil)))))))
    (s_retO (i := 2)))))
theorem w_R_picture {fa : Addr} {fd : FuncData} (T : Txt K mg) (Fu : Fun K "picture" "picture" s_picture fa fd) (hm : mg "picture" = some (.ref fa)) (hb : Binds K fd ["setting", "anchor"] []) (G_check_both : FnD P w K mg base 6 "check_both" 2 f_check_both) (G_find_place : FnD P w K mg base 6 "find_place" 2 f_find_place) (G_overlap : FnD P w K mg base 3 "overlap" 2 f_overlap) : FnL P w K mg base 7 "picture" 2 f_R_picture := by
  refine FnL.mk' (x := "picture") (N := ["setting", "anchor", "box", "rows", "y", "row", "x", "field", "sign"]) (ps := ["setting", "anchor"]) (k := 6) Fu sc_picture hm hb fun cdv A outer s H E hr => ?_
  have nd : (["setting", "anchor", "box", "rows", "y", "row", "x", "field", "sign"] : List Str).Nodup := sc_picture.nd
  have tk := takes_of (X := cxOf (L2.CX P w) P w K mg base ["setting", "anchor", "box", "rows", "y", "row", "x", "field", "sign"] "picture" (defScope s_picture) fa cdv A outer s H E) rfl rfl rfl rfl
  have po := passes_of (X := cxOf (L2.CX P w) P w K mg base ["setting", "anchor", "box", "rows", "y", "row", "x", "field", "sign"] "picture" (defScope s_picture) fa cdv A outer s H E) rfl
  unfold b_R_picture
  exact (ss_consR (W := fun cls d _ H => E cls d H) (s_drop [] (d_call G_check_both (hr.mono (by decide)) tk (da_cons (d_var 0) (da_cons (d_var 1) da_nil))))
    (ss_consR (W := fun cls d _ H => E cls d H) (s_par2 (i := 2) (j := 3) [] rfl nd (dm_s (d_call G_find_place (hr.mono (by decide)) tk (da_cons (d_var 0) (da_cons (d_var 1) da_nil))) (dm_l (l_lst da_nil) dm_nil)))
    (ss_consR (W := fun cls d _ H => E cls d H) (s_for [] po rfl (i_range1 T.b_range (da_cons (d_ix ix_B o_ix (d_ix ix_B o_ix (d_var 0) d_int) d_int) da_nil) (h1 := len_cons1)) (pg_name (i := 4) nd rfl (Or.inl rfl)) (gok_name 4)
    (ss_aft [4, 5, 6, 7, 8] (ss_cons (s_set (i := 5) [] nd d_str)
    (ss_cons (s_for [] po rfl (i_range1 T.b_range (da_cons (d_ix ix_B o_ix (d_ix ix_B o_ix (d_var 0) d_int) d_int) da_nil) (h1 := len_cons1)) (pg_name (i := 6) nd rfl (Or.inl rfl)) (gok_name 6)
    (ss_aft [6, 7, 8] (ss_cons (s_set (i := 7) [] nd (d_tup (da_cons (d_var 6) (da_cons (d_var 4) (da_cons d_int (da_cons d_int da_nil))))))
    (ss_cons (s_set (i := 8) [] nd (d_ifE (t_cmp op_gt o_gt (d_call G_overlap (hr.mono (by decide)) tk (da_cons (d_var 7) (da_cons (d_var 2) da_nil))) d_int) (d_gl T.c_BOX) (d_gl T.c_EMPTY)))
    (ss_one (s_set (i := 5) [] nd (d_op op_addD o_add (d_var 5) (d_ifE (t_cmp op_gt o_gt (d_call G_overlap (hr.mono (by decide)) tk (da_cons (d_var 7) (da_cons (d_var 1) da_nil))) d_int) (d_gl T.c_HERE) (d_var 8)))))))))
    (ss_one (s_app (i := 3) [] (d_var 5)))))))
    (s_retO (i := 3)))))
theorem w_R_L_lists {fa : Addr} {fd : FuncData} (T : Txt K mg) (Fu : Fun K "_law_lists" "_law_lists" s_L_lists fa fd) (hm : mg "_law_lists" = some (.ref fa)) (hb : Binds K fd ["_law_setting_here", "_law_anchors"] []) (G_R_open_all : FnL P w K mg base 7 "open_all" 2 f_R_open_all) (G_R_in_each_others_way : FnL P w K mg base 7 "in_each_others_way" 2 f_R_in_each_others_way) (G_R_picture : FnL P w K mg base 7 "picture" 2 f_R_picture) : FnLL P w K mg base 8 "_law_lists" 2 f_R_L_lists := by
  refine FnLL.mk' (x := "_law_lists") (N := ["_law_setting_here", "_law_anchors"]) (ps := ["_law_setting_here", "_law_anchors"]) (k := 7) Fu sc_L_lists hm hb fun cdv A outer s H E hr => ?_
  have nd : (["_law_setting_here", "_law_anchors"] : List Str).Nodup := sc_L_lists.nd
  have tk := takes_of (X := cxOf (L2.CX P w) P w K mg base ["_law_setting_here", "_law_anchors"] "_law_lists" (defScope s_L_lists) fa cdv A outer s H E) rfl rfl rfl rfl
  have po := passes_of (X := cxOf (L2.CX P w) P w K mg base ["_law_setting_here", "_law_anchors"] "_law_lists" (defScope s_L_lists) fa cdv A outer s H E) rfl
  unfold b_R_L_lists
  exact (pss_one (ps_ret (e_three (l_call G_R_open_all (hr.mono (by decide)) tk (da_cons (d_var 0) (da_cons (d_var 1) da_nil))) (l_call G_R_in_each_others_way (hr.mono (by decide)) tk (da_cons (d_var 0) (da_cons (d_var 1) da_nil))) (l_call G_R_picture (hr.mono (by decide)) tk (da_cons (d_var 0) (da_cons (d_ix ix_B o_ix (d_var 1) d_int) da_nil))))))
abbrev s_W_change : Stmt := inClass (top 44) 7
theorem sc_W_change : FnScope ["self", "setting", "anchor"] ["self", "setting", "anchor"] (defScope s_W_change) := ⟨rfl, rfl, rfl, by decide +kernel, rfl, by decide +kernel, by decide +kernel⟩
theorem w_W_change {fa C C2 : Addr} {fd : FuncData} (T : Txt K mg) (hW : WinC K mg C) (hC : mg "Window" = some (.ref C2)) (hM : Meth K C2 "change" fa) (Fu : Fun K "change" "Window.change" s_W_change fa fd) (hb : Binds K fd ["self", "setting", "anchor"] []) : MtW P w K mg base 2 "change" 3 g_W_change := by
  refine MtW.mk' (N := ["self", "setting", "anchor"]) (ps := ["self", "setting", "anchor"]) (k := 1) hW hC hM Fu sc_W_change hb fun cdv A outer s H E hr => ?_
  have nd : (["self", "setting", "anchor"] : List Str).Nodup := sc_W_change.nd
  have tk := takes_of (X := cxOf (L2.CX P w) P w K mg base ["self", "setting", "anchor"] "Window.change" (defScope s_W_change) fa cdv A outer s H E) rfl rfl rfl rfl
  have po := passes_of (X := cxOf (L2.CX P w) P w K mg base ["self", "setting", "anchor"] "Window.change" (defScope s_W_change) fa cdv A outer s H E) rfl
  unfold b_W_change
  exact (ss_cons (s_wPushD hW)
    (ss_cons (s_wPres [] hW (d_tup (da_cons (d_var 1) (da_cons (d_var 2) da_nil))))
    (ss_one (s_wClr hW))))
abbrev s_find_way : Stmt := top 42
theorem sc_find_way : FnScope ["setting", "anchor", "other", "one", "two"] ["setting", "anchor", "other"] (defScope s_find_way) := ⟨rfl, rfl, rfl, by decide +kernel, rfl, by decide +kernel, by decide +kernel⟩
theorem w_find_way {fa : Addr} {fd : FuncData} (T : Txt K mg) (Fu : Fun K "find_way" "find_way" s_find_way fa fd) (hm : mg "find_way" = some (.ref fa)) (hb : Binds K fd ["setting", "anchor", "other"] []) (G_find_place : FnD P w K mg base 6 "find_place" 2 f_find_place) : FnD P w K mg base 7 "find_way" 3 f_find_way := by
  refine FnD.mk' (x := "find_way") (N := ["setting", "anchor", "other", "one", "two"]) (ps := ["setting", "anchor", "other"]) (k := 6) Fu sc_find_way hm hb fun cdv A outer s H E hr => ?_
  have nd : (["setting", "anchor", "other", "one", "two"] : List Str).Nodup := sc_find_way.nd
  have tk := takes_of (X := cxOf (L2.CX P w) P w K mg base ["setting", "anchor", "other", "one", "two"] "find_way" (defScope s_find_way) fa cdv A outer s H E) rfl rfl rfl rfl
  have po := passes_of (X := cxOf (L2.CX P w) P w K mg base ["setting", "anchor", "other", "one", "two"] "find_way" (defScope s_find_way) fa cdv A outer s H E) rfl
  unfold b_find_way
  exact (ss_cons (s_par2 (i := 3) (j := 4) [] rfl nd (dm_s (d_call G_find_place (hr.mono (by decide)) tk (da_cons (d_var 0) (da_cons (d_var 1) da_nil))) (dm_s (d_call G_find_place (hr.mono (by decide)) tk (da_cons (d_var 0) (da_cons (d_var 2) da_nil))) dm_nil)))
    (ss_one (s_ret [] (d_op op_addD o_add (d_callB call_abs c_abs T.b_abs (by decide +kernel) (da_cons (d_op op_sub o_sub (d_ix ix_B o_ix (d_var 3) d_int) (d_ix ix_B o_ix (d_var 4) d_int)) da_nil)) (d_callB call_abs c_abs T.b_abs (by decide +kernel) (da_cons (d_op op_sub o_sub (d_ix ix_B o_ix (d_var 3) d_int) (d_ix ix_B o_ix (d_var 4) d_int)) da_nil))))))
abbrev s_W_step : Stmt := inClass (top 44) 8
theorem sc_W_step : FnScope ["self", "across", "down", "setting", "anchor", "later"] ["self", "across", "down"] (defScope s_W_step) := ⟨rfl, rfl, rfl, by decide +kernel, rfl, by decide +kernel, by decide +kernel⟩
theorem w_W_step {fa C C2 : Addr} {fd : FuncData} (T : Txt K mg) (hW : WinC K mg C) (hC : mg "Window" = some (.ref C2)) (hM : Meth K C2 "step" fa) (Fu : Fun K "step" "Window.step" s_W_step fa fd) (hb : Binds K fd ["self", "across", "down"] []) (G_W_change : MtW P w K mg base 2 "change" 3 g_W_change) (G_check_anchor : FnD P w K mg base 4 "check_anchor" 2 f_check_anchor) (G_find_way : FnD P w K mg base 7 "find_way" 3 f_find_way) (G_is_int : FnD P w K mg base 2 "is_int" 3 f_is_int) : MtW P w K mg base 8 "step" 3 g_W_step := by
  refine MtW.mk' (N := ["self", "across", "down", "setting", "anchor", "later"]) (ps := ["self", "across", "down"]) (k := 7) hW hC hM Fu sc_W_step hb fun cdv A outer s H E hr => ?_
  have nd : (["self", "across", "down", "setting", "anchor", "later"] : List Str).Nodup := sc_W_step.nd
  have tk := takes_of (X := cxOf (L2.CX P w) P w K mg base ["self", "across", "down", "setting", "anchor", "later"] "Window.step" (defScope s_W_step) fa cdv A outer s H E) rfl rfl rfl rfl
  have po := passes_of (X := cxOf (L2.CX P w) P w K mg base ["self", "across", "down", "setting", "anchor", "later"] "Window.step" (defScope s_W_step) fa cdv A outer s H E) rfl
  unfold b_W_step
  exact (ss_cons (s_if [] (t_w (w_or (t_not (t_val (d_call G_is_int (hr.mono (by decide)) tk (da_cons (d_var 1) (da_cons (d_op op_sub o_sub d_int (d_gl T.c_MAX_SIZE)) (da_cons (d_gl T.c_MAX_SIZE) da_nil)))))) (w_or1 (t_not (t_val (d_call G_is_int (hr.mono (by decide)) tk (da_cons (d_var 2) (da_cons (d_op op_sub o_sub d_int (d_gl T.c_MAX_SIZE)) (da_cons (d_gl T.c_MAX_SIZE) da_nil))))))))) (ss_one (s_raiseD rfl tk T.x_InvalidNumber)) ss_nil)
    (ss_cons (s_unp [0] rfl (g_cons (i := 3) nd (g_cons (i := 4) nd g_nil)) (d_pres hW (d_var 0)))
    (ss_cons (s_set (i := 5) [] nd (d_tup (da_cons (d_op op_addD o_add (d_ix ix_B o_ix (d_var 4) d_int) (d_var 1)) (da_cons (d_op op_addD o_add (d_ix ix_B o_ix (d_var 4) d_int) (d_var 2)) (da_cons (d_ix ix_B o_ix (d_var 4) d_int) (da_cons (d_ix ix_B o_ix (d_var 4) d_int) da_nil))))))
    (ss_cons (s_drop [] (d_call G_check_anchor (hr.mono (by decide)) tk (da_cons (d_var 3) (da_cons (d_var 5) da_nil))))
    (ss_cons (s_dropW (w_meth (j := 0) G_W_change (hr.mono (by decide)) tk (da_cons (d_var 3) (da_cons (d_var 5) da_nil))))
    (ss_one (s_retS [] (d_call G_find_way (hr.mono (by decide)) tk (da_cons (d_var 3) (da_cons (d_var 4) (da_cons (d_var 5) da_nil)))))))))))
abbrev s_W_init : Stmt := inClass (top 44) 0
theorem sc_W_init : FnScope ["self", "setting", "anchor"] ["self", "setting", "anchor"] (defScope s_W_init) := ⟨rfl, rfl, rfl, by decide +kernel, rfl, by decide +kernel, by decide +kernel⟩
theorem w_W_init {fa C C2 : Addr} {fd : FuncData} {h0 : Heap} (X0 : K.In h0) (G0 : h0.Ns mainGlobals mg) (hI : MakeIn K) (T : Txt K mg) (hW : WinC K mg C) (hC : mg "Window" = some (.ref C2)) (hM : Meth K C2 "__init__" fa) (Fu : Fun K "__init__" "Window.__init__" s_W_init fa fd) (hb : Binds K fd ["self", "setting", "anchor"] []) (G_check_both : FnD P w K mg base 6 "check_both" 2 f_check_both) : MkW P w K mg base 7 f_check_both := by
  refine MkW.mk' (k := 6) (N := ["self", "setting", "anchor"]) (ps := ["self", "setting", "anchor"]) hW hC hM hI X0 G0 Fu sc_W_init hb rfl rfl rfl fun cdv A outer s H E hr => ?_
  have tk := takes_of (X := cxOf (L2.CX P w) P w K mg base ["self", "setting", "anchor"] "Window.__init__" (defScope s_W_init) fa cdv A outer s H E) rfl rfl rfl rfl
  have po := passes_of (X := cxOf (L2.CX P w) P w K mg base ["self", "setting", "anchor"] "Window.__init__" (defScope s_W_init) fa cdv A outer s H E) rfl
  exact ⟨(s_drop [] (d_call G_check_both (hr.mono (by decide)) tk (da_cons (d_var 1) (da_cons (d_var 2) da_nil)))), pss_cons (ps_fld (pe_var (i := 0) rfl (Or.inl rfl)) (pe_tup (pa_cons (pe_var (i := 1) rfl (Or.inl rfl)) (pa_cons (pe_var (i := 2) rfl (Or.inl rfl)) pa_nil))) rfl) (pss_cons (ps_fld (pe_var (i := 0) rfl (Or.inl rfl)) (pe_lst pa_nil) rfl) (pss_one (ps_fld (pe_var (i := 0) rfl (Or.inl rfl)) (pe_lst pa_nil) rfl)))⟩
abbrev s_W_copy : Stmt := inClass (top 44) 12
theorem sc_W_copy : FnScope ["self", "clone"] ["self"] (defScope s_W_copy) := ⟨rfl, rfl, rfl, by decide +kernel, rfl, by decide +kernel, by decide +kernel⟩
theorem w_W_copy {fa C C2 : Addr} {fd : FuncData} (T : Txt K mg) (hW : WinC K mg C) (hC : mg "Window" = some (.ref C2)) (hM : Meth K C2 "copy" fa) (Fu : Fun K "copy" "Window.copy" s_W_copy fa fd) (hb : Binds K fd ["self"] []) (G_W_init : MkW P w K mg base 7 f_check_both) : CpW P w K mg base 9 "copy" f_check_both := by
  obtain ⟨C', fa', fd', ps', hW', hMk, hF, hb'⟩ := G_W_init.ex
  have eC := hW'.gl
  rw [hW.gl] at eC
  cases eC
  refine CpW.mk' (N := ["self", "clone"]) (ps := ["self"]) (k := 8) hW hC hM Fu sc_W_copy hb rfl rfl fun cdv A outer s H E hr => ?_
  have nd : (["self", "clone"] : List Str).Nodup := sc_W_copy.nd
  have tk := takes_of (X := cxOf (L2.CX P w) P w K mg base ["self", "clone"] "Window.copy" (defScope s_W_copy) fa cdv A outer s H E) rfl rfl rfl rfl
  have po := passes_of (X := cxOf (L2.CX P w) P w K mg base ["self", "clone"] "Window.copy" (defScope s_W_copy) fa cdv A outer s H E) rfl
  exact ⟨_, (pss_cons (ps_set nd rfl (Or.inl rfl) (pe_makeS hMk hF (hr.mono (by decide)) rfl hW.gl hb' (fun σ => passAt tk σ) (da_cons (d_ix ix_B o_ix (d_pres hW (d_var 0)) d_int) (da_cons (d_ix ix_B o_ix (d_pres hW (d_var 0)) d_int) da_nil)) (by decide) rfl rfl) rfl)
    (pss_cons (ps_asg (pe_tup (pa_cons (pe_callTy call_list_of rfl T.b_list (by decide +kernel) (pa_cons (pe_fld (pe_var (i := 0) rfl (Or.inl rfl)) rfl) pa_nil)) (pa_cons (pe_callTy call_list_of rfl T.b_list (by decide +kernel) (pa_cons (pe_fld (pe_var (i := 0) rfl (Or.inl rfl)) rfl) pa_nil)) pa_nil))) (pg_tup rfl (pgs_cons (pg_fld (pe_var (i := 1) rfl (Or.inl rfl))) (pgs_cons (pg_fld (pe_var (i := 1) rfl (Or.inl rfl))) pgs_nil))))
    (pss_one (ps_ret (pe_var (i := 1) rfl (Or.inl rfl))))))⟩
abbrev s_L_drawn : Stmt := top 77
theorem sc_L_drawn : FnScope ["_law_script", "_law_k", "_law_many", "_law_cell", "_law_turn", "_law_rest"] ["_law_script", "_law_k", "_law_many"] (defScope s_L_drawn) := ⟨rfl, rfl, rfl, by decide +kernel, rfl, by decide +kernel, by decide +kernel⟩
theorem w_L_drawn {fa : Addr} {fd : FuncData} (T : Txt K mg) (Fu : Fun K "_law_drawn" "_law_drawn" s_L_drawn fa fd) (hm : mg "_law_drawn" = some (.ref fa)) (hb : Binds K fd ["_law_script", "_law_k", "_law_many"] []) : FnD P w K mg base 2 "_law_drawn" 3 f_L_drawn := by
  refine FnD.mk' (x := "_law_drawn") (N := ["_law_script", "_law_k", "_law_many", "_law_cell", "_law_turn", "_law_rest"]) (ps := ["_law_script", "_law_k", "_law_many"]) (k := 1) Fu sc_L_drawn hm hb fun cdv A outer s H E hr => ?_
  have nd : (["_law_script", "_law_k", "_law_many", "_law_cell", "_law_turn", "_law_rest"] : List Str).Nodup := sc_L_drawn.nd
  have tk := takes_of (X := cxOf (L2.CX P w) P w K mg base ["_law_script", "_law_k", "_law_many", "_law_cell", "_law_turn", "_law_rest"] "_law_drawn" (defScope s_L_drawn) fa cdv A outer s H E) rfl rfl rfl rfl
  have po := passes_of (X := cxOf (L2.CX P w) P w K mg base ["_law_script", "_law_k", "_law_many", "_law_cell", "_law_turn", "_law_rest"] "_law_drawn" (defScope s_L_drawn) fa cdv A outer s H E) rfl
  unfold b_L_drawn
  exact (ss_cons (s_set (i := 3) [] nd (d_op op_mul o_mul d_int (d_var 1)))
    (ss_cons (s_if [] (t_cmp (op_neD hr.units) o_ne (d_var 0) (d_ofL (l_lst da_nil))) (ss_cons (s_set (i := 3) [] nd (d_ix ix_B o_ix (d_var 0) (d_op op_mod o_mod (d_var 1) (d_callB cr_len c_len T.b_len (by decide +kernel) (da_cons (d_var 0) da_nil)))))
    (ss_cons (s_set (i := 4) [] nd (d_op op_fdivW o_div (d_var 1) (d_callB cr_len c_len T.b_len (by decide +kernel) (da_cons (d_var 0) da_nil))))
    (ss_cons (s_if [] (t_w (w_and (t_cmp op_ge o_ge (d_var 3) (d_op op_pow o_pow d_int d_int)) (w_and1 (t_cmp op_lt o_lt (d_var 4) d_int)))) (ss_cons (s_set (i := 5) [] nd (d_op op_fdivW o_div (d_var 3) (d_op op_pow o_pow d_int d_int)))
    (ss_cons (s_while [] 100000 po (t_w (w_and (t_cmp op_gt o_gt (d_var 5) d_int) (w_and1 (t_cmp op_gt o_gt (d_var 4) d_int)))) (ss_cons (s_set (i := 5) [] nd (d_op op_fdivW o_div (d_var 5) d_int))
    (ss_one (s_set (i := 4) [] nd (d_op op_sub o_sub (d_var 4) d_int)))))
    (ss_one (s_if [] (t_cmp op_gt o_gt (d_var 5) d_int) (ss_one (s_ret [] (d_op op_mod o_mod (d_op op_mod o_mod (d_var 5) d_int) (d_var 2)))) ss_nil)))) ss_nil)
    (ss_one (s_set (i := 3) [] nd (d_op op_addD o_add (d_var 3) (d_op op_mul o_mul d_int (d_op op_fdivW o_div (d_var 1) (d_callB cr_len c_len T.b_len (by decide +kernel) (da_cons (d_var 0) da_nil)))))))))) ss_nil)
    (ss_cons (s_set (i := 3) [] nd (d_op op_mod o_mod (d_op op_addD o_add (d_op op_mul o_mul (d_op op_mod o_mod (d_var 3) d_int) d_int) (d_op op_mul o_mul d_int (d_op op_addD o_add (d_var 1) d_int))) d_int))
    (ss_cons (s_set (i := 3) [] nd (d_op op_mod o_mod (d_op op_addD o_add (d_op op_mul o_mul (d_var 3) (d_var 3)) (d_op op_fdivW o_div (d_var 3) d_int)) d_int))
    (ss_one (s_ret [] (d_op op_mod o_mod (d_op op_fdivW o_div (d_op op_mod o_mod (d_op op_addD o_add (d_op op_mul o_mul (d_var 3) (d_var 3)) (d_op op_fdivW o_div (d_var 3) d_int)) d_int) d_int) (d_var 2))))))))
abbrev s_L_setting : Stmt := top 78
theorem sc_L_setting : FnScope ["_law_script", "_law_at", "_law_wide", "_law_high", "_law_box", "_law_some", "_law_found", "_law_k", "_law_side"] ["_law_script", "_law_at"] (defScope s_L_setting) := ⟨rfl, rfl, rfl, by decide +kernel, rfl, by decide +kernel, by decide +kernel⟩
theorem w_L_setting {fa : Addr} {fd : FuncData} (T : Txt K mg) (Fu : Fun K "_law_setting" "_law_setting" s_L_setting fa fd) (hm : mg "_law_setting" = some (.ref fa)) (hb : Binds K fd ["_law_script", "_law_at"] []) (G_L_drawn : FnD P w K mg base 2 "_law_drawn" 3 f_L_drawn) : FnD P w K mg base 3 "_law_setting" 2 f_L_setting := by
  refine FnD.mk' (x := "_law_setting") (N := ["_law_script", "_law_at", "_law_wide", "_law_high", "_law_box", "_law_some", "_law_found", "_law_k", "_law_side"]) (ps := ["_law_script", "_law_at"]) (k := 2) Fu sc_L_setting hm hb fun cdv A outer s H E hr => ?_
  have nd : (["_law_script", "_law_at", "_law_wide", "_law_high", "_law_box", "_law_some", "_law_found", "_law_k", "_law_side"] : List Str).Nodup := sc_L_setting.nd
  have tk := takes_of (X := cxOf (L2.CX P w) P w K mg base ["_law_script", "_law_at", "_law_wide", "_law_high", "_law_box", "_law_some", "_law_found", "_law_k", "_law_side"] "_law_setting" (defScope s_L_setting) fa cdv A outer s H E) rfl rfl rfl rfl
  have po := passes_of (X := cxOf (L2.CX P w) P w K mg base ["_law_script", "_law_at", "_law_wide", "_law_high", "_law_box", "_law_some", "_law_found", "_law_k", "_law_side"] "_law_setting" (defScope s_L_setting) fa cdv A outer s H E) rfl
  unfold b_L_setting
  exact (ss_cons (s_par2 (i := 2) (j := 3) [] rfl nd (dm_s (d_op op_addD o_add d_int (d_call G_L_drawn (hr.mono (by decide)) tk (da_cons (d_var 0) (da_cons (d_var 1) (da_cons d_int da_nil))))) (dm_s (d_op op_addD o_add d_int (d_call G_L_drawn (hr.mono (by decide)) tk (da_cons (d_var 0) (da_cons (d_op op_addD o_add (d_var 1) d_int) (da_cons d_int da_nil))))) dm_nil)))
    (ss_cons (s_set (i := 4) [] nd (d_tup (da_cons (d_op op_addD o_add d_int (d_call G_L_drawn (hr.mono (by decide)) tk (da_cons (d_var 0) (da_cons (d_op op_addD o_add (d_var 1) d_int) (da_cons (d_callB (call_min2 rfl) c_min2 T.b_min (by decide +kernel) (da_cons (d_var 2) (da_cons d_int da_nil))) da_nil))))) (da_cons (d_op op_addD o_add d_int (d_call G_L_drawn (hr.mono (by decide)) tk (da_cons (d_var 0) (da_cons (d_op op_addD o_add (d_var 1) d_int) (da_cons (d_callB (call_min2 rfl) c_min2 T.b_min (by decide +kernel) (da_cons (d_var 3) (da_cons d_int da_nil))) da_nil))))) da_nil))))
    (ss_cons (s_setL (i := 5) [] nd (l_lst (da_cons d_str (da_cons d_str (da_cons d_str (da_cons d_str da_nil))))))
    (ss_cons (s_setL (i := 6) [] nd (l_lst da_nil))
    (ss_cons (s_for [] po rfl (i_range1 T.b_range (da_cons (d_op op_addD o_add d_int (d_call G_L_drawn (hr.mono (by decide)) tk (da_cons (d_var 0) (da_cons (d_op op_addD o_add (d_var 1) d_int) (da_cons d_int da_nil))))) da_nil) (h1 := len_cons1)) (pg_name (i := 7) nd rfl (Or.inl rfl)) (gok_name 7)
    (ss_aft [7] (ss_cons (s_app (i := 6) [5] (d_ix ix_B o_ix (d_var 5) (d_call G_L_drawn (hr.mono (by decide)) tk (da_cons (d_var 0) (da_cons (d_op op_addD o_add (d_op op_addD o_add (d_var 1) d_int) (d_var 7)) (da_cons (d_callB cr_len c_len T.b_len (by decide +kernel) (da_cons (d_var 5) da_nil)) da_nil))))))
    (ss_one (s_setLc (i := 5) [5, 6] rfl nd (i_seq (d_var 5)) (blkOk_by (own := [("_law_side", 8)]) rfl) (gokR_name (by decide)) (fun _ _ _ _ _ => (pg_name (i := 8) nd rfl (Or.inl rfl))) (fun _ _ _ _ _ => (ts_one (t_cmp (op_neD hr.units) o_ne (d_var 8) (d_ix ix_B o_ix (d_var 6) (d_un un_neg o_neg d_int))))) (fun _ _ _ _ _ => (d_var 8)))))))
    (ss_one (s_ret [6] (d_tup (da_cons (d_tup (da_cons (d_var 2) (da_cons (d_var 3) da_nil))) (da_cons (d_var 4) (da_cons (d_call G_L_drawn (hr.mono (by decide)) tk (da_cons (d_var 0) (da_cons (d_op op_addD o_add (d_var 1) d_int) (da_cons d_int da_nil)))) (da_cons (d_callTy call_tuple_of c_tupleOf T.b_tuple (by decide +kernel) (da_cons (d_var 6) da_nil)) da_nil))))))))))))
abbrev s_W_anchor : Stmt := inClass (top 44) 4
theorem sc_W_anchor : FnScope ["self"] ["self"] (defScope s_W_anchor) := ⟨rfl, rfl, rfl, by decide +kernel, rfl, by decide +kernel, by decide +kernel⟩
theorem w_W_anchor {fa C C2 : Addr} {fd : FuncData} (T : Txt K mg) (hW : WinC K mg C) (hC : mg "Window" = some (.ref C2)) (hM : Meth K C2 "anchor" fa) (Fu : Fun K "anchor" "Window.anchor" s_W_anchor fa fd) (hb : Binds K fd ["self"] []) : MtD P w K mg base 2 "anchor" 1 f_W_anchor := by
  refine MtD.mk' (N := ["self"]) (ps := ["self"]) (k := 1) hW hC hM Fu sc_W_anchor hb fun cdv A outer s H E hr => ?_
  have nd : (["self"] : List Str).Nodup := sc_W_anchor.nd
  have tk := takes_of (X := cxOf (L2.CX P w) P w K mg base ["self"] "Window.anchor" (defScope s_W_anchor) fa cdv A outer s H E) rfl rfl rfl rfl
  have po := passes_of (X := cxOf (L2.CX P w) P w K mg base ["self"] "Window.anchor" (defScope s_W_anchor) fa cdv A outer s H E) rfl
  unfold b_W_anchor
  exact (ss_one (s_ret [0] (d_ix ix_B o_ix (d_pres hW (d_var 0)) d_int)))
abbrev s_L_anchor : Stmt := top 79
theorem sc_L_anchor : FnScope ["_law_script", "_law_at", "_law_setting_here", "_law_wide", "_law_high", "_law_left", "_law_top", "_law_width"] ["_law_script", "_law_at", "_law_setting_here"] (defScope s_L_anchor) := ⟨rfl, rfl, rfl, by decide +kernel, rfl, by decide +kernel, by decide +kernel⟩
theorem w_L_anchor {fa : Addr} {fd : FuncData} (T : Txt K mg) (Fu : Fun K "_law_anchor" "_law_anchor" s_L_anchor fa fd) (hm : mg "_law_anchor" = some (.ref fa)) (hb : Binds K fd ["_law_script", "_law_at", "_law_setting_here"] []) (G_L_drawn : FnD P w K mg base 2 "_law_drawn" 3 f_L_drawn) : FnD P w K mg base 3 "_law_anchor" 3 f_L_anchor := by
  refine FnD.mk' (x := "_law_anchor") (N := ["_law_script", "_law_at", "_law_setting_here", "_law_wide", "_law_high", "_law_left", "_law_top", "_law_width"]) (ps := ["_law_script", "_law_at", "_law_setting_here"]) (k := 2) Fu sc_L_anchor hm hb fun cdv A outer s H E hr => ?_
  have nd : (["_law_script", "_law_at", "_law_setting_here", "_law_wide", "_law_high", "_law_left", "_law_top", "_law_width"] : List Str).Nodup := sc_L_anchor.nd
  have tk := takes_of (X := cxOf (L2.CX P w) P w K mg base ["_law_script", "_law_at", "_law_setting_here", "_law_wide", "_law_high", "_law_left", "_law_top", "_law_width"] "_law_anchor" (defScope s_L_anchor) fa cdv A outer s H E) rfl rfl rfl rfl
  have po := passes_of (X := cxOf (L2.CX P w) P w K mg base ["_law_script", "_law_at", "_law_setting_here", "_law_wide", "_law_high", "_law_left", "_law_top", "_law_width"] "_law_anchor" (defScope s_L_anchor) fa cdv A outer s H E) rfl
  unfold b_L_anchor
  exact (ss_cons (s_unp [] rfl (g_cons (i := 3) nd (g_cons (i := 4) nd g_nil)) (d_ix ix_B o_ix (d_var 2) d_int))
    (ss_cons (s_par2 (i := 5) (j := 6) [] rfl nd (dm_s (d_call G_L_drawn (hr.mono (by decide)) tk (da_cons (d_var 0) (da_cons (d_var 1) (da_cons (d_var 3) da_nil)))) (dm_s (d_call G_L_drawn (hr.mono (by decide)) tk (da_cons (d_var 0) (da_cons (d_op op_addD o_add (d_var 1) d_int) (da_cons (d_var 4) da_nil)))) dm_nil)))
    (ss_cons (s_set (i := 7) [] nd (d_op op_addD o_add d_int (d_callB (call_min2 rfl) c_min2 T.b_min (by decide +kernel) (da_cons (d_call G_L_drawn (hr.mono (by decide)) tk (da_cons (d_var 0) (da_cons (d_op op_addD o_add (d_var 1) d_int) (da_cons (d_op op_sub o_sub (d_var 3) (d_var 5)) da_nil)))) (da_cons (d_call G_L_drawn (hr.mono (by decide)) tk (da_cons (d_var 0) (da_cons (d_op op_addD o_add (d_var 1) d_int) (da_cons d_int da_nil)))) da_nil)))))
    (ss_one (s_ret [] (d_tup (da_cons (d_var 5) (da_cons (d_var 6) (da_cons (d_var 7) (da_cons (d_op op_addD o_add d_int (d_callB (call_min2 rfl) c_min2 T.b_min (by decide +kernel) (da_cons (d_call G_L_drawn (hr.mono (by decide)) tk (da_cons (d_var 0) (da_cons (d_op op_addD o_add (d_var 1) d_int) (da_cons (d_op op_sub o_sub (d_var 4) (d_var 6)) da_nil)))) (da_cons (d_call G_L_drawn (hr.mono (by decide)) tk (da_cons (d_var 0) (da_cons (d_op op_addD o_add (d_var 1) d_int) (da_cons d_int da_nil)))) da_nil)))) da_nil))))))))))
abbrev s_L_changed : Stmt := top 81
theorem sc_L_changed : FnScope ["_law_rows", "_law_some"] ["_law_rows"] (defScope s_L_changed) := ⟨rfl, rfl, rfl, by decide +kernel, rfl, by decide +kernel, by decide +kernel⟩
theorem w_L_changed {fa : Addr} {fd : FuncData} (T : Txt K mg) (Fu : Fun K "_law_changed" "_law_changed" s_L_changed fa fd) (hm : mg "_law_changed" = some (.ref fa)) (hb : Binds K fd ["_law_rows"] []) : FnCh P w K mg base 2 "_law_changed" := by
  refine FnCh.mk' (x := "_law_changed") (N := ["_law_rows", "_law_some"]) (ps := ["_law_rows"]) (k := 1) Fu sc_L_changed hm hb rfl rfl fun cdv A outer s H E hr => ?_
  have nd : (["_law_rows", "_law_some"] : List Str).Nodup := sc_L_changed.nd
  have tk := takes_of (X := cxOf (L2.CX P w) P w K mg base ["_law_rows", "_law_some"] "_law_changed" (defScope s_L_changed) fa cdv A outer s H E) rfl rfl rfl rfl
  have po := passes_of (X := cxOf (L2.CX P w) P w K mg base ["_law_rows", "_law_some"] "_law_changed" (defScope s_L_changed) fa cdv A outer s H E) rfl
  exact (pss_cons (ps_for po rfl (pi_list (pe_var (i := 0) rfl (Or.inl rfl))) (pg_name (i := 1) nd rfl (Or.inl rfl))
    (pss_cons (ps_if (pt_not (pt_val (pe_callB call_isi rfl T.b_isinstance (by decide +kernel) (pa_cons (pe_var (i := 1) rfl (Or.inl rfl)) (pa_cons (pe_bltn (v := .ty "list") rfl T.b_list rfl rfl) pa_nil))))) (pss_one (ps_ret pe_bl)) pss_nil)
    (pss_cons (ps_expr (pe_bm PySem.F.plainAttrs_list PySem.F.slot_list_append PySem.F.type_list_append mt_append (pe_var (i := 1) rfl (Or.inl rfl)) (pa_cons pe_non pa_nil)))
    (pss_one (ps_expr (pe_bm PySem.F.plainAttrs_list PySem.F.slot_list_insert PySem.F.type_list_insert mt_insert (pe_var (i := 1) rfl (Or.inl rfl)) (pa_cons pe_int (pa_cons pe_int pa_nil))))))))
    (pss_one (ps_ret pe_bl)))
abbrev s_all_orders : Stmt := top 72
theorem sc_all_orders : FnScope ["many", "found", "turn", "begun", "index"] ["many"] (defScope s_all_orders) := ⟨rfl, rfl, rfl, by decide +kernel, rfl, by decide +kernel, by decide +kernel⟩
theorem w_all_orders {fa : Addr} {fd : FuncData} (T : Txt K mg) (Fu : Fun K "all_orders" "all_orders" s_all_orders fa fd) (hm : mg "all_orders" = some (.ref fa)) (hb : Binds K fd ["many"] []) : FnD P w K mg base 2 "all_orders" 1 f_all_orders := by
  refine FnD.mk' (x := "all_orders") (N := ["many", "found", "turn", "begun", "index"]) (ps := ["many"]) (k := 1) Fu sc_all_orders hm hb fun cdv A outer s H E hr => ?_
  have nd : (["many", "found", "turn", "begun", "index"] : List Str).Nodup := sc_all_orders.nd
  have tk := takes_of (X := cxOf (L2.CX P w) P w K mg base ["many", "found", "turn", "begun", "index"] "all_orders" (defScope s_all_orders) fa cdv A outer s H E) rfl rfl rfl rfl
  have po := passes_of (X := cxOf (L2.CX P w) P w K mg base ["many", "found", "turn", "begun", "index"] "all_orders" (defScope s_all_orders) fa cdv A outer s H E) rfl
  unfold b_all_orders
  exact (ss_cons (s_setL (i := 1) [] nd (l_lst (da_cons (d_tup da_nil) da_nil)))
    (ss_cons (s_for [] po rfl (i_range1 T.b_range (da_cons (d_var 0) da_nil) (h1 := len_cons1)) (pg_name (i := 2) nd rfl (Or.inl rfl)) (gok_name 2)
    (ss_aft [2] (ss_one (s_setLc2 (i := 1) [1] rfl nd (i_seq (d_var 1)) (blkOk_by (own := [("begun", 3), ("index", 4)]) rfl) (vs1 := [4]) (by decide) (gokR_name (by decide)) (gokR_name (by decide)) (fun _ _ _ _ _ => (pg_name (i := 3) nd rfl (Or.inl rfl))) (fun _ _ _ _ _ => ts_nil) (fun _ _ _ _ _ => (i_range1 T.b_range (da_cons (d_var 0) da_nil) (h1 := len_cons1))) (fun _ _ _ _ _ => (pg_name (i := 4) nd rfl (Or.inl rfl))) (fun _ _ _ _ _ => (ts_one (t_cmp (op_notInB (hu65 hr)) o_notin (d_var 4) (d_var 3)))) (fun _ _ _ _ _ => (d_op op_addD o_add (d_var 3) (d_tup (da_cons (d_var 4) da_nil))))))))
    (ss_one (s_ret [1] (d_var 1)))))
abbrev s_find_best : Stmt := top 73
theorem sc_find_best : FnScope ["setting", "anchors", "found", "order", "index"] ["setting", "anchors"] (defScope s_find_best) := ⟨rfl, rfl, rfl, by decide +kernel, rfl, by decide +kernel, by decide +kernel⟩
theorem w_find_best {fa : Addr} {fd : FuncData} (T : Txt K mg) (Fu : Fun K "find_best" "find_best" s_find_best fa fd) (hm : mg "find_best" = some (.ref fa)) (hb : Binds K fd ["setting", "anchors"] []) (G_check_anchors : FnD P w K mg base 6 "check_anchors" 2 f_check_anchors) (G_all_orders : FnD P w K mg base 2 "all_orders" 1 f_all_orders) (G_find_shown : FnD P w K mg base 5 "find_shown" 2 f_find_shown) : FnD P w K mg base 7 "find_best" 2 f_find_best := by
  refine FnD.mk' (x := "find_best") (N := ["setting", "anchors", "found", "order", "index"]) (ps := ["setting", "anchors"]) (k := 6) Fu sc_find_best hm hb fun cdv A outer s H E hr => ?_
  have nd : (["setting", "anchors", "found", "order", "index"] : List Str).Nodup := sc_find_best.nd
  have tk := takes_of (X := cxOf (L2.CX P w) P w K mg base ["setting", "anchors", "found", "order", "index"] "find_best" (defScope s_find_best) fa cdv A outer s H E) rfl rfl rfl rfl
  have po := passes_of (X := cxOf (L2.CX P w) P w K mg base ["setting", "anchors", "found", "order", "index"] "find_best" (defScope s_find_best) fa cdv A outer s H E) rfl
  unfold b_find_best
  exact (ss_cons (s_drop [] (d_call G_check_anchors (hr.mono (by decide)) tk (da_cons (d_var 0) (da_cons (d_var 1) da_nil))))
    (ss_cons (s_if [] (t_cmp op_gt o_gt (d_callB cr_len c_len T.b_len (by decide +kernel) (da_cons (d_var 1) da_nil)) (d_gl T.c_MAX_ORDERED)) (ss_one (s_raiseD rfl tk T.x_TooLarge)) ss_nil)
    (ss_cons (s_setL (i := 2) [] nd (l_lst da_nil))
    (ss_cons (s_for [] po rfl (i_seq (d_call G_all_orders (hr.mono (by decide)) tk (da_cons (d_callB cr_len c_len T.b_len (by decide +kernel) (da_cons (d_var 1) da_nil)) da_nil))) (pg_name (i := 3) nd rfl (Or.inl rfl)) (gok_name 3)
    (ss_aft [3] (ss_one (s_app (i := 2) [] (d_tup (da_cons (d_op op_sub o_sub d_int (d_call G_find_shown (hr.mono (by decide)) tk (da_cons (d_var 0) (da_cons (d_ofL (l_lc rfl nd (i_seq (d_var 3)) (blkOk_by (own := [("index", 4)]) rfl) (gokR_name (by decide)) (fun _ _ _ _ _ => (pg_name (i := 4) nd rfl (Or.inl rfl))) (fun _ _ _ _ _ => ts_nil) (fun _ _ _ _ _ => (d_ix ix_B o_ix (d_var 1) (d_var 4))))) da_nil)))) (da_cons (d_var 3) da_nil)))))))
    (ss_one (s_ret [2] (d_callB (cr_minDt rfl (hu65 hr)) c_minL T.b_min (by decide +kernel) (da_cons (d_var 2) da_nil))))))))
abbrev s_best_order : Stmt := top 74
theorem sc_best_order : FnScope ["setting", "anchors"] ["setting", "anchors"] (defScope s_best_order) := ⟨rfl, rfl, rfl, by decide +kernel, rfl, by decide +kernel, by decide +kernel⟩
theorem w_best_order {fa : Addr} {fd : FuncData} (T : Txt K mg) (Fu : Fun K "best_order" "best_order" s_best_order fa fd) (hm : mg "best_order" = some (.ref fa)) (hb : Binds K fd ["setting", "anchors"] []) (G_find_best : FnD P w K mg base 7 "find_best" 2 f_find_best) : FnD P w K mg base 8 "best_order" 2 f_best_order := by
  refine FnD.mk' (x := "best_order") (N := ["setting", "anchors"]) (ps := ["setting", "anchors"]) (k := 7) Fu sc_best_order hm hb fun cdv A outer s H E hr => ?_
  have nd : (["setting", "anchors"] : List Str).Nodup := sc_best_order.nd
  have tk := takes_of (X := cxOf (L2.CX P w) P w K mg base ["setting", "anchors"] "best_order" (defScope s_best_order) fa cdv A outer s H E) rfl rfl rfl rfl
  have po := passes_of (X := cxOf (L2.CX P w) P w K mg base ["setting", "anchors"] "best_order" (defScope s_best_order) fa cdv A outer s H E) rfl
  unfold b_best_order
  exact (ss_one (s_ret [] (d_ix ix_B o_ix (d_call G_find_best (hr.mono (by decide)) tk (da_cons (d_var 0) (da_cons (d_var 1) da_nil))) d_int)))
abbrev s_has_region : Stmt := top 58
theorem sc_has_region : FnScope ["setting", "candidate"] ["setting", "candidate"] (defScope s_has_region) := ⟨rfl, rfl, rfl, by decide +kernel, rfl, by decide +kernel, by decide +kernel⟩
theorem w_has_region {fa : Addr} {fd : FuncData} (T : Txt K mg) (Fu : Fun K "has_region" "has_region" s_has_region fa fd) (hm : mg "has_region" = some (.ref fa)) (hb : Binds K fd ["setting", "candidate"] []) (G_has_anchor : FnD P w K mg base 3 "has_anchor" 2 f_has_anchor) : FnD P w K mg base 4 "has_region" 2 f_has_region := by
  refine FnD.mk' (x := "has_region") (N := ["setting", "candidate"]) (ps := ["setting", "candidate"]) (k := 3) Fu sc_has_region hm hb fun cdv A outer s H E hr => ?_
  have nd : (["setting", "candidate"] : List Str).Nodup := sc_has_region.nd
  have tk := takes_of (X := cxOf (L2.CX P w) P w K mg base ["setting", "candidate"] "has_region" (defScope s_has_region) fa cdv A outer s H E) rfl rfl rfl rfl
  have po := passes_of (X := cxOf (L2.CX P w) P w K mg base ["setting", "candidate"] "has_region" (defScope s_has_region) fa cdv A outer s H E) rfl
  unfold b_has_region
  exact (ss_one (s_ret [] (d_and (d_call G_has_anchor (hr.mono (by decide)) tk (da_cons (d_var 0) (da_cons (d_var 1) da_nil))) (d_and (d_cmp op_ge o_ge (d_ix ix_B o_ix (d_var 1) d_int) (d_ix ix_B o_ix (d_ix ix_B o_ix (d_var 0) d_int) d_int)) (d_one (d_cmp op_ge o_ge (d_ix ix_B o_ix (d_var 1) d_int) (d_ix ix_B o_ix (d_ix ix_B o_ix (d_var 0) d_int) d_int)))))))
abbrev s_check_region : Stmt := top 63
theorem sc_check_region : FnScope ["setting", "region"] ["setting", "region"] (defScope s_check_region) := ⟨rfl, rfl, rfl, by decide +kernel, rfl, by decide +kernel, by decide +kernel⟩
theorem w_check_region {fa : Addr} {fd : FuncData} (T : Txt K mg) (Fu : Fun K "check_region" "check_region" s_check_region fa fd) (hm : mg "check_region" = some (.ref fa)) (hb : Binds K fd ["setting", "region"] []) (G_check_setting : FnD P w K mg base 5 "check_setting" 1 f_check_setting) (G_has_region : FnD P w K mg base 4 "has_region" 2 f_has_region) : FnD P w K mg base 6 "check_region" 2 f_check_region := by
  refine FnD.mk' (x := "check_region") (N := ["setting", "region"]) (ps := ["setting", "region"]) (k := 5) Fu sc_check_region hm hb fun cdv A outer s H E hr => ?_
  have nd : (["setting", "region"] : List Str).Nodup := sc_check_region.nd
  have tk := takes_of (X := cxOf (L2.CX P w) P w K mg base ["setting", "region"] "check_region" (defScope s_check_region) fa cdv A outer s H E) rfl rfl rfl rfl
  have po := passes_of (X := cxOf (L2.CX P w) P w K mg base ["setting", "region"] "check_region" (defScope s_check_region) fa cdv A outer s H E) rfl
  unfold b_check_region
  exact (ss_cons (s_drop [] (d_call G_check_setting (hr.mono (by decide)) tk (da_cons (d_var 0) da_nil)))
    (ss_one (s_if [] (t_not (t_val (d_call G_has_region (hr.mono (by decide)) tk (da_cons (d_var 0) (da_cons (d_var 1) da_nil))))) (ss_one (s_raiseD rfl tk T.x_InvalidRegion)) ss_nil)))
abbrev s_lies_in : Stmt := top 61
theorem sc_lies_in : FnScope ["rectangle", "region", "left", "top", "width", "height"] ["rectangle", "region"] (defScope s_lies_in) := ⟨rfl, rfl, rfl, by decide +kernel, rfl, by decide +kernel, by decide +kernel⟩
theorem w_lies_in {fa : Addr} {fd : FuncData} (T : Txt K mg) (Fu : Fun K "lies_in" "lies_in" s_lies_in fa fd) (hm : mg "lies_in" = some (.ref fa)) (hb : Binds K fd ["rectangle", "region"] []) : FnD P w K mg base 2 "lies_in" 2 f_lies_in := by
  refine FnD.mk' (x := "lies_in") (N := ["rectangle", "region", "left", "top", "width", "height"]) (ps := ["rectangle", "region"]) (k := 1) Fu sc_lies_in hm hb fun cdv A outer s H E hr => ?_
  have nd : (["rectangle", "region", "left", "top", "width", "height"] : List Str).Nodup := sc_lies_in.nd
  have tk := takes_of (X := cxOf (L2.CX P w) P w K mg base ["rectangle", "region", "left", "top", "width", "height"] "lies_in" (defScope s_lies_in) fa cdv A outer s H E) rfl rfl rfl rfl
  have po := passes_of (X := cxOf (L2.CX P w) P w K mg base ["rectangle", "region", "left", "top", "width", "height"] "lies_in" (defScope s_lies_in) fa cdv A outer s H E) rfl
  unfold b_lies_in
  exact (ss_cons (s_unp [] rfl (g_cons (i := 2) nd (g_cons (i := 3) nd (g_cons (i := 4) nd (g_cons (i := 5) nd g_nil)))) (d_var 0))
    (ss_cons (s_if [] (t_w (w_or (t_cmp op_lt o_lt (d_var 2) (d_ix ix_B o_ix (d_var 1) d_int)) (w_or1 (t_cmp op_lt o_lt (d_var 3) (d_ix ix_B o_ix (d_var 1) d_int))))) (ss_one (s_ret [] d_bl)) ss_nil)
    (ss_one (s_ret [] (d_and (d_cmp op_le o_le (d_op op_addD o_add (d_var 2) (d_var 4)) (d_op op_addD o_add (d_ix ix_B o_ix (d_var 1) d_int) (d_ix ix_B o_ix (d_var 1) d_int))) (d_one (d_cmp op_le o_le (d_op op_addD o_add (d_var 3) (d_var 5)) (d_op op_addD o_add (d_ix ix_B o_ix (d_var 1) d_int) (d_ix ix_B o_ix (d_var 1) d_int)))))))))
abbrev s_find_side_in : Stmt := top 62
theorem sc_find_side_in : FnScope ["setting", "region", "anchor", "side"] ["setting", "region", "anchor"] (defScope s_find_side_in) := ⟨rfl, rfl, rfl, by decide +kernel, rfl, by decide +kernel, by decide +kernel⟩
theorem w_find_side_in {fa : Addr} {fd : FuncData} (T : Txt K mg) (Fu : Fun K "find_side_in" "find_side_in" s_find_side_in fa fd) (hm : mg "find_side_in" = some (.ref fa)) (hb : Binds K fd ["setting", "region", "anchor"] []) (G_has_room : FnD P w K mg base 2 "has_room" 3 f_has_room) (G_lies_in : FnD P w K mg base 2 "lies_in" 2 f_lies_in) (G_spot_on : FnD P w K mg base 3 "spot_on" 4 f_spot_on) : FnD P w K mg base 4 "find_side_in" 3 f_find_side_in := by
  refine FnD.mk' (x := "find_side_in") (N := ["setting", "region", "anchor", "side"]) (ps := ["setting", "region", "anchor"]) (k := 3) Fu sc_find_side_in hm hb fun cdv A outer s H E hr => ?_
  have nd : (["setting", "region", "anchor", "side"] : List Str).Nodup := sc_find_side_in.nd
  have tk := takes_of (X := cxOf (L2.CX P w) P w K mg base ["setting", "region", "anchor", "side"] "find_side_in" (defScope s_find_side_in) fa cdv A outer s H E) rfl rfl rfl rfl
  have po := passes_of (X := cxOf (L2.CX P w) P w K mg base ["setting", "region", "anchor", "side"] "find_side_in" (defScope s_find_side_in) fa cdv A outer s H E) rfl
  unfold b_find_side_in
  exact (ss_cons (s_for [] po rfl (i_seq (d_ix ix_B o_ix (d_var 0) d_int)) (pg_name (i := 3) nd rfl (Or.inl rfl)) (gok_name 3)
    (ss_aft [3] (ss_one (s_if [] (t_w (w_and (t_val (d_call G_has_room (hr.mono (by decide)) tk (da_cons (d_var 0) (da_cons (d_var 2) (da_cons (d_var 3) da_nil))))) (w_and1 (t_val (d_call G_lies_in (hr.mono (by decide)) tk (da_cons (d_call G_spot_on (hr.mono (by decide)) tk (da_cons (d_var 0) (da_cons (d_var 1) (da_cons (d_var 2) (da_cons (d_var 3) da_nil))))) (da_cons (d_var 1) da_nil))))))) (ss_one (s_ret [] (d_var 3))) ss_nil))))
    (ss_one (s_ret [] (d_gl T.c_OVER))))
abbrev s_place_in : Stmt := top 64
theorem sc_place_in : FnScope ["setting", "region", "anchor"] ["setting", "region", "anchor"] (defScope s_place_in) := ⟨rfl, rfl, rfl, by decide +kernel, rfl, by decide +kernel, by decide +kernel⟩
theorem w_place_in {fa : Addr} {fd : FuncData} (T : Txt K mg) (Fu : Fun K "place_in" "place_in" s_place_in fa fd) (hm : mg "place_in" = some (.ref fa)) (hb : Binds K fd ["setting", "region", "anchor"] []) (G_check_region : FnD P w K mg base 6 "check_region" 2 f_check_region) (G_check_anchor : FnD P w K mg base 4 "check_anchor" 2 f_check_anchor) (G_spot_on : FnD P w K mg base 3 "spot_on" 4 f_spot_on) (G_find_side_in : FnD P w K mg base 4 "find_side_in" 3 f_find_side_in) : FnD P w K mg base 7 "place_in" 3 f_place_in := by
  refine FnD.mk' (x := "place_in") (N := ["setting", "region", "anchor"]) (ps := ["setting", "region", "anchor"]) (k := 6) Fu sc_place_in hm hb fun cdv A outer s H E hr => ?_
  have nd : (["setting", "region", "anchor"] : List Str).Nodup := sc_place_in.nd
  have tk := takes_of (X := cxOf (L2.CX P w) P w K mg base ["setting", "region", "anchor"] "place_in" (defScope s_place_in) fa cdv A outer s H E) rfl rfl rfl rfl
  have po := passes_of (X := cxOf (L2.CX P w) P w K mg base ["setting", "region", "anchor"] "place_in" (defScope s_place_in) fa cdv A outer s H E) rfl
  unfold b_place_in
  exact (ss_cons (s_drop [] (d_call G_check_region (hr.mono (by decide)) tk (da_cons (d_var 0) (da_cons (d_var 1) da_nil))))
    (ss_cons (s_drop [] (d_call G_check_anchor (hr.mono (by decide)) tk (da_cons (d_var 0) (da_cons (d_var 2) da_nil))))
    (ss_one (s_ret [] (d_call G_spot_on (hr.mono (by decide)) tk (da_cons (d_var 0) (da_cons (d_var 1) (da_cons (d_var 2) (da_cons (d_call G_find_side_in (hr.mono (by decide)) tk (da_cons (d_var 0) (da_cons (d_var 1) (da_cons (d_var 2) da_nil)))) da_nil)))))))))
abbrev s_check_size : Stmt := top 31
theorem sc_check_size : FnScope ["setting", "size"] ["setting", "size"] (defScope s_check_size) := ⟨rfl, rfl, rfl, by decide +kernel, rfl, by decide +kernel, by decide +kernel⟩
theorem w_check_size {fa : Addr} {fd : FuncData} (T : Txt K mg) (Fu : Fun K "check_size" "check_size" s_check_size fa fd) (hm : mg "check_size" = some (.ref fa)) (hb : Binds K fd ["setting", "size"] []) (G_check_setting : FnD P w K mg base 5 "check_setting" 1 f_check_setting) (G_is_size : FnD P w K mg base 3 "is_size" 3 f_is_size) : FnD P w K mg base 6 "check_size" 2 f_check_size := by
  refine FnD.mk' (x := "check_size") (N := ["setting", "size"]) (ps := ["setting", "size"]) (k := 5) Fu sc_check_size hm hb fun cdv A outer s H E hr => ?_
  have nd : (["setting", "size"] : List Str).Nodup := sc_check_size.nd
  have tk := takes_of (X := cxOf (L2.CX P w) P w K mg base ["setting", "size"] "check_size" (defScope s_check_size) fa cdv A outer s H E) rfl rfl rfl rfl
  have po := passes_of (X := cxOf (L2.CX P w) P w K mg base ["setting", "size"] "check_size" (defScope s_check_size) fa cdv A outer s H E) rfl
  unfold b_check_size
  exact (ss_cons (s_drop [] (d_call G_check_setting (hr.mono (by decide)) tk (da_cons (d_var 0) da_nil)))
    (ss_one (s_if [] (t_not (t_val (d_call G_is_size (hr.mono (by decide)) tk (da_cons (d_var 1) (da_cons (d_ix ix_B o_ix (d_ix ix_B o_ix (d_var 0) d_int) d_int) (da_cons (d_ix ix_B o_ix (d_ix ix_B o_ix (d_var 0) d_int) d_int) da_nil)))))) (ss_one (s_raiseD rfl tk T.x_InvalidSize)) ss_nil)))
abbrev s_all_anchors : Stmt := top 32
theorem sc_all_anchors : FnScope ["setting", "size", "wide", "high", "lefts", "tops", "left", "top"] ["setting", "size"] (defScope s_all_anchors) := ⟨rfl, rfl, rfl, by decide +kernel, rfl, by decide +kernel, by decide +kernel⟩
theorem w_all_anchors {fa : Addr} {fd : FuncData} (T : Txt K mg) (Fu : Fun K "all_anchors" "all_anchors" s_all_anchors fa fd) (hm : mg "all_anchors" = some (.ref fa)) (hb : Binds K fd ["setting", "size"] []) : FnD P w K mg base 2 "all_anchors" 2 f_all_anchors := by
  refine FnD.mk' (x := "all_anchors") (N := ["setting", "size", "wide", "high", "lefts", "tops", "left", "top"]) (ps := ["setting", "size"]) (k := 1) Fu sc_all_anchors hm hb fun cdv A outer s H E hr => ?_
  have nd : (["setting", "size", "wide", "high", "lefts", "tops", "left", "top"] : List Str).Nodup := sc_all_anchors.nd
  have tk := takes_of (X := cxOf (L2.CX P w) P w K mg base ["setting", "size", "wide", "high", "lefts", "tops", "left", "top"] "all_anchors" (defScope s_all_anchors) fa cdv A outer s H E) rfl rfl rfl rfl
  have po := passes_of (X := cxOf (L2.CX P w) P w K mg base ["setting", "size", "wide", "high", "lefts", "tops", "left", "top"] "all_anchors" (defScope s_all_anchors) fa cdv A outer s H E) rfl
  unfold b_all_anchors
  exact (ss_cons (s_unp [] rfl (g_cons (i := 2) nd (g_cons (i := 3) nd g_nil)) (d_ix ix_B o_ix (d_var 0) d_int))
    (ss_cons (s_parT [] rfl (g_cons (i := 4) nd (g_cons (i := 5) nd g_nil)) (dm_l (l_listRg1 rfl T.b_list T.b_range (d_op op_addD o_add (d_op op_sub o_sub (d_var 2) (d_ix ix_B o_ix (d_var 1) d_int)) d_int)) (dm_l (l_listRg1 rfl T.b_list T.b_range (d_op op_addD o_add (d_op op_sub o_sub (d_var 3) (d_ix ix_B o_ix (d_var 1) d_int)) d_int)) dm_nil)))
    (ss_one (s_ret [4, 5] (d_ofL (l_lc2 rfl nd (i_seq (d_var 4)) (blkOk_by (own := [("left", 6), ("top", 7)]) rfl) (vs1 := [7]) (by decide) (gokR_name (by decide)) (gokR_name (by decide)) (fun _ _ _ _ _ => (pg_name (i := 6) nd rfl (Or.inl rfl))) (fun _ _ _ _ _ => ts_nil) (fun _ _ _ _ _ => (i_seq (d_var 5))) (fun _ _ _ _ _ => (pg_name (i := 7) nd rfl (Or.inl rfl))) (fun _ _ _ _ _ => ts_nil) (fun _ _ _ _ _ => (d_tup (da_cons (d_var 6) (da_cons (d_var 7) (da_cons (d_ix ix_B o_ix (d_var 1) d_int) (da_cons (d_ix ix_B o_ix (d_var 1) d_int) da_nil))))))))))))
abbrev s_find_middle : Stmt := top 46
theorem sc_find_middle : FnScope ["anchor", "left", "top", "width", "height"] ["anchor"] (defScope s_find_middle) := ⟨rfl, rfl, rfl, by decide +kernel, rfl, by decide +kernel, by decide +kernel⟩
theorem w_find_middle {fa : Addr} {fd : FuncData} (T : Txt K mg) (Fu : Fun K "find_middle" "find_middle" s_find_middle fa fd) (hm : mg "find_middle" = some (.ref fa)) (hb : Binds K fd ["anchor"] []) : FnD P w K mg base 2 "find_middle" 1 f_find_middle := by
  refine FnD.mk' (x := "find_middle") (N := ["anchor", "left", "top", "width", "height"]) (ps := ["anchor"]) (k := 1) Fu sc_find_middle hm hb fun cdv A outer s H E hr => ?_
  have nd : (["anchor", "left", "top", "width", "height"] : List Str).Nodup := sc_find_middle.nd
  have tk := takes_of (X := cxOf (L2.CX P w) P w K mg base ["anchor", "left", "top", "width", "height"] "find_middle" (defScope s_find_middle) fa cdv A outer s H E) rfl rfl rfl rfl
  have po := passes_of (X := cxOf (L2.CX P w) P w K mg base ["anchor", "left", "top", "width", "height"] "find_middle" (defScope s_find_middle) fa cdv A outer s H E) rfl
  unfold b_find_middle
  exact (ss_cons (s_unp [] rfl (g_cons (i := 1) nd (g_cons (i := 2) nd (g_cons (i := 3) nd (g_cons (i := 4) nd g_nil)))) (d_var 0))
    (ss_one (s_ret [] (d_tup (da_cons (d_op op_addD o_add (d_var 1) (d_op op_fdivW o_div (d_op op_sub o_sub (d_var 3) d_int) d_int)) (da_cons (d_op op_addD o_add (d_var 2) (d_op op_fdivW o_div (d_op op_sub o_sub (d_var 4) d_int) d_int)) da_nil))))))
abbrev s_nearest : Stmt := top 47
theorem sc_nearest : FnScope ["value", "start", "size", "spare"] ["value", "start", "size"] (defScope s_nearest) := ⟨rfl, rfl, rfl, by decide +kernel, rfl, by decide +kernel, by decide +kernel⟩
theorem w_nearest {fa : Addr} {fd : FuncData} (T : Txt K mg) (Fu : Fun K "nearest" "nearest" s_nearest fa fd) (hm : mg "nearest" = some (.ref fa)) (hb : Binds K fd ["value", "start", "size"] []) : FnD P w K mg base 2 "nearest" 3 f_nearest := by
  refine FnD.mk' (x := "nearest") (N := ["value", "start", "size", "spare"]) (ps := ["value", "start", "size"]) (k := 1) Fu sc_nearest hm hb fun cdv A outer s H E hr => ?_
  have nd : (["value", "start", "size", "spare"] : List Str).Nodup := sc_nearest.nd
  have tk := takes_of (X := cxOf (L2.CX P w) P w K mg base ["value", "start", "size", "spare"] "nearest" (defScope s_nearest) fa cdv A outer s H E) rfl rfl rfl rfl
  have po := passes_of (X := cxOf (L2.CX P w) P w K mg base ["value", "start", "size", "spare"] "nearest" (defScope s_nearest) fa cdv A outer s H E) rfl
  unfold b_nearest
  exact (ss_cons (s_set (i := 3) [] nd (d_ifE (t_cmp op_gt o_gt (d_var 2) d_int) d_int d_int))
    (ss_one (s_ret [] (d_callB (call_max2 rfl) c_max2 T.b_max (by decide +kernel) (da_cons (d_op op_addD o_add (d_var 1) (d_var 3)) (da_cons (d_callB (call_min2 rfl) c_min2 T.b_min (by decide +kernel) (da_cons (d_var 0) (da_cons (d_op op_sub o_sub (d_op op_sub o_sub (d_op op_addD o_add (d_var 1) (d_var 2)) d_int) (d_var 3)) da_nil))) da_nil))))))
abbrev s_find_arrow : Stmt := top 48
theorem sc_find_arrow : FnScope ["setting", "anchor", "side", "left", "top", "width", "height", "x", "y"] ["setting", "anchor"] (defScope s_find_arrow) := ⟨rfl, rfl, rfl, by decide +kernel, rfl, by decide +kernel, by decide +kernel⟩
theorem w_find_arrow {fa : Addr} {fd : FuncData} (T : Txt K mg) (Fu : Fun K "find_arrow" "find_arrow" s_find_arrow fa fd) (hm : mg "find_arrow" = some (.ref fa)) (hb : Binds K fd ["setting", "anchor"] []) (G_find_side : FnD P w K mg base 4 "find_side" 2 f_find_side) (G_find_place : FnD P w K mg base 6 "find_place" 2 f_find_place) (G_find_middle : FnD P w K mg base 2 "find_middle" 1 f_find_middle) (G_nearest : FnD P w K mg base 2 "nearest" 3 f_nearest) : FnD P w K mg base 7 "find_arrow" 2 f_find_arrow := by
  refine FnD.mk' (x := "find_arrow") (N := ["setting", "anchor", "side", "left", "top", "width", "height", "x", "y"]) (ps := ["setting", "anchor"]) (k := 6) Fu sc_find_arrow hm hb fun cdv A outer s H E hr => ?_
  have nd : (["setting", "anchor", "side", "left", "top", "width", "height", "x", "y"] : List Str).Nodup := sc_find_arrow.nd
  have tk := takes_of (X := cxOf (L2.CX P w) P w K mg base ["setting", "anchor", "side", "left", "top", "width", "height", "x", "y"] "find_arrow" (defScope s_find_arrow) fa cdv A outer s H E) rfl rfl rfl rfl
  have po := passes_of (X := cxOf (L2.CX P w) P w K mg base ["setting", "anchor", "side", "left", "top", "width", "height", "x", "y"] "find_arrow" (defScope s_find_arrow) fa cdv A outer s H E) rfl
  unfold b_find_arrow
  exact (ss_cons (s_set (i := 2) [] nd (d_call G_find_side (hr.mono (by decide)) tk (da_cons (d_var 0) (da_cons (d_var 1) da_nil))))
    (ss_cons (s_unp [] rfl (g_cons (i := 3) nd (g_cons (i := 4) nd (g_cons (i := 5) nd (g_cons (i := 6) nd g_nil)))) (d_call G_find_place (hr.mono (by decide)) tk (da_cons (d_var 0) (da_cons (d_var 1) da_nil))))
    (ss_cons (s_unp [] rfl (g_cons (i := 7) nd (g_cons (i := 8) nd g_nil)) (d_call G_find_middle (hr.mono (by decide)) tk (da_cons (d_var 1) da_nil)))
    (ss_cons (s_if [] (t_cmp (op_eqD hr.units) o_eq (d_var 2) (d_gl T.c_OVER)) (ss_one (s_ret [] d_non)) ss_nil)
    (ss_cons (s_if [] (t_cmp (op_inB (hu65 hr)) o_in (d_var 2) (d_tup (da_cons (d_gl T.c_TOP) (da_cons (d_gl T.c_BOTTOM) da_nil)))) (ss_one (s_ret [] (d_tup (da_cons (d_call G_nearest (hr.mono (by decide)) tk (da_cons (d_var 7) (da_cons (d_var 3) (da_cons (d_var 5) da_nil)))) (da_cons (d_ifE (t_cmp (op_eqD hr.units) o_eq (d_var 2) (d_gl T.c_TOP)) (d_op op_sub o_sub (d_op op_addD o_add (d_var 4) (d_var 6)) d_int) (d_var 4)) da_nil))))) ss_nil)
    (ss_one (s_ret [] (d_tup (da_cons (d_ifE (t_cmp (op_eqD hr.units) o_eq (d_var 2) (d_gl T.c_LEFT)) (d_op op_sub o_sub (d_op op_addD o_add (d_var 3) (d_var 5)) d_int) (d_var 3)) (da_cons (d_call G_nearest (hr.mono (by decide)) tk (da_cons (d_var 8) (da_cons (d_var 4) (da_cons (d_var 6) da_nil)))) da_nil))))))))))
abbrev s_find_off : Stmt := top 50
theorem sc_find_off : FnScope ["setting", "anchor", "place", "aim", "which"] ["setting", "anchor"] (defScope s_find_off) := ⟨rfl, rfl, rfl, by decide +kernel, rfl, by decide +kernel, by decide +kernel⟩
theorem w_find_off {fa : Addr} {fd : FuncData} (T : Txt K mg) (Fu : Fun K "find_off" "find_off" s_find_off fa fd) (hm : mg "find_off" = some (.ref fa)) (hb : Binds K fd ["setting", "anchor"] []) (G_find_arrow : FnD P w K mg base 7 "find_arrow" 2 f_find_arrow) (G_find_middle : FnD P w K mg base 2 "find_middle" 1 f_find_middle) (G_find_side : FnD P w K mg base 4 "find_side" 2 f_find_side) : FnD P w K mg base 8 "find_off" 2 f_find_off := by
  refine FnD.mk' (x := "find_off") (N := ["setting", "anchor", "place", "aim", "which"]) (ps := ["setting", "anchor"]) (k := 7) Fu sc_find_off hm hb fun cdv A outer s H E hr => ?_
  have nd : (["setting", "anchor", "place", "aim", "which"] : List Str).Nodup := sc_find_off.nd
  have tk := takes_of (X := cxOf (L2.CX P w) P w K mg base ["setting", "anchor", "place", "aim", "which"] "find_off" (defScope s_find_off) fa cdv A outer s H E) rfl rfl rfl rfl
  have po := passes_of (X := cxOf (L2.CX P w) P w K mg base ["setting", "anchor", "place", "aim", "which"] "find_off" (defScope s_find_off) fa cdv A outer s H E) rfl
  unfold b_find_off
  exact (ss_cons (s_par2 (i := 2) (j := 3) [] rfl nd (dm_s (d_call G_find_arrow (hr.mono (by decide)) tk (da_cons (d_var 0) (da_cons (d_var 1) da_nil))) (dm_s (d_call G_find_middle (hr.mono (by decide)) tk (da_cons (d_var 1) da_nil)) dm_nil)))
    (ss_cons (s_if [] (t_cmp op_isD o_is (d_var 2) d_non) (ss_one (s_ret [] d_non)) ss_nil)
    (ss_cons (s_set (i := 4) [] nd (d_ifE (t_cmp (op_inB (hu65 hr)) o_in (d_call G_find_side (hr.mono (by decide)) tk (da_cons (d_var 0) (da_cons (d_var 1) da_nil))) (d_tup (da_cons (d_gl T.c_LEFT) (da_cons (d_gl T.c_RIGHT) da_nil)))) d_int d_int))
    (ss_one (s_ret [] (d_callB call_abs c_abs T.b_abs (by decide +kernel) (da_cons (d_op op_sub o_sub (d_ix ix_B o_ix (d_var 2) (d_var 4)) (d_ix ix_B o_ix (d_var 3) (d_var 4))) da_nil)))))))
abbrev s_count_straight : Stmt := top 51
theorem sc_count_straight : FnScope ["setting", "size", "anchor"] ["setting", "size"] (defScope s_count_straight) := ⟨rfl, rfl, rfl, by decide +kernel, rfl, by decide +kernel, by decide +kernel⟩
theorem w_count_straight {fa : Addr} {fd : FuncData} (T : Txt K mg) (Fu : Fun K "count_straight" "count_straight" s_count_straight fa fd) (hm : mg "count_straight" = some (.ref fa)) (hb : Binds K fd ["setting", "size"] []) (G_check_size : FnD P w K mg base 6 "check_size" 2 f_check_size) (G_all_anchors : FnD P w K mg base 2 "all_anchors" 2 f_all_anchors) (G_find_off : FnD P w K mg base 8 "find_off" 2 f_find_off) : FnD P w K mg base 9 "count_straight" 2 f_count_straight := by
  refine FnD.mk' (x := "count_straight") (N := ["setting", "size", "anchor"]) (ps := ["setting", "size"]) (k := 8) Fu sc_count_straight hm hb fun cdv A outer s H E hr => ?_
  have nd : (["setting", "size", "anchor"] : List Str).Nodup := sc_count_straight.nd
  have tk := takes_of (X := cxOf (L2.CX P w) P w K mg base ["setting", "size", "anchor"] "count_straight" (defScope s_count_straight) fa cdv A outer s H E) rfl rfl rfl rfl
  have po := passes_of (X := cxOf (L2.CX P w) P w K mg base ["setting", "size", "anchor"] "count_straight" (defScope s_count_straight) fa cdv A outer s H E) rfl
  unfold b_count_straight
  exact (ss_cons (s_drop [] (d_call G_check_size (hr.mono (by decide)) tk (da_cons (d_var 0) (da_cons (d_var 1) da_nil))))
    (ss_one (s_ret [] (d_callB cr_len c_len T.b_len (by decide +kernel) (da_cons (d_ofL (l_lc rfl nd (i_seq (d_call G_all_anchors (hr.mono (by decide)) tk (da_cons (d_var 0) (da_cons (d_var 1) da_nil)))) (blkOk_by (own := [("anchor", 2)]) rfl) (gokR_name (by decide)) (fun _ _ _ _ _ => (pg_name (i := 2) nd rfl (Or.inl rfl))) (fun _ _ _ _ _ => (ts_one (t_cmp (op_eqD hr.units) o_eq (d_call G_find_off (hr.mono (by decide)) takes0 (da_cons (d_var 0) (da_cons (d_var 2) da_nil))) d_int))) (fun _ _ _ _ _ => (d_var 2)))) da_nil)))))
abbrev s_arrow : Stmt := top 49
theorem sc_arrow : FnScope ["setting", "anchor"] ["setting", "anchor"] (defScope s_arrow) := ⟨rfl, rfl, rfl, by decide +kernel, rfl, by decide +kernel, by decide +kernel⟩
theorem w_arrow {fa : Addr} {fd : FuncData} (T : Txt K mg) (Fu : Fun K "arrow" "arrow" s_arrow fa fd) (hm : mg "arrow" = some (.ref fa)) (hb : Binds K fd ["setting", "anchor"] []) (G_check_both : FnD P w K mg base 6 "check_both" 2 f_check_both) (G_find_arrow : FnD P w K mg base 7 "find_arrow" 2 f_find_arrow) : FnD P w K mg base 8 "arrow" 2 f_arrow := by
  refine FnD.mk' (x := "arrow") (N := ["setting", "anchor"]) (ps := ["setting", "anchor"]) (k := 7) Fu sc_arrow hm hb fun cdv A outer s H E hr => ?_
  have nd : (["setting", "anchor"] : List Str).Nodup := sc_arrow.nd
  have tk := takes_of (X := cxOf (L2.CX P w) P w K mg base ["setting", "anchor"] "arrow" (defScope s_arrow) fa cdv A outer s H E) rfl rfl rfl rfl
  have po := passes_of (X := cxOf (L2.CX P w) P w K mg base ["setting", "anchor"] "arrow" (defScope s_arrow) fa cdv A outer s H E) rfl
  unfold b_arrow
  exact (ss_cons (s_drop [] (d_call G_check_both (hr.mono (by decide)) tk (da_cons (d_var 0) (da_cons (d_var 1) da_nil))))
    (ss_one (s_ret [] (d_call G_find_arrow (hr.mono (by decide)) tk (da_cons (d_var 0) (da_cons (d_var 1) da_nil))))))
abbrev s_law : Stmt := top 82
theorem sc_law : FnScope ["_law_script", "_law_setting_here", "_law_anchors", "_law_kept", "_law_first", "_law_region", "_law_small", "_law_window", "_law_second", "_law_third", "_law_k", "_law_some"] ["_law_script"] (defScope s_law) := ⟨rfl, rfl, rfl, by decide +kernel, rfl, by decide +kernel, by decide +kernel⟩
theorem w_law {fa : Addr} {fd : FuncData} (T : Txt K mg) (Fu : Fun K "law" "law" s_law fa fd) (hm : mg "law" = some (.ref fa)) (hb : Binds K fd ["_law_script"] []) (G_R_L_lists : FnLL P w K mg base 8 "_law_lists" 2 f_R_L_lists) (G_W_step : MtW P w K mg base 8 "step" 3 g_W_step) (G_W_copy : CpW P w K mg base 9 "copy" f_check_both) (G_L_setting : FnD P w K mg base 3 "_law_setting" 2 f_L_setting) (G_W_anchor : MtD P w K mg base 2 "anchor" 1 f_W_anchor) (G_L_anchor : FnD P w K mg base 3 "_law_anchor" 3 f_L_anchor) (G_L_changed : FnCh P w K mg base 2 "_law_changed") (G_best_order : FnD P w K mg base 8 "best_order" 2 f_best_order) (G_place_in : FnD P w K mg base 7 "place_in" 3 f_place_in) (G_count_straight : FnD P w K mg base 9 "count_straight" 2 f_count_straight) (G_W_init : MkW P w K mg base 7 f_check_both) (G_L_lists : FnD P w K mg base 8 "_law_lists" 2 f_L_lists) (G_arrow : FnD P w K mg base 8 "arrow" 2 f_arrow) : FnOk P w K mg base (L2.CX P w) 10 fa fd ["_law_script"] (spOf K mg 1 f_law) := by
  refine FnD.mkOk (x := "law") (N := ["_law_script", "_law_setting_here", "_law_anchors", "_law_kept", "_law_first", "_law_region", "_law_small", "_law_window", "_law_second", "_law_third", "_law_k", "_law_some"]) (ps := ["_law_script"]) (k := 9) Fu sc_law hm hb fun cdv A outer s H E hr => ?_
  have nd : (["_law_script", "_law_setting_here", "_law_anchors", "_law_kept", "_law_first", "_law_region", "_law_small", "_law_window", "_law_second", "_law_third", "_law_k", "_law_some"] : List Str).Nodup := sc_law.nd
  have tk := takes_of (X := cxOf (L2.CX P w) P w K mg base ["_law_script", "_law_setting_here", "_law_anchors", "_law_kept", "_law_first", "_law_region", "_law_small", "_law_window", "_law_second", "_law_third", "_law_k", "_law_some"] "law" (defScope s_law) fa cdv A outer s H E) rfl rfl rfl rfl
  have po := passes_of (X := cxOf (L2.CX P w) P w K mg base ["_law_script", "_law_setting_here", "_law_anchors", "_law_kept", "_law_first", "_law_region", "_law_small", "_law_window", "_law_second", "_law_third", "_law_k", "_law_some"] "law" (defScope s_law) fa cdv A outer s H E) rfl
  unfold b_law
  exact (ss_cons (s_set (i := 1) [] nd (d_call G_L_setting (hr.mono (by decide)) tk (da_cons (d_var 0) (da_cons d_int da_nil))))
    (ss_cons (s_setLc (i := 2) [] rfl nd (i_range1 T.b_range (da_cons d_int da_nil) (h1 := len_cons1)) (blkOk_by (own := [("_law_k", 10)]) rfl) (gokR_name (by decide)) (fun _ _ _ _ _ => (pg_name (i := 10) nd rfl (Or.inl rfl))) (fun _ _ _ _ _ => ts_nil) (fun _ _ _ _ _ => (d_call G_L_anchor (hr.mono (by decide)) takes0 (da_cons (d_var 0) (da_cons (d_op op_addD o_add d_int (d_op op_mul o_mul d_int (d_var 10))) (da_cons (d_var 1) da_nil))))))
    (ss_cons (s_par2 (i := 3) (j := 4) [2] rfl nd (dm_l (l_listOf T.b_list (d_var 2)) (dm_l (l_lc rfl nd (i_seq (d_call G_L_lists (hr.mono (by decide)) tk (da_cons (d_var 1) (da_cons (d_var 2) da_nil)))) (blkOk_by (own := [("_law_some", 11)]) rfl) (gokR_name (by decide)) (fun _ _ _ _ _ => (pg_name (i := 11) nd rfl (Or.inl rfl))) (fun _ _ _ _ _ => ts_nil) (fun _ _ _ _ _ => (d_ofL (l_listOf T.b_list (d_var 11))))) dm_nil)))
    (ss_cons (s_if [2] (t_not (t_val (d_chLL G_L_changed G_R_L_lists (hr.mono (by decide)) (hr.mono (by decide)) tk (da_cons (d_var 1) (da_cons (d_var 2) da_nil))))) (ss_one (s_ret [] d_bl)) ss_nil)
    (ss_cons (s_if [2, 3, 4] (t_w (w_or (t_cmp (op_neD hr.units) o_ne (d_call G_L_lists (hr.mono (by decide)) tk (da_cons (d_var 1) (da_cons (d_var 2) da_nil))) (d_var 4)) (w_or1 (t_cmp (op_neD hr.units) o_ne (d_var 2) (d_var 3))))) (ss_one (s_ret [] d_bl)) ss_nil)
    (ss_cons (s_if [2] (t_cmp (op_neD hr.units) o_ne (d_call G_best_order (hr.mono (by decide)) tk (da_cons (d_var 1) (da_cons (d_var 2) da_nil))) (d_call G_best_order (hr.mono (by decide)) tk (da_cons (d_var 1) (da_cons (d_var 2) da_nil)))) (ss_one (s_ret [] d_bl)) ss_nil)
    (ss_cons (s_if [2, 3] (t_w (w_or (t_cmp (op_neD hr.units) o_ne (d_call G_arrow (hr.mono (by decide)) tk (da_cons (d_var 1) (da_cons (d_ix ix_B o_ix (d_var 3) d_int) da_nil))) (d_call G_arrow (hr.mono (by decide)) tk (da_cons (d_var 1) (da_cons (d_ix ix_B o_ix (d_var 3) d_int) da_nil)))) (w_or1 (t_cmp (op_neD hr.units) o_ne (d_var 2) (d_var 3))))) (ss_one (s_ret [] d_bl)) ss_nil)
    (ss_cons (s_set (i := 5) [] nd (d_tup (da_cons d_int (da_cons d_int (da_cons (d_ix ix_B o_ix (d_ix ix_B o_ix (d_var 1) d_int) d_int) (da_cons (d_ix ix_B o_ix (d_ix ix_B o_ix (d_var 1) d_int) d_int) da_nil))))))
    (ss_cons (s_if [3] (t_cmp (op_neD hr.units) o_ne (d_call G_place_in (hr.mono (by decide)) tk (da_cons (d_var 1) (da_cons (d_var 5) (da_cons (d_ix ix_B o_ix (d_var 3) d_int) da_nil)))) (d_call G_place_in (hr.mono (by decide)) tk (da_cons (d_var 1) (da_cons (d_var 5) (da_cons (d_ix ix_B o_ix (d_var 3) d_int) da_nil))))) (ss_one (s_ret [] d_bl)) ss_nil)
    (ss_cons (s_if [3] (t_cmp (op_neD hr.units) o_ne (d_call G_count_straight (hr.mono (by decide)) tk (da_cons (d_var 1) (da_cons (d_cutT (d_ix ix_B o_ix (d_var 3) d_int) (p_some d_int) p_none) da_nil))) (d_call G_count_straight (hr.mono (by decide)) tk (da_cons (d_var 1) (da_cons (d_cutT (d_ix ix_B o_ix (d_var 3) d_int) (p_some d_int) p_none) da_nil)))) (ss_one (s_ret [] d_bl)) ss_nil)
    (ss_cons (s_set (i := 6) [] nd (d_tup (da_cons (d_tup (da_cons d_int (da_cons d_int da_nil))) (da_cons (d_tup (da_cons d_int (da_cons d_int da_nil))) (da_cons d_int (da_cons (d_tup (da_cons d_str da_nil)) da_nil))))))
    (qs_newW2 (i := 7) (j := 8) G_W_init (hr.mono (by decide)) tk rfl nd (da_cons (d_var 6) (da_cons (d_tup (da_cons d_int (da_cons d_int (da_cons d_int (da_cons d_int da_nil))))) da_nil)) (da_cons (d_var 6) (da_cons (d_tup (da_cons d_int (da_cons d_int (da_cons d_int (da_cons d_int da_nil))))) da_nil))
    (ss_cons (s_dropW (w_meth (j := 7) G_W_step (hr.mono (by decide)) tk (da_cons d_int (da_cons d_int da_nil))))
    (qs_newC (i := 9) (j := 7) G_W_copy (hr.mono (by decide)) tk nd
    (ss_cons (s_dropW (w_meth (j := 9) G_W_step (hr.mono (by decide)) tk (da_cons d_int (da_cons d_int da_nil))))
    (ss_cons (s_if [7, 8] (t_not (t_w (w_and (t_cmp (op_eqD hr.units) o_eq (d_meth0 G_W_anchor (hr.mono (by decide)) tk (d_var 7)) (d_tup (da_cons d_int (da_cons d_int (da_cons d_int (da_cons d_int da_nil)))))) (w_and1 (t_cmp (op_eqD hr.units) o_eq (d_meth0 G_W_anchor (hr.mono (by decide)) tk (d_var 8)) (d_tup (da_cons d_int (da_cons d_int (da_cons d_int (da_cons d_int da_nil)))))))))) (ss_one (s_ret [] d_bl)) ss_nil)
    (ss_one (s_ret [9] (d_cmp (op_eqD hr.units) o_eq (d_meth0 G_W_anchor (hr.mono (by decide)) tk (d_var 9)) (d_tup (da_cons d_int (da_cons d_int (da_cons d_int (da_cons d_int da_nil))))))))))))))))))))))))
end
end Pk
namespace Pk
open PySem Dl
/-- least ≤ value ≤ most -/
def inI (a v b : Int) : Bool := decide (a ≤ v) && decide (v ≤ b)
theorem inI_yes {a v b : Int} (h : a ≤ v) (h2 : v ≤ b) : inI a v b = true := by simp [inI, h, h2]
theorem inI_no {a v b : Int} (h : ¬ (a ≤ v ∧ v ≤ b)) : inI a v b = false := by
  unfold inI
  by_cases h1 : a ≤ v <;> by_cases h2 : v ≤ b <;> simp_all
theorem p_is_int (v a b : Int) : f_is_int [.int v, .int a, .int b] = some (.ok (.bl (inI a v b))) := by
  by_cases h : a ≤ v <;> simp [f_is_int, b_is_int, h, tyInt, tyBool, inI]
theorem p_is_intB (v : Bool) (a b : Int) : f_is_int [.bl v, .int a, .int b] = some (.ok (.bl false)) := by
  simp [f_is_int, b_is_int, tyInt, tyBool]
theorem p_is_size (a b W H : Int) : f_is_size [.tup [.int a, .int b], .int W, .int H] = some (.ok (.bl (inI 1 a W && inI 1 b H))) := by
  have e1 := p_is_int a 1 W
  have e2 := p_is_int b 1 H
  generalize inI 1 a W = x1 at e1 ⊢
  generalize inI 1 b H = x2 at e2 ⊢
  cases x1 <;> cases x2 <;> simp [f_is_size, b_is_size, tyTuple, e1, e2]
inductive Sd where
  | t | b | l | r
deriving DecidableEq
def Sd.nm : Sd → Str
  | .t => "top"
  | .b => "bottom"
  | .l => "left"
  | .r => "right"
@[simp] theorem nm_t : Sd.t.nm = "top" := rfl
@[simp] theorem nm_b : Sd.b.nm = "bottom" := rfl
@[simp] theorem nm_l : Sd.l.nm = "left" := rfl
@[simp] theorem nm_r : Sd.r.nm = "right" := rfl
abbrev sdD (x : Sd) : D := .str x.nm
def sd4 : List Sd := [.t, .b, .l, .r]
/-- sides, no two alike, at least one -/
def okSd (s : List Sd) : Bool := decide (s.Nodup) && !s.isEmpty && decide (s.length ≤ 4)
def perms : Nat → List (List Sd)
  | 0 => [[]]
  | n + 1 => (perms n).flatMap fun s => (sd4.filter fun x => !s.contains x).map fun x => x :: s
theorem perms_all : ∀ (s : List Sd), s.Nodup → s ∈ perms s.length
  | [], _ => List.mem_cons_self
  | x :: s, h => by
    have h2 := List.nodup_cons.mp h
    refine List.mem_flatMap.mpr ⟨s, perms_all s h2.2, List.mem_map.mpr ⟨x, List.mem_filter.mpr ⟨by cases x <;> decide, ?_⟩, rfl⟩⟩
    simpa using h2.1
def yes : Oe D → Bool
  | some (.ok (.bl true)) => true
  | _ => false
theorem of_yes {o : Oe D} (h : yes o = true) : o = some (.ok (.bl true)) := by
  unfold yes at h
  split at h
  · rfl
  · cases h
theorem sides_ok : (([1, 2, 3, 4].flatMap perms).all fun s => yes (f_are_sides [.tup (s.map sdD)])) = true := by decide +kernel
structure OkSd (s : List Sd) : Prop where
  nd : s.Nodup
  ne : s ≠ []
  len : s.length ≤ 4
theorem p_are_sides {s : List Sd} (h : OkSd s) : f_are_sides [.tup (s.map sdD)] = some (.ok (.bl true)) := by
  refine of_yes (List.all_eq_true.mp sides_ok s (List.mem_flatMap.mpr ⟨s.length, ?_, perms_all s h.nd⟩))
  have h1 := h.len
  have h2 : s.length ≠ 0 := fun z => h.ne (List.eq_nil_of_length_eq_zero z)
  have : s.length = 1 ∨ s.length = 2 ∨ s.length = 3 ∨ s.length = 4 := by omega
  rcases this with e | e | e | e <;> rw [e] <;> decide
theorem okN_sd (n : Nat) (x : Sd) : okN (n + 1) (sdD x) = true := by
  show layS x.nm = true
  cases x <;> decide +kernel
theorem okN_sds (n : Nat) (s : List Sd) : okN (n + 2) (.lst (s.map sdD)) = true := by
  show (s.map sdD).all (okN (n + 1)) = true
  rw [List.all_eq_true]
  intro d hd
  obtain ⟨x, _, rfl⟩ := List.mem_map.mp hd
  exact okN_sd n x
theorem okN_tsd (n : Nat) (s : List Sd) : okN (n + 2) (.tup (s.map sdD)) = true := okN_sds n s
structure OkS (w h bw bh g : Int) (s : List Sd) : Prop where
  w1 : 1 ≤ w
  w2 : w ≤ 30
  h1 : 1 ≤ h
  h2 : h ≤ 30
  bw1 : 1 ≤ bw
  bw2 : bw ≤ w
  bh1 : 1 ≤ bh
  bh2 : bh ≤ h
  g1 : 0 ≤ g
  g2 : g ≤ 5
  s1 : OkSd s
abbrev stD (w h bw bh g : Int) (s : List Sd) : D := .tup [.tup [.int w, .int h], .tup [.int bw, .int bh], .int g, .tup (s.map sdD)]
theorem p_is_setting {w h bw bh g : Int} {s : List Sd} (o : OkS w h bw bh g s) : f_is_setting [stD w h bw bh g s] = some (.ok (.bl true)) := by
  simp [f_is_setting, b_is_setting, tyTuple, p_is_int, p_is_size, inI_yes o.w1 o.w2, inI_yes o.h1 o.h2, inI_yes o.bw1 o.bw2, inI_yes o.bh1 o.bh2, inI_yes o.g1 o.g2, p_are_sides o.s1]
theorem p_check_setting {w h bw bh g : Int} {s : List Sd} (o : OkS w h bw bh g s) : f_check_setting [stD w h bw bh g s] = some (.ok .non) := by
  simp [f_check_setting, b_check_setting, p_is_setting o]
structure OkA (w h l t sw sh : Int) : Prop where
  l1 : 0 ≤ l
  t1 : 0 ≤ t
  sw1 : 1 ≤ sw
  sh1 : 1 ≤ sh
  l2 : l + sw ≤ w
  t2 : t + sh ≤ h
abbrev anD (l t sw sh : Int) : D := .tup [.int l, .int t, .int sw, .int sh]
theorem p_has_anchor4 (w h l t sw sh : Int) (a b c : D) : f_has_anchor [.tup [.tup [.int w, .int h], a, b, c], anD l t sw sh] = some (.ok (.bl (inI 0 l w && inI 0 t h && inI 1 sw (w - l) && inI 1 sh (h - t)))) := by
  have e1 := p_is_int l 0 w
  have e2 := p_is_int t 0 h
  have e3 := p_is_int sw 1 (w - l)
  have e4 := p_is_int sh 1 (h - t)
  generalize inI 0 l w = x1 at e1 ⊢
  generalize inI 0 t h = x2 at e2 ⊢
  generalize inI 1 sw (w - l) = x3 at e3 ⊢
  generalize inI 1 sh (h - t) = x4 at e4 ⊢
  cases x1 <;> cases x2 <;> cases x3 <;> cases x4 <;> simp [f_has_anchor, b_has_anchor, tyTuple, e1, e2, e3, e4]
theorem p_has_anchor {w h l t sw sh : Int} (a b c : D) (o : OkA w h l t sw sh) : f_has_anchor [.tup [.tup [.int w, .int h], a, b, c], anD l t sw sh] = some (.ok (.bl true)) := by
  obtain ⟨h1, h2, h3, h4, h5, h6⟩ := o
  rw [p_has_anchor4, inI_yes h1 (by omega), inI_yes h2 (by omega), inI_yes h3 (by omega), inI_yes h4 (by omega)]; rfl
/-- four numbers that are no anchor -/
theorem p_no_anchor {w h l t sw sh : Int} (a b c : D) (no : ¬ (0 ≤ l ∧ l ≤ w ∧ 0 ≤ t ∧ t ≤ h ∧ 1 ≤ sw ∧ sw ≤ w - l ∧ 1 ≤ sh ∧ sh ≤ h - t)) : f_has_anchor [.tup [.tup [.int w, .int h], a, b, c], anD l t sw sh] = some (.ok (.bl false)) := by
  rw [p_has_anchor4]
  have : (inI 0 l w && inI 0 t h && inI 1 sw (w - l) && inI 1 sh (h - t)) = false := by
    cases q : (inI 0 l w && inI 0 t h && inI 1 sw (w - l) && inI 1 sh (h - t)) with
    | false => rfl
    | true =>
      simp only [inI, Bool.and_eq_true, decide_eq_true_eq] at q
      exact (no (by omega)).elim
  rw [this]
theorem p_no_anchorB {w h l t sh : Int} {sw : Bool} (a b c : D) : f_has_anchor [.tup [.tup [.int w, .int h], a, b, c], .tup [.int l, .int t, .bl sw, .int sh]] = some (.ok (.bl false)) := by
  have e1 := p_is_int l 0 w
  have e2 := p_is_int t 0 h
  generalize inI 0 l w = x1 at e1
  generalize inI 0 t h = x2 at e2
  cases x1 <;> cases x2 <;> simp [f_has_anchor, b_has_anchor, tyTuple, e1, e2, p_is_intB]
theorem p_no_anchorN {st : D} {d : D} (h : tyTuple d = some false) : f_has_anchor [st, d] = some (.ok (.bl false)) := by
  simp [f_has_anchor, b_has_anchor, h]
theorem p_no_anchor3 {st : D} {a b c : D} : f_has_anchor [st, .tup [a, b, c]] = some (.ok (.bl false)) := by
  simp [f_has_anchor, b_has_anchor, tyTuple]
theorem p_check_anchor {w h l t sw sh : Int} (a b c : D) (o : OkA w h l t sw sh) : f_check_anchor [.tup [.tup [.int w, .int h], a, b, c], anD l t sw sh] = some (.ok .non) := by
  simp [f_check_anchor, b_check_anchor, p_has_anchor a b c o]
def roomB (w h bw bh g l t sw sh : Int) : Sd → Bool
  | .t => decide (bh + g ≤ t)
  | .b => decide (t + sh + g + bh ≤ h)
  | .l => decide (bw + g ≤ l)
  | .r => decide (l + sw + g + bw ≤ w)
theorem p_has_room (w h bw bh g l t sw sh : Int) (c : D) (s : Sd) : f_has_room [.tup [.tup [.int w, .int h], .tup [.int bw, .int bh], .int g, c], anD l t sw sh, .str s.nm] = some (.ok (.bl (roomB w h bw bh g l t sw sh s))) := by
  cases s <;> simp [f_has_room, b_has_room, roomB]
theorem map_sd {s : List Sd} {p : Sd → Bool} {q : D → Bool} (h : ∀ x, q (sdD x) = p x) : (s.map sdD).filter q = (s.filter p).map sdD := by
  rw [List.filter_map]
  congr 1
  exact List.filter_congr fun x _ => h x
def sdOf : D → Option Sd
  | .str x => if x = "top" then some .t else if x = "bottom" then some .b else if x = "left" then some .l else if x = "right" then some .r else none
  | _ => none
@[simp] theorem sdOf_nm (x : Sd) : sdOf (sdD x) = some x := by cases x <;> rfl
/-- a test of sides as a test of data -/
def onSd (p : Sd → Bool) (d : D) : Bool := match sdOf d with
  | some x => p x
  | none => false
@[simp] theorem onSd_nm (p : Sd → Bool) (x : Sd) : onSd p (sdD x) = p x := by simp only [onSd, sdOf_nm]
theorem p_find_fitting (w h bw bh g l t sw sh : Int) {s : List Sd} (hs : s.length ≤ 4) : f_find_fitting [stD w h bw bh g s, anD l t sw sh] = some (.ok (.lst ((s.filter (roomB w h bw bh g l t sw sh)).map sdD))) := by
  have e := lc_filter (t := tgRN 2) (test := toB (sFn 3 f_has_room (sCons (sV 0) (sCons (sV 1) (sCons (sV 2) sNil))))) (elt := sV 2) (ρ := [some (stD w h bw bh g s), some (anD l t sw sh), none]) (onSd (roomB w h bw bh g l t sw sh)) id (s.map sdD) fun d hd => by
    obtain ⟨x, _, rfl⟩ := List.mem_map.mp hd
    exact ⟨_, rfl, by simp [p_has_room], by simp⟩
  rw [map_sd (onSd_nm _), List.map_id] at e
  have hs2 : s.length ≤ 1000000 := by omega
  simp [f_find_fitting, b_find_fitting, e, hs2]
def sideOf (s : List Sd) (p : Sd → Bool) : D := match s.filter p with
  | [] => .str "over"
  | x :: _ => sdD x
theorem p_find_side (w h bw bh g l t sw sh : Int) {s : List Sd} (hs : s.length ≤ 4) : f_find_side [stD w h bw bh g s, anD l t sw sh] = some (.ok (sideOf s (roomB w h bw bh g l t sw sh))) := by
  have e := p_find_fitting w h bw bh g l t sw sh hs
  have hl : (s.filter (roomB w h bw bh g l t sw sh)).length ≤ 4 := Nat.le_trans (List.length_filter_le _ _) hs
  unfold sideOf
  generalize s.filter (roomB w h bw bh g l t sw sh) = r at e hl ⊢
  have hl2 : r.length + 1 ≤ 1000000 := by omega
  cases r with
  | nil => simp [f_find_side, b_find_side, e]
  | cons x r =>
    have hl3 : r.length + 1 + 1 ≤ 1000000 := by simpa using hl2
    simp [f_find_side, b_find_side, e, hl3]
theorem p_is_side (x : Sd) : f_is_side [.str x.nm] = some (.ok (.bl true)) := of_yes (by cases x <;> decide +kernel)
theorem kv2 (a b : L2.V) : L2.mergeK [] [(Sum.inr ("top" : Str), a), (Sum.inr ("bottom" : Str), b)] = ([(Sum.inr ("top" : Str), a), (Sum.inr ("bottom" : Str), b)] : List (L2.Key × L2.V)) := rfl
theorem kv3 (a b c : L2.V) : L2.putK ([(Sum.inr ("top" : Str), a), (Sum.inr ("bottom" : Str), b)] : List (L2.Key × L2.V)) (Sum.inr ("left" : Str)) c = [(Sum.inr ("top" : Str), a), (Sum.inr ("bottom" : Str), b), (Sum.inr ("left" : Str), c)] := rfl
theorem kv4 (a b c d : L2.V) : L2.putK ([(Sum.inr ("top" : Str), a), (Sum.inr ("bottom" : Str), b), (Sum.inr ("left" : Str), c)] : List (L2.Key × L2.V)) (Sum.inr ("right" : Str)) d = [(Sum.inr ("top" : Str), a), (Sum.inr ("bottom" : Str), b), (Sum.inr ("left" : Str), c), (Sum.inr ("right" : Str), d)] := rfl
theorem kg_t (a b c d : L2.V) : L2.valV ([(Sum.inr ("top" : Str), a), (Sum.inr ("bottom" : Str), b), (Sum.inr ("left" : Str), c), (Sum.inr ("right" : Str), d)] : List (L2.Key × L2.V)) (Sum.inr ("top" : Str)) = some a := rfl
theorem kg_b (a b c d : L2.V) : L2.valV ([(Sum.inr ("top" : Str), a), (Sum.inr ("bottom" : Str), b), (Sum.inr ("left" : Str), c), (Sum.inr ("right" : Str), d)] : List (L2.Key × L2.V)) (Sum.inr ("bottom" : Str)) = some b := rfl
theorem kg_l (a b c d : L2.V) : L2.valV ([(Sum.inr ("top" : Str), a), (Sum.inr ("bottom" : Str), b), (Sum.inr ("left" : Str), c), (Sum.inr ("right" : Str), d)] : List (L2.Key × L2.V)) (Sum.inr ("left" : Str)) = some c := rfl
theorem kg_r (a b c d : L2.V) : L2.valV ([(Sum.inr ("top" : Str), a), (Sum.inr ("bottom" : Str), b), (Sum.inr ("left" : Str), c), (Sum.inr ("right" : Str), d)] : List (L2.Key × L2.V)) (Sum.inr ("right" : Str)) = some d := rfl
theorem fl10 : dPow (.int 10) (.int 18) = some (.int 1000000000000000000) := rfl
theorem fl_d1 : divOk 1000000000000000000 = true := by decide
theorem fl_d2 : divOk 840 = true := by decide
theorem fl_d3 : divOk 31 = true := by decide
theorem sm (i : Int) (h : 0 ≤ i) (h2 : i < 18446744073709551616) : small64 i = true := by
  unfold small64
  simp only [Bool.and_eq_true, decide_eq_true_eq]
  omega
theorem divOk_of {i : Int} (h : 0 < i) (h2 : i < 1000000) : divOk i = true := by
  unfold divOk
  simp only [Bool.and_eq_true, decide_eq_true_eq]
  omega
theorem pick_loop (d0 d1 d2 d3 : D) : ∀ (n : Nat) (r a : Int), a ≤ n → ∃ r' a', whileS [] (bAnd (toB (sOp dGt (sV 4) (sC (.int 0)))) (toB (sOp dGt (sV 5) (sC (.int 0))))) (sPar [] [4, 5] [.s (sOp dDiv (sV 4) (sC (.int 840))), .s (sOp dSub (sV 5) (sC (.int 1)))]) (n + 1)
      [.dat d0, .dat d1, .dat d2, .dat d3, .dat (.int r), .dat (.int a), .no] = some (.nx [.dat d0, .dat d1, .dat d2, .dat d3, .dat (.int r'), .dat (.int a'), .no]) := by
  intro n
  induction n with
  | zero =>
    intro r a h
    have h' : ¬ (0 < a) := by omega
    refine ⟨r, a, ?_⟩
    by_cases hr : 0 < r <;> simp [whileS, hr, h']
  | succ n ih =>
    intro r a h
    by_cases hr : 0 < r
    · by_cases ha : 0 < a
      · obtain ⟨r', a', e⟩ := ih (r / 840) (a - 1) (by omega)
        refine ⟨r', a', ?_⟩
        rw [whileS]
        simp [hr, ha, fl_d2, parS]
        exact e
      · refine ⟨r, a, ?_⟩
        rw [whileS]
        simp [hr, ha]
    · refine ⟨r, a, ?_⟩
      rw [whileS]
      simp [hr]
theorem pick_cell (ns : List Int) (k : Int) (hk : 0 ≤ k) (d2 : D) : ∃ cell : Int, sIfE (toB (sOp dNe (sV 0) (sOfL (sLst sNil)))) (sOp dIx (sV 0) (sOp dMod (sV 1) (sCall dLen (sCons (sV 0) sNil)))) (sC (.int 0)) [some (.scr ns), some (.int k), some d2, none, none, none, none] = some (.ok (.int cell)) := by
  cases ns with
  | nil => exact ⟨0, by simp [ne_scr_nil]⟩
  | cons c r =>
    have hl : (0 : Int) < ((c :: r).length : Int) := by rw [List.length_cons]; omega
    obtain ⟨a, e, _⟩ := at_in (xs := c :: r) (i := k % ((c :: r).length : Int)) (Int.emod_nonneg _ (by omega)) (Int.emod_lt_of_pos _ hl)
    generalize c :: r = ns at *
    refine ⟨a, ?_⟩
    have hne : ns.isEmpty = false := by cases ns with
      | nil => simp at hl
      | cons => rfl
    have hl2 : 0 < ns.length := by omega
    simp [ne_scr_nil, hne, hl2, e]
theorem map_erase : ∀ (es : List Sd) (r : Nat), (es.map sdD).eraseIdx r = (es.eraseIdx r).map sdD
  | [], _ => rfl
  | _ :: _, 0 => rfl
  | x :: es, r + 1 => by
    show sdD x :: (es.map sdD).eraseIdx r = sdD x :: (es.eraseIdx r).map sdD
    rw [map_erase es r]
theorem perm_erase : ∀ (es : List Sd) (r : Nat) (h : r < es.length), (es[r] :: es.eraseIdx r).Perm es
  | [], _, h => absurd h (Nat.not_lt_zero _)
  | _ :: _, 0, _ => .refl _
  | x :: es, r + 1, h => by
    have h' : r < es.length := by simpa using h
    have ih := perm_erase es r h'
    show (es[r] :: x :: es.eraseIdx r).Perm (x :: es)
    exact (List.Perm.swap _ _ _).trans (.cons x ih)
/-- the anchors of one size -/
def ancs (w h sw sh : Int) : List D := (rgD 0 (w - sw + 1).toNat).flatMap fun l => (rgD 0 (h - sh + 1).toNat).map fun t => .tup [l, t, .int sw, .int sh]
theorem ancs_mem {w h sw sh : Int} {d : D} (m : d ∈ ancs w h sw sh) (h1 : 1 ≤ sw) (h2 : 1 ≤ sh) : ∃ l t : Int, d = anD l t sw sh ∧ OkA w h l t sw sh := by
  obtain ⟨dl, hl, m⟩ := List.mem_flatMap.mp m
  obtain ⟨dt, ht, rfl⟩ := List.mem_map.mp m
  obtain ⟨i, hi, rfl⟩ := rgD_mem hl
  obtain ⟨j, hj, rfl⟩ := rgD_mem ht
  exact ⟨0 + i, 0 + j, rfl, by omega, by omega, h1, h2, by omega, by omega⟩
theorem lfAll_of {ds : List D} (h : ∀ d, d ∈ ds → lf d = true) : lfAll ds = true := by
  induction ds with
  | nil => rfl
  | cons d ds ih => simp only [lfAll, h d List.mem_cons_self, ih fun d hd => h d (List.mem_cons_of_mem _ hd)]; rfl
/-- a side, or none: over -/
def sdO : Option Sd → D
  | none => .str "over"
  | some x => sdD x
theorem sideOf_eq (s : List Sd) (p : Sd → Bool) : sideOf s p = sdO (s.find? p) := by
  unfold sideOf
  rw [← List.head?_filter]
  cases s.filter p <;> rfl
theorem p_find_sideO (w h bw bh g l t sw sh : Int) {s : List Sd} (hs : s.length ≤ 4) : f_find_side [stD w h bw bh g s, anD l t sw sh] = some (.ok (sdO (s.find? (roomB w h bw bh g l t sw sh)))) := by
  rw [p_find_side w h bw bh g l t sw sh hs, sideOf_eq]
theorem p_centred (a s b : Int) : f_centred [.int a, .int s, .int b] = some (.ok (.int (a + (s - b) / 2))) := by
  have : divOk 2 = true := by decide
  simp [f_centred, b_centred, this]
def clampI (x m : Int) : Int := if x < 0 then 0 else if m < x then m else x
theorem p_within (x b sc : Int) (h : b ≤ sc) : f_within [.int x, .int b, .int sc] = some (.ok (.int (clampI x (sc - b)))) := by
  simp [f_within, b_within]
  unfold clampI
  repeat' split
  all_goals omega
def rawX (bw g l sw : Int) : Option Sd → Int
  | some .l => l - g - bw
  | some .r => l + sw + g
  | _ => l + (sw - bw) / 2
def rawY (bh g t sh : Int) : Option Sd → Int
  | some .t => t - g - bh
  | some .b => t + sh + g
  | _ => t + (sh - bh) / 2
theorem p_find_raw (w h bw bh g l t sw sh : Int) {s : List Sd} (hs : s.length ≤ 4) : f_find_raw [stD w h bw bh g s, anD l t sw sh] = some (.ok (.tup [.int (rawX bw g l sw (s.find? (roomB w h bw bh g l t sw sh))), .int (rawY bh g t sh (s.find? (roomB w h bw bh g l t sw sh)))])) := by
  have e := p_find_sideO w h bw bh g l t sw sh hs
  generalize s.find? (roomB w h bw bh g l t sw sh) = o at e ⊢
  cases o with
  | none => simp [f_find_raw, b_find_raw, p_centred, e, rawX, rawY, sdO, sdD, parS]
  | some x => cases x <;> simp [f_find_raw, b_find_raw, p_centred, e, rawX, rawY, sdO, sdD, parS]
def plX (w bw g l sw : Int) (o : Option Sd) : Int := clampI (rawX bw g l sw o) (w - bw)
def plY (h bh g t sh : Int) (o : Option Sd) : Int := clampI (rawY bh g t sh o) (h - bh)
theorem clamp_in (x : Int) {m : Int} (h : 0 ≤ m) : 0 ≤ clampI x m ∧ clampI x m ≤ m := by
  unfold clampI
  repeat' split
  all_goals omega
theorem p_find_place {w h bw bh g l t sw sh : Int} {s : List Sd} (hw : bw ≤ w) (hh : bh ≤ h) (hs : s.length ≤ 4) : f_find_place [stD w h bw bh g s, anD l t sw sh] = some (.ok (anD (plX w bw g l sw (s.find? (roomB w h bw bh g l t sw sh))) (plY h bh g t sh (s.find? (roomB w h bw bh g l t sw sh))) bw bh)) := by
  simp [f_find_place, b_find_place, p_find_raw w h bw bh g l t sw sh hs, p_within _ _ _ hw, p_within _ _ _ hh, parS, plX, plY]
theorem p_check_both {w h bw bh g l t sw sh : Int} {s : List Sd} (o : OkS w h bw bh g s) (a : OkA w h l t sw sh) : f_check_both [stD w h bw bh g s, anD l t sw sh] = some (.ok .non) := by
  simp [f_check_both, b_check_both, p_check_setting o, p_check_anchor _ _ _ a]
def cmn (a la b lb : Int) : Int := if (if b + lb < a + la then b + lb else a + la) - (if b > a then b else a) > 0 then (if b + lb < a + la then b + lb else a + la) - (if b > a then b else a) else 0
theorem p_common (a la b lb : Int) : f_common [.int a, .int la, .int b, .int lb] = some (.ok (.int (cmn a la b lb))) := by
  simp [f_common, b_common, cmn]
theorem cmn_pos (a la b lb : Int) : 0 < cmn a la b lb ↔ (b < a + la ∧ a < b + lb ∧ 0 < la ∧ 0 < lb) := by
  unfold cmn
  repeat' split
  all_goals omega
theorem cmn_mm (a la b lb : Int) : cmn a la b lb = max 0 (min (a + la) (b + lb) - max a b) := by
  unfold cmn
  repeat' split
  all_goals omega
theorem cmn_nn (a la b lb : Int) : 0 ≤ cmn a la b lb := by
  unfold cmn
  repeat' split
  all_goals omega
theorem cmn_le (a la b lb : Int) (h : 0 ≤ la) : cmn a la b lb ≤ la := by
  unfold cmn
  repeat' split
  all_goals omega
def ovl (l t sw sh x y bw bh : Int) : Int := cmn l sw x bw * cmn t sh y bh
theorem p_overlap {l t sw sh x y bw bh : Int} (h : 0 ≤ sw) (h2 : sw ≤ 1000) : f_overlap [anD l t sw sh, anD x y bw bh] = some (.ok (.int (ovl l t sw sh x y bw bh))) := by
  have h3 := cmn_nn l sw x bw
  have h4 := cmn_le l sw x bw h
  have : small64 (cmn l sw x bw) = true := sm _ h3 (by omega)
  simp [f_overlap, b_overlap, p_common, this, ovl]
theorem cut2 (a b c d : D) : cutD [a, b, c, d] none (some 2) = [a, b] := rfl
theorem ne_pair (a b c d : Int) : dNe (.tup [.int a, .int b]) (.tup [.int c, .int d]) = some (.bl (!(a == c && (b == d && true)))) := rfl
theorem eq_pair (a b c d : Int) : dEq (.tup [.int a, .int b]) (.tup [.int c, .int d]) = some (.bl (a == c && (b == d && true))) := rfl
theorem for_ret {t : Tgt} {b : Ss} {ρ0 : Sig} (p : D → Bool) (r : D → D) : ∀ (ds : List D), (∀ d, d ∈ ds → ∃ ρ1, t d ρ0 = some ρ1 ∧ b ρ1 = if p d = true then some (.rt (r d)) else some (.nx ρ0)) →
    forS t b ds ρ0 = match ds.find? p with
      | some d => some (.rt (r d))
      | none => some (.nx ρ0)
  | [], _ => rfl
  | d :: ds, h => by
    obtain ⟨ρ1, e1, e2⟩ := h d List.mem_cons_self
    have ih := for_ret p r ds fun d hd => h d (List.mem_cons_of_mem _ hd)
    cases hp : p d with
    | true =>
      rw [hp] at e2
      simp only [forS, e1, e2, List.find?_cons, hp, if_true]
    | false =>
      rw [hp] at e2
      simp only [forS, e1, e2, List.find?_cons, hp]
      exact ih
theorem find_sd (s : List Sd) (p : Sd → Bool) : (s.map sdD).find? (onSd p) = (s.find? p).map sdD := by
  induction s with
  | nil => rfl
  | cons x s ih =>
    simp only [List.map_cons, List.find?_cons, onSd_nm, ih]
    cases p x <;> rfl
theorem in_lr (o : Option Sd) : dIn (sdO o) (.tup [.str "left", .str "right"]) = some (.bl (o == some .l || o == some .r)) := by
  cases o with
  | none => rfl
  | some x => cases x <;> rfl
theorem in_tb (o : Option Sd) : dIn (sdO o) (.tup [.str "top", .str "bottom"]) = some (.bl (o == some .t || o == some .b)) := by
  cases o with
  | none => rfl
  | some x => cases x <;> rfl
theorem clamp_law (x m : Int) (h : 0 ≤ m) : dMin2 [.int (if (0 : Int) > x then 0 else x), .int m] = some (.int (clampI x m)) := by
  show some (D.int _) = some (D.int _)
  congr 2
  unfold clampI
  repeat' split
  all_goals omega
def fieldsL (l t w h : Int) : List D := (rgD l w.toNat).flatMap fun x => (rgD t h.toNat).map fun y => .tup [x, y]
theorem flen (A B : List D) : (A.flatMap fun x => B.map fun y => D.tup [x, y]).length = A.length * B.length := by
  induction A with
  | nil => simp
  | cons x A ih => rw [List.flatMap_cons, List.length_append, ih, List.length_map, List.length_cons, Nat.succ_mul, Nat.add_comm]
theorem fieldsL_len {l t w h : Int} (hw : 0 ≤ w) (hh : 0 ≤ h) : ((fieldsL l t w h).length : Int) = w * h := by
  rw [fieldsL, flen, rgD_len, rgD_len, Int.natCast_mul, Int.toNat_of_nonneg hw, Int.toNat_of_nonneg hh]
theorem fieldsL_mem {l t w h : Int} {d : D} (m : d ∈ fieldsL l t w h) : ∃ a b : Int, d = .tup [.int a, .int b] ∧ l ≤ a ∧ a < l + w ∧ t ≤ b ∧ b < t + h := by
  obtain ⟨dl, hl, m⟩ := List.mem_flatMap.mp m
  obtain ⟨dt, ht, rfl⟩ := List.mem_map.mp m
  obtain ⟨i, hi, rfl⟩ := rgD_mem hl
  obtain ⟨j, hj, rfl⟩ := rgD_mem ht
  exact ⟨l + i, t + j, rfl, by omega, by omega, by omega, by omega⟩
theorem rgD_in {lo v : Int} {n : Nat} (h1 : lo ≤ v) (h2 : v < lo + n) : D.int v ∈ rgD lo n := by
  unfold rgD
  refine List.mem_map.mpr ⟨(v - lo).toNat, List.mem_range.mpr (by omega), ?_⟩
  congr 1
  omega
theorem mem_fieldsL {l t w h a b : Int} (h1 : l ≤ a) (h2 : a < l + w) (h3 : t ≤ b) (h4 : b < t + h) : D.tup [.int a, .int b] ∈ fieldsL l t w h :=
  List.mem_flatMap.mpr ⟨.int a, rgD_in h1 (by omega), List.mem_map.mpr ⟨.int b, rgD_in h3 (by omega), rfl⟩⟩
theorem eq2 (a b c d : Int) : eqN 10 (.tup [.int a, .int b]) (.tup [.int c, .int d]) = (a == c && (b == d && true)) := rfl
theorem any_fields (x y w h a b : Int) : anyEq (.tup [.int a, .int b]) (fieldsL x y w h) = ((decide (x ≤ a) && decide (a < x + w)) && (decide (y ≤ b) && decide (b < y + h))) := by
  unfold anyEq
  rw [Bool.eq_iff_iff, List.any_eq_true]
  simp only [Bool.and_eq_true, decide_eq_true_eq]
  constructor
  · rintro ⟨d, hd, e⟩
    obtain ⟨c, k, rfl, h1, h2, h3, h4⟩ := fieldsL_mem hd
    rw [eq2] at e
    simp only [Bool.and_eq_true, beq_iff_eq] at e
    omega
  · rintro ⟨⟨h1, h2⟩, h3, h4⟩
    exact ⟨_, mem_fieldsL h1 h2 h3 h4, by rw [eq2]; simp⟩
theorem in_fields (x y w h a b : Int) : dIn (.tup [.int a, .int b]) (.lst (fieldsL x y w h)) = some (.bl ((decide (x ≤ a) && decide (a < x + w)) && (decide (y ≤ b) && decide (b < y + h)))) := by
  have hall : (fieldsL x y w h).all (okN 9) = true := by
    rw [List.all_eq_true]
    intro d hd
    obtain ⟨c, k, rfl, _⟩ := fieldsL_mem hd
    rfl
  have hf : (flatD (.tup [.int a, .int b]) && (fieldsL x y w h).all flatD) = false := rfl
  have ho : (okN 9 (.tup [.int a, .int b]) && (fieldsL x y w h).all (okN 9)) = true := by rw [hall]; rfl
  unfold dIn inOf
  rw [← any_fields]
  simp only [hf, ho]
  rfl
theorem filter_prod (px py : D → Bool) (p : D → Bool) (A B : List D) (hp : ∀ x ∈ A, ∀ y ∈ B, p (.tup [x, y]) = (px x && py y)) : ((A.flatMap fun x => B.map fun y => D.tup [x, y]).filter p).length = (A.filter px).length * (B.filter py).length := by
  induction A with
  | nil => simp
  | cons x A ih =>
    have ih := ih fun x hx => hp x (List.mem_cons_of_mem _ hx)
    have hb : ∀ B' : List D, (∀ y ∈ B', p (.tup [x, y]) = (px x && py y)) → ((B'.map fun y => D.tup [x, y]).filter p).length = if px x then (B'.filter py).length else 0 := by
      intro B'
      induction B' with
      | nil => intro _; simp
      | cons y B' ih2 =>
        intro h
        have e := h y List.mem_cons_self
        have ih2 := ih2 fun y hy => h y (List.mem_cons_of_mem _ hy)
        rw [List.map_cons, List.filter_cons, e, List.filter_cons]
        cases hpx : px x <;> cases hpy : py y <;> simp only [hpx, hpy, Bool.and_self, Bool.and_false, Bool.and_true, Bool.false_eq_true, if_true, if_false, List.length_cons] at ih2 ⊢ <;> omega
    rw [List.flatMap_cons, List.filter_append, List.length_append, ih, hb B fun y hy => hp x List.mem_cons_self y hy, List.filter_cons]
    cases px x
    · simp
    · simp [Nat.succ_mul, Nat.add_comm]
/-- lies the number in [b, b + m)? -/
def inR (b m : Int) : D → Bool
  | .int v => decide (b ≤ v) && decide (v < b + m)
  | _ => false
theorem rg_count (lo b m : Int) (hm : 0 ≤ m) : ∀ n : Nat, (((rgD lo n).filter (inR b m)).length : Int) = cmn lo n b m
  | 0 => by
    rw [cmn_mm]
    show (0 : Int) = _
    omega
  | n + 1 => by
    have ih := rg_count lo b m hm n
    have e : rgD lo (n + 1) = rgD lo n ++ [.int (lo + n)] := by unfold rgD; rw [List.range_succ, List.map_append]; rfl
    rw [e, List.filter_append, List.length_append]
    rw [cmn_mm] at ih ⊢
    by_cases h : b ≤ lo + n ∧ lo + n < b + m
    · have q : ([D.int (lo + n)].filter (inR b m)).length = 1 := by simp [inR, h.1, h.2]
      rw [q]
      omega
    · have q : ([D.int (lo + n)].filter (inR b m)).length = 0 := by
        have : inR b m (.int (lo + n)) = false := by
          simp only [inR]
          by_cases h1 : b ≤ lo + n <;> by_cases h2 : lo + n < b + m <;> simp_all
        simp [this]
      rw [q]
      omega
/-- the fields that two have in common -/
theorem shared_len (l t sw sh x y bw bh : Int) (h1 : 0 ≤ sw) (h2 : 0 ≤ sh) (h3 : 0 ≤ bw) (h4 : 0 ≤ bh) : (((fieldsL l t sw sh).filter fun d => anyEq d (fieldsL x y bw bh)).length : Int) = ovl l t sw sh x y bw bh := by
  unfold fieldsL
  rw [filter_prod (inR x bw) (inR y bh)]
  · rw [Int.natCast_mul, rg_count _ _ _ h3, rg_count _ _ _ h4, Int.toNat_of_nonneg h1, Int.toNat_of_nonneg h2]; rfl
  · intro dx hx dy hy
    obtain ⟨i, hi, rfl⟩ := rgD_mem hx
    obtain ⟨j, hj, rfl⟩ := rgD_mem hy
    exact any_fields x y bw bh _ _
theorem cmn_comm (a la b lb : Int) : cmn a la b lb = cmn b lb a la := by
  rw [cmn_mm, cmn_mm]
  omega
theorem ovl_comm (l t sw sh x y bw bh : Int) : ovl l t sw sh x y bw bh = ovl x y bw bh l t sw sh := by
  unfold ovl
  rw [cmn_comm l sw, cmn_comm t sh]
/-- the side of an anchor, none: over -/
def oF (w h bw bh g : Int) (s : List Sd) : D → Option Sd
  | .tup [.int l, .int t, .int sw, .int sh] => s.find? (roomB w h bw bh g l t sw sh)
  | _ => none
def sideF (w h bw bh g : Int) (s : List Sd) (a : D) : D := sdO (oF w h bw bh g s a)
/-- the names of sides, over among them -/
def onm : Option Sd → Str
  | none => "over"
  | some x => x.nm
theorem sdO_str (o : Option Sd) : sdO o = .str (onm o) := by cases o <;> rfl
theorem lay_onm (o : Option Sd) : layS (onm o) = true := by
  cases o with
  | none => decide +kernel
  | some x => cases x <;> decide +kernel
theorem onm_beq (a b : Option Sd) : (onm a == onm b) = (a == b) := by
  cases a with
  | none => cases b with
    | none => rfl
    | some y => cases y <;> decide +kernel
  | some x => cases b with
    | none => cases x <;> decide +kernel
    | some y => cases x <;> cases y <;> decide +kernel
theorem eq_sdO (a b : Option Sd) : dEq (sdO a) (sdO b) = some (.bl (a == b)) := by
  rw [sdO_str, sdO_str, v_eqS (lay_onm a) (lay_onm b), onm_beq]
theorem ne_sdO (a b : Option Sd) : dNe (sdO a) (sdO b) = some (.bl (!(a == b))) := by
  rw [sdO_str, sdO_str, v_neS (lay_onm a) (lay_onm b), onm_beq]
theorem okN_sdO (n : Nat) (o : Option Sd) : okN (n + 1) (sdO o) = true := by
  rw [sdO_str]; exact lay_onm o
theorem eqN_sdO (n : Nat) (a b : Option Sd) : eqN (n + 1) (sdO a) (sdO b) = (a == b) := by
  rw [sdO_str, sdO_str, ← onm_beq]; rfl
theorem lf_sdO (o : Option Sd) : lf (sdO o) = true := by cases o <;> rfl
theorem any_sdO (o : Option Sd) (l : List (Option Sd)) : anyEq (sdO o) (l.map sdO) = l.contains o := by
  unfold anyEq
  rw [List.any_map, Bool.eq_iff_iff, List.any_eq_true, List.contains_iff_mem]
  constructor
  · rintro ⟨x, hx, e⟩
    have e : eqN 10 (sdO x) (sdO o) = true := e
    rw [eqN_sdO] at e
    rw [← beq_iff_eq.mp e]; exact hx
  · intro hx
    exact ⟨o, hx, by show eqN 10 (sdO o) (sdO o) = true; rw [eqN_sdO]; simp⟩
theorem flat_sdO (l : List (Option Sd)) : (l.map sdO).all flatD = true := by
  rw [List.all_eq_true]
  intro d hd
  obtain ⟨o, _, rfl⟩ := List.mem_map.mp hd
  rw [sdO_str]; rfl
theorem inT_sdO (o : Option Sd) (l : List (Option Sd)) : dIn (sdO o) (.tup (l.map sdO)) = some (.bl (l.contains o)) := by
  have h : (flatD (sdO o) && (l.map sdO).all flatD) = true := by rw [flat_sdO, sdO_str]; rfl
  unfold dIn inOf
  simp only [h, if_true, any_sdO]; rfl
theorem inL_sdO (o : Option Sd) (l : List (Option Sd)) : dIn (sdO o) (.lst (l.map sdO)) = some (.bl (l.contains o)) := by
  have h : (flatD (sdO o) && (l.map sdO).all flatD) = true := by rw [flat_sdO, sdO_str]; rfl
  unfold dIn inOf
  simp only [h, if_true, any_sdO]; rfl
theorem ninT_sdO (o : Option Sd) (l : List (Option Sd)) : dNotIn (sdO o) (.tup (l.map sdO)) = some (.bl (!l.contains o)) := by
  have h : (flatD (sdO o) && (l.map sdO).all flatD) = true := by rw [flat_sdO, sdO_str]; rfl
  unfold dNotIn inOf
  simp only [h, if_true, any_sdO]; rfl
theorem ninL_sdO (o : Option Sd) (l : List (Option Sd)) : dNotIn (sdO o) (.lst (l.map sdO)) = some (.bl (!l.contains o)) := by
  have h : (flatD (sdO o) && (l.map sdO).all flatD) = true := by rw [flat_sdO, sdO_str]; rfl
  unfold dNotIn inOf
  simp only [h, if_true, any_sdO]; rfl
theorem count_sdO (o : Option Sd) (l : List (Option Sd)) : dCount (.lst (l.map sdO)) (sdO o) = some (.int (l.countP (· == o) : Nat)) := by
  have h : strsOf (l.map sdO) = some (l.map onm) := by
    induction l with
    | nil => rfl
    | cons x l ih => rw [List.map_cons, sdO_str]; simp only [strsOf, ih]; rfl
  rw [sdO_str]
  simp only [dCount, h, Option.map_some, List.countP_map]
  congr 4
  funext x
  exact onm_beq x o
theorem okL_sdO (n : Nat) (l : List (Option Sd)) : okN (n + 2) (.lst (l.map sdO)) = true := by
  show (l.map sdO).all (okN (n + 1)) = true
  rw [List.all_eq_true]
  intro d hd
  obtain ⟨o, _, rfl⟩ := List.mem_map.mp hd
  exact okN_sdO n o
theorem lfAll_sdO (l : List (Option Sd)) : lfAll (l.map sdO) = true := by
  induction l with
  | nil => rfl
  | cons o l ih => simp only [List.map_cons, lfAll, ih, lf_sdO]; rfl
/-- setting[3] + (OVER,) -/
def wO (s : List Sd) : List (Option Sd) := s.map some ++ [none]
/-- .. -/
theorem add_over (s : List Sd) (h : s.length ≤ 4) : dAdd (.tup (s.map sdD)) (.tup [.str "over"]) = some (.tup ((wO s).map sdO)) := by
  have h2 : okLen ((s.map sdD).length + 1) = true := by
    rw [List.length_map]
    exact decide_eq_true (by omega)
  show (if okLen ((s.map sdD).length + 1) = true then some (D.tup (s.map sdD ++ [.str "over"])) else none) = _
  unfold wO
  rw [h2, List.map_append, List.map_map]; rfl
theorem p_find_sideF {w h bw bh g : Int} {s : List Sd} (hs : s.length ≤ 4) (l t sw sh : Int) : f_find_side [stD w h bw bh g s, anD l t sw sh] = some (.ok (sideF w h bw bh g s (anD l t sw sh))) :=
  p_find_sideO w h bw bh g l t sw sh hs
theorem p_check_size {w h bw bh g sw sh : Int} {s : List Sd} (o : OkS w h bw bh g s) (h1 : 1 ≤ sw) (h2 : sw ≤ w) (h3 : 1 ≤ sh) (h4 : sh ≤ h) : f_check_size [stD w h bw bh g s, .tup [.int sw, .int sh]] = some (.ok .non) := by
  simp [f_check_size, b_check_size, p_check_setting o, p_is_size, inI_yes h1 h2, inI_yes h3 h4]
def ancA (w h sw sh : Int) : List D := (rgD 0 (w - sw + 1).toNat).flatMap fun l => (rgD 0 (h - sh + 1).toNat).map fun t => .tup [l, t, .int sw, .int sh]
theorem ancA_mem {w h sw sh : Int} {d : D} (m : d ∈ ancA w h sw sh) (h1 : 1 ≤ sw) (h2 : 1 ≤ sh) : ∃ l t : Int, d = anD l t sw sh ∧ OkA w h l t sw sh := by
  obtain ⟨dl, hl, m⟩ := List.mem_flatMap.mp m
  obtain ⟨dt, ht, rfl⟩ := List.mem_map.mp m
  obtain ⟨i, hi, rfl⟩ := rgD_mem hl
  obtain ⟨j, hj, rfl⟩ := rgD_mem ht
  exact ⟨0 + i, 0 + j, rfl, by omega, by omega, h1, h2, by omega, by omega⟩
theorem ancA_len {w h sw sh : Int} (w2 : w ≤ 100) (h2 : h ≤ 100) (sw1 : 0 ≤ sw) (sh1 : 0 ≤ sh) : (ancA w h sw sh).length ≤ 10201 := by
  unfold ancA
  have : ∀ A : List D, (A.flatMap fun l => (rgD 0 (h - sh + 1).toNat).map fun t => D.tup [l, t, .int sw, .int sh]).length = A.length * (h - sh + 1).toNat := fun A => by
    induction A with
    | nil => simp
    | cons x A ih => rw [List.flatMap_cons, List.length_append, ih, List.length_map, rgD_len, List.length_cons, Nat.succ_mul, Nat.add_comm]
  rw [this, rgD_len]
  exact Nat.mul_le_mul (show (w - sw + 1).toNat ≤ 101 by omega) (show (h - sh + 1).toNat ≤ 101 by omega)
theorem lfAll_rg (lo : Int) (n : Nat) : lfAll (rgD lo n) = true := by
  have : ∀ l : List Nat, lfAll (l.map fun i => D.int (lo + (i : Nat))) = true := fun l => by
    induction l with
    | nil => rfl
    | cons x l ih => simpa only [List.map_cons, lfAll, lf, Bool.true_and] using ih
  exact this _
theorem lc2_map {t1 : TgtR} {it2 : Sl} {vs1 : List Nat} {t2 : TgtR} {elt : Sx} {ρ : Rho} (B : List D) (g : D → D → D) : ∀ (A : List D), (∀ a, a ∈ A → ∃ ρ2, t1 a ρ = some ρ2 ∧ it2 ρ2 = some (.ok B) ∧ lcS t2 bTrue elt (wipeR vs1 ρ2) B = some (B.map (g a))) →
    lcS2 t1 bTrue it2 vs1 t2 bTrue elt ρ A = some (A.flatMap fun a => B.map (g a))
  | [], _ => rfl
  | a :: A, h => by
    obtain ⟨ρ2, e1, e2, e3⟩ := h a List.mem_cons_self
    have ih := lc2_map (ρ := ρ) B g A fun a ha => h a (List.mem_cons_of_mem _ ha)
    unfold lcS2
    simp only [e1, e_bTrue, e2, e3, ih]
    rfl
@[simp] theorem e_Lc2 {it it2 : Sl} {vs vs1 : List Nat} {t1 t2 : TgtR} {test1 test2 : Sb} {elt : Sx} {ρ : Rho} : sLc2 it vs t1 test1 it2 vs1 t2 test2 elt ρ = bd (it ρ) fun ds =>
  match lcS2 t1 test1 it2 vs1 t2 test2 elt (wipeR vs ρ) ds with
  | some out => if okLen out.length then some (.ok out) else none
  | none => none := rfl
@[simp] theorem e_ListRg1 {b : Sx} {ρ : Rho} : sListRg1 b ρ = bd (b ρ) fun y => lift
  (match y with
  | .int j => if decide (-1000000 ≤ j) && decide (j ≤ 1000000) then some (rgD 0 j.toNat) else none
  | _ => none) := rfl
@[simp] theorem e_LM {f : D → D → Option D} {a b : Sx} {ρ : Rho} : sLM f a b ρ = bd (a ρ) fun x =>
  match x with
  | .lst ds => bd (b ρ) fun y => lift (f (.lst ds) y)
  | _ => none := rfl
theorem p_all_anchors (w h sw sh : Int) (b g s : D) (w1 : 0 ≤ w) (w2 : w ≤ 100) (h1 : 0 ≤ h) (h2 : h ≤ 100) (sw1 : 0 ≤ sw) (sw2 : sw ≤ 1000) (sh1 : 0 ≤ sh) (sh2 : sh ≤ 1000) :
    f_all_anchors [.tup [.tup [.int w, .int h], b, g, s], .tup [.int sw, .int sh]] = some (.ok (.lst (ancA w h sw sh))) := by
  have a1 : (-1000000 : Int) ≤ w - sw + 1 := by omega
  have a2 : w - sw + 1 ≤ 1000000 := by omega
  have a3 : (-1000000 : Int) ≤ h - sh + 1 := by omega
  have a4 : h - sh + 1 ≤ 1000000 := by omega
  have len := ancA_len (w := w) (h := h) (sw := sw) (sh := sh) w2 h2 sw1 sh1
  have len2 : (ancA w h sw sh).length ≤ 1000000 := by omega
  rw [f_all_anchors, runD_fin]
  unfold b_all_anchors
  refine fin_run [.dat (.tup [.tup [.int w, .int h], b, g, s]), .dat (.tup [.int sw, .int sh]), .dat (.int w), .dat (.int h), .no, .no, .no, .no] (by simp) ?_
  refine fin_run [.dat (.tup [.tup [.int w, .int h], b, g, s]), .dat (.tup [.int sw, .int sh]), .dat (.int w), .dat (.int h), .own (.lst (rgD 0 (w - sw + 1).toNat)), .own (.lst (rgD 0 (h - sh + 1).toNat)), .no, .no] (by simp [a1, a2, a3, a4, parS, mlf, lfAll_rg]) ?_
  have e := lc2_map (t1 := tgRN 6) (it2 := sSeqItems (sV 5)) (vs1 := [7]) (t2 := tgRN 7) (elt := sTup (sCons (sV 6) (sCons (sV 7) (sCons (sOp dIx (sV 1) (sC (.int 0))) (sCons (sOp dIx (sV 1) (sC (.int 1))) sNil)))))
    (ρ := [some (.tup [.tup [.int w, .int h], b, g, s]), some (.tup [.int sw, .int sh]), some (.int w), some (.int h), some (.lst (rgD 0 (w - sw + 1).toNat)), some (.lst (rgD 0 (h - sh + 1).toNat)), none, none])
    (rgD 0 (h - sh + 1).toNat) (fun l t => .tup [l, t, .int sw, .int sh]) (rgD 0 (w - sw + 1).toNat) fun a ha => ⟨_, rfl, by simp, lc_map (fun t => .tup [a, t, .int sw, .int sh]) _ fun d hd => ⟨_, rfl, by simp⟩⟩
  change _ = some (ancA w h sw sh) at e
  simp [e, len2]
/-- the sides of all anchors -/
def anS (w h bw bh g : Int) (s : List Sd) (sw sh : Int) : List (Option Sd) := (ancA w h sw sh).map (oF w h bw bh g s)
theorem anS_len {w h bw bh g sw sh : Int} {s : List Sd} : (anS w h bw bh g s sw sh).length = (ancA w h sw sh).length := List.length_map _
theorem filter_sdO (l : List (Option Sd)) (p : D → Bool) (q : Option Sd → Bool) (h : ∀ o, p (sdO o) = q o) : (l.map sdO).filter p = (l.filter q).map sdO := by
  rw [List.filter_map]
  congr 1
  exact List.filter_congr fun x _ => h x
theorem lc_sdO {t : TgtR} {test : Sb} {elt : Sx} {ρ : Rho} (q : Option Sd → Bool) (l : List (Option Sd)) (h : ∀ o, o ∈ l → ∃ ρ2, t (sdO o) ρ = some ρ2 ∧ test ρ2 = some (.ok (q o)) ∧ elt ρ2 = some (.ok (sdO o))) : lcS t test elt ρ (l.map sdO) = some ((l.filter q).map sdO) := by
  induction l with
  | nil => rfl
  | cons o l ih =>
    obtain ⟨ρ2, e1, e2, e3⟩ := h o List.mem_cons_self
    have ih := ih fun o ho => h o (List.mem_cons_of_mem _ ho)
    rw [List.map_cons]
    unfold lcS
    rw [e1]
    cases hp : q o with
    | true =>
      rw [hp] at e2
      simp only [e2, e3, ih, List.filter_cons, hp, if_true, List.map_cons]
      rfl
    | false =>
      rw [hp] at e2
      simp only [e2, ih, List.filter_cons, hp]
      rfl
def headD (l : List D) : D := match l with
  | [] => .non
  | x :: _ => x
theorem okN_anc {w h sw sh : Int} {l : List D} (hl : ∀ d, d ∈ l → d ∈ ancA w h sw sh) (h1 : 1 ≤ sw) (h2 : 1 ≤ sh) : okN 10 (.lst l) = true := by
  show l.all (okN 9) = true
  rw [List.all_eq_true]
  intro d hd
  obtain ⟨a, b, rfl, _⟩ := ancA_mem (hl d hd) h1 h2
  rfl
theorem lf_anc {w h sw sh : Int} {l : List D} (hl : ∀ d, d ∈ l → d ∈ ancA w h sw sh) (h1 : 1 ≤ sw) (h2 : 1 ≤ sh) : lfAll l = true := lfAll_of fun d hd => by
  obtain ⟨a, b, rfl, _⟩ := ancA_mem (hl d hd) h1 h2
  rfl
theorem okN_headD {w h sw sh : Int} {l : List D} (hl : ∀ d, d ∈ l → d ∈ ancA w h sw sh) (h1 : 1 ≤ sw) (h2 : 1 ≤ sh) : okN 10 (headD l) = true := by
  cases l with
  | nil => rfl
  | cons x l =>
    obtain ⟨a, b, rfl, _⟩ := ancA_mem (hl x List.mem_cons_self) h1 h2
    rfl
theorem lc_ov {α : Type} {t : TgtR} {test : Sb} {elt : Sx} {ρ : Rho} (f : α → D) (q : α → Bool) (g : α → D) : ∀ (A : List α), (∀ a, a ∈ A → ∃ ρ2, t (f a) ρ = some ρ2 ∧ test ρ2 = some (.ok (q a)) ∧ elt ρ2 = some (.ok (g a))) → lcS t test elt ρ (A.map f) = some ((A.filter q).map g)
  | [], _ => rfl
  | a :: A, h => by
    obtain ⟨ρ2, e1, e2, e3⟩ := h a List.mem_cons_self
    have ih := lc_ov (ρ := ρ) f q g A fun d hd => h d (List.mem_cons_of_mem _ hd)
    rw [List.map_cons]
    unfold lcS
    rw [e1]
    cases hp : q a with
    | true =>
      rw [hp] at e2
      simp only [e2, e3, ih, List.filter_cons, hp, if_true, List.map_cons]
      rfl
    | false =>
      rw [hp] at e2
      simp only [e2, ih, List.filter_cons, hp]
      rfl
theorem lc_mp {α : Type} {t : TgtR} {elt : Sx} {ρ : Rho} (f : α → D) (g : α → D) (A : List α) (h : ∀ a, a ∈ A → ∃ ρ2, t (f a) ρ = some ρ2 ∧ elt ρ2 = some (.ok (g a))) : lcS t bTrue elt ρ (A.map f) = some (A.map g) := by
  have := lc_ov (t := t) (test := bTrue) (elt := elt) (ρ := ρ) f (fun _ => true) g A fun a ha => by
    obtain ⟨ρ2, e1, e2⟩ := h a ha
    exact ⟨ρ2, e1, rfl, e2⟩
  rw [this, List.filter_eq_self.mpr fun _ _ => rfl]
theorem bls_map {α : Type} (f : α → Bool) : ∀ l : List α, blsOf (l.map fun x => D.bl (f x)) = some (l.map f)
  | [] => rfl
  | x :: l => by simp only [List.map_cons, blsOf, bls_map f l]; rfl
theorem any_map {α : Type} (f : α → Bool) (l : List α) : dAny [.lst (l.map fun x => D.bl (f x))] = some (.bl (l.any f)) := by
  rw [v_anyL, bls_map]
  simp [List.any_map]
theorem all_map {α : Type} (f : α → Bool) (l : List α) : dAll [.lst (l.map fun x => D.bl (f x))] = some (.bl (l.all f)) := by
  rw [v_allL, bls_map]
  simp [List.all_map]
/-- a loop that keeps some of its items -/
theorem for_keep {t : Tgt} {b : Ss} (st : List D → Sig) (p : D → Bool) (N : Nat) : ∀ (ds acc : List D), (∀ d, d ∈ ds → ∀ acc : List D, acc.length ≤ N → ∃ ρ1, t d (st acc) = some ρ1 ∧ b ρ1 = some (.nx (st (if p d = true then acc ++ [d] else acc)))) → acc.length + ds.length ≤ N → forS t b ds (st acc) = some (.nx (st (acc ++ ds.filter p)))
  | [], acc, _, _ => by simp [forS]
  | d :: ds, acc, h, hl => by
    rw [List.length_cons] at hl
    obtain ⟨ρ1, e1, e2⟩ := h d List.mem_cons_self acc (by omega)
    simp only [forS, e1, e2]
    cases hp : p d with
    | true =>
      rw [if_pos rfl, for_keep st p N ds (acc ++ [d]) (fun d hd => h d (List.mem_cons_of_mem _ hd)) (by rw [List.length_append, List.length_singleton]; omega), List.filter_cons, hp, if_pos rfl, List.append_assoc]; rfl
    | false =>
      rw [if_neg Bool.false_ne_true, for_keep st p N ds acc (fun d hd => h d (List.mem_cons_of_mem _ hd)) (by omega), List.filter_cons, hp, if_neg Bool.false_ne_true]
theorem v_maxM (i j : Int) : dMax2 [.int i, .int j] = some (.int (max i j)) := by
  show some (D.int (if j > i then j else i)) = _
  congr 2
  split <;> omega
theorem eq_lst_nil2 (xs : List D) (h : okN 10 (.lst xs) = true) : dEq (.lst xs) (.lst []) = some (.bl xs.isEmpty) := by
  unfold dEq
  rw [h, show okN 10 (.lst []) = true from rfl]
  cases xs <;> rfl
def isTB (x : Sd) : Bool := some x == some Sd.t || some x == some Sd.b
def isLR (x : Sd) : Bool := some x == some Sd.l || some x == some Sd.r
theorem in_tbS (x : Sd) : dIn (sdD x) (.tup [.str "top", .str "bottom"]) = some (.bl (isTB x)) := by cases x <;> rfl
theorem in_lrS (x : Sd) : dIn (sdD x) (.tup [.str "left", .str "right"]) = some (.bl (isLR x)) := by cases x <;> rfl
/-- is this top tight? -/
def pT (w h bw bh g : Int) (s : List Sd) (sw sh : Int) : D → Bool
  | .int v => !((s.filter isTB).any (roomB w h bw bh g 0 v sw sh))
  | _ => false
def pL (w h bw bh g : Int) (s : List Sd) (sw sh : Int) : D → Bool
  | .int v => !((s.filter isLR).any (roomB w h bw bh g v 0 sw sh))
  | _ => false
def tightT (w h bw bh g : Int) (s : List Sd) (sw sh : Int) : List D := (rgD 0 (h - sh + 1).toNat).filter (pT w h bw bh g s sw sh)
def tightL (w h bw bh g : Int) (s : List Sd) (sw sh : Int) : List D := (rgD 0 (w - sw + 1).toNat).filter (pL w h bw bh g s sw sh)
theorem okN_rg (lo : Int) (n : Nat) (p : D → Bool) : okN 10 (.lst ((rgD lo n).filter p)) = true := by
  show List.all _ _ = true
  rw [List.all_eq_true]
  intro d hd
  obtain ⟨i, _, rfl⟩ := rgD_mem (List.mem_filter.mp hd).1
  rfl
theorem lf_rg (lo : Int) (n : Nat) (p : D → Bool) : lfAll ((rgD lo n).filter p) = true := lfAll_of fun d hd => by
  obtain ⟨i, _, rfl⟩ := rgD_mem (List.mem_filter.mp hd).1
  rfl
theorem lfAll_sds (s : List Sd) : lfAll (s.map sdD) = true := lfAll_of fun d hd => by
  obtain ⟨x, _, rfl⟩ := List.mem_map.mp hd
  rfl
theorem flen4 {s : List Sd} (hs : s.length ≤ 4) (p : Sd → Bool) : (s.filter p).length ≤ 1000000 := by
  have := List.length_filter_le p s
  omega
theorem roomTB {w h bw bh g l t sw sh : Int} (x : Sd) (hx : isTB x = true) (l' : Int) : roomB w h bw bh g l t sw sh x = roomB w h bw bh g l' t sw sh x := by cases x <;> first | rfl | cases hx
theorem roomLR {w h bw bh g l t sw sh : Int} (x : Sd) (hx : isLR x = true) (t' : Int) : roomB w h bw bh g l t sw sh x = roomB w h bw bh g l t' sw sh x := by cases x <;> first | rfl | cases hx
theorem any_tb (w h bw bh g l v sw sh : Int) (s : List Sd) : (s.filter isTB).any (roomB w h bw bh g l v sw sh) = ((s.contains .t && decide (bh + g ≤ v)) || (s.contains .b && decide (v + sh + g + bh ≤ h))) := by
  rw [Bool.eq_iff_iff]
  simp only [List.any_eq_true, List.mem_filter, Bool.or_eq_true, Bool.and_eq_true, List.contains_iff_mem]
  constructor
  · rintro ⟨x, ⟨hx, hb⟩, r⟩
    cases x
    · exact .inl ⟨hx, r⟩
    · exact .inr ⟨hx, r⟩
    · cases hb
    · cases hb
  · rintro (⟨hx, r⟩ | ⟨hx, r⟩)
    · exact ⟨.t, ⟨hx, rfl⟩, r⟩
    · exact ⟨.b, ⟨hx, rfl⟩, r⟩
theorem any_lr (w h bw bh g v t sw sh : Int) (s : List Sd) : (s.filter isLR).any (roomB w h bw bh g v t sw sh) = ((s.contains .l && decide (bw + g ≤ v)) || (s.contains .r && decide (v + sw + g + bw ≤ w))) := by
  rw [Bool.eq_iff_iff]
  simp only [List.any_eq_true, List.mem_filter, Bool.or_eq_true, Bool.and_eq_true, List.contains_iff_mem]
  constructor
  · rintro ⟨x, ⟨hx, hb⟩, r⟩
    cases x
    · cases hb
    · cases hb
    · exact .inl ⟨hx, r⟩
    · exact .inr ⟨hx, r⟩
  · rintro (⟨hx, r⟩ | ⟨hx, r⟩)
    · exact ⟨.l, ⟨hx, rfl⟩, r⟩
    · exact ⟨.r, ⟨hx, rfl⟩, r⟩
/-- no place is tight: both sides are wanted, and there is room enough -/
theorem empty_iff (L b g z : Int) (A B : Bool) (p : D → Bool) (hp : ∀ v : Int, p (.int v) = !((A && decide (b + g ≤ v)) || (B && decide (v + z + g + b ≤ L)))) (hb : 1 ≤ b) (hg : 0 ≤ g) (hz : 1 ≤ z) (hL : z ≤ L) : ((rgD 0 (L - z + 1).toNat).filter p).isEmpty = (A && B && decide (z + 2 * (b + g) - 1 ≤ L)) := by
  rw [Bool.eq_iff_iff, List.isEmpty_iff, List.filter_eq_nil_iff]
  have use : (∀ a ∈ rgD 0 (L - z + 1).toNat, ¬ p a = true) ↔ ∀ v : Int, 0 ≤ v → v ≤ L - z → ((A = true ∧ b + g ≤ v) ∨ (B = true ∧ v + z + g + b ≤ L)) := by
    constructor
    · intro h v h1 h2
      have := h (.int v) (by have := rgD_in (lo := 0) (v := v) (n := (L - z + 1).toNat) h1 (by omega); exact this)
      rw [hp] at this
      have e : ((A && decide (b + g ≤ v)) || (B && decide (v + z + g + b ≤ L))) = true := by
        cases q : ((A && decide (b + g ≤ v)) || (B && decide (v + z + g + b ≤ L))) with
        | true => rfl
        | false => rw [q] at this; exact absurd rfl this
      simpa only [Bool.or_eq_true, Bool.and_eq_true, decide_eq_true_eq] using e
    · intro h d hd
      obtain ⟨i, hi, rfl⟩ := rg0_mem hd
      rw [hp]
      have := h i (by omega) (by omega)
      have e : ((A && decide (b + g ≤ (i : Int))) || (B && decide ((i : Int) + z + g + b ≤ L))) = true := by
        simp only [Bool.or_eq_true, Bool.and_eq_true, decide_eq_true_eq]
        exact this
      rw [e]
      exact Bool.false_ne_true
  rw [use]
  simp only [Bool.and_eq_true, decide_eq_true_eq]
  constructor
  · intro h
    have h0 := h 0 (by omega) (by omega)
    have h1 := h (L - z) (by omega) (by omega)
    have hB : B = true := by
      rcases h0 with q | q
      · omega
      · exact q.1
    have hA : A = true := by
      rcases h1 with q | q
      · exact q.1
      · omega
    refine ⟨⟨hA, hB⟩, ?_⟩
    by_cases hk : z + 2 * (b + g) - 1 ≤ L
    · exact hk
    · exfalso
      have h2 := h (min (b + g - 1) (L - z)) (by omega) (by omega)
      rcases h2 with q | q <;> omega
  · rintro ⟨⟨hA, hB⟩, hk⟩ v h1 h2
    by_cases hv : b + g ≤ v
    · exact .inl ⟨hA, hv⟩
    · exact .inr ⟨hB, by omega⟩
theorem tightT_empty {w h bw bh g sw sh : Int} {s : List Sd} (hb : 1 ≤ bh) (hg : 0 ≤ g) (hz : 1 ≤ sh) (hL : sh ≤ h) : (tightT w h bw bh g s sw sh).isEmpty = (s.contains .t && s.contains .b && decide (sh + 2 * (bh + g) - 1 ≤ h)) :=
  empty_iff h bh g sh _ _ _ (fun v => by show (!_) = _; rw [any_tb]) hb hg hz hL
theorem tightL_empty {w h bw bh g sw sh : Int} {s : List Sd} (hb : 1 ≤ bw) (hg : 0 ≤ g) (hz : 1 ≤ sw) (hL : sw ≤ w) : (tightL w h bw bh g s sw sh).isEmpty = (s.contains .l && s.contains .r && decide (sw + 2 * (bw + g) - 1 ≤ w)) :=
  empty_iff w bw g sw _ _ _ (fun v => by show (!_) = _; rw [any_lr]) hb hg hz hL
theorem sds_sdO (s : List Sd) : s.map sdD = (s.map some).map sdO := by rw [List.map_map]; rfl
theorem con_some (s : List Sd) (x : Sd) : (s.map some).contains (some x) = s.contains x := by
  rw [Bool.eq_iff_iff, List.contains_iff_mem, List.contains_iff_mem]
  simp
theorem ninT_sd (x : Sd) (s : List Sd) : dNotIn (sdD x) (.tup (s.map sdD)) = some (.bl (!s.contains x)) := by
  rw [sds_sdO, ← con_some]
  exact ninT_sdO (some x) _
def lenV (e both : Bool) (least k : Int) : D := if e then .int least else if both then .int (max least k) else .non
theorem okT {w h bw bh g sw sh : Int} {s : List Sd} : okN 10 (.lst (tightT w h bw bh g s sw sh)) = true := okN_rg _ _ _
theorem okL {w h bw bh g sw sh : Int} {s : List Sd} : okN 10 (.lst (tightL w h bw bh g s sw sh)) = true := okN_rg _ _ _
theorem fl_m : divOk 1000000 = true := by decide
theorem fl_3 : divOk 3 = true := by decide
theorem fl_7 : divOk 7 = true := by decide
theorem fl_11 : divOk 11 = true := by decide
theorem drawn_loop (d0 d1 d2 d3 : D) : ∀ (n : Nat) (r a : Int), a ≤ n → ∃ r' a', whileS [] (bAnd (toB (sOp dGt (sV 5) (sC (.int 0)))) (toB (sOp dGt (sV 4) (sC (.int 0))))) (sSeq (sSet [] 5 (sOp dDiv (sV 5) (sC (.int 1000000)))) (sSet [] 4 (sOp dSub (sV 4) (sC (.int 1))))) (n + 1)
      [.dat d0, .dat d1, .dat d2, .dat d3, .dat (.int a), .dat (.int r)] = some (.nx [.dat d0, .dat d1, .dat d2, .dat d3, .dat (.int a'), .dat (.int r')]) := by
  intro n
  induction n with
  | zero =>
    intro r a h
    have h' : ¬ (0 < a) := by omega
    refine ⟨r, a, ?_⟩
    by_cases hr : 0 < r <;> simp [whileS, hr, h']
  | succ n ih =>
    intro r a h
    by_cases hr : 0 < r
    · by_cases ha : 0 < a
      · obtain ⟨r', a', e⟩ := ih (r / 1000000) (a - 1) (by omega)
        refine ⟨r', a', ?_⟩
        rw [whileS]
        simp [hr, ha, fl_m, lf]
        exact e
      · refine ⟨r, a, ?_⟩
        rw [whileS]
        simp [hr, ha]
    · refine ⟨r, a, ?_⟩
      rw [whileS]
      simp [hr]
theorem drawn_tail (d0 : D) (k many c : Int) (x4 x5 : SL) (hm : 0 < many) : ∃ r : Int, 0 ≤ r ∧ r < many ∧ fin (sSeq (sSet [] 3 (sOp dMod (sOp dAdd (sOp dMul (sOp dMod (sV 3) (sC (.int 2147483563))) (sC (.int 69069))) (sOp dMul (sC (.int 104723)) (sOp dAdd (sV 1) (sC (.int 1))))) (sC (.int 2147483563))))
    (sSeq (sSet [] 3 (sOp dMod (sOp dAdd (sOp dMul (sV 3) (sV 3)) (sOp dDiv (sV 3) (sC (.int 3)))) (sC (.int 2147483399))))
    (sRet [] (sOp dMod (sOp dDiv (sOp dMod (sOp dAdd (sOp dMul (sV 3) (sV 3)) (sOp dDiv (sV 3) (sC (.int 7)))) (sC (.int 2147483647))) (sC (.int 11))) (sV 2)))) [.dat d0, .dat (.int k), .dat (.int many), .dat (.int c), x4, x5]) = some (.ok (.int r)) := by
  have a1 : 0 ≤ (c % 2147483563 * 69069 + 104723 * (k + 1)) % 2147483563 := Int.emod_nonneg _ (by omega)
  have a2 : (c % 2147483563 * 69069 + 104723 * (k + 1)) % 2147483563 < 2147483563 := Int.emod_lt_of_pos _ (by omega)
  rw [fin_seq (ρ' := [.dat d0, .dat (.int k), .dat (.int many), .dat (.int ((c % 2147483563 * 69069 + 104723 * (k + 1)) % 2147483563)), x4, x5]) (by simp [sm 69069 (by omega) (by omega), sm 104723 (by omega) (by omega), lf])]
  generalize (c % 2147483563 * 69069 + 104723 * (k + 1)) % 2147483563 = e at a1 a2
  have b1 : 0 ≤ (e * e + e / 3) % 2147483399 := Int.emod_nonneg _ (by omega)
  have b2 : (e * e + e / 3) % 2147483399 < 2147483399 := Int.emod_lt_of_pos _ (by omega)
  rw [fin_seq (ρ' := [.dat d0, .dat (.int k), .dat (.int many), .dat (.int ((e * e + e / 3) % 2147483399)), x4, x5]) (by simp [sm e a1 (by omega), fl_3, lf])]
  generalize (e * e + e / 3) % 2147483399 = f at b1 b2
  refine ⟨(f * f + f / 7) % 2147483647 / 11 % many, Int.emod_nonneg _ (by omega), Int.emod_lt_of_pos _ hm, ?_⟩
  simp [sm f b1 (by omega), fl_7, fl_11, hm]
theorem run_stop {a b : Ss} {ρ : Sig} {d : D} (h : a ρ = some (.rt d)) : sSeq a b ρ = some (.rt d) := by simp only [sSeq, h]
theorem fin_stop {a b : Ss} {ρ : Sig} {d : D} (h : a ρ = some (.rt d)) : fin (sSeq a b ρ) = some (.ok d) := by rw [run_stop h]; rfl
theorem run_if1 {ms : List Nat} {c : Sb} {a b : Ss} {ρ : Sig} {o : Option Fl} (h : c (expo ms ρ) = some (.ok true)) (h2 : a ρ = o) : sIf ms c a b ρ = o := by
  unfold sIf stp
  rw [h]; exact h2
theorem run_if0 {ms : List Nat} {c : Sb} {a b : Ss} {ρ : Sig} {o : Option Fl} (h : c (expo ms ρ) = some (.ok false)) (h2 : b ρ = o) : sIf ms c a b ρ = o := by
  unfold sIf stp
  rw [h]; exact h2
theorem p_drawn (ns : List Int) (k many : Int) (hn : ns.length ≤ 1000) (hk : 0 ≤ k) (hk2 : k ≤ 99999) (hm : 0 < many) : ∃ r : Int, 0 ≤ r ∧ r < many ∧ f_L_drawn [.scr ns, .int k, .int many] = some (.ok (.int r)) := by
  rw [f_L_drawn, runD_fin]
  unfold b_L_drawn
  rw [fin_seq (ρ' := [.dat (.scr ns), .dat (.int k), .dat (.int many), .dat (.int (7 * k)), .no, .no]) (by simp [sm 7 (by omega) (by omega), lf])]
  by_cases hne : ns = []
  · subst hne
    obtain ⟨r, h1, h2, e⟩ := drawn_tail (.scr []) k many (7 * k) .no .no hm
    refine ⟨r, h1, h2, ?_⟩
    rw [fin_seq (ρ' := [.dat (.scr []), .dat (.int k), .dat (.int many), .dat (.int (7 * k)), .no, .no]) (by simp [ne_scr_nil])]
    exact e
  · have hl : (0 : Int) < (ns.length : Int) := by have := List.length_pos_iff.mpr hne; omega
    have hl0 : 0 < ns.length := by omega
    have hem : ns.isEmpty = false := by cases ns with
      | nil => exact absurd rfl hne
      | cons => rfl
    obtain ⟨cell, ec, _⟩ := at_in (xs := ns) (i := k % (ns.length : Int)) (Int.emod_nonneg _ (by omega)) (Int.emod_lt_of_pos _ hl)
    have dl : divOk (ns.length : Int) = true := divOk_of hl (by omega)
    have e1 : (sSet [] 3 (sOp dIx (sV 0) (sOp dMod (sV 1) (sCall dLen (sCons (sV 0) sNil))))) [.dat (.scr ns), .dat (.int k), .dat (.int many), .dat (.int (7 * k)), .no, .no] = some (.nx [.dat (.scr ns), .dat (.int k), .dat (.int many), .dat (.int cell), .no, .no]) := by simp [hl0, ec, lf]
    have e2 : (sSet [] 4 (sOp dDiv (sV 1) (sCall dLen (sCons (sV 0) sNil)))) [.dat (.scr ns), .dat (.int k), .dat (.int many), .dat (.int cell), .no, .no] = some (.nx [.dat (.scr ns), .dat (.int k), .dat (.int many), .dat (.int cell), .dat (.int (k / ns.length)), .no]) := by simp [dl, lf]
    have hkl : k / (ns.length : Int) ≤ k := Int.ediv_le_self _ hk
    have e4 : ∀ (x4 x5 : SL), (sSet [] 3 (sOp dAdd (sV 3) (sOp dMul (sC (.int 6553)) (sOp dDiv (sV 1) (sCall dLen (sCons (sV 0) sNil)))))) [.dat (.scr ns), .dat (.int k), .dat (.int many), .dat (.int cell), x4, x5] = some (.nx [.dat (.scr ns), .dat (.int k), .dat (.int many), .dat (.int (cell + 6553 * (k / ns.length))), x4, x5]) := fun x4 x5 => by simp [dl, lf, sm 6553 (by omega) (by omega)]
    by_cases hc : 1000000000000000000 ≤ cell ∧ k / (ns.length : Int) < 60
    · obtain ⟨r', a', ew⟩ := drawn_loop (.scr ns) (.int k) (.int many) (.int cell) 99999 (cell / 1000000000000000000) (k / ns.length) (by omega)
      by_cases hr : 0 < r'
      · refine ⟨r' % 1000000 % many, Int.emod_nonneg _ (by omega), Int.emod_lt_of_pos _ hm, ?_⟩
        exact fin_stop (run_if1 (by simp [ne_scr_nil, hem]) (run_seq _ e1 (run_seq _ e2 (run_stop (run_if1 (by simp [fl10, hc.1, hc.2]) (run_seq [.dat (.scr ns), .dat (.int k), .dat (.int many), .dat (.int cell), .dat (.int (k / ns.length)), .dat (.int (cell / 1000000000000000000))] (by simp [fl10, fl_d1, lf]) (run_seq _ ew (run_if1 (by simp [hr]) (by simp [hm])))))))))
      · obtain ⟨r, h1, h2, e⟩ := drawn_tail (.scr ns) k many (cell + 6553 * (k / ns.length)) (.dat (.int a')) (.dat (.int r')) hm
        refine ⟨r, h1, h2, ?_⟩
        rw [fin_seq (ρ' := [.dat (.scr ns), .dat (.int k), .dat (.int many), .dat (.int (cell + 6553 * (k / ns.length))), .dat (.int a'), .dat (.int r')]) (run_if1 (by simp [ne_scr_nil, hem]) (run_seq _ e1 (run_seq _ e2 (run_seq [.dat (.scr ns), .dat (.int k), .dat (.int many), .dat (.int cell), .dat (.int a'), .dat (.int r')] (run_if1 (by simp [fl10, hc.1, hc.2]) (run_seq [.dat (.scr ns), .dat (.int k), .dat (.int many), .dat (.int cell), .dat (.int (k / ns.length)), .dat (.int (cell / 1000000000000000000))] (by simp [fl10, fl_d1, lf]) (run_seq _ ew (by simp [hr])))) (e4 _ _)))))]
        exact e
    · obtain ⟨r, h1, h2, e⟩ := drawn_tail (.scr ns) k many (cell + 6553 * (k / ns.length)) (.dat (.int (k / ns.length))) .no hm
      refine ⟨r, h1, h2, ?_⟩
      rw [fin_seq (ρ' := [.dat (.scr ns), .dat (.int k), .dat (.int many), .dat (.int (cell + 6553 * (k / ns.length))), .dat (.int (k / ns.length)), .no]) (run_if1 (by simp [ne_scr_nil, hem]) (run_seq _ e1 (run_seq _ e2 (run_seq [.dat (.scr ns), .dat (.int k), .dat (.int many), .dat (.int cell), .dat (.int (k / ns.length)), .no] (by
        by_cases hc1 : 1000000000000000000 ≤ cell
        · have hc2 : ¬ (k / (ns.length : Int) < 60) := fun q => hc ⟨hc1, q⟩
          simp [fl10, hc1, hc2]
        · simp [fl10, hc1]) (e4 _ _)))))]
      exact e
theorem perm_ne : ∀ (es : List Sd) (x : Sd), es.Nodup → x ∈ es → (x :: es.filter (fun y => !(y == x))).Perm es
  | [], x, _, h => nomatch h
  | y :: es, x, nd, h => by
    have nd' := List.nodup_cons.mp nd
    by_cases e : y = x
    · subst e
      have : es.filter (fun z => !(z == y)) = es := List.filter_eq_self.mpr fun z hz => by
        have : z ≠ y := fun q => nd'.1 (q ▸ hz)
        simpa using this
      rw [List.filter_cons, this]
      simp
    · have hx : x ∈ es := (List.mem_cons.mp h).elim (fun q => absurd q.symm e) id
      have ih := perm_ne es x nd'.2 hx
      rw [List.filter_cons]
      have : (!(y == x)) = true := by simpa using e
      rw [if_pos this]
      exact (List.Perm.swap _ _ _).trans (.cons y ih)
theorem at_end (fs : List D) (x : D) : L2.atI (fs ++ [x]) (-1) = some x := by
  unfold L2.atI L2.ixN
  rw [if_neg (by omega), if_pos (by simp; omega)]
  have : (-1 + ((fs ++ [x]).length : Int)).toNat = fs.length := by simp; omega
  rw [Option.bind_some, this]
  simp
theorem at_natL (xs : List D) (r : Int) (h : 0 ≤ r) : L2.atI xs r = xs[r.toNat]? := by
  have := at_nat xs r.toNat
  rwa [Int.toNat_of_nonneg h] at this
theorem set_step (ns : List Int) (at_ k : Int) (hn : ns.length ≤ 1000) (ha : 0 ≤ at_) (ha2 : at_ ≤ 90000) (hk : 0 ≤ k) (hk2 : k ≤ 10) (d2 d3 d4 : D) (es fs : List Sd) (hes : es ≠ []) (hl : es.length ≤ 4) (hl2 : fs.length ≤ 4) :
    ∃ x, x ∈ es ∧ sAft [7] (sSeq (sApp [5] 6 (sOp dIx (sV 5) (sFn 3 f_L_drawn (sCons (sV 0) (sCons (sOp dAdd (sOp dAdd (sV 1) (sC (.int 5))) (sV 7)) (sCons (sCall dLen (sCons (sV 5) sNil)) sNil))))))
    (sSetL [5, 6] 5 (sLc (sSeqItems (sV 5)) [8] (tgRN 8) (toB (sOp dNe (sV 8) (sOp dIx (sV 6) (sUn dNeg (sC (.int 1)))))) (sV 8))))
      [.dat (.scr ns), .dat (.int at_), .dat d2, .dat d3, .dat d4, .own (.lst (es.map sdD)), .own (.lst (fs.map sdD)), .dat (.int k), .no] =
      some (.nx [.dat (.scr ns), .dat (.int at_), .dat d2, .dat d3, .dat d4, .own (.lst ((es.filter (fun y => !(y == x))).map sdD)), .own (.lst ((fs ++ [x]).map sdD)), .no, .no]) := by
  have h0 : 0 < es.length := List.length_pos_iff.mpr hes
  obtain ⟨r, h1, h2, e⟩ := p_drawn ns (at_ + 5 + k) es.length hn (by omega) (by omega) (by omega)
  have hr : r.toNat < es.length := by omega
  refine ⟨es[r.toNat], List.getElem_mem _, ?_⟩
  generalize hx : es[r.toNat] = x
  have hok : fs.length + 1 ≤ 1000000 := by omega
  have hok2 : es.length ≤ 1000000 := by omega
  have ei : L2.atI (es.map sdD) r = some (sdD x) := by rw [at_natL _ _ h1, List.getElem?_map, List.getElem?_eq_getElem hr, hx]; rfl
  refine run_aft [.dat (.scr ns), .dat (.int at_), .dat d2, .dat d3, .dat d4, .own (.lst ((es.filter (fun y => !(y == x))).map sdD)), .own (.lst ((fs ++ [x]).map sdD)), .dat (.int k), .no] ?_ rfl
  refine run_seq [.dat (.scr ns), .dat (.int at_), .dat d2, .dat d3, .dat d4, .own (.lst (es.map sdD)), .own (.lst ((fs ++ [x]).map sdD)), .dat (.int k), .no] (by simp [e, ei, hok, lf]) ?_
  have en := at_end (fs.map sdD) (sdD x)
  have en2 : (fs ++ [x]).map sdD = fs.map sdD ++ [sdD x] := by simp
  have elc := lc_filter (t := tgRN 8) (test := toB (sOp dNe (sV 8) (sOp dIx (sV 6) (sUn dNeg (sC (.int 1)))))) (elt := sV 8) (ρ := [some (.scr ns), some (.int at_), some d2, some d3, some d4, some (.lst (es.map sdD)), some (.lst (fs.map sdD ++ [sdD x])), some (.int k), none]) (onSd fun y => !(y == x)) id (es.map sdD) fun d hd => by
    obtain ⟨y, _, rfl⟩ := List.mem_map.mp hd
    have e3 := ne_sdO (some y) (some x)
    have e4 : (some y == some x) = (y == x) := rfl
    rw [e4] at e3
    change dNe (sdD y) (sdD x) = _ at e3
    exact ⟨_, rfl, by simp [en, e3], by simp⟩
  rw [map_sd (onSd_nm _), List.map_id] at elc
  have lfa : lfAll ((es.filter (fun y => !(y == x))).map sdD) = true := lfAll_of fun d hd => by
    obtain ⟨y, _, rfl⟩ := List.mem_map.mp hd
    rfl
  rw [en2]
  simp [elc, hok2, lfa]
theorem p_L_setting (ns : List Int) (at_ : Int) (hn : ns.length ≤ 1000) (ha : 0 ≤ at_) (ha2 : at_ ≤ 90000) : ∃ (w h bw bh g : Int) (s : List Sd), OkS w h bw bh g s ∧ w ≤ 10 ∧ h ≤ 9 ∧ bw ≤ 5 ∧ bh ≤ 5 ∧ g ≤ 2 ∧ f_L_setting [.scr ns, .int at_] = some (.ok (stD w h bw bh g s)) := by
  obtain ⟨w, w1, w2, ew⟩ := p_drawn ns at_ 10 hn ha (by omega) (by omega)
  obtain ⟨h, h1, h2, eh⟩ := p_drawn ns (at_ + 1) 9 hn (by omega) (by omega) (by omega)
  obtain ⟨mw, m1, m2, m3, em⟩ : ∃ m : Int, 1 ≤ m ∧ m ≤ 1 + w ∧ m ≤ 5 ∧ dMin2 [.int (1 + w), .int 5] = some (.int m) := by
    refine ⟨if (5 : Int) < 1 + w then 5 else 1 + w, ?_, ?_, ?_, rfl⟩ <;> split <;> omega
  obtain ⟨mh, n1, n2, n3, en⟩ : ∃ m : Int, 1 ≤ m ∧ m ≤ 1 + h ∧ m ≤ 5 ∧ dMin2 [.int (1 + h), .int 5] = some (.int m) := by
    refine ⟨if (5 : Int) < 1 + h then 5 else 1 + h, ?_, ?_, ?_, rfl⟩ <;> split <;> omega
  obtain ⟨bw, bw1, bw2, ebw⟩ := p_drawn ns (at_ + 2) mw hn (by omega) (by omega) (by omega)
  obtain ⟨bh, bh1, bh2, ebh⟩ := p_drawn ns (at_ + 3) mh hn (by omega) (by omega) (by omega)
  obtain ⟨c, c1, c2, ec⟩ := p_drawn ns (at_ + 4) 4 hn (by omega) (by omega) (by omega)
  obtain ⟨g, g1, g2, eg⟩ := p_drawn ns (at_ + 9) 3 hn (by omega) (by omega) (by omega)
  rw [f_L_setting, runD_fin]
  unfold b_L_setting
  rw [fin_seq (ρ' := [.dat (.scr ns), .dat (.int at_), .dat (.int (1 + w)), .dat (.int (1 + h)), .no, .no, .no, .no, .no]) (by simp [ew, eh, parS])]
  rw [fin_seq (ρ' := [.dat (.scr ns), .dat (.int at_), .dat (.int (1 + w)), .dat (.int (1 + h)), .dat (.tup [.int (1 + bw), .int (1 + bh)]), .no, .no, .no, .no]) (by simp [-v_min, em, en, ebw, ebh, lf, lfAll])]
  rw [fin_seq (ρ' := [.dat (.scr ns), .dat (.int at_), .dat (.int (1 + w)), .dat (.int (1 + h)), .dat (.tup [.int (1 + bw), .int (1 + bh)]), .own (.lst (sd4.map sdD)), .no, .no, .no]) (by simp [sd4, lf, lfAll])]
  rw [fin_seq (ρ' := [.dat (.scr ns), .dat (.int at_), .dat (.int (1 + w)), .dat (.int (1 + h)), .dat (.tup [.int (1 + bw), .int (1 + bh)]), .own (.lst (sd4.map sdD)), .own (.lst (([] : List Sd).map sdD)), .no, .no]) (by simp [lfAll])]
  obtain ⟨ρ', eρ, es, fs, rfl, hp, hl⟩ := for_at (t := tgN 7) (b := sAft [7] (sSeq (sApp [5] 6 (sOp dIx (sV 5) (sFn 3 f_L_drawn (sCons (sV 0) (sCons (sOp dAdd (sOp dAdd (sV 1) (sC (.int 5))) (sV 7)) (sCons (sCall dLen (sCons (sV 5) sNil)) sNil))))))
    (sSetL [5, 6] 5 (sLc (sSeqItems (sV 5)) [8] (tgRN 8) (toB (sOp dNe (sV 8) (sOp dIx (sV 6) (sUn dNeg (sC (.int 1)))))) (sV 8)))))
    (fun k ρ => ∃ es fs : List Sd, ρ = [.dat (.scr ns), .dat (.int at_), .dat (.int (1 + w)), .dat (.int (1 + h)), .dat (.tup [.int (1 + bw), .int (1 + bh)]), .own (.lst (es.map sdD)), .own (.lst (fs.map sdD)), .no, .no] ∧ (fs ++ es).Perm sd4 ∧ fs.length = k)
    (rgD 0 (1 + c).toNat) 0 [.dat (.scr ns), .dat (.int at_), .dat (.int (1 + w)), .dat (.int (1 + h)), .dat (.tup [.int (1 + bw), .int (1 + bh)]), .own (.lst (sd4.map sdD)), .own (.lst (([] : List Sd).map sdD)), .no, .no] ⟨sd4, [], rfl, .refl _, rfl⟩
    (fun i d hd ρ hi => by
      obtain ⟨es, fs, rfl, hp, hl⟩ := hi
      obtain ⟨hi1, rfl⟩ := rgD_get hd
      have hlen : fs.length + es.length = 4 := by have := hp.length_eq; simpa [sd4] using this
      have hne : es ≠ [] := fun z => by rw [z] at hlen; simp at hlen; omega
      have hnd : es.Nodup := (hp.nodup_iff.mpr (by decide)).sublist (List.sublist_append_right fs es)
      obtain ⟨x, hx, e⟩ := set_step ns at_ (0 + i) hn ha ha2 (by omega) (by omega) (.int (1 + w)) (.int (1 + h)) (.tup [.int (1 + bw), .int (1 + bh)]) es fs hne (by omega) (by omega)
      refine ⟨_, rfl, _, e, es.filter (fun y => !(y == x)), fs ++ [x], rfl, ?_, by rw [List.length_append, hl]; rfl⟩
      rw [List.append_assoc]
      exact ((List.Perm.append_left fs (perm_ne es x hnd hx)).trans hp))
  rw [rgD_len] at hl
  have hlen : fs.length + es.length = 4 := by have := hp.length_eq; simpa [sd4] using this
  rw [fin_seq (by
    have e1 : (-1000000 : Int) ≤ 1 + c := by omega
    have e2 : 1 + c ≤ 1000000 := by omega
    simp only [e_For, e_Range, e_Cons, e_Op, e_C, bd_ok, e_Fn, e_V, e_Nil]
    simp [ec, e1, e2]
    exact eρ)]
  have ok : OkSd fs := ⟨(hp.nodup_iff.mpr (by decide)).sublist (List.sublist_append_left fs es), fun z => by rw [z] at hl; simp at hl; omega, by omega⟩
  refine ⟨1 + w, 1 + h, 1 + bw, 1 + bh, g, fs, ⟨by omega, by omega, by omega, by omega, by omega, by omega, by omega, by omega, g1, by omega, ok⟩, by omega, by omega, by omega, by omega, by omega, ?_⟩
  simp [eg]
theorem v_minM (i j : Int) : dMin2 [.int i, .int j] = some (.int (min i j)) := by
  show some (D.int (if j < i then j else i)) = _
  congr 2
  split <;> omega
theorem p_L_anchor (ns : List Int) (at_ w h : Int) (b g s : D) (hn : ns.length ≤ 1000) (ha : 0 ≤ at_) (ha2 : at_ ≤ 90000) (w1 : 1 ≤ w) (h1 : 1 ≤ h) : ∃ l t sw sh : Int, OkA w h l t sw sh ∧ sw ≤ 4 ∧ sh ≤ 4 ∧ f_L_anchor [.scr ns, .int at_, .tup [.tup [.int w, .int h], b, g, s]] = some (.ok (anD l t sw sh)) := by
  obtain ⟨l, l1, l2, el⟩ := p_drawn ns at_ w hn ha (by omega) (by omega)
  obtain ⟨t, t1, t2, et⟩ := p_drawn ns (at_ + 1) h hn (by omega) (by omega) (by omega)
  obtain ⟨x, x1, x2, ex⟩ := p_drawn ns (at_ + 2) (w - l) hn (by omega) (by omega) (by omega)
  obtain ⟨x', x1', x2', ex'⟩ := p_drawn ns (at_ + 4) 4 hn (by omega) (by omega) (by omega)
  obtain ⟨y, y1, y2, ey⟩ := p_drawn ns (at_ + 3) (h - t) hn (by omega) (by omega) (by omega)
  obtain ⟨y', y1', y2', ey'⟩ := p_drawn ns (at_ + 5) 4 hn (by omega) (by omega) (by omega)
  refine ⟨l, t, 1 + min x x', 1 + min y y', ⟨l1, t1, by omega, by omega, by omega, by omega⟩, by omega, by omega, ?_⟩
  simp [f_L_anchor, b_L_anchor, el, et, ex, ex', ey, ey', v_minM, -v_min, parS, lf]
def midI (l sw : Int) : Int := l + (sw - 1) / 2
def nearI (v st sz : Int) : Int := max (st + if sz > 2 then 1 else 0) (min v (st + sz - 1 - if sz > 2 then 1 else 0))
def ab (i : Int) : Int := if i < 0 then -i else i
theorem v_absA (i : Int) : dAbs [.int i] = some (.int (ab i)) := rfl
theorem v_maxM2 (i j : Int) : dMax2 [.int i, .int j] = some (.int (max i j)) := by
  show some (D.int (if j > i then j else i)) = _
  congr 2
  split <;> omega
theorem v_minM2 (i j : Int) : dMin2 [.int i, .int j] = some (.int (min i j)) := by
  show some (D.int (if j < i then j else i)) = _
  congr 2
  split <;> omega
theorem p_find_middle (l t sw sh : Int) : f_find_middle [anD l t sw sh] = some (.ok (.tup [.int (midI l sw), .int (midI t sh)])) := by
  have : divOk 2 = true := by decide
  simp [f_find_middle, b_find_middle, this, midI]
theorem p_nearest (v st sz : Int) : f_nearest [.int v, .int st, .int sz] = some (.ok (.int (nearI v st sz))) := by
  by_cases h : 2 < sz <;> simp [f_nearest, b_nearest, h, nearI, v_maxM2, v_minM2, -v_max, -v_min, lf]
/-- the arrow: mx, my the middle, X, Y the box's place -/
def arrD (mx my X Y bw bh : Int) : Option Sd → D
  | none => .non
  | some .t => .tup [.int (nearI mx X bw), .int (Y + bh - 1)]
  | some .b => .tup [.int (nearI mx X bw), .int Y]
  | some .l => .tup [.int (X + bw - 1), .int (nearI my Y bh)]
  | some .r => .tup [.int X, .int (nearI my Y bh)]
def offD (mx my X Y bw bh : Int) : Option Sd → D
  | none => .non
  | some .t => .int (ab (nearI mx X bw - mx))
  | some .b => .int (ab (nearI mx X bw - mx))
  | some .l => .int (ab (nearI my Y bh - my))
  | some .r => .int (ab (nearI my Y bh - my))
theorem in_lrO (o : Option Sd) : dIn (sdO o) (.tup [.str "left", .str "right"]) = some (.bl (o == some .l || o == some .r)) := by
  cases o with
  | none => rfl
  | some x => cases x <;> rfl
theorem in_tbO (o : Option Sd) : dIn (sdO o) (.tup [.str "top", .str "bottom"]) = some (.bl (o == some .t || o == some .b)) := by
  cases o with
  | none => rfl
  | some x => cases x <;> rfl
theorem itb_top : dIn (.str "top") (.tup [.str "top", .str "bottom"]) = some (.bl true) := rfl
theorem ilr_top : dIn (.str "top") (.tup [.str "left", .str "right"]) = some (.bl false) := rfl
theorem itb_bottom : dIn (.str "bottom") (.tup [.str "top", .str "bottom"]) = some (.bl true) := rfl
theorem ilr_bottom : dIn (.str "bottom") (.tup [.str "left", .str "right"]) = some (.bl false) := rfl
theorem itb_left : dIn (.str "left") (.tup [.str "top", .str "bottom"]) = some (.bl false) := rfl
theorem ilr_left : dIn (.str "left") (.tup [.str "left", .str "right"]) = some (.bl true) := rfl
theorem itb_right : dIn (.str "right") (.tup [.str "top", .str "bottom"]) = some (.bl false) := rfl
theorem ilr_right : dIn (.str "right") (.tup [.str "left", .str "right"]) = some (.bl true) := rfl
theorem itb_over : dIn (.str "over") (.tup [.str "top", .str "bottom"]) = some (.bl false) := rfl
theorem ilr_over : dIn (.str "over") (.tup [.str "left", .str "right"]) = some (.bl false) := rfl
theorem p_find_arrow {w h bw bh g l t sw sh : Int} {s : List Sd} (hw : bw ≤ w) (hh : bh ≤ h) (hs : s.length ≤ 4) {o : Option Sd} (ho : s.find? (roomB w h bw bh g l t sw sh) = o) :
    f_find_arrow [stD w h bw bh g s, anD l t sw sh] = some (.ok (arrD (midI l sw) (midI t sh) (plX w bw g l sw o) (plY h bh g t sh o) bw bh o)) := by
  have e1 := p_find_sideO w h bw bh g l t sw sh hs
  have e2 := p_find_place (w := w) (h := h) (bw := bw) (bh := bh) (g := g) (l := l) (t := t) (sw := sw) (sh := sh) hw hh hs
  rw [ho] at e1 e2
  generalize plX w bw g l sw o = X at *
  generalize plY h bh g t sh o = Y at *
  cases o with
  | none =>
    simp only [sdO] at e1
    simp [f_find_arrow, b_find_arrow, e1, e2, itb_top, itb_bottom, itb_left, itb_right, itb_over, p_find_middle, p_nearest, arrD, lf, lfAll]
  | some x => cases x <;> (simp only [sdO, sdD] at e1; simp [f_find_arrow, b_find_arrow, e1, e2, itb_top, itb_bottom, itb_left, itb_right, itb_over, p_find_middle, p_nearest, arrD, lf, lfAll])
theorem p_find_off {w h bw bh g l t sw sh : Int} {s : List Sd} (hw : bw ≤ w) (hh : bh ≤ h) (hs : s.length ≤ 4) {o : Option Sd} (ho : s.find? (roomB w h bw bh g l t sw sh) = o) :
    f_find_off [stD w h bw bh g s, anD l t sw sh] = some (.ok (offD (midI l sw) (midI t sh) (plX w bw g l sw o) (plY h bh g t sh o) bw bh o)) := by
  have e1 := p_find_sideO w h bw bh g l t sw sh hs
  have e2 := p_find_arrow (g := g) (l := l) (t := t) (sw := sw) (sh := sh) hw hh hs ho
  rw [ho] at e1
  generalize plX w bw g l sw o = X at *
  generalize plY h bh g t sh o = Y at *
  cases o with
  | none =>
    simp only [sdO, arrD] at e1 e2
    simp [f_find_off, b_find_off, e1, e2, ilr_top, ilr_bottom, ilr_left, ilr_right, ilr_over, p_find_middle, offD, parS, mlf, lf, lfAll, isN]
  | some x => cases x <;> (simp only [sdO, sdD, arrD] at e1 e2; simp [f_find_off, b_find_off, e1, e2, ilr_top, ilr_bottom, ilr_left, ilr_right, ilr_over, p_find_middle, offD, parS, mlf, lf, lfAll, isN, v_absA])
theorem p_arrow {w h bw bh g l t sw sh : Int} {s : List Sd} (o' : OkS w h bw bh g s) (a : OkA w h l t sw sh) {o : Option Sd} (ho : s.find? (roomB w h bw bh g l t sw sh) = o) :
    f_arrow [stD w h bw bh g s, anD l t sw sh] = some (.ok (arrD (midI l sw) (midI t sh) (plX w bw g l sw o) (plY h bh g t sh o) bw bh o)) := by
  simp [f_arrow, b_arrow, p_check_both o' a, p_find_arrow (g := g) (l := l) (t := t) (sw := sw) (sh := sh) o'.bw2 o'.bh2 o'.s1.len ho]
/-- is the arrow straight? -/
def zeroA (w h bw bh g : Int) (s : List Sd) : D → Bool
  | .tup [.int l, .int t, .int sw, .int sh] =>
    match offD (midI l sw) (midI t sh) (plX w bw g l sw (s.find? (roomB w h bw bh g l t sw sh))) (plY h bh g t sh (s.find? (roomB w h bw bh g l t sw sh))) bw bh (s.find? (roomB w h bw bh g l t sw sh)) with
    | .int i => i == 0
    | _ => false
  | _ => false
theorem eq_off0 (mx my X Y bw bh : Int) (o : Option Sd) : dEq (offD mx my X Y bw bh o) (.int 0) = some (.bl (match offD mx my X Y bw bh o with | .int i => i == 0 | _ => false)) := by
  cases o with
  | none => rfl
  | some x => cases x <;> rfl
theorem p_count_straight {w h bw bh g sw sh : Int} {s : List Sd} (o : OkS w h bw bh g s) (h1 : 1 ≤ sw) (h2 : sw ≤ w) (h3 : 1 ≤ sh) (h4 : sh ≤ h) :
    f_count_straight [stD w h bw bh g s, .tup [.int sw, .int sh]] = some (.ok (.int (((ancA w h sw sh).filter (zeroA w h bw bh g s)).length : Nat))) := by
  have w2 := o.w2
  have h2' := o.h2
  have ea := p_all_anchors w h sw sh (.tup [.int bw, .int bh]) (.int g) (.tup (s.map sdD)) (by omega) (by omega) (by omega) (by omega) (by omega) (by omega) (by omega) (by omega)
  have len := ancA_len (w := w) (h := h) (sw := sw) (sh := sh) (by omega) (by omega) (by omega) (by omega)
  have len2 : (ancA w h sw sh).length ≤ 1000000 := by omega
  have e := lc_filter (t := tgRN 2) (test := toB (sOp dEq (sFn 2 f_find_off (sCons (sV 0) (sCons (sV 2) sNil))) (sC (.int 0)))) (elt := sV 2) (ρ := [some (stD w h bw bh g s), some (.tup [.int sw, .int sh]), none]) (zeroA w h bw bh g s) id (ancA w h sw sh) fun d hd => by
    obtain ⟨l, t, rfl, _⟩ := ancA_mem hd h1 h3
    have e1 := p_find_off (w := w) (h := h) (bw := bw) (bh := bh) (g := g) (l := l) (t := t) (sw := sw) (sh := sh) o.bw2 o.bh2 o.s1.len rfl
    have e2 := eq_off0 (midI l sw) (midI t sh) (plX w bw g l sw (s.find? (roomB w h bw bh g l t sw sh))) (plY h bh g t sh (s.find? (roomB w h bw bh g l t sw sh))) bw bh (s.find? (roomB w h bw bh g l t sw sh))
    refine ⟨_, rfl, ?_, by simp⟩
    show _ = (some (.ok (match offD (midI l sw) (midI t sh) (plX w bw g l sw (s.find? (roomB w h bw bh g l t sw sh))) (plY h bh g t sh (s.find? (roomB w h bw bh g l t sw sh))) bw bh (s.find? (roomB w h bw bh g l t sw sh)) with | .int i => i == 0 | _ => false)) : Oe Bool)
    simp [e1, e2]
  rw [List.map_id] at e
  simp [f_count_straight, b_count_straight, p_check_size o h1 h2 h3 h4, ea, e, len2]
/-! turned -/
def turn : Sd → Sd
  | .t => .l
  | .l => .t
  | .b => .r
  | .r => .b
theorem turn_turn (x : Sd) : turn (turn x) = x := by cases x <;> rfl
theorem room_turn (w h bw bh g l t sw sh : Int) (x : Sd) : roomB h w bh bw g t l sh sw (turn x) = roomB w h bw bh g l t sw sh x := by cases x <;> rfl
theorem find_turn (w h bw bh g l t sw sh : Int) (s : List Sd) : (s.map turn).find? (roomB h w bh bw g t l sh sw) = (s.find? (roomB w h bw bh g l t sw sh)).map turn := by
  rw [List.find?_map]
  congr 1
  congr 1
  funext x
  exact room_turn w h bw bh g l t sw sh x
theorem OkSd.turn {s : List Sd} (o : OkSd s) : OkSd (s.map turn) :=
  ⟨(List.pairwise_map).mpr (o.nd.imp fun {a b} h e => h (by rw [← turn_turn a, ← turn_turn b, e])), fun z => o.ne (List.map_eq_nil_iff.mp z), by rw [List.length_map]; exact o.len⟩
theorem OkS.turn {w h bw bh g : Int} {s : List Sd} (o : OkS w h bw bh g s) : OkS h w bh bw g (s.map turn) := ⟨o.h1, o.h2, o.w1, o.w2, o.bh1, o.bh2, o.bw1, o.bw2, o.g1, o.g2, o.s1.turn⟩
theorem OkA.turn {w h l t sw sh : Int} (a : OkA w h l t sw sh) : OkA h w t l sh sw := ⟨a.t1, a.l1, a.sh1, a.sw1, a.t2, a.l2⟩
theorem plX_turn (h bh g t sh : Int) (o : Option Sd) : plX h bh g t sh (o.map turn) = plY h bh g t sh o := by
  cases o with
  | none => rfl
  | some x => cases x <;> rfl
theorem plY_turn (w bw g l sw : Int) (o : Option Sd) : plY w bw g l sw (o.map turn) = plX w bw g l sw o := by
  cases o with
  | none => rfl
  | some x => cases x <;> rfl
theorem off_turn (mx my X Y bw bh : Int) (o : Option Sd) : offD my mx Y X bh bw (o.map turn) = offD mx my X Y bw bh o := by
  cases o with
  | none => rfl
  | some x => cases x <;> rfl
theorem arr_turn (mx my X Y bw bh : Int) (o : Option Sd) : (o = none ∧ arrD my mx Y X bh bw (o.map turn) = .non) ∨ (∃ a b, arrD mx my X Y bw bh o = .tup [.int a, .int b] ∧ arrD my mx Y X bh bw (o.map turn) = .tup [.int b, .int a]) := by
  cases o with
  | none => exact .inl ⟨rfl, rfl⟩
  | some x => cases x <;> exact .inr ⟨_, _, rfl, rfl⟩
@[simp] theorem e_toVs {x : Str} : toV (.str x) = some (.str x) := rfl
@[simp] theorem e_ofVs {x : Str} : ofV (.str x) = .str x := rfl
theorem kw4 (a b c d : L2.V) : L2.mergeK [] [(Sum.inr ("top" : Str), a), (Sum.inr ("left" : Str), b), (Sum.inr ("bottom" : Str), c), (Sum.inr ("right" : Str), d)] = ([(Sum.inr ("top" : Str), a), (Sum.inr ("left" : Str), b), (Sum.inr ("bottom" : Str), c), (Sum.inr ("right" : Str), d)] : List (L2.Key × L2.V)) := rfl
def wordsK : List (L2.Key × L2.V) := [(Sum.inr ("top" : Str), .str "left"), (Sum.inr ("left" : Str), .str "top"), (Sum.inr ("bottom" : Str), .str "right"), (Sum.inr ("right" : Str), .str "bottom")]
theorem word_turn (x : Sd) : dGetK (.dic wordsK) (sdD x) = some (sdD (turn x)) := by cases x <;> rfl
theorem rev2_pair (a b : D) : dRev2 (.tup [a, b]) = some (.tup [b, a]) := rfl
end Pk
namespace Pk
open PySem Dl
theorem v_maxN (i j : Int) : dMax2 [.int i, .int j] = some (.int (max i j)) := by
  show some (D.int (if j > i then j else i)) = _
  congr 2
  split <;> omega
theorem v_minN (i j : Int) : dMin2 [.int i, .int j] = some (.int (min i j)) := by
  show some (D.int (if j < i then j else i)) = _
  congr 2
  split <;> omega
theorem fl_2 : divOk 2 = true := by decide
def mvI (x b lo ln : Int) : Int := max lo (min x (lo + ln - b))
theorem mv_in (x : Int) {b lo ln : Int} (h : b ≤ ln) : lo ≤ mvI x b lo ln ∧ mvI x b lo ln + b ≤ lo + ln := by unfold mvI; omega
theorem jtb (o : Option Sd) : dIn (sdO o) (.tup [.str "top", .str "bottom"]) = some (.bl (o == some .t || o == some .b)) := by
  cases o with
  | none => rfl
  | some x => cases x <;> rfl
theorem jlr (o : Option Sd) : dIn (sdO o) (.tup [.str "left", .str "right"]) = some (.bl (o == some .l || o == some .r)) := by
  cases o with
  | none => rfl
  | some x => cases x <;> rfl
theorem jt (o : Option Sd) : dEq (sdO o) (.str "top") = some (.bl (o == some .t)) := eq_sdO o (some .t)
theorem jl (o : Option Sd) : dEq (sdO o) (.str "left") = some (.bl (o == some .l)) := eq_sdO o (some .l)
def spX (g bw l sw ax aw : Int) : Option Sd → Int
  | some .l => l - g - bw
  | some .r => l + sw + g
  | _ => mvI (l + (sw - bw) / 2) bw ax aw
def spY (g bh t sh ay ah : Int) : Option Sd → Int
  | some .t => t - g - bh
  | some .b => t + sh + g
  | _ => mvI (t + (sh - bh) / 2) bh ay ah
def wiB (x y a b ax ay aw ah : Int) : Bool := decide (ax ≤ x ∧ ay ≤ y ∧ x + a ≤ ax + aw ∧ y + b ≤ ay + ah)
/-- a box beside lies in the area as far as there is room -/
theorem wi_room {w h bw bh g l t sw sh : Int} (hg : 0 ≤ g) (b1 : 1 ≤ bw) (b2 : bw ≤ w) (b3 : 1 ≤ bh) (b4 : bh ≤ h) (a : OkA w h l t sw sh) (x : Sd) :
    wiB (spX g bw l sw 0 w (some x)) (spY g bh t sh 0 h (some x)) bw bh 0 0 w h = roomB w h bw bh g l t sw sh x := by
  obtain ⟨h1, h2, h3, h4, h5, h6⟩ := a
  have m1 := mv_in (l + (sw - bw) / 2) (lo := 0) b2
  have m2 := mv_in (t + (sh - bh) / 2) (lo := 0) b4
  cases x
  · exact decide_eq_decide.mpr (by show 0 ≤ mvI _ _ _ _ ∧ 0 ≤ t - g - bh ∧ mvI _ _ _ _ + bw ≤ 0 + w ∧ t - g - bh + bh ≤ 0 + h ↔ bh + g ≤ t; omega)
  · exact decide_eq_decide.mpr (by show 0 ≤ mvI _ _ _ _ ∧ 0 ≤ t + sh + g ∧ mvI _ _ _ _ + bw ≤ 0 + w ∧ t + sh + g + bh ≤ 0 + h ↔ t + sh + g + bh ≤ h; omega)
  · exact decide_eq_decide.mpr (by show 0 ≤ l - g - bw ∧ 0 ≤ mvI _ _ _ _ ∧ l - g - bw + bw ≤ 0 + w ∧ mvI _ _ _ _ + bh ≤ 0 + h ↔ bw + g ≤ l; omega)
  · exact decide_eq_decide.mpr (by show 0 ≤ l + sw + g ∧ 0 ≤ mvI _ _ _ _ ∧ l + sw + g + bw ≤ 0 + w ∧ mvI _ _ _ _ + bh ≤ 0 + h ↔ l + sw + g + bw ≤ w; omega)
def coB (x y a b c d e f : Int) : Bool := decide (c < x + a ∧ x < c + e ∧ d < y + b ∧ y < d + f)
/-- the law's spot is the place -/
theorem sp_pl {w h bw bh g l t sw sh : Int} (hg : 0 ≤ g) (b1 : 1 ≤ bw) (b2 : bw ≤ w) (b3 : 1 ≤ bh) (b4 : bh ≤ h) (a : OkA w h l t sw sh) (o : Option Sd) (ho : ∀ x, o = some x → roomB w h bw bh g l t sw sh x = true) :
    spX g bw l sw 0 w o = plX w bw g l sw o ∧ spY g bh t sh 0 h o = plY h bh g t sh o := by
  obtain ⟨h1, h2, h3, h4, h5, h6⟩ := a
  have c1 : mvI (l + (sw - bw) / 2) bw 0 w = clampI (l + (sw - bw) / 2) (w - bw) := by unfold mvI clampI; split <;> (try split) <;> omega
  have c2 : mvI (t + (sh - bh) / 2) bh 0 h = clampI (t + (sh - bh) / 2) (h - bh) := by unfold mvI clampI; split <;> (try split) <;> omega
  cases o with
  | none => exact ⟨c1, c2⟩
  | some x =>
    have r := ho x rfl
    cases x
    · have r := of_decide_eq_true r
      refine ⟨c1, ?_⟩
      show _ = clampI (t - g - bh) (h - bh)
      unfold clampI
      rw [if_neg (by omega), if_neg (by omega)]; rfl
    · have r := of_decide_eq_true r
      refine ⟨c1, ?_⟩
      show _ = clampI (t + sh + g) (h - bh)
      unfold clampI
      rw [if_neg (by omega), if_neg (by omega)]; rfl
    · have r := of_decide_eq_true r
      refine ⟨?_, c2⟩
      show _ = clampI (l - g - bw) (w - bw)
      unfold clampI
      rw [if_neg (by omega), if_neg (by omega)]; rfl
    · have r := of_decide_eq_true r
      refine ⟨?_, c2⟩
      show _ = clampI (l + sw + g) (w - bw)
      unfold clampI
      rw [if_neg (by omega), if_neg (by omega)]; rfl
theorem co_ovl {x y a b c d e f : Int} (a1 : 0 < a) (b1 : 0 < b) (e1 : 0 < e) (f1 : 0 < f) : coB x y a b c d e f = decide (0 < ovl x y a b c d e f) := by
  refine decide_eq_decide.mpr ?_
  unfold ovl
  have p1 := cmn_pos x a c e
  have p2 := cmn_pos y b d f
  have n1 := cmn_nn x a c e
  have n2 := cmn_nn y b d f
  constructor
  · intro z
    exact Int.mul_pos (p1.mpr (by omega)) (p2.mpr (by omega))
  · intro z
    have q1 : 0 < cmn x a c e := by
      rcases Int.lt_or_eq_of_le n1 with q | q
      · exact q
      · rw [← q, Int.zero_mul] at z; exact absurd z (by omega)
    have q2 : 0 < cmn y b d f := by
      rcases Int.lt_or_eq_of_le n2 with q | q
      · exact q
      · rw [← q, Int.mul_zero] at z; exact absurd z (by omega)
    have := p1.mp q1
    have := p2.mp q2
    omega
def isK (k : Int) : D → Bool
  | .int v => v == k
  | _ => false
theorem any_rgK (k : Int) (n : Nat) : (rgD 0 n).any (isK k) = decide (0 ≤ k ∧ k < n) := by
  rw [← Bool.coe_iff_coe, List.any_eq_true, decide_eq_true_eq]
  constructor
  · rintro ⟨d, hd, hp⟩
    obtain ⟨i, hi, rfl⟩ := rg0_mem hd
    have : (i : Int) = k := by simpa [isK] using hp
    omega
  · intro ⟨z1, z2⟩
    exact ⟨.int k, rgD_in z1 (by omega), by simp [isK]⟩
theorem eqS_t (x : Sd) : dEq (sdD x) (.str "top") = some (.bl (some x == some Sd.t)) := eq_sdO (some x) (some .t)
theorem eqS_b (x : Sd) : dEq (sdD x) (.str "bottom") = some (.bl (some x == some Sd.b)) := eq_sdO (some x) (some .b)
theorem eqS_l (x : Sd) : dEq (sdD x) (.str "left") = some (.bl (some x == some Sd.l)) := eq_sdO (some x) (some .l)
theorem find_any (s : List Sd) (p : Sd → Bool) : s.any p = !(s.find? p == none) := by
  induction s with
  | nil => rfl
  | cons x s ih =>
    rw [List.any_cons, List.find?_cons, ih]
    cases p x <;> simp
def n9 : D := .tup [.int 9, .int 9]
def n2 : D := .tup [.int 2, .int 2]
def tt : D := .tup [.str "top"]
def badS : List D := [.non, .tup [], .tup [n9, n2, .int 1], .tup [.tup [.int 0, .int 9], n2, .int 1, tt], .tup [.tup [.int 31, .int 9], n2, .int 1, tt], .tup [n9, .tup [.int 10, .int 1], .int 1, tt],
  .tup [n9, n2, .int 6, tt], .tup [n9, n2, .int 1, .tup []], .tup [n9, n2, .int 1, .tup [.str "top", .str "top"]], .tup [n9, n2, .int 1, .tup [.str "over"]], .lst [n9, n2, .int 1, tt], .tup [n9, n2, .bl true, tt],
  .tup [n9, n2, .int 1, .lst [.str "top"]], .tup [n9, n2, .int 1, .str "top"]]
def noS (d : D) : Bool := match f_is_setting [d] with
  | some (.ok (.bl false)) => true
  | _ => false
theorem badS_no : badS.all noS = true := by decide +kernel
theorem of_noS {d : D} (h : noS d = true) : f_is_setting [d] = some (.ok (.bl false)) := by
  unfold noS at h
  split at h
  · assumption
  · cases h
def badA (w h : Int) : List D := [.non, .tup [], .tup [.int 0, .int 0, .int 1], anD w 0 1 1, anD 0 h 1 1, anD 0 0 (w + 1) 1, anD 0 0 1 (h + 1), anD (-1) 0 1 1, anD 0 0 0 1, .lst [.int 0, .int 0, .int 1, .int 1], .tup [.bl false, .int 0, .int 1, .int 1], .tup [.int 0, .int 0, .str "1", .int 1]]
theorem p_is_intS (v : Str) (a b : Int) : f_is_int [.str v, .int a, .int b] = some (.ok (.bl false)) := by
  simp [f_is_int, b_is_int, tyInt, tyBool]
theorem badA_no {w h : Int} (w1 : 1 ≤ w) (h1 : 1 ≤ h) (a b c : D) {d : D} (m : d ∈ badA w h) : f_has_anchor [.tup [.tup [.int w, .int h], a, b, c], d] = some (.ok (.bl false)) := by
  unfold badA at m
  simp only [List.mem_cons, List.not_mem_nil, or_false] at m
  rcases m with rfl | rfl | rfl | rfl | rfl | rfl | rfl | rfl | rfl | rfl | rfl | rfl
  · exact p_no_anchorN rfl
  · simp [f_has_anchor, b_has_anchor, tyTuple]
  · exact p_no_anchor3
  · exact p_no_anchor _ _ _ (by omega)
  · exact p_no_anchor _ _ _ (by omega)
  · exact p_no_anchor _ _ _ (by omega)
  · exact p_no_anchor _ _ _ (by omega)
  · exact p_no_anchor _ _ _ (by omega)
  · exact p_no_anchor _ _ _ (by omega)
  · exact p_no_anchorN rfl
  · simp [f_has_anchor, b_has_anchor, tyTuple, p_is_intB]
  · have e1 := p_is_int 0 0 w
    have e2 := p_is_int 0 0 h
    rw [inI_yes (by omega) (by omega)] at e1 e2
    simp [f_has_anchor, b_has_anchor, tyTuple, e1, e2, p_is_intS]
theorem ne_nc : (("naive_covers" : Str) = "naive_over") = False := eq_false (by decide)
structure OkR (w h bw bh rx ry rw rh : Int) : Prop where
  x1 : 0 ≤ rx
  y1 : 0 ≤ ry
  w1 : bw ≤ rw
  h1 : bh ≤ rh
  x2 : rx + rw ≤ w
  y2 : ry + rh ≤ h
theorem OkR.anchor {w h bw bh rx ry rw rh : Int} (r : OkR w h bw bh rx ry rw rh) (b1 : 1 ≤ bw) (b2 : 1 ≤ bh) : OkA w h rx ry rw rh := ⟨r.x1, r.y1, Int.le_trans b1 r.w1, Int.le_trans b2 r.h1, r.x2, r.y2⟩
theorem p_has_region {w h bw bh g rx ry rw rh : Int} {s : List Sd} (o : OkS w h bw bh g s) (r : OkR w h bw bh rx ry rw rh) : f_has_region [stD w h bw bh g s, anD rx ry rw rh] = some (.ok (.bl true)) := by
  have e := p_has_anchor (.tup [.int bw, .int bh]) (.int g) (.tup (s.map sdD)) (r.anchor o.bw1 o.bh1)
  have r1 := r.w1
  have r2 := r.h1
  simp [f_has_region, b_has_region, e, r1, r2]
theorem p_check_region {w h bw bh g rx ry rw rh : Int} {s : List Sd} (o : OkS w h bw bh g s) (r : OkR w h bw bh rx ry rw rh) : f_check_region [stD w h bw bh g s, anD rx ry rw rh] = some (.ok .non) := by
  simp [f_check_region, b_check_region, p_check_setting o, p_has_region o r]
theorem p_inside (x b lo ln : Int) : f_inside [.int x, .int b, .int lo, .int ln] = some (.ok (.int (mvI x b lo ln))) := by
  simp [f_inside, b_inside, mvI, v_maxN, v_minN, -v_max, -v_min]
theorem kt (o : Option Sd) : dEq (sdO o) (.str "top") = some (.bl (o == some .t)) := eq_sdO o (some .t)
theorem kb (o : Option Sd) : dEq (sdO o) (.str "bottom") = some (.bl (o == some .b)) := eq_sdO o (some .b)
theorem kl (o : Option Sd) : dEq (sdO o) (.str "left") = some (.bl (o == some .l)) := eq_sdO o (some .l)
theorem kr (o : Option Sd) : dEq (sdO o) (.str "right") = some (.bl (o == some .r)) := eq_sdO o (some .r)
theorem p_spot_on (w h bw bh g l t sw sh ax ay aw ah : Int) (c : D) (o : Option Sd) : f_spot_on [.tup [.tup [.int w, .int h], .tup [.int bw, .int bh], .int g, c], anD ax ay aw ah, anD l t sw sh, sdO o] = some (.ok (anD (spX g bw l sw ax aw o) (spY g bh t sh ay ah o) bw bh)) := by
  have a := kt o
  have b := kb o
  have c := kl o
  have d := kr o
  have hs : spX g bw l sw ax aw o = if (o == some .l) = true then l - g - bw else if (o == some .r) = true then l + sw + g else mvI (l + (sw - bw) / 2) bw ax aw := by
    cases o with
    | none => rfl
    | some x => cases x <;> rfl
  have ht : spY g bh t sh ay ah o = if (o == some .t) = true then t - g - bh else if (o == some .b) = true then t + sh + g else mvI (t + (sh - bh) / 2) bh ay ah := by
    cases o with
    | none => rfl
    | some x => cases x <;> rfl
  rw [hs, ht]
  generalize sdO o = so at *
  cases o with
  | none => simp [f_spot_on, b_spot_on, p_inside, p_centred, fl_2, lf, a, b, c, d]
  | some x => cases x <;> simp [f_spot_on, b_spot_on, p_inside, p_centred, fl_2, lf, a, b, c, d]
theorem p_lies_in (x y a b ax ay aw ah : Int) : f_lies_in [anD x y a b, anD ax ay aw ah] = some (.ok (.bl (wiB x y a b ax ay aw ah))) := by
  unfold wiB
  by_cases h1 : x < ax
  · simp [f_lies_in, b_lies_in, h1, show ¬ (ax ≤ x) by omega]
  · by_cases h2 : y < ay
    · simp [f_lies_in, b_lies_in, h1, h2, show ¬ (ay ≤ y) by omega]
    · by_cases h3 : x + a ≤ ax + aw
      · simp [f_lies_in, b_lies_in, h1, h2, h3, show ax ≤ x by omega, show ay ≤ y by omega]
      · simp [f_lies_in, b_lies_in, h1, h2, h3]
/-- is the spot on the side within the region? -/
def inB (bw bh g rx ry rw rh l t sw sh : Int) (x : Sd) : Bool := wiB (spX g bw l sw rx rw (some x)) (spY g bh t sh ry rh (some x)) bw bh rx ry rw rh
theorem in_room {w h bw bh g rx ry rw rh l t sw sh : Int} (r : OkR w h bw bh rx ry rw rh) {x : Sd} (hi : inB bw bh g rx ry rw rh l t sw sh x = true) : roomB w h bw bh g l t sw sh x = true := by
  have z := of_decide_eq_true hi
  obtain ⟨r1, r2, r3, r4, r5, r6⟩ := r
  cases x
  · have z : rx ≤ mvI _ _ _ _ ∧ ry ≤ t - g - bh ∧ mvI _ _ _ _ + bw ≤ rx + rw ∧ t - g - bh + bh ≤ ry + rh := z
    exact decide_eq_true (show bh + g ≤ t by omega)
  · have z : rx ≤ mvI _ _ _ _ ∧ ry ≤ t + sh + g ∧ mvI _ _ _ _ + bw ≤ rx + rw ∧ t + sh + g + bh ≤ ry + rh := z
    exact decide_eq_true (show t + sh + g + bh ≤ h by omega)
  · have z : rx ≤ l - g - bw ∧ ry ≤ mvI _ _ _ _ ∧ l - g - bw + bw ≤ rx + rw ∧ mvI _ _ _ _ + bh ≤ ry + rh := z
    exact decide_eq_true (show bw + g ≤ l by omega)
  · have z : rx ≤ l + sw + g ∧ ry ≤ mvI _ _ _ _ ∧ l + sw + g + bw ≤ rx + rw ∧ mvI _ _ _ _ + bh ≤ ry + rh := z
    exact decide_eq_true (show l + sw + g + bw ≤ w by omega)
theorem p_find_side_in {w h bw bh g rx ry rw rh l t sw sh : Int} {s : List Sd} (r : OkR w h bw bh rx ry rw rh) : f_find_side_in [stD w h bw bh g s, anD rx ry rw rh, anD l t sw sh] = some (.ok (sdO (s.find? (inB bw bh g rx ry rw rh l t sw sh)))) := by
  have e := for_ret (t := tgN 3) (b := sAft [3] (sIf [] (bAnd (toB (sFn 3 f_has_room (sCons (sV 0) (sCons (sV 2) (sCons (sV 3) sNil))))) (toB (sFn 2 f_lies_in (sCons (sFn 4 f_spot_on (sCons (sV 0) (sCons (sV 1) (sCons (sV 2) (sCons (sV 3) sNil))))) (sCons (sV 1) sNil))))) (sRet [] (sV 3)) sNext)) (ρ0 := [.dat (stD w h bw bh g s), .dat (anD rx ry rw rh), .dat (anD l t sw sh), .no]) (onSd (inB bw bh g rx ry rw rh l t sw sh)) id (s.map sdD) fun d hd => by
    obtain ⟨x, _, rfl⟩ := List.mem_map.mp hd
    refine ⟨_, rfl, ?_⟩
    have e1 := p_spot_on w h bw bh g l t sw sh rx ry rw rh (.tup (s.map sdD)) (some x)
    have e2 := p_lies_in (spX g bw l sw rx rw (some x)) (spY g bh t sh ry rh (some x)) bw bh rx ry rw rh
    have e3 := p_has_room w h bw bh g l t sw sh (.tup (s.map sdD)) x
    change f_spot_on [_, _, _, .str x.nm] = _ at e1
    change f_lies_in _ = some (.ok (.bl (inB bw bh g rx ry rw rh l t sw sh x))) at e2
    cases q : inB bw bh g rx ry rw rh l t sw sh x with
    | true => simp [e1, e2, e3, q, in_room r q]
    | false => cases q2 : roomB w h bw bh g l t sw sh x <;> simp [e1, e2, e3, q, q2]
  rw [find_sd] at e
  generalize s.find? (inB bw bh g rx ry rw rh l t sw sh) = o at e ⊢
  cases o with
  | none => simp [f_find_side_in, b_find_side_in, e, sdO]
  | some x => simp [f_find_side_in, b_find_side_in, e, sdO]
theorem p_place_in {w h bw bh g rx ry rw rh l t sw sh : Int} {s : List Sd} (o : OkS w h bw bh g s) (r : OkR w h bw bh rx ry rw rh) (a : OkA w h l t sw sh) : f_place_in [stD w h bw bh g s, anD rx ry rw rh, anD l t sw sh] =
    some (.ok (anD (spX g bw l sw rx rw (s.find? (inB bw bh g rx ry rw rh l t sw sh))) (spY g bh t sh ry rh (s.find? (inB bw bh g rx ry rw rh l t sw sh))) bw bh)) := by
  simp [f_place_in, b_place_in, p_check_region o r, p_check_anchor _ _ _ a, p_find_side_in r, p_spot_on]
/-- the side told for an anchor, as a function of the datum -/
def oR (bw bh g rx ry rw rh : Int) (s : List Sd) : D → Option Sd
  | .tup [.int l, .int t, .int sw, .int sh] => s.find? (inB bw bh g rx ry rw rh l t sw sh)
  | _ => none
/-- an anchor, a box -/
structure An where
  l : Int
  t : Int
  sw : Int
  sh : Int
def An.d (a : An) : D := anD a.l a.t a.sw a.sh
def An.ok (w h : Int) (a : An) : Prop := OkA w h a.l a.t a.sw a.sh
def An.pos (a : An) : Prop := 0 < a.sw ∧ 0 < a.sh
theorem An.ok.pos {w h : Int} {a : An} (o : a.ok w h) : a.pos := ⟨Int.lt_of_lt_of_le (by decide) o.sw1, Int.lt_of_lt_of_le (by decide) o.sh1⟩
def hitA (o b : An) : Bool := coB o.l o.t o.sw o.sh b.l b.t b.sw b.sh
def spA (w h bw bh g : Int) (a : An) (x : Sd) : An := ⟨spX g bw a.l a.sw 0 w (some x), spY g bh a.t a.sh 0 h (some x), bw, bh⟩
def freeA (w h bw bh g : Int) (a : An) (tk : List An) (x : Sd) : Bool := !tk.any fun o => hitA o (spA w h bw bh g a x)
def roomA (w h bw bh g : Int) (a : An) (x : Sd) : Bool := roomB w h bw bh g a.l a.t a.sw a.sh x
def bestA (w h bw bh g : Int) (s : List Sd) (a : An) (tk : List An) : Option An := (((s.filter (roomA w h bw bh g a)).filter (freeA w h bw bh g a tk)).head?).map (spA w h bw bh g a)
def anO : Option An → D
  | none => .non
  | some a => a.d
def opn (B : An → List An → Option An) : List An → List An → List (Option An)
  | [], _ => []
  | a :: r, tk => B a tk :: opn B r (tk ++ (B a tk).toList)
theorem opn_len (B : An → List An → Option An) : ∀ (as tk : List An), (opn B as tk).length = as.length
  | [], _ => rfl
  | a :: r, tk => by simp [opn, opn_len B r]
theorem lc_mapf {α : Type} {t : TgtR} {elt : Sx} {ρ : Rho} (f : α → D) (g : α → D) : ∀ (A : List α), (∀ a, a ∈ A → ∃ ρ2, t (f a) ρ = some ρ2 ∧ elt ρ2 = some (.ok (g a))) → lcS t bTrue elt ρ (A.map f) = some (A.map g) := fun A h => by
  have e := lc_ov (t := t) (test := bTrue) (elt := elt) (ρ := ρ) f (fun _ => true) g A fun a ha => by
    obtain ⟨ρ2, e1, e2⟩ := h a ha
    exact ⟨ρ2, e1, rfl, e2⟩
  rw [e, List.filter_eq_self.mpr fun _ _ => rfl]
theorem lf_an (a : An) : lf a.d = true := rfl
theorem lf_ans (l : List An) : lfAll (l.map An.d) = true := lfAll_of fun d hd => by
  obtain ⟨a, _, rfl⟩ := List.mem_map.mp hd
  rfl
theorem lf_anO (o : Option An) : lf (anO o) = true := by cases o <;> rfl
theorem lf_anOs (l : List (Option An)) : lfAll (l.map anO) = true := lfAll_of fun d hd => by
  obtain ⟨a, _, rfl⟩ := List.mem_map.mp hd
  exact lf_anO a
theorem okN_an (n : Nat) (a : An) : okN (n + 2) a.d = true := rfl
theorem okN_anO (n : Nat) (a : Option An) : okN (n + 2) (anO a) = true := by cases a <;> rfl
theorem okN_ans (n : Nat) (l : List An) : okN (n + 3) (.lst (l.map An.d)) = true := by
  show ((l.map An.d).all (okN (n + 2))) = true
  rw [List.all_map]
  exact List.all_eq_true.mpr fun a _ => okN_an n a
theorem okN_anOs (n : Nat) (l : List (Option An)) : okN (n + 3) (.lst (l.map anO)) = true := by
  show ((l.map anO).all (okN (n + 2))) = true
  rw [List.all_map]
  exact List.all_eq_true.mpr fun a _ => okN_anO n a
theorem isN_anO (o : Option An) : isN (anO o) = o.isNone := by cases o <;> rfl
theorem eq_lst_nilD (xs : List D) (h : okN 10 (.lst xs) = true) : dEq (.lst xs) (.lst []) = some (.bl xs.isEmpty) := by
  unfold dEq
  rw [h, show okN 10 (.lst []) = true from rfl]
  cases xs <;> rfl
theorem hit_ovl {o b : An} (h1 : o.pos) (h2 : b.pos) : hitA o b = decide (0 < ovl b.l b.t b.sw b.sh o.l o.t o.sw o.sh) := by
  unfold hitA
  rw [co_ovl h1.1 h1.2 h2.1 h2.2, ovl_comm]
theorem ovl_d {b o : An} (h : 0 ≤ b.sw) (h2 : b.sw ≤ 1000) : f_overlap [b.d, o.d] = some (.ok (.int (ovl b.l b.t b.sw b.sh o.l o.t o.sw o.sh))) := p_overlap h h2
section
variable {w h bw bh g : Int} {s : List Sd}
theorem spA_pos (o : OkS w h bw bh g s) (a : An) (x : Sd) : (spA w h bw bh g a x).pos := ⟨Int.lt_of_lt_of_le (by decide) o.bw1, Int.lt_of_lt_of_le (by decide) o.bh1⟩
theorem best_pos (o : OkS w h bw bh g s) {a : An} {tk : List An} {b : An} (e : bestA w h bw bh g s a tk = some b) : b.pos := by
  unfold bestA at e
  obtain ⟨x, _, rfl⟩ := Option.map_eq_some_iff.mp e
  exact spA_pos o a x
theorem spot_d (a : An) (c : D) (x : Sd) : f_spot_on [.tup [.tup [.int w, .int h], .tup [.int bw, .int bh], .int g, c], anD 0 0 w h, a.d, sdD x] = some (.ok (spA w h bw bh g a x).d) := by
  have e := p_spot_on w h bw bh g a.l a.t a.sw a.sh 0 0 w h c (some x)
  exact e
theorem fit_d (o : OkS w h bw bh g s) (a : An) : f_find_fitting [stD w h bw bh g s, a.d] = some (.ok (.lst ((s.filter (roomA w h bw bh g a)).map sdD))) := p_find_fitting w h bw bh g a.l a.t a.sw a.sh o.s1.len
theorem free_lc (o : OkS w h bw bh g s) (a : An) (tk : List An) (htk : ∀ o, o ∈ tk → o.pos) (x : Sd) (ρ : Rho) (x10 : Nat) (h9 : ρ[9]? = some (some (spA w h bw bh g a x).d)) (hl : ρ.length = 11) :
    lcS (tgRN 10) bTrue (sOp dGt (sFn 2 f_overlap (sCons (sV 9) (sCons (sV 10) sNil))) (sC (.int 0))) ρ (tk.map An.d) = some (tk.map fun o => D.bl (hitA o (spA w h bw bh g a x))) := by
  refine lc_mapf An.d _ tk fun b hb => ⟨ρ.set 10 (some b.d), rfl, ?_⟩
  have e1 := ovl_d (b := spA w h bw bh g a x) (o := b) (Int.le_of_lt (spA_pos o a x).1) (by
    show bw ≤ 1000
    have := o.bw2; have := o.w2; omega)
  have g9 : (ρ.set 10 (some b.d))[9]? = some (some (spA w h bw bh g a x).d) := by rw [List.getElem?_set_ne (by decide)]; exact h9
  have g10 : (ρ.set 10 (some b.d))[10]? = some (some b.d) := List.getElem?_set_self (by omega)
  simp [g9, g10, e1, hit_ovl (htk b hb) (spA_pos o a x)]
def scD (w h : Int) : D := anD 0 0 w h
def stF (S A Z : D) (done : List (Option An)) (tk : List An) : Sig := [.dat S, .dat A, .own (.lst (done.map anO)), .own (.lst (tk.map An.d)), .dat Z, .no, .no, .no, .no, .no, .no]
theorem open_loop (o : OkS w h bw bh g s) (A : D) : ∀ (todo : List An) (done : List (Option An)) (tk : List An), (∀ o, o ∈ tk → o.pos) → done.length + todo.length ≤ 6 → tk.length + todo.length ≤ 12 →
    ∃ tk', forS (tgN 5) (sAft [5, 6, 7] (sSeq (sSetL [] 6 (sLc (sSeqItems (sFn 2 f_find_fitting (sCons (sV 0) (sCons (sV 5) sNil)))) [8] (tgRN 8) bTrue (sFn 4 f_spot_on (sCons (sV 0) (sCons (sV 4) (sCons (sV 5) (sCons (sV 8) sNil)))))))
    (sSeq (sSetL [3, 6] 7 (sLc (sSeqItems (sV 6)) [9] (tgRN 9) (bNot (toB (sCall dAny (sCons (sOfL (sLc (sSeqItems (sV 3)) [10] (tgRN 10) bTrue (sOp dGt (sFn 2 f_overlap (sCons (sV 9) (sCons (sV 10) sNil))) (sC (.int 0))))) sNil)))) (sV 9)))
    (sSeq (sApp [7] 2 (sIfE (toB (sOp dNe (sV 7) (sOfL (sLst sNil)))) (sOp dIx (sV 7) (sC (.int 0))) (sC .non)))
    (sExt [7] 3 (sOfL (sCutL (sV 7) sNoPart (sPart (sC (.int 1))))))))))
      (todo.map An.d) (stF (stD w h bw bh g s) A (scD w h) done tk) = some (.nx (stF (stD w h bw bh g s) A (scD w h) (done ++ opn (bestA w h bw bh g s) todo tk) tk'))
  | [], done, tk, _, _, _ => ⟨tk, by simp [forS, opn]⟩
  | a :: todo, done, tk, htk, hl, hl2 => by
    rw [List.length_cons] at hl hl2
    have n1 := o.s1.len
    have n2 : (s.filter (roomA w h bw bh g a)).length ≤ 4 := Nat.le_trans (List.length_filter_le _ _) n1
    have e1 := fit_d o a
    have m1 := lc_mapf (t := tgRN 8) (elt := sFn 4 f_spot_on (sCons (sV 0) (sCons (sV 4) (sCons (sV 5) (sCons (sV 8) sNil)))))
      (ρ := [some (stD w h bw bh g s), some A, none, none, some (scD w h), some a.d, none, none, none, none, none]) sdD (fun x => (spA w h bw bh g a x).d) (s.filter (roomA w h bw bh g a)) fun x hx => by
        have e := spot_d (w := w) (h := h) (bw := bw) (bh := bh) (g := g) a (.tup (s.map sdD)) x
        exact ⟨_, rfl, by simp [e, scD]⟩
    have m2 := lc_ov (t := tgRN 9) (test := bNot (toB (sCall dAny (sCons (sOfL (sLc (sSeqItems (sV 3)) [10] (tgRN 10) bTrue (sOp dGt (sFn 2 f_overlap (sCons (sV 9) (sCons (sV 10) sNil))) (sC (.int 0))))) sNil)))) (elt := sV 9)
      (ρ := [some (stD w h bw bh g s), some A, none, some (.lst (tk.map An.d)), some (scD w h), some a.d, some (.lst ((s.filter (roomA w h bw bh g a)).map fun x => (spA w h bw bh g a x).d)), none, none, none, none]) (fun x => (spA w h bw bh g a x).d) (freeA w h bw bh g a tk) (fun x => (spA w h bw bh g a x).d) (s.filter (roomA w h bw bh g a)) fun x hx => by
        have e := free_lc o a tk htk x [some (stD w h bw bh g s), some A, none, some (.lst (tk.map An.d)), some (scD w h), some a.d, some (.lst ((s.filter (roomA w h bw bh g a)).map fun x => (spA w h bw bh g a x).d)), none, none, some (spA w h bw bh g a x).d, none] 0 rfl rfl
        have len : tk.length ≤ 1000000 := by omega
        exact ⟨_, rfl, by simp [e, len, bls_map, freeA, List.any_map, Function.comp_def], by simp⟩
    have hB : bestA w h bw bh g s a tk = (((s.filter (roomA w h bw bh g a)).filter (freeA w h bw bh g a tk)).head?).map (spA w h bw bh g a) := rfl
    have n3 : ((s.filter (roomA w h bw bh g a)).filter (freeA w h bw bh g a tk)).length ≤ 4 := Nat.le_trans (List.length_filter_le _ _) n2
    generalize (s.filter (roomA w h bw bh g a)).filter (freeA w h bw bh g a tk) = fr at *
    have l1 : lfAll ((s.filter (roomA w h bw bh g a)).map fun x => (spA w h bw bh g a x).d) = true := lfAll_of fun d hd => by
      obtain ⟨x, _, rfl⟩ := List.mem_map.mp hd
      rfl
    generalize s.filter (roomA w h bw bh g a) = rm at *
    generalize hsp : (fun x => (spA w h bw bh g a x).d) = sp at *
    have k1 : rm.length ≤ 1000000 := by omega
    have k2 : tk.length + 1 ≤ 1000000 := by omega
    have k3 : done.length + 1 ≤ 1000000 := by omega
    have step : ∀ (q : Option An) , q = (fr.head?).map (spA w h bw bh g a) → (sAft [5, 6, 7] (sSeq (sSetL [] 6 (sLc (sSeqItems (sFn 2 f_find_fitting (sCons (sV 0) (sCons (sV 5) sNil)))) [8] (tgRN 8) bTrue (sFn 4 f_spot_on (sCons (sV 0) (sCons (sV 4) (sCons (sV 5) (sCons (sV 8) sNil)))))))
    (sSeq (sSetL [3, 6] 7 (sLc (sSeqItems (sV 6)) [9] (tgRN 9) (bNot (toB (sCall dAny (sCons (sOfL (sLc (sSeqItems (sV 3)) [10] (tgRN 10) bTrue (sOp dGt (sFn 2 f_overlap (sCons (sV 9) (sCons (sV 10) sNil))) (sC (.int 0))))) sNil)))) (sV 9)))
    (sSeq (sApp [7] 2 (sIfE (toB (sOp dNe (sV 7) (sOfL (sLst sNil)))) (sOp dIx (sV 7) (sC (.int 0))) (sC .non)))
    (sExt [7] 3 (sOfL (sCutL (sV 7) sNoPart (sPart (sC (.int 1)))))))))) [.dat (stD w h bw bh g s), .dat A, .own (.lst (done.map anO)), .own (.lst (tk.map An.d)), .dat (scD w h), .dat a.d, .no, .no, .no, .no, .no] = some (.nx (stF (stD w h bw bh g s) A (scD w h) (done ++ [q]) (tk ++ q.toList))) := fun q hq => by
      refine run_aft [.dat (stD w h bw bh g s), .dat A, .own (.lst ((done ++ [q]).map anO)), .own (.lst ((tk ++ q.toList).map An.d)), .dat (scD w h), .dat a.d, .own (.lst (rm.map sp)), .own (.lst (fr.map sp)), .no, .no, .no] ?_ rfl
      refine run_seq [.dat (stD w h bw bh g s), .dat A, .own (.lst (done.map anO)), .own (.lst (tk.map An.d)), .dat (scD w h), .dat a.d, .own (.lst (rm.map sp)), .no, .no, .no, .no] (by simp [e1, m1, k1, l1]) ?_
      have l2 : lfAll (fr.map sp) = true := lfAll_of fun d hd => by
        obtain ⟨x, _, rfl⟩ := List.mem_map.mp hd
        rw [← hsp]; rfl
      refine run_seq [.dat (stD w h bw bh g s), .dat A, .own (.lst (done.map anO)), .own (.lst (tk.map An.d)), .dat (scD w h), .dat a.d, .own (.lst (rm.map sp)), .own (.lst (fr.map sp)), .no, .no, .no] (by simp [m2, k1, l2]) ?_
      have okf : okN 10 (.lst (fr.map sp)) = true := by
        show ((fr.map sp).all (okN 9)) = true
        rw [List.all_map, ← hsp]
        exact List.all_eq_true.mpr fun a _ => rfl
      have ne := ne_lst_nil _ okf
      cases fr with
      | nil =>
        have hq : q = none := hq
        subst hq
        refine run_seq [.dat (stD w h bw bh g s), .dat A, .own (.lst ((done ++ [none]).map anO)), .own (.lst (tk.map An.d)), .dat (scD w h), .dat a.d, .own (.lst (rm.map sp)), .own (.lst []), .no, .no, .no] (by simp [k3, anO, lf, ne_lst_nil [] rfl]) ?_
        have c : cutD ([] : List D) none (some 1) = [] := rfl
        simp [c, lfAll, show tk.length ≤ 1000000 by omega]
      | cons x r =>
        have hq : q = some (spA w h bw bh g a x) := hq
        subst hq
        have c : cutD (sp x :: r.map sp) none (some 1) = [sp x] := by
          have : (r.map sp).length + 1 ≥ 1 := by omega
          simp [cutD, HT.sIx]
        have hx : sp x = (spA w h bw bh g a x).d := by rw [← hsp]
        have hi : L2.atI (sp x :: r.map sp) 0 = some (sp x) := by rw [at_natL _ _ (by decide)]; rfl
        have lx : lf (sp x) = true := by rw [hx]; rfl
        have ne' : dNe (.lst (sp x :: r.map sp)) (.lst []) = some (.bl true) := ne
        refine run_seq [.dat (stD w h bw bh g s), .dat A, .own (.lst ((done ++ [some (spA w h bw bh g a x)]).map anO)), .own (.lst (tk.map An.d)), .dat (scD w h), .dat a.d, .own (.lst (rm.map sp)), .own (.lst (sp x :: r.map sp)), .no, .no, .no] (by simp [k3, anO, ← hx, ne', hi, lx]) ?_
        simp [c, lfAll, lx, ← hx, k2]
    have hpos : ∀ o', o' ∈ tk ++ ((fr.head?).map (spA w h bw bh g a)).toList → o'.pos := fun b hb => by
      rcases List.mem_append.mp hb with hb | hb
      · exact htk b hb
      · have : ∃ x, b = spA w h bw bh g a x := by
          cases fr with
          | nil => cases hb
          | cons x r => exact ⟨x, by simpa using hb⟩
        obtain ⟨x, rfl⟩ := this
        exact spA_pos o a x
    have hlen : (tk ++ ((fr.head?).map (spA w h bw bh g a)).toList).length ≤ tk.length + 1 := by
      cases fr <;> simp
    obtain ⟨tk', ih⟩ := open_loop o A todo (done ++ [(fr.head?).map (spA w h bw bh g a)]) (tk ++ ((fr.head?).map (spA w h bw bh g a)).toList) hpos (by simp; omega) (by omega)
    refine ⟨tk', ?_⟩
    rw [List.map_cons]
    have es := step _ rfl
    have et : tgN 5 a.d (stF (stD w h bw bh g s) A (scD w h) done tk) = some [.dat (stD w h bw bh g s), .dat A, .own (.lst (done.map anO)), .own (.lst (tk.map An.d)), .dat (scD w h), .dat a.d, .no, .no, .no, .no, .no] := rfl
    simp only [forS, et, es, ih]
    rw [List.append_assoc, List.singleton_append]
    simp only [opn, hB]
theorem p_find_open (o : OkS w h bw bh g s) (as : List An) (ha : ∀ a, a ∈ as → a.ok w h) (hl : as.length ≤ 6) : f_find_open [stD w h bw bh g s, .lst (as.map An.d)] = some (.ok (.lst ((opn (bestA w h bw bh g s) as as).map anO))) := by
  obtain ⟨tk', e⟩ := open_loop o (.lst (as.map An.d)) as [] as (fun a m => (ha a m).pos) (by simpa using hl) (by omega)
  rw [f_find_open, runD_fin]
  unfold b_find_open
  refine fin_run [.dat (stD w h bw bh g s), .dat (.lst (as.map An.d)), .own (.lst []), .own (.lst (as.map An.d)), .no, .no, .no, .no, .no, .no, .no] (by simp [parS, mlf, lf_ans, lfAll, setM]) ?_
  refine fin_run [.dat (stD w h bw bh g s), .dat (.lst (as.map An.d)), .own (.lst []), .own (.lst (as.map An.d)), .dat (scD w h), .no, .no, .no, .no, .no, .no] (by simp [lf, lfAll, scD]) ?_
  refine fin_run (stF (stD w h bw bh g s) (.lst (as.map An.d)) (scD w h) (opn (bestA w h bw bh g s) as as) tk') (by
    change forS _ _ _ (stF _ _ _ [] as) = _ at e
    rw [List.nil_append] at e
    simp [← e]
    rfl) ?_
  simp [stF]
theorem p_check_anchors (o : OkS w h bw bh g s) (as : List An) (ha : ∀ a, a ∈ as → a.ok w h) (hl : as.length ≤ 6) : f_check_anchors [stD w h bw bh g s, .lst (as.map An.d)] = some (.ok .non) := by
  have m := lc_mapf (t := tgRN 2) (elt := sFn 2 f_has_anchor (sCons (sV 0) (sCons (sV 2) sNil))) (ρ := [some (stD w h bw bh g s), some (.lst (as.map An.d)), none]) An.d (fun _ => .bl true) as fun a m => by
    have e := p_has_anchor (.tup [.int bw, .int bh]) (.int g) (.tup (s.map sdD)) (ha a m)
    exact ⟨_, rfl, by simp [An.d, e]⟩
  have hb : blsOf (as.map fun _ => D.bl true) = some (as.map fun _ => true) := bls_map (fun _ => true) as
  have h1 : as.length ≤ 1000000 := by omega
  have h2 : ¬ ((6 : Int) < as.length) := by omega
  simp [f_check_anchors, b_check_anchors, p_check_setting o, m, hb, h1, h2, tyList, List.all_map, Function.comp_def]
theorem p_open_all (o : OkS w h bw bh g s) (as : List An) (ha : ∀ a, a ∈ as → a.ok w h) (hl : as.length ≤ 6) : f_open_all [stD w h bw bh g s, .lst (as.map An.d)] = some (.ok (.lst ((opn (bestA w h bw bh g s) as as).map anO))) := by
  simp [f_open_all, b_open_all, p_check_anchors o as ha hl, p_find_open o as ha hl]
/-- how many are shown -/
def shown (w h bw bh g : Int) (s : List Sd) (as : List An) : Nat := ((opn (bestA w h bw bh g s) as as).filter (·.isSome)).length
theorem p_find_shown (o : OkS w h bw bh g s) (as : List An) (ha : ∀ a, a ∈ as → a.ok w h) (hl : as.length ≤ 6) : f_find_shown [stD w h bw bh g s, .lst (as.map An.d)] = some (.ok (.int (shown w h bw bh g s as))) := by
  have e := p_find_open o as ha hl
  have len := opn_len (bestA w h bw bh g s) as as
  have hs : shown w h bw bh g s as = ((opn (bestA w h bw bh g s) as as).filter (·.isSome)).length := rfl
  rw [hs]
  generalize opn (bestA w h bw bh g s) as as = os at *
  have m := lc_ov (t := tgRN 2) (test := toB (sOp dIsNot (sV 2) (sC .non))) (elt := sV 2) (ρ := [some (stD w h bw bh g s), some (.lst (as.map An.d)), none]) anO (fun q => q.isSome) anO os fun q hq => ⟨_, rfl, by cases q <;> simp [anO, isN, An.d], by simp⟩
  simp [f_find_shown, b_find_shown, e, m, show os.length ≤ 1000000 by omega]
end
theorem for_fold {α β : Type} {t : Tgt} {b : Ss} (f : α → D) (st : β → Sig) (step : β → α → β) (I : β → Nat → Prop) : ∀ (l : List α) (a : β), I a l.length → (∀ x, x ∈ l → ∀ a k, I a (k + 1) → I (step a x) k ∧ ∃ ρ1, t (f x) (st a) = some ρ1 ∧ b ρ1 = some (.nx (st (step a x)))) → forS t b (l.map f) (st a) = some (.nx (st (l.foldl step a))) ∧ I (l.foldl step a) 0
  | [], a, h, _ => ⟨rfl, h⟩
  | x :: l, a, h, hs => by
    obtain ⟨h1, ρ1, e1, e2⟩ := hs x List.mem_cons_self a l.length h
    have ih := for_fold f st step I l (step a x) h1 fun y hy => hs y (List.mem_cons_of_mem _ hy)
    rw [List.map_cons]
    simp only [forS, e1, e2]
    exact ih
/-! ### orders -/
def ordN : Nat → List (List Nat)
  | 0 => [[]]
  | 1 => [[0]]
  | 2 => [[0, 1], [1, 0]]
  | _ => [[0, 1, 2], [0, 2, 1], [1, 0, 2], [1, 2, 0], [2, 0, 1], [2, 1, 0]]
def iD (i : Nat) : D := .int (i : Int)
def pD (p : List Nat) : D := .tup (p.map iD)
theorem p_all_orders : ∀ n : Nat, n ≤ 3 → f_all_orders [.int (n : Int)] = some (.ok (.lst ((ordN n).map pD)))
  | 0, _ => by rfl
  | 1, _ => by rfl
  | 2, _ => by rfl
  | 3, _ => by rfl
  | n + 4, h => by omega
def prD' (f : List Nat → Int) (p : List Nat) : D := .tup [.int (0 - f p), pD p]
def noLt (y p : List Nat) : Bool := !PyProof.Rows.lexLt PyProof.Rows.itemOrd (PySem.W.keyToksAll [toPy (pD y)]) (PySem.W.keyToksAll [toPy (pD p)])
def bst (f : List Nat → Int) (p : List Nat) (l : List (List Nat)) : List Nat := l.foldl (fun a y => if f a < f y then y else a) p
theorem ltD_pr (f : List Nat → Int) {y p : List Nat} (h : noLt y p = true) : ltD (prD' f y) (prD' f p) = decide (f p < f y) := by
  have e : ltD (prD' f y) (prD' f p) = PyProof.Rows.lexLt PyProof.Rows.itemOrd (.inl 1 :: .inl (0 - f y) :: PySem.W.keyToksAll [toPy (pD y)]) (.inl 1 :: .inl (0 - f p) :: PySem.W.keyToksAll [toPy (pD p)]) := rfl
  have h' : PyProof.Rows.lexLt PyProof.Rows.itemOrd (PySem.W.keyToksAll [toPy (pD y)]) (PySem.W.keyToksAll [toPy (pD p)]) = false := by simpa [noLt] using h
  rw [e, PyProof.Rows.lex_self, PyProof.Rows.lex_cons, h', Bool.and_false, Bool.or_false]
  show decide (0 - f y < 0 - f p) = _
  exact decide_eq_decide.mpr (by omega)
theorem min_pr (f : List Nat → Int) : ∀ (l : List (List Nat)) (p : List Nat), (∀ q, q ∈ l → noLt q p = true) → l.Pairwise (fun a b => noLt b a = true) → minL (prD' f p) (l.map (prD' f)) = prD' f (bst f p l)
  | [], p, _, _ => rfl
  | y :: l, p, h, hp => by
    obtain ⟨h1, h2⟩ := List.pairwise_cons.mp hp
    have e := ltD_pr f (h y List.mem_cons_self)
    unfold minL bst
    rw [List.map_cons, List.foldl_cons, List.foldl_cons, e]
    by_cases q : f p < f y
    · rw [if_pos (decide_eq_true q), if_pos q]
      exact min_pr f l y h1 h2
    · rw [if_neg (by simpa using q), if_neg q]
      exact min_pr f l p (fun z hz => h z (List.mem_cons_of_mem _ hz)) h2
def ordH (n : Nat) : List Nat := (ordN n).headD []
def ordT (n : Nat) : List (List Nat) := (ordN n).tail
theorem ord_cons : ∀ n : Nat, ordN n = ordH n :: ordT n
  | 0 => rfl
  | 1 => rfl
  | 2 => rfl
  | n + 3 => rfl
theorem ord_ok : ∀ n : Nat, (ordN n).Pairwise (fun a b => noLt b a = true)
  | 0 => by decide +kernel
  | 1 => by decide +kernel
  | 2 => by decide +kernel
  | n + 3 => by
    show ([[0, 1, 2], [0, 2, 1], [1, 0, 2], [1, 2, 0], [2, 0, 1], [2, 1, 0]] : List (List Nat)).Pairwise (fun a b => noLt b a = true)
    decide +kernel
theorem ord_alike (f : List Nat → Int) : ∀ n : Nat, alikeL ((ordN n).map (prD' f)) = true
  | 0 => by rfl
  | 1 => by rfl
  | 2 => by rfl
  | n + 3 => by rfl
theorem ord_lt : ∀ n : Nat, n ≤ 3 → ((ordN n).all fun p => p.all fun i => decide (i < n)) = true
  | 0, _ => by decide
  | 1, _ => by decide
  | 2, _ => by decide
  | 3, _ => by decide
  | n + 4, h => by omega
theorem ord_len : ∀ n : Nat, ((ordN n).all fun p => decide (p.length ≤ 3)) = true ∧ (ordN n).length ≤ 6
  | 0 => by decide
  | 1 => by decide
  | 2 => by decide
  | n + 3 => by
    show ((([[0, 1, 2], [0, 2, 1], [1, 0, 2], [1, 2, 0], [2, 0, 1], [2, 1, 0]] : List (List Nat)).all fun p => decide (p.length ≤ 3)) = true) ∧ ([[0, 1, 2], [0, 2, 1], [1, 0, 2], [1, 2, 0], [2, 0, 1], [2, 1, 0]] : List (List Nat)).length ≤ 6
    decide
theorem min_ord (f : List Nat → Int) (n : Nat) : dMinL [.lst ((ordN n).map (prD' f))] = some (prD' f (bst f (ordH n) (ordT n))) := by
  have a := ord_alike f n
  have p := ord_ok n
  rw [ord_cons n] at a p ⊢
  obtain ⟨h1, h2⟩ := List.pairwise_cons.mp p
  rw [List.map_cons] at a ⊢
  unfold dMinL
  show (if alikeL (prD' f (ordH n) :: List.map (prD' f) (ordT n)) = true then some (minL (prD' f (ordH n)) (List.map (prD' f) (ordT n))) else none) = _
  rw [if_pos a, min_pr f _ _ h1 h2]
theorem lf_pD (p : List Nat) : lf (pD p) = true := by
  show lfAll (p.map iD) = true
  exact lfAll_of fun d hd => by
    obtain ⟨i, _, rfl⟩ := List.mem_map.mp hd
    rfl
theorem okN_pD (n : Nat) (p : List Nat) : okN (n + 2) (pD p) = true := by
  show (p.map iD).all (okN (n + 1)) = true
  rw [List.all_map]
  exact List.all_eq_true.mpr fun _ _ => rfl
/-! ### anchors by place -/
def gA (as : List An) (i : Nat) : An := as.getD i ⟨0, 0, 1, 1⟩
theorem at_gA {as : List An} {i : Nat} (h : i < as.length) : L2.atI (as.map An.d) (i : Int) = some (gA as i).d := by
  rw [at_natL _ _ (Int.natCast_nonneg i), Int.toNat_natCast, List.getElem?_map, List.getElem?_eq_getElem h, gA, List.getD_eq_getElem?_getD, List.getElem?_eq_getElem h]
  rfl
theorem gA_mem {as : List An} {i : Nat} (h : i < as.length) : gA as i ∈ as := by
  rw [gA, List.getD_eq_getElem?_getD, List.getElem?_eq_getElem h]
  exact List.getElem_mem h
def perA (as : List An) (p : List Nat) : List An := p.map (gA as)
section
variable {w h bw bh g : Int} {s : List Sd}
theorem lc_per {as : List An} {p : List Nat} (hp : ∀ i, i ∈ p → i < as.length) (ρ : Rho) (k m : Nat) (h1 : ∀ d, (ρ.set m (some d))[k]? = some (some (.lst (as.map An.d)))) (hm : m < ρ.length) :
    lcS (tgRN m) bTrue (sOp dIx (sV k) (sV m)) ρ (p.map iD) = some ((perA as p).map An.d) := by
  have e := lc_mapf (t := tgRN m) (elt := sOp dIx (sV k) (sV m)) (ρ := ρ) iD (fun i => (gA as i).d) p fun i hi => by
    refine ⟨_, rfl, ?_⟩
    have g1 := h1 (iD i)
    have g2 : (ρ.set m (some (iD i)))[m]? = some (some (iD i)) := List.getElem?_set_self hm
    have g3 : dIx (.lst (as.map An.d)) (iD i) = some (gA as i).d := at_gA (hp i hi)
    generalize ρ.set m (some (iD i)) = r at *
    simp [g1, g2, g3, -v_ixL]
  rw [e, perA, List.map_map]
  rfl
def shF (w h bw bh g : Int) (s : List Sd) (as : List An) (p : List Nat) : Int := (shown w h bw bh g s (perA as p) : Nat)
theorem p_find_best (o : OkS w h bw bh g s) (as : List An) (ha : ∀ a, a ∈ as → a.ok w h) (hl : as.length ≤ 3) :
    f_find_best [stD w h bw bh g s, .lst (as.map An.d)] = some (.ok (prD' (shF w h bw bh g s as) (bst (shF w h bw bh g s as) (ordH as.length) (ordT as.length)))) := by
  have e1 := p_check_anchors o as ha (by omega)
  have e2 := p_all_orders as.length hl
  have lt := ord_lt as.length hl
  have ln := ord_len as.length
  have hi : ∀ p, p ∈ ordN as.length → (∀ i, i ∈ p → i < as.length) ∧ p.length ≤ 3 := fun p hp => ⟨fun i hi => of_decide_eq_true (List.all_eq_true.mp (List.all_eq_true.mp lt p hp) i hi), of_decide_eq_true (List.all_eq_true.mp ln.1 p hp)⟩
  obtain ⟨L, _⟩ := for_fold (t := tgN 3) (b := sAft [3] (sApp [] 2 (sTup (sCons (sOp dSub (sC (.int 0)) (sFn 2 f_find_shown (sCons (sV 0) (sCons (sOfL (sLc (sSeqItems (sV 3)) [4] (tgRN 4) bTrue (sOp dIx (sV 1) (sV 4)))) sNil)))) (sCons (sV 3) sNil)))))
    pD (fun acc : List D => [.dat (stD w h bw bh g s), .dat (.lst (as.map An.d)), .own (.lst acc), .no, .no]) (fun acc p => acc ++ [prD' (shF w h bw bh g s as) p]) (fun acc k => acc.length + k ≤ 6) (ordN as.length) [] (by simpa using ln.2) fun p hp acc k hk => by
      refine ⟨by simp; omega, _, rfl, ?_⟩
      have pl := (hi p hp).2
      have m := lc_per (as := as) (p := p) (hi p hp).1 [some (stD w h bw bh g s), some (.lst (as.map An.d)), none, some (pD p), none] 1 4 (fun _ => rfl) (by simp)
      have e3 := p_find_shown o (perA as p) (fun a hm => by
        obtain ⟨i, hi', rfl⟩ := List.mem_map.mp hm
        exact ha _ (gA_mem ((hi p hp).1 i hi'))) (by rw [perA, List.length_map]; omega)
      have it : itemsOf (pD p) = some (p.map iD) := rfl
      simp [m, e3, it, show p.length ≤ 1000000 by omega, show acc.length + 1 ≤ 1000000 by omega, lf, lfAll, lf_pD, prD', shF]
  rw [show (ordN as.length).foldl (fun acc p => acc ++ [prD' (shF w h bw bh g s as) p]) [] = (ordN as.length).map (prD' (shF w h bw bh g s as)) from by
    have : ∀ (l : List (List Nat)) (acc : List D), l.foldl (fun acc p => acc ++ [prD' (shF w h bw bh g s as) p]) acc = acc ++ l.map (prD' (shF w h bw bh g s as)) := fun l => by
      induction l with
      | nil => intro acc; simp
      | cons x l ih => intro acc; rw [List.foldl_cons, ih]; simp
    rw [this, List.nil_append]] at L
  have mm := min_ord (shF w h bw bh g s as) as.length
  have h4 : ¬ ((4 : Int) < as.length) := by omega
  rw [f_find_best, runD_fin]
  unfold b_find_best
  refine fin_run [.dat (stD w h bw bh g s), .dat (.lst (as.map An.d)), .no, .no, .no] (by simp [e1]) ?_
  refine fin_run [.dat (stD w h bw bh g s), .dat (.lst (as.map An.d)), .no, .no, .no] (by simp [h4]) ?_
  refine fin_run [.dat (stD w h bw bh g s), .dat (.lst (as.map An.d)), .own (.lst []), .no, .no] (by simp [lfAll]) ?_
  refine fin_run [.dat (stD w h bw bh g s), .dat (.lst (as.map An.d)), .own (.lst ((ordN as.length).map (prD' (shF w h bw bh g s as)))), .no, .no] (by simp [e2, L]) ?_
  simp [mm]
def bestP (w h bw bh g : Int) (s : List Sd) (as : List An) : List Nat := bst (shF w h bw bh g s as) (ordH as.length) (ordT as.length)
theorem p_best_order (o : OkS w h bw bh g s) (as : List An) (ha : ∀ a, a ∈ as → a.ok w h) (hl : as.length ≤ 3) :
    f_best_order [stD w h bw bh g s, .lst (as.map An.d)] = some (.ok (pD (bestP w h bw bh g s as))) := by
  have e := p_find_best o as ha hl
  have i : dIx (prD' (shF w h bw bh g s as) (bestP w h bw bh g s as)) (.int 1) = some (pD (bestP w h bw bh g s as)) := rfl
  unfold bestP at i ⊢
  generalize bst (shF w h bw bh g s as) (ordH as.length) (ordT as.length) = p at *
  generalize prD' (shF w h bw bh g s as) p = X at *
  simp [f_best_order, b_best_order, e, i]
/-! ### pairs -/
def stp2 (f : Nat → Nat → Bool) (i : Nat) (acc : List D) (k : Nat) : List D := if f i (i + 1 + k) = true then acc ++ [.tup [.int (i : Int), .int ((i : Int) + 1 + (k : Int))]] else acc
def stp1 (f : Nat → Nat → Bool) (n : Nat) (acc : List D) (i : Nat) : List D := (List.range (n - (i + 1))).foldl (stp2 f i) acc
def pairsL (f : Nat → Nat → Bool) (n : Nat) : List D := (List.range n).foldl (stp1 f n) []
def isPr (d : D) : Prop := ∃ i j : Int, d = .tup [.int i, .int j]
theorem stp2_ok (f : Nat → Nat → Bool) (i : Nat) : ∀ (l : List Nat) (acc : List D), (∀ d, d ∈ acc → isPr d) → (∀ d, d ∈ l.foldl (stp2 f i) acc → isPr d) ∧ (l.foldl (stp2 f i) acc).length ≤ acc.length + l.length
  | [], acc, h => ⟨h, by simp⟩
  | k :: l, acc, h => by
    have h1 : (∀ d, d ∈ stp2 f i acc k → isPr d) ∧ (stp2 f i acc k).length ≤ acc.length + 1 := by
      unfold stp2
      split
      · refine ⟨fun d hd => ?_, by simp⟩
        rcases List.mem_append.mp hd with hd | hd
        · exact h d hd
        · exact ⟨_, _, by simpa using hd⟩
      · exact ⟨h, by omega⟩
    obtain ⟨h2, h3⟩ := stp2_ok f i l _ h1.1
    refine ⟨h2, ?_⟩
    rw [List.foldl_cons, List.length_cons]
    have := h1.2
    omega
theorem stp1_ok (f : Nat → Nat → Bool) (n : Nat) : ∀ (l : List Nat) (acc : List D), (∀ d, d ∈ acc → isPr d) → (∀ d, d ∈ l.foldl (stp1 f n) acc → isPr d) ∧ (l.foldl (stp1 f n) acc).length ≤ acc.length + l.length * n
  | [], acc, h => ⟨h, by simp⟩
  | k :: l, acc, h => by
    obtain ⟨h1, h1'⟩ := stp2_ok f k (List.range (n - (k + 1))) acc h
    obtain ⟨h2, h3⟩ := stp1_ok f n l (stp1 f n acc k) h1
    refine ⟨h2, ?_⟩
    rw [List.foldl_cons, List.length_cons, Nat.succ_mul]
    rw [List.length_range] at h1'
    have : (stp1 f n acc k).length ≤ acc.length + n := by
      unfold stp1; omega
    omega
theorem pairs_ok (f : Nat → Nat → Bool) (n : Nat) : okN 10 (.lst (pairsL f n)) = true := by
  show (pairsL f n).all (okN 9) = true
  refine List.all_eq_true.mpr fun d hd => ?_
  obtain ⟨i, j, rfl⟩ := (stp1_ok f n (List.range n) [] (fun _ h => nomatch h)).1 d hd
  rfl
theorem prs_lf {l : List D} (h : ∀ d, d ∈ l → isPr d) : lfAll l = true := lfAll_of fun d hd => by
  obtain ⟨i, j, rfl⟩ := h d hd
  rfl
def apart (w h bw bh g : Int) (s : List Sd) (as : List An) (i j : Nat) : Bool := decide (shown w h bw bh g s [gA as i, gA as j] < 2)
theorem enD_zip (f : An → D) : ∀ (l : List An) (k : Nat), enD k (l.map f) = (l.zipIdx k).map fun p => D.tup [.int (p.2 : Int), f p.1]
  | [], _ => rfl
  | a :: l, k => by
    rw [List.zipIdx_cons, List.map_cons, List.map_cons, enD, enD_zip f l (k + 1)]
theorem rgD_map (lo : Int) (n : Nat) : rgD lo n = (List.range n).map fun (i : Nat) => D.int (lo + (i : Int)) := rfl
theorem way_in (o : OkS w h bw bh g s) (as : List An) (ha : ∀ a, a ∈ as → a.ok w h) (hl : as.length ≤ 6) (i : Nat) (hi : i < as.length) (acc : List D) (hacc : acc.length ≤ 50) :
    forS (tgN 5) (sAft [5] (sIf [] (toB (sOp dLt (sFn 2 f_find_shown (sCons (sV 0) (sCons (sOfL (sLst (sCons (sV 4) (sCons (sOp dIx (sV 1) (sV 5)) sNil)))) sNil))) (sC (.int 2)))) (sApp [] 2 (sTup (sCons (sV 3) (sCons (sV 5) sNil)))) sNext))
      ((List.range (as.length - (i + 1))).map fun (q : Nat) => D.int ((i : Int) + 1 + (q : Int))) [.dat (stD w h bw bh g s), .dat (.lst (as.map An.d)), .own (.lst acc), .dat (.int (i : Int)), .dat (gA as i).d, .no] =
    some (.nx [.dat (stD w h bw bh g s), .dat (.lst (as.map An.d)), .own (.lst ((List.range (as.length - (i + 1))).foldl (stp2 (apart w h bw bh g s as) i) acc)), .dat (.int (i : Int)), .dat (gA as i).d, .no]) := by
  refine (for_fold (fun (q : Nat) => D.int ((i : Int) + 1 + (q : Int))) (fun acc : List D => [.dat (stD w h bw bh g s), .dat (.lst (as.map An.d)), .own (.lst acc), .dat (.int (i : Int)), .dat (gA as i).d, .no]) (stp2 (apart w h bw bh g s as) i) (fun acc k => acc.length + k ≤ 100) (List.range (as.length - (i + 1))) acc (by rw [List.length_range]; omega) fun q hq acc k hk => ?_).1
  rw [List.mem_range] at hq
  have hj : i + 1 + q < as.length := by omega
  have gj := at_gA hj
  have ej : ((i + 1 + q : Nat) : Int) = (i : Int) + 1 + (q : Int) := by omega
  rw [ej] at gj
  have e3 := p_find_shown o [gA as i, gA as (i + 1 + q)] (fun b hb => by
    rcases List.mem_cons.mp hb with rfl | hb
    · exact ha _ (gA_mem hi)
    · rcases List.mem_cons.mp hb with rfl | hb
      · exact ha _ (gA_mem hj)
      · cases hb) (by simp)
  have ap : apart w h bw bh g s as i (i + 1 + q) = decide (shown w h bw bh g s [gA as i, gA as (i + 1 + q)] < 2) := rfl
  rw [List.map_cons, List.map_cons, List.map_nil] at e3
  have len1 : (stp2 (apart w h bw bh g s as) i acc q).length + k ≤ 100 := by
    unfold stp2
    split
    · rw [List.length_append, List.length_singleton]; omega
    · omega
  refine ⟨len1, _, rfl, ?_⟩
  unfold stp2
  rw [ap]
  have ha1 : acc.length + 1 ≤ 1000000 := by omega
  generalize shown w h bw bh g s [gA as i, gA as (i + 1 + q)] = S at *
  by_cases c : S < 2
  · have c' : (S : Int) < 2 := by omega
    simp [gj, e3, c, c', lf, lfAll, ha1]
  · have c' : ¬ ((S : Int) < 2) := by omega
    simp [gj, e3, c, c']
theorem t_s (N I : Int) (A S c a R : D) (r : List D) (b1 : (-1000000 : Int) ≤ I + 1) (b2 : I + 1 ≤ 1000000) (b3 : (-1000000 : Int) ≤ N) (b4 : N ≤ 1000000) (l : List D) (hlen : dLen [.lst l] = some (.int N)) {b : Ss} (L2 : forS (tgN 5) b (rgD (I + 1) (N - (I + 1)).toNat) [.dat S, .dat (.lst l), .own A, .dat (.int I), .dat a, .no] = some (.nx [.dat S, .dat (.lst l), .own R, .dat (.int I), .dat a, .no])) :
  sAft [3, 4, 5] (sFor [] (sRange (sCons (sOp dAdd (sV 3) (sC (.int 1))) (sCons (sCall dLen (sCons (sV 1) sNil)) sNil))) (tgN 5) b) [.dat S, .dat (.lst l), .own A, .dat (.int I), .dat a, .no] = some (.nx [.dat S, .dat (.lst l), .own R, .no, .no, .no]) := by
  refine run_aft [.dat S, .dat (.lst l), .own R, .dat (.int I), .dat a, .no] ?_ rfl
  simp [L2, b1, b2, b3, b4, hlen, -v_lenL]
theorem t_b (as : List An) (hl : as.length ≤ 6) (i : Nat) (hi : i < as.length) : (-1000000 : Int) ≤ (i : Int) + 1 ∧ (i : Int) + 1 ≤ 1000000 ∧ (-1000000 : Int) ≤ as.length ∧ (as.length : Int) ≤ 1000000 := by omega
theorem t_er (as : List An) (hl : as.length ≤ 6) (i : Nat) (hi : i < as.length) : rgD ((i : Int) + 1) ((as.length : Int) - ((i : Int) + 1)).toNat = (List.range (as.length - (i + 1))).map fun (q : Nat) => D.int ((i : Int) + 1 + (q : Int)) := by
  rw [rgD_map, show ((as.length : Int) - ((i : Int) + 1)).toNat = as.length - (i + 1) by omega]
theorem way_out (o : OkS w h bw bh g s) (as : List An) (ha : ∀ a, a ∈ as → a.ok w h) (hl : as.length ≤ 6) (i : Nat) (hi : i < as.length) (acc : List D) (hacc : acc.length ≤ 50) :
    sAft [3, 4, 5] (sFor [] (sRange (sCons (sOp dAdd (sV 3) (sC (.int 1))) (sCons (sCall dLen (sCons (sV 1) sNil)) sNil))) (tgN 5)
    (sAft [5] (sIf [] (toB (sOp dLt (sFn 2 f_find_shown (sCons (sV 0) (sCons (sOfL (sLst (sCons (sV 4) (sCons (sOp dIx (sV 1) (sV 5)) sNil)))) sNil))) (sC (.int 2)))) (sApp [] 2 (sTup (sCons (sV 3) (sCons (sV 5) sNil)))) sNext))) [.dat (stD w h bw bh g s), .dat (.lst (as.map An.d)), .own (.lst acc), .dat (.int (i : Int)), .dat (gA as i).d, .no] =
    some (.nx [.dat (stD w h bw bh g s), .dat (.lst (as.map An.d)), .own (.lst (stp1 (apart w h bw bh g s as) as.length acc i)), .no, .no, .no]) := by
  have L2 := way_in o as ha hl i hi acc hacc
  rw [← t_er as hl i hi] at L2
  obtain ⟨b1, b2, b3, b4⟩ := t_b as hl i hi
  unfold stp1
  exact t_s _ _ _ _ .non _ _ [] b1 b2 b3 b4 _ (by rw [v_lenL, List.length_map]) L2
theorem p_in_way (o : OkS w h bw bh g s) (as : List An) (ha : ∀ a, a ∈ as → a.ok w h) (hl : as.length ≤ 6) :
    f_in_each_others_way [stD w h bw bh g s, .lst (as.map An.d)] = some (.ok (.lst (pairsL (apart w h bw bh g s as) as.length))) := by
  have e1 := p_check_anchors o as ha hl
  have i0 : ([] : List D).length + as.zipIdx.length * 6 ≤ 36 := by rw [List.length_zipIdx, List.length_nil]; omega
  have L := (for_fold (t := tgT [3, 4]) (b := sAft [3, 4, 5] (sFor [] (sRange (sCons (sOp dAdd (sV 3) (sC (.int 1))) (sCons (sCall dLen (sCons (sV 1) sNil)) sNil))) (tgN 5)
    (sAft [5] (sIf [] (toB (sOp dLt (sFn 2 f_find_shown (sCons (sV 0) (sCons (sOfL (sLst (sCons (sV 4) (sCons (sOp dIx (sV 1) (sV 5)) sNil)))) sNil))) (sC (.int 2)))) (sApp [] 2 (sTup (sCons (sV 3) (sCons (sV 5) sNil)))) sNext))))
    (fun p : An × Nat => D.tup [.int (p.2 : Int), p.1.d]) (fun acc : List D => [.dat (stD w h bw bh g s), .dat (.lst (as.map An.d)), .own (.lst acc), .no, .no, .no]) (fun acc p => stp1 (apart w h bw bh g s as) as.length acc p.2) (fun acc k => acc.length + k * 6 ≤ 36 ∧ ∀ d, d ∈ acc → isPr d) as.zipIdx [] ⟨i0, fun _ h => nomatch h⟩ fun p hp acc k hk => by
      obtain ⟨hk1, hk2⟩ := hk
      obtain ⟨a, i⟩ := p
      have hm : i < as.length ∧ gA as i = a := by
        have := List.mem_zipIdx hp
        obtain ⟨_, h2, h3⟩ := this
        have h2 : i < as.length := by omega
        refine ⟨h2, ?_⟩
        rw [gA, List.getD_eq_getElem?_getD, List.getElem?_eq_getElem h2]
        simpa using h3.symm
      obtain ⟨hi, rfl⟩ := hm
      have g2 := stp2_ok (apart w h bw bh g s as) i (List.range (as.length - (i + 1))) acc hk2
      rw [List.length_range] at g2
      have hs : stp1 (apart w h bw bh g s as) as.length acc i = (List.range (as.length - (i + 1))).foldl (stp2 (apart w h bw bh g s as) i) acc := rfl
      rw [← hs] at g2
      refine ⟨⟨?_, g2.1⟩, _, rfl, way_out o as ha hl i hi acc (by omega)⟩
      have := g2.2
      show (stp1 _ _ acc i).length + k * 6 ≤ 36
      omega).1
  have ez : as.zipIdx.foldl (fun acc p => stp1 (apart w h bw bh g s as) as.length acc p.2) [] = pairsL (apart w h bw bh g s as) as.length := by
    have : as.zipIdx.map Prod.snd = List.range as.length := by rw [List.zipIdx_map_snd, List.range_eq_range']
    rw [pairsL, ← this, List.foldl_map]
  rw [ez, ← enD_zip] at L
  generalize pairsL (apart w h bw bh g s as) as.length = R at *
  rw [f_in_each_others_way, runD_fin]
  unfold b_in_each_others_way
  refine fin_run [.dat (stD w h bw bh g s), .dat (.lst (as.map An.d)), .no, .no, .no, .no] (by simp [e1]) ?_
  refine fin_run [.dat (stD w h bw bh g s), .dat (.lst (as.map An.d)), .own (.lst []), .no, .no, .no] (by simp [lfAll]) ?_
  refine fin_run [.dat (stD w h bw bh g s), .dat (.lst (as.map An.d)), .own (.lst R), .no, .no, .no] (by simp [L]) ?_
  simp
end
end Pk
namespace Pk
open PySem Dl
def Asc (x : Str) : Prop := ∀ c, c ∈ TL.tl x → c < 128
theorem Asc.lay {x : Str} (h : Asc x) : PyData.canLay0 (.str x) = true := by
  show x.cps.all (fun c => decide (c < 0x110000)) = true
  rw [← Array.all_toList, List.all_eq_true]
  intro c hc
  have := h c hc
  exact decide_eq_true (by omega)
theorem Asc.ok {x : Str} (h : Asc x) (n : Nat) : okN (n + 1) (.str x) = true := h.lay
theorem Asc.app {x y : Str} (h : Asc x) (h2 : Asc y) : Asc (x ++ y) := fun c hc => by
  rw [TL.tl_append] at hc
  rcases List.mem_append.mp hc with q | q
  · exact h c q
  · exact h2 c q
theorem len_app (x y : Str) : (x ++ y).length = x.length + y.length := by
  rw [TL.len_tl, TL.len_tl, TL.len_tl, TL.tl_append, List.length_append]
theorem v_addS {x y : Str} (h : x.length + y.length ≤ 1000000) : dAdd (.str x) (.str y) = some (.str (x ++ y)) := by
  show (if okLen (x.length + y.length) then _ else _) = _
  rw [if_pos (show okLen (x.length + y.length) = true from decide_eq_true h)]
theorem rg_nat (n : Nat) : rgD 0 n = (List.range n).map fun (i : Nat) => D.int (i : Int) := by simp [rgD]
/-- a cell's sign -/
def sgF (p q : Bool) : Str := if p then "@" else if q then "#" else "."
theorem sg_len (p q : Bool) : (sgF p q).length = 1 := by cases p <;> cases q <;> decide +kernel
theorem sg_asc (p q : Bool) : Asc (sgF p q) := by
  have : ∀ p q, ((TL.tl (sgF p q)).all fun c => decide (c < 128)) = true := by intro p q; cases p <;> cases q <;> decide +kernel
  intro c hc
  exact of_decide_eq_true (List.all_eq_true.mp (this p q) c hc)
def cellF (l t sw sh X Y bw bh : Int) (y x : Nat) : Str := sgF (coB x y 1 1 l t sw sh) (coB x y 1 1 X Y bw bh)
def rowF (f : Nat → Str) (n : Nat) : Str := (List.range n).foldl (fun r x => r ++ f x) ""
def rowsF (f : Nat → Nat → Str) (n m : Nat) : List Str := (List.range m).foldl (fun rs y => rs ++ [rowF (f y) n]) []
def IR (r : Str) (k : Nat) : Prop := r.length + k ≤ 1000 ∧ Asc r
def IRs (rs : List Str) (k : Nat) : Prop := rs.length + k ≤ 1000 ∧ ∀ r, r ∈ rs → Asc r
theorem asc_nil : Asc "" := by
  have : (TL.tl ("" : Str)) = [] := by decide +kernel
  intro c hc
  rw [this] at hc
  cases hc
theorem len_nil : ("" : Str).length = 0 := by decide +kernel
theorem IR.step {r : Str} {k : Nat} (h : IR r (k + 1)) (p q : Bool) : IR (r ++ sgF p q) k := ⟨by rw [len_app, sg_len]; have := h.1; omega, h.2.app (sg_asc p q)⟩
theorem IR.add {r : Str} {k : Nat} (h : IR r (k + 1)) (p q : Bool) : dAdd (.str r) (.str (sgF p q)) = some (.str (r ++ sgF p q)) := v_addS (by rw [sg_len]; have := h.1; omega)
theorem IRs.step {rs : List Str} {k : Nat} (h : IRs rs (k + 1)) {r : Str} (hr : Asc r) : IRs (rs ++ [r]) k := ⟨by rw [List.length_append]; have := h.1; simp; omega, fun z hz => by
  rcases List.mem_append.mp hz with q | q
  · exact h.2 z q
  · rw [List.mem_singleton] at q; exact q ▸ hr⟩
theorem ov_cell {x y l t sw sh : Int} (a1 : 0 < sw) (b1 : 0 < sh) : dGt (.int (ovl x y 1 1 l t sw sh)) (.int 0) = some (.bl (coB x y 1 1 l t sw sh)) := by
  rw [co_ovl (by decide) (by decide) a1 b1]
  rfl
theorem runR_step {a : Ss} {b : Sr} {ρ : Sig} (ρ' : Sig) {o : Option (List D)} (h : a ρ = some (.nx ρ')) (h2 : b ρ' = o) : sSeqR a b ρ = o := by
  unfold sSeqR; rw [h]; exact h2
section
variable {w h bw bh g l t sw sh : Int} {s : List Sd}
theorem p_picture (o : OkS w h bw bh g s) (a : OkA w h l t sw sh) {X Y : Int} (ep : f_find_place [stD w h bw bh g s, anD l t sw sh] = some (.ok (anD X Y bw bh))) :
    f_picture [stD w h bw bh g s, anD l t sw sh] = some (.ok (.lst ((rowsF (cellF l t sw sh X Y bw bh) w.toNat h.toNat).map D.str))) ∧ IRs (rowsF (cellF l t sw sh X Y bw bh) w.toNat h.toNat) 0 := by
  have ec := p_check_both o a
  have w2 := o.w2; have h2 := o.h2; have w1 := o.w1; have h1 := o.h1
  have inner : ∀ (rs : List Str) (y : Nat), forS (tgN 6) (sAft [6, 7, 8] (sSeq (sSet [] 7 (sTup (sCons (sV 6) (sCons (sV 4) (sCons (sC (.int 1)) (sCons (sC (.int 1)) sNil))))))
    (sSeq (sSet [] 8 (sIfE (toB (sOp dGt (sFn 2 f_overlap (sCons (sV 7) (sCons (sV 2) sNil))) (sC (.int 0)))) (sC (.str "#")) (sC (.str "."))))
    (sSet [] 5 (sOp dAdd (sV 5) (sIfE (toB (sOp dGt (sFn 2 f_overlap (sCons (sV 7) (sCons (sV 1) sNil))) (sC (.int 0)))) (sC (.str "@")) (sV 8)))))))
      ((List.range w.toNat).map fun (i : Nat) => D.int (i : Int)) [.dat (stD w h bw bh g s), .dat (anD l t sw sh), .dat (anD X Y bw bh), .own (.lst (rs.map D.str)), .dat (.int (y : Int)), .dat (.str ""), .no, .no, .no]
      = some (.nx [.dat (stD w h bw bh g s), .dat (anD l t sw sh), .dat (anD X Y bw bh), .own (.lst (rs.map D.str)), .dat (.int (y : Int)), .dat (.str (rowF (cellF l t sw sh X Y bw bh y) w.toNat)), .no, .no, .no]) ∧ IR (rowF (cellF l t sw sh X Y bw bh y) w.toNat) 0 := fun rs y => by
    refine for_fold (fun (i : Nat) => D.int (i : Int)) (fun r => [.dat (stD w h bw bh g s), .dat (anD l t sw sh), .dat (anD X Y bw bh), .own (.lst (rs.map D.str)), .dat (.int (y : Int)), .dat (.str r), .no, .no, .no]) (fun r x => r ++ cellF l t sw sh X Y bw bh y x) IR (List.range w.toNat) "" ⟨by rw [len_nil, List.length_range]; omega, asc_nil⟩ fun x hx r k hI => ⟨hI.step _ _, _, rfl, ?_⟩
    have hI' := hI.add (coB x y 1 1 l t sw sh) (coB x y 1 1 X Y bw bh)
    have e1 := p_overlap (l := x) (t := y) (sw := 1) (sh := 1) (x := X) (y := Y) (bw := bw) (bh := bh) (by decide) (by decide)
    have e2 := p_overlap (l := x) (t := y) (sw := 1) (sh := 1) (x := l) (y := t) (bw := sw) (bh := sh) (by decide) (by decide)
    have g1 := ov_cell (x := x) (y := y) (l := X) (t := Y) (sw := bw) (sh := bh) (by have := o.bw1; omega) (by have := o.bh1; omega)
    have g2 := ov_cell (x := x) (y := y) (l := l) (t := t) (sw := sw) (sh := sh) (by have := a.sw1; omega) (by have := a.sh1; omega)
    show _ = some (Fl.nx [SL.dat (stD w h bw bh g s), SL.dat (anD l t sw sh), SL.dat (anD X Y bw bh), SL.own (.lst (rs.map D.str)), SL.dat (D.int (y : Int)), SL.dat (D.str (r ++ sgF (coB x y 1 1 l t sw sh) (coB x y 1 1 X Y bw bh))), SL.no, SL.no, SL.no])
    generalize stD w h bw bh g s = ST at *
    generalize ovl x y 1 1 X Y bw bh = V1 at *
    generalize ovl x y 1 1 l t sw sh = V2 at *
    generalize coB x y 1 1 l t sw sh = B1 at *
    generalize coB x y 1 1 X Y bw bh = B2 at *
    generalize rs.map D.str = RS at *
    refine run_aft [.dat ST, .dat (anD l t sw sh), .dat (anD X Y bw bh), .own (.lst RS), .dat (.int (y : Int)), .dat (.str (r ++ sgF B1 B2)), .dat (.int (x : Int)), .dat (anD x y 1 1), .dat (.str (if B2 then "#" else "."))] (run_seq [.dat ST, .dat (anD l t sw sh), .dat (anD X Y bw bh), .own (.lst RS), .dat (.int (y : Int)), .dat (.str r), .dat (.int (x : Int)), .dat (anD x y 1 1), .no] (by simp) ?_) (by simp [killS])
    cases B1 <;> cases B2 <;> simp only [sgF, if_true, if_false, Bool.false_eq_true] at hI' ⊢ <;> simp [e1, e2, g1, g2, hI']
  have outer := for_fold (t := tgN 4) (b := sAft [4, 5, 6, 7, 8] (sSeq (sSet [] 5 (sC (.str "")))
    (sSeq (sFor [] (sRange (sCons (sOp dIx (sOp dIx (sV 0) (sC (.int 0))) (sC (.int 0))) sNil)) (tgN 6)
    (sAft [6, 7, 8] (sSeq (sSet [] 7 (sTup (sCons (sV 6) (sCons (sV 4) (sCons (sC (.int 1)) (sCons (sC (.int 1)) sNil))))))
    (sSeq (sSet [] 8 (sIfE (toB (sOp dGt (sFn 2 f_overlap (sCons (sV 7) (sCons (sV 2) sNil))) (sC (.int 0)))) (sC (.str "#")) (sC (.str "."))))
    (sSet [] 5 (sOp dAdd (sV 5) (sIfE (toB (sOp dGt (sFn 2 f_overlap (sCons (sV 7) (sCons (sV 1) sNil))) (sC (.int 0)))) (sC (.str "@")) (sV 8))))))))
    (sApp [] 3 (sV 5))))) (fun (i : Nat) => D.int (i : Int)) (fun rs => [.dat (stD w h bw bh g s), .dat (anD l t sw sh), .dat (anD X Y bw bh), .own (.lst (rs.map D.str)), .no, .no, .no, .no, .no]) (fun rs y => rs ++ [rowF (cellF l t sw sh X Y bw bh y) w.toNat]) IRs (List.range h.toNat) [] ⟨by rw [List.length_range]; simp; omega, by intro r hr; cases hr⟩ fun y hy rs k hI => by
      obtain ⟨e, hr⟩ := inner rs y
      refine ⟨hI.step hr.2, _, rfl, ?_⟩
      refine run_aft [.dat (stD w h bw bh g s), .dat (anD l t sw sh), .dat (anD X Y bw bh), .own (.lst ((rs ++ [rowF (cellF l t sw sh X Y bw bh y) w.toNat]).map D.str)), .dat (.int (y : Int)), .dat (.str (rowF (cellF l t sw sh X Y bw bh y) w.toNat)), .no, .no, .no] (run_seq [.dat (stD w h bw bh g s), .dat (anD l t sw sh), .dat (anD X Y bw bh), .own (.lst (rs.map D.str)), .dat (.int (y : Int)), .dat (.str ""), .no, .no, .no] (by simp) (run_seq [.dat (stD w h bw bh g s), .dat (anD l t sw sh), .dat (anD X Y bw bh), .own (.lst (rs.map D.str)), .dat (.int (y : Int)), .dat (.str (rowF (cellF l t sw sh X Y bw bh y) w.toNat)), .no, .no, .no] ?_ ?_)) ?_
      · rw [e_For]
        simp [e_Range, rg_nat]
        have q1 : (-1000000 : Int) ≤ w := by omega
        have q2 : w ≤ 1000000 := by omega
        simp [q1, q2]
        exact e
      · have := hI.1
        have q : rs.length ≤ 999999 := by omega
        simp [q, lf]
      · simp [killS]
  obtain ⟨eo, hI⟩ := outer
  refine ⟨?_, hI⟩
  show f_picture [stD w h bw bh g s, anD l t sw sh] = some (.ok (.lst ((rowsF (cellF l t sw sh X Y bw bh) w.toNat h.toNat).map D.str)))
  rw [f_picture, runD_fin]
  unfold b_picture
  refine fin_run [.dat (stD w h bw bh g s), .dat (anD l t sw sh), .no, .no, .no, .no, .no, .no, .no] (by simp [ec]) ?_
  refine fin_run [.dat (stD w h bw bh g s), .dat (anD l t sw sh), .dat (anD X Y bw bh), .own (.lst []), .no, .no, .no, .no, .no] (by simp [ep, parS]) ?_
  refine fin_run [.dat (stD w h bw bh g s), .dat (anD l t sw sh), .dat (anD X Y bw bh), .own (.lst ((rowsF (cellF l t sw sh X Y bw bh) w.toNat h.toNat).map D.str)), .no, .no, .no, .no, .no] ?_ ?_
  · rw [e_For]
    have q1 : (-1000000 : Int) ≤ h := by omega
    have q2 : h ≤ 1000000 := by omega
    simp [e_Range, rg_nat, q1, q2]
    exact eo
  · have : lfAll ((rowsF (cellF l t sw sh X Y bw bh) w.toNat h.toNat).map D.str) = true := lfAll_of fun d hd => by
      obtain ⟨z, _, rfl⟩ := List.mem_map.mp hd
      rfl
    generalize (rowsF (cellF l t sw sh X Y bw bh) w.toNat h.toNat).map D.str = R at *
    simp [this, lf]
theorem p_R_picture (o : OkS w h bw bh g s) (a : OkA w h l t sw sh) {X Y : Int} (ep : f_find_place [stD w h bw bh g s, anD l t sw sh] = some (.ok (anD X Y bw bh))) :
    f_R_picture [stD w h bw bh g s, anD l t sw sh] = some ((rowsF (cellF l t sw sh X Y bw bh) w.toNat h.toNat).map D.str) ∧ IRs (rowsF (cellF l t sw sh X Y bw bh) w.toNat h.toNat) 0 := by
  have ec := p_check_both o a
  have w2 := o.w2; have h2 := o.h2; have w1 := o.w1; have h1 := o.h1
  have inner : ∀ (rs : List Str) (y : Nat), forS (tgN 6) (sAft [6, 7, 8] (sSeq (sSet [] 7 (sTup (sCons (sV 6) (sCons (sV 4) (sCons (sC (.int 1)) (sCons (sC (.int 1)) sNil))))))
    (sSeq (sSet [] 8 (sIfE (toB (sOp dGt (sFn 2 f_overlap (sCons (sV 7) (sCons (sV 2) sNil))) (sC (.int 0)))) (sC (.str "#")) (sC (.str "."))))
    (sSet [] 5 (sOp dAdd (sV 5) (sIfE (toB (sOp dGt (sFn 2 f_overlap (sCons (sV 7) (sCons (sV 1) sNil))) (sC (.int 0)))) (sC (.str "@")) (sV 8)))))))
      ((List.range w.toNat).map fun (i : Nat) => D.int (i : Int)) [.dat (stD w h bw bh g s), .dat (anD l t sw sh), .dat (anD X Y bw bh), .own (.lst (rs.map D.str)), .dat (.int (y : Int)), .dat (.str ""), .no, .no, .no]
      = some (.nx [.dat (stD w h bw bh g s), .dat (anD l t sw sh), .dat (anD X Y bw bh), .own (.lst (rs.map D.str)), .dat (.int (y : Int)), .dat (.str (rowF (cellF l t sw sh X Y bw bh y) w.toNat)), .no, .no, .no]) ∧ IR (rowF (cellF l t sw sh X Y bw bh y) w.toNat) 0 := fun rs y => by
    refine for_fold (fun (i : Nat) => D.int (i : Int)) (fun r => [.dat (stD w h bw bh g s), .dat (anD l t sw sh), .dat (anD X Y bw bh), .own (.lst (rs.map D.str)), .dat (.int (y : Int)), .dat (.str r), .no, .no, .no]) (fun r x => r ++ cellF l t sw sh X Y bw bh y x) IR (List.range w.toNat) "" ⟨by rw [len_nil, List.length_range]; omega, asc_nil⟩ fun x hx r k hI => ⟨hI.step _ _, _, rfl, ?_⟩
    have hI' := hI.add (coB x y 1 1 l t sw sh) (coB x y 1 1 X Y bw bh)
    have e1 := p_overlap (l := x) (t := y) (sw := 1) (sh := 1) (x := X) (y := Y) (bw := bw) (bh := bh) (by decide) (by decide)
    have e2 := p_overlap (l := x) (t := y) (sw := 1) (sh := 1) (x := l) (y := t) (bw := sw) (bh := sh) (by decide) (by decide)
    have g1 := ov_cell (x := x) (y := y) (l := X) (t := Y) (sw := bw) (sh := bh) (by have := o.bw1; omega) (by have := o.bh1; omega)
    have g2 := ov_cell (x := x) (y := y) (l := l) (t := t) (sw := sw) (sh := sh) (by have := a.sw1; omega) (by have := a.sh1; omega)
    show _ = some (Fl.nx [SL.dat (stD w h bw bh g s), SL.dat (anD l t sw sh), SL.dat (anD X Y bw bh), SL.own (.lst (rs.map D.str)), SL.dat (D.int (y : Int)), SL.dat (D.str (r ++ sgF (coB x y 1 1 l t sw sh) (coB x y 1 1 X Y bw bh))), SL.no, SL.no, SL.no])
    generalize stD w h bw bh g s = ST at *
    generalize ovl x y 1 1 X Y bw bh = V1 at *
    generalize ovl x y 1 1 l t sw sh = V2 at *
    generalize coB x y 1 1 l t sw sh = B1 at *
    generalize coB x y 1 1 X Y bw bh = B2 at *
    generalize rs.map D.str = RS at *
    refine run_aft [.dat ST, .dat (anD l t sw sh), .dat (anD X Y bw bh), .own (.lst RS), .dat (.int (y : Int)), .dat (.str (r ++ sgF B1 B2)), .dat (.int (x : Int)), .dat (anD x y 1 1), .dat (.str (if B2 then "#" else "."))] (run_seq [.dat ST, .dat (anD l t sw sh), .dat (anD X Y bw bh), .own (.lst RS), .dat (.int (y : Int)), .dat (.str r), .dat (.int (x : Int)), .dat (anD x y 1 1), .no] (by simp) ?_) (by simp [killS])
    cases B1 <;> cases B2 <;> simp only [sgF, if_true, if_false, Bool.false_eq_true] at hI' ⊢ <;> simp [e1, e2, g1, g2, hI']
  have outer := for_fold (t := tgN 4) (b := sAft [4, 5, 6, 7, 8] (sSeq (sSet [] 5 (sC (.str "")))
    (sSeq (sFor [] (sRange (sCons (sOp dIx (sOp dIx (sV 0) (sC (.int 0))) (sC (.int 0))) sNil)) (tgN 6)
    (sAft [6, 7, 8] (sSeq (sSet [] 7 (sTup (sCons (sV 6) (sCons (sV 4) (sCons (sC (.int 1)) (sCons (sC (.int 1)) sNil))))))
    (sSeq (sSet [] 8 (sIfE (toB (sOp dGt (sFn 2 f_overlap (sCons (sV 7) (sCons (sV 2) sNil))) (sC (.int 0)))) (sC (.str "#")) (sC (.str "."))))
    (sSet [] 5 (sOp dAdd (sV 5) (sIfE (toB (sOp dGt (sFn 2 f_overlap (sCons (sV 7) (sCons (sV 1) sNil))) (sC (.int 0)))) (sC (.str "@")) (sV 8))))))))
    (sApp [] 3 (sV 5))))) (fun (i : Nat) => D.int (i : Int)) (fun rs => [.dat (stD w h bw bh g s), .dat (anD l t sw sh), .dat (anD X Y bw bh), .own (.lst (rs.map D.str)), .no, .no, .no, .no, .no]) (fun rs y => rs ++ [rowF (cellF l t sw sh X Y bw bh y) w.toNat]) IRs (List.range h.toNat) [] ⟨by rw [List.length_range]; simp; omega, by intro r hr; cases hr⟩ fun y hy rs k hI => by
      obtain ⟨e, hr⟩ := inner rs y
      refine ⟨hI.step hr.2, _, rfl, ?_⟩
      refine run_aft [.dat (stD w h bw bh g s), .dat (anD l t sw sh), .dat (anD X Y bw bh), .own (.lst ((rs ++ [rowF (cellF l t sw sh X Y bw bh y) w.toNat]).map D.str)), .dat (.int (y : Int)), .dat (.str (rowF (cellF l t sw sh X Y bw bh y) w.toNat)), .no, .no, .no] (run_seq [.dat (stD w h bw bh g s), .dat (anD l t sw sh), .dat (anD X Y bw bh), .own (.lst (rs.map D.str)), .dat (.int (y : Int)), .dat (.str ""), .no, .no, .no] (by simp) (run_seq [.dat (stD w h bw bh g s), .dat (anD l t sw sh), .dat (anD X Y bw bh), .own (.lst (rs.map D.str)), .dat (.int (y : Int)), .dat (.str (rowF (cellF l t sw sh X Y bw bh y) w.toNat)), .no, .no, .no] ?_ ?_)) ?_
      · rw [e_For]
        simp [e_Range, rg_nat]
        have q1 : (-1000000 : Int) ≤ w := by omega
        have q2 : w ≤ 1000000 := by omega
        simp [q1, q2]
        exact e
      · have := hI.1
        have q : rs.length ≤ 999999 := by omega
        simp [q, lf]
      · simp [killS]
  obtain ⟨eo, hI⟩ := outer
  refine ⟨?_, hI⟩
  show f_R_picture [stD w h bw bh g s, anD l t sw sh] = some ((rowsF (cellF l t sw sh X Y bw bh) w.toNat h.toNat).map D.str)
  unfold f_R_picture runR b_R_picture
  refine runR_step [.dat (stD w h bw bh g s), .dat (anD l t sw sh), .no, .no, .no, .no, .no, .no, .no] (by simp [ec]) ?_
  refine runR_step [.dat (stD w h bw bh g s), .dat (anD l t sw sh), .dat (anD X Y bw bh), .own (.lst []), .no, .no, .no, .no, .no] (by simp [ep, parS]) ?_
  refine runR_step [.dat (stD w h bw bh g s), .dat (anD l t sw sh), .dat (anD X Y bw bh), .own (.lst ((rowsF (cellF l t sw sh X Y bw bh) w.toNat h.toNat).map D.str)), .no, .no, .no, .no, .no] ?_ ?_
  · rw [e_For]
    have q1 : (-1000000 : Int) ≤ h := by omega
    have q2 : h ≤ 1000000 := by omega
    simp [e_Range, rg_nat, q1, q2]
    exact eo
  · rfl
end
section
variable {w h bw bh g : Int} {s : List Sd}
theorem p_R_find_open (o : OkS w h bw bh g s) (as : List An) (ha : ∀ a, a ∈ as → a.ok w h) (hl : as.length ≤ 6) : f_R_find_open [stD w h bw bh g s, .lst (as.map An.d)] = some ((opn (bestA w h bw bh g s) as as).map anO) := by
  obtain ⟨tk', e⟩ := open_loop o (.lst (as.map An.d)) as [] as (fun a m => (ha a m).pos) (by simpa using hl) (by omega)
  unfold f_R_find_open runR b_R_find_open
  refine runR_step [.dat (stD w h bw bh g s), .dat (.lst (as.map An.d)), .own (.lst []), .own (.lst (as.map An.d)), .no, .no, .no, .no, .no, .no, .no] (by simp [parS, mlf, lf_ans, lfAll, setM]) ?_
  refine runR_step [.dat (stD w h bw bh g s), .dat (.lst (as.map An.d)), .own (.lst []), .own (.lst (as.map An.d)), .dat (scD w h), .no, .no, .no, .no, .no, .no] (by simp [lf, lfAll, scD]) ?_
  refine runR_step (stF (stD w h bw bh g s) (.lst (as.map An.d)) (scD w h) (opn (bestA w h bw bh g s) as as) tk') (by
    change forS _ _ _ (stF _ _ _ [] as) = _ at e
    rw [List.nil_append] at e
    simp [← e]
    rfl) ?_
  rfl
theorem p_R_open_all (o : OkS w h bw bh g s) (as : List An) (ha : ∀ a, a ∈ as → a.ok w h) (hl : as.length ≤ 6) : f_R_open_all [stD w h bw bh g s, .lst (as.map An.d)] = some ((opn (bestA w h bw bh g s) as as).map anO) := by
  simp [f_R_open_all, runR, b_R_open_all, sSeqR, p_check_anchors o as ha hl, sRetNew, sFnL, p_R_find_open o as ha hl]
theorem p_R_in_way (o : OkS w h bw bh g s) (as : List An) (ha : ∀ a, a ∈ as → a.ok w h) (hl : as.length ≤ 6) :
    f_R_in_each_others_way [stD w h bw bh g s, .lst (as.map An.d)] = some (pairsL (apart w h bw bh g s as) as.length) := by
  have e1 := p_check_anchors o as ha hl
  have i0 : ([] : List D).length + as.zipIdx.length * 6 ≤ 36 := by rw [List.length_zipIdx, List.length_nil]; omega
  have L := (for_fold (t := tgT [3, 4]) (b := sAft [3, 4, 5] (sFor [] (sRange (sCons (sOp dAdd (sV 3) (sC (.int 1))) (sCons (sCall dLen (sCons (sV 1) sNil)) sNil))) (tgN 5)
    (sAft [5] (sIf [] (toB (sOp dLt (sFn 2 f_find_shown (sCons (sV 0) (sCons (sOfL (sLst (sCons (sV 4) (sCons (sOp dIx (sV 1) (sV 5)) sNil)))) sNil))) (sC (.int 2)))) (sApp [] 2 (sTup (sCons (sV 3) (sCons (sV 5) sNil)))) sNext))))
    (fun p : An × Nat => D.tup [.int (p.2 : Int), p.1.d]) (fun acc : List D => [.dat (stD w h bw bh g s), .dat (.lst (as.map An.d)), .own (.lst acc), .no, .no, .no]) (fun acc p => stp1 (apart w h bw bh g s as) as.length acc p.2) (fun acc k => acc.length + k * 6 ≤ 36 ∧ ∀ d, d ∈ acc → isPr d) as.zipIdx [] ⟨i0, fun _ h => nomatch h⟩ fun p hp acc k hk => by
      obtain ⟨hk1, hk2⟩ := hk
      obtain ⟨a, i⟩ := p
      have hm : i < as.length ∧ gA as i = a := by
        have := List.mem_zipIdx hp
        obtain ⟨_, h2, h3⟩ := this
        have h2 : i < as.length := by omega
        refine ⟨h2, ?_⟩
        rw [gA, List.getD_eq_getElem?_getD, List.getElem?_eq_getElem h2]
        simpa using h3.symm
      obtain ⟨hi, rfl⟩ := hm
      have g2 := stp2_ok (apart w h bw bh g s as) i (List.range (as.length - (i + 1))) acc hk2
      rw [List.length_range] at g2
      have hs : stp1 (apart w h bw bh g s as) as.length acc i = (List.range (as.length - (i + 1))).foldl (stp2 (apart w h bw bh g s as) i) acc := rfl
      rw [← hs] at g2
      refine ⟨⟨?_, g2.1⟩, _, rfl, way_out o as ha hl i hi acc (by omega)⟩
      have := g2.2
      show (stp1 _ _ acc i).length + k * 6 ≤ 36
      omega).1
  have ez : as.zipIdx.foldl (fun acc p => stp1 (apart w h bw bh g s as) as.length acc p.2) [] = pairsL (apart w h bw bh g s as) as.length := by
    have : as.zipIdx.map Prod.snd = List.range as.length := by rw [List.zipIdx_map_snd, List.range_eq_range']
    rw [pairsL, ← this, List.foldl_map]
  rw [ez, ← enD_zip] at L
  generalize pairsL (apart w h bw bh g s as) as.length = R at *
  unfold f_R_in_each_others_way runR b_R_in_each_others_way
  refine runR_step [.dat (stD w h bw bh g s), .dat (.lst (as.map An.d)), .no, .no, .no, .no] (by simp [e1]) ?_
  refine runR_step [.dat (stD w h bw bh g s), .dat (.lst (as.map An.d)), .own (.lst []), .no, .no, .no] (by simp [lfAll]) ?_
  refine runR_step [.dat (stD w h bw bh g s), .dat (.lst (as.map An.d)), .own (.lst R), .no, .no, .no] (by simp [L]) ?_
  rfl
end
end Pk
namespace Pk
open PySem Dl
@[simp] theorem slOf_tup (ds : List D) : slOf (.tup ds) = .dat (.tup ds) := rfl
@[simp] theorem slOf_int (i : Int) : slOf (.int i) = .dat (.int i) := rfl
@[simp] theorem slOf_scr (ns : List Int) : slOf (.scr ns) = .dat (.scr ns) := rfl
@[simp] theorem slOf_win (a : Addr) (p : D) (d u : List D) : slOf (.win a p d u) = .own (.win a p d u) := rfl
@[simp] theorem isW_tup (ds : List D) : isW (.tup ds) = false := rfl
@[simp] theorem isW_int (i : Int) : isW (.int i) = false := rfl
@[simp] theorem isW_exn (a : Addr) : isW (.exn a) = false := rfl
@[simp] theorem isW_win (a : Addr) (p : D) (d u : List D) : isW (.win a p d u) = true := rfl
theorem lf_st (w h bw bh g : Int) (s : List Sd) : lf (stD w h bw bh g s) = true := by
  have : lfAll (s.map sdD) = true := lfAll_of fun d hd => by
    obtain ⟨x, _, rfl⟩ := List.mem_map.mp hd
    rfl
  simp [lf, lfAll, this]
/-- what a window shows: the wanted sides, the anchor's place -/
structure Ps where
  s : List Sd
  l : Int
  t : Int
section
variable {w h bw bh g sw sh : Int}
abbrev preD (w h bw bh g sw sh : Int) (p : Ps) : D := .tup [stD w h bw bh g p.s, anD p.l p.t sw sh]
theorem lf_pre (p : Ps) : lf (preD w h bw bh g sw sh p) = true := by
  have := lf_st w h bw bh g p.s
  simp [lf, lfAll] at this ⊢
  exact this
theorem okN_st' (n : Nat) (s : List Sd) : okN (n + 3) (stD w h bw bh g s) = true := by
  have : okN (n + 2) (.tup (s.map sdD)) = true := okN_tsd n s
  show ([D.tup [.int w, .int h], .tup [.int bw, .int bh], .int g, .tup (s.map sdD)].all (okN (n + 2))) = true
  simp only [List.all_cons, List.all_nil, this, Bool.and_true]
  rfl
theorem okN_pre (n : Nat) (p : Ps) : okN (n + 4) (preD w h bw bh g sw sh p) = true := by
  show ([stD w h bw bh g p.s, anD p.l p.t sw sh].all (okN (n + 3))) = true
  simp only [List.all_cons, List.all_nil, okN_st', Bool.and_true]
  rfl
theorem okN_pres (n : Nat) (ps : List Ps) : okN (n + 5) (.lst (ps.map (preD w h bw bh g sw sh))) = true := by
  show ((ps.map (preD w h bw bh g sw sh)).all (okN (n + 4))) = true
  rw [List.all_eq_true]
  intro d hd
  obtain ⟨x, _, rfl⟩ := List.mem_map.mp hd
  exact okN_pre n x
/-! ### methods -/
abbrev wD (w h bw bh g sw sh : Int) (a : Addr) (p : Ps) (dl ul : List Ps) : D := .win a (preD w h bw bh g sw sh p) (dl.map (preD w h bw bh g sw sh)) (ul.map (preD w h bw bh g sw sh))
theorem p_change {a : Addr} {P : D} {dn un : List D} (hl : dn.length ≤ 1000) (x y : D) (w1 : isW x = false) (w2 : isW y = false) (l1 : lf x = true) (l2 : lf y = true) : g_W_change [.win a P dn un, x, y] = some (.ok .non, .win a (.tup [x, y]) (dn ++ [P]) []) := by
  have hl2 : dn.length + 1 ≤ 1000000 := by omega
  have s1 := slOf_dat w1
  have s2 := slOf_dat w2
  simp [g_W_change, runW, b_W_change, sWPushD, sWPres, sWClr, finW, hl2, lf, lfAll, l1, l2, s1, s2]
theorem p_W_anchor {a : Addr} {x y : D} {dn un : List D} : f_W_anchor [.win a (.tup [x, y]) dn un] = some (.ok y) := by
  have e : f_W_anchor [.win a (.tup [x, y]) dn un] = (match some (Fl.rt y) with | some (.rt d) => some (.ok d) | _ => none) := rfl
  exact e
end
section
variable {w h bw bh g sw sh : Int} {a : Addr} {p : Ps} {dl ul : List Ps}
/-- the way of the box -/
def way (w h bw bh g sw sh : Int) (s : List Sd) (l t l' t' : Int) : Int :=
  ab (plX w bw g l sw (s.find? (roomB w h bw bh g l t sw sh)) - plX w bw g l' sw (s.find? (roomB w h bw bh g l' t' sw sh))) +
  ab (plY h bh g t sh (s.find? (roomB w h bw bh g l t sw sh)) - plY h bh g t' sh (s.find? (roomB w h bw bh g l' t' sw sh)))
theorem p_find_way {s : List Sd} (hw : bw ≤ w) (hh : bh ≤ h) (hs : s.length ≤ 4) (l t l' t' : Int) : f_find_way [stD w h bw bh g s, anD l t sw sh, anD l' t' sw sh] = some (.ok (.int (way w h bw bh g sw sh s l t l' t'))) := by
  have e1 := p_find_place (w := w) (h := h) (bw := bw) (bh := bh) (g := g) (l := l) (t := t) (sw := sw) (sh := sh) (s := s) hw hh hs
  have e2 := p_find_place (w := w) (h := h) (bw := bw) (bh := bh) (g := g) (l := l') (t := t') (sw := sw) (sh := sh) (s := s) hw hh hs
  unfold way
  generalize s.find? (roomB w h bw bh g l t sw sh) = A at *
  generalize s.find? (roomB w h bw bh g l' t' sw sh) = B at *
  generalize plX w bw g l sw A = x1 at *
  generalize plX w bw g l' sw B = x2 at *
  generalize plY h bh g t sh A = y1 at *
  generalize plY h bh g t' sh B = y2 at *
  have i1 : dIx (anD x1 y1 bw bh) (.int 0) = some (.int x1) := rfl
  have i2 : dIx (anD x1 y1 bw bh) (.int 1) = some (.int y1) := rfl
  have i3 : dIx (anD x2 y2 bw bh) (.int 0) = some (.int x2) := rfl
  have i4 : dIx (anD x2 y2 bw bh) (.int 1) = some (.int y2) := rfl
  generalize anD x1 y1 bw bh = A1 at *
  generalize anD x2 y2 bw bh = A2 at *
  simp [f_find_way, b_find_way, e1, e2, i1, i2, i3, i4, parS, v_absA]
/-- step with what is no number of the range -/
theorem p_step_bad (x y : D) (hx : isW x = false) (hy : isW y = false) (hb : f_is_int [x, .int (-30), .int 30] = some (.ok (.bl false)) ∨ (f_is_int [x, .int (-30), .int 30] = some (.ok (.bl true)) ∧ f_is_int [y, .int (-30), .int 30] = some (.ok (.bl false)))) :
    g_W_step [wD w h bw bh g sw sh a p dl ul, x, y] = some (.error "InvalidNumber", wD w h bw bh g sw sh a p dl ul) := by
  have s1 := slOf_dat hx
  have s2 := slOf_dat hy
  unfold wD
  generalize dl.map (preD w h bw bh g sw sh) = A
  generalize ul.map (preD w h bw bh g sw sh) = B
  rcases hb with hb | ⟨h1, h2⟩
  · simp [g_W_step, runW, b_W_step, s1, s2, hb, finW]
  · simp [g_W_step, runW, b_W_step, s1, s2, h1, h2, finW]
theorem step_go (x y : Int) (hx : -30 ≤ x) (hx2 : x ≤ 30) (hy : -30 ≤ y) (hy2 : y ≤ 30) : True := trivial
theorem p_step_no (x y : Int) (hx : -30 ≤ x) (hx2 : x ≤ 30) (hy : -30 ≤ y) (hy2 : y ≤ 30) (hn : f_check_anchor [stD w h bw bh g p.s, anD (p.l + x) (p.t + y) sw sh] = some (.error "InvalidAnchor")) :
    g_W_step [wD w h bw bh g sw sh a p dl ul, .int x, .int y] = some (.error "InvalidAnchor", wD w h bw bh g sw sh a p dl ul) := by
  have i1 := p_is_int x (-30) 30
  have i2 := p_is_int y (-30) 30
  rw [inI_yes hx hx2] at i1
  rw [inI_yes hy hy2] at i2
  have ls := lf_st w h bw bh g p.s
  unfold wD
  generalize dl.map (preD w h bw bh g sw sh) = A
  generalize ul.map (preD w h bw bh g sw sh) = B
  have ls2 : lfAll [stD w h bw bh g p.s, anD p.l p.t sw sh] = true := by simp only [lfAll, ls]; rfl
  simp only [preD]
  generalize stD w h bw bh g p.s = S at *
  simp [g_W_step, runW, b_W_step, i1, i2, hn, finW, sPres, lf, lfAll, ls]
theorem p_step_ok (x y : Int) (hx : -30 ≤ x) (hx2 : x ≤ 30) (hy : -30 ≤ y) (hy2 : y ≤ 30) (hw : bw ≤ w) (hh : bh ≤ h) (hs : p.s.length ≤ 4) (hl : dl.length ≤ 1000) (hn : f_check_anchor [stD w h bw bh g p.s, anD (p.l + x) (p.t + y) sw sh] = some (.ok .non)) :
    g_W_step [wD w h bw bh g sw sh a p dl ul, .int x, .int y] = some (.ok (.int (way w h bw bh g sw sh p.s p.l p.t (p.l + x) (p.t + y))), wD w h bw bh g sw sh a ⟨p.s, p.l + x, p.t + y⟩ (dl ++ [p]) []) := by
  have i1 := p_is_int x (-30) 30
  have i2 := p_is_int y (-30) 30
  rw [inI_yes hx hx2] at i1
  rw [inI_yes hy hy2] at i2
  have ls := lf_st w h bw bh g p.s
  have ew := p_find_way (w := w) (h := h) (bw := bw) (bh := bh) (g := g) (sw := sw) (sh := sh) hw hh hs p.l p.t (p.l + x) (p.t + y)
  have ec := p_change (a := a) (P := preD w h bw bh g sw sh p) (dn := dl.map (preD w h bw bh g sw sh)) (un := ul.map (preD w h bw bh g sw sh)) (by rw [List.length_map]; exact hl) (stD w h bw bh g p.s) (anD (p.l + x) (p.t + y) sw sh) rfl rfl ls rfl
  have hr : (dl ++ [p]).map (preD w h bw bh g sw sh) = dl.map (preD w h bw bh g sw sh) ++ [preD w h bw bh g sw sh p] := by simp
  unfold wD
  rw [hr]
  generalize dl.map (preD w h bw bh g sw sh) = A at *
  generalize ul.map (preD w h bw bh g sw sh) = B at *
  have ls2 : lfAll [stD w h bw bh g p.s, anD p.l p.t sw sh] = true := by simp only [lfAll, ls]; rfl
  simp only [preD] at *
  have sl : isW (stD w h bw bh g p.s) = false := rfl
  generalize way w h bw bh g sw sh p.s p.l p.t (p.l + x) (p.t + y) = V at *
  generalize hS : stD w h bw bh g p.s = S at *
  simp [g_W_step, runW, b_W_step, i1, i2, hn, finW, sPres, lf, lfAll, ls, sDropW, wMeth, wAfter, ec, sl, sRetS, sRetW, wPure, ew]
end
end Pk
namespace Pk
open PySem Dl
theorem lc_an {t : TgtR} {elt : Sx} {ρ : Rho} (w h : Int) : ∀ ds : List D, (∀ d, d ∈ ds → ∃ a : An, a.ok w h ∧ ∃ ρ2, t d ρ = some ρ2 ∧ elt ρ2 = some (.ok a.d)) → ∃ as : List An, as.length = ds.length ∧ (∀ a, a ∈ as → a.ok w h) ∧ lcS t bTrue elt ρ ds = some (as.map An.d)
  | [], _ => ⟨[], rfl, (by intro a h; cases h), rfl⟩
  | d :: ds, hd => by
    obtain ⟨a, ha, ρ2, e1, e2⟩ := hd d List.mem_cons_self
    obtain ⟨as, h1, h2, h3⟩ := lc_an w h ds fun d hm => hd d (List.mem_cons_of_mem _ hm)
    refine ⟨a :: as, by simp [h1], fun b hb => ?_, ?_⟩
    · rcases List.mem_cons.mp hb with rfl | hb
      · exact ha
      · exact h2 b hb
    · unfold lcS
      rw [e1]
      show (match elt ρ2 with | some (.ok y) => (lcS t bTrue elt ρ ds).map (y :: ·) | _ => none) = _
      rw [e2, h3]
      rfl

theorem okN_l (n : Nat) {l : List D} (h : ∀ d, d ∈ l → okN n d = true) : okN (n + 1) (.lst l) = true := List.all_eq_true.mpr h
theorem ok_arr (mx my X Y bw bh : Int) (o : Option Sd) : okN 10 (arrD mx my X Y bw bh o) = true := by
  cases o with
  | none => rfl
  | some x => cases x <;> rfl
/-- the lists that are handed back -/
theorem p_lists {w h bw bh g : Int} {s : List Sd} (o : OkS w h bw bh g s) (as : List An) (ha : ∀ a, a ∈ as → a.ok w h) (hl : as.length = 3) : ∃ O E R : List D, O.length ≤ 1000 ∧ E.length ≤ 1000 ∧ R.length ≤ 1000 ∧ okN 10 (.lst [.lst O, .lst E, .lst R]) = true ∧
    f_L_lists [stD w h bw bh g s, .lst (as.map An.d)] = some (.ok (.lst [.lst O, .lst E, .lst R])) ∧ f_R_L_lists [stD w h bw bh g s, .lst (as.map An.d)] = some (O.length, E.length, R.length) := by
  match as, hl with
  | [a0, a1, a2], _ =>
    have k := ha a0 (by simp)
    have e1 := p_open_all o [a0, a1, a2] ha (show (3 : Nat) ≤ 6 by decide)
    have e2 := p_in_way o [a0, a1, a2] ha (show (3 : Nat) ≤ 6 by decide)
    have ep := p_find_place (w := w) (h := h) (bw := bw) (bh := bh) (g := g) (l := a0.l) (t := a0.t) (sw := a0.sw) (sh := a0.sh) (s := s) o.bw2 o.bh2 o.s1.len
    obtain ⟨e3, i3⟩ := p_picture o k ep
    have r1 := p_R_open_all o [a0, a1, a2] ha (show (3 : Nat) ≤ 6 by decide)
    have r2 := p_R_in_way o [a0, a1, a2] ha (show (3 : Nat) ≤ 6 by decide)
    obtain ⟨r3, _⟩ := p_R_picture o k ep
    have e3' : f_picture [stD w h bw bh g s, a0.d] = _ := e3
    have r3' : f_R_picture [stD w h bw bh g s, a0.d] = _ := r3
    have g1 := okN_anOs 6 (opn (bestA w h bw bh g s) [a0, a1, a2] [a0, a1, a2])
    have l1 : ((opn (bestA w h bw bh g s) [a0, a1, a2] [a0, a1, a2]).map anO).length ≤ 1000 := by rw [List.length_map, opn_len]; exact (show (3 : Nat) ≤ 1000 by decide)
    have st := stp1_ok (apart w h bw bh g s [a0, a1, a2]) 3 (List.range 3) [] (fun _ h => nomatch h)
    have g2 : okN 9 (.lst (pairsL (apart w h bw bh g s [a0, a1, a2]) 3)) = true := okN_l 8 fun d hd => by
      obtain ⟨i, j, rfl⟩ := st.1 d hd
      rfl
    have l2 : (pairsL (apart w h bw bh g s [a0, a1, a2]) 3).length ≤ 1000 := by
      have := st.2
      unfold pairsL
      simp at this ⊢
      omega
    have g3 : okN 9 (.lst ((rowsF (cellF a0.l a0.t a0.sw a0.sh (plX w bw g a0.l a0.sw (s.find? (roomB w h bw bh g a0.l a0.t a0.sw a0.sh))) (plY h bh g a0.t a0.sh (s.find? (roomB w h bw bh g a0.l a0.t a0.sw a0.sh))) bw bh) w.toNat h.toNat).map D.str)) = true := okN_l 8 fun d hd => by
      obtain ⟨x, hx, rfl⟩ := List.mem_map.mp hd
      exact (i3.2 x hx).ok 7
    have l3 : ((rowsF (cellF a0.l a0.t a0.sw a0.sh (plX w bw g a0.l a0.sw (s.find? (roomB w h bw bh g a0.l a0.t a0.sw a0.sh))) (plY h bh g a0.t a0.sh (s.find? (roomB w h bw bh g a0.l a0.t a0.sw a0.sh))) bw bh) w.toNat h.toNat).map D.str).length ≤ 1000 := by
      have := i3.1
      rw [List.length_map]; omega
    have c3 : [a0, a1, a2].length = 3 := rfl
    rw [c3] at e2 r2
    generalize (rowsF (cellF a0.l a0.t a0.sw a0.sh (plX w bw g a0.l a0.sw (s.find? (roomB w h bw bh g a0.l a0.t a0.sw a0.sh))) (plY h bh g a0.t a0.sh (s.find? (roomB w h bw bh g a0.l a0.t a0.sw a0.sh))) bw bh) w.toNat h.toNat).map D.str = R at *
    generalize pairsL (apart w h bw bh g s [a0, a1, a2]) 3 = E at *
    generalize (opn (bestA w h bw bh g s) [a0, a1, a2] [a0, a1, a2]).map anO = O at *
    simp only [List.map_cons, List.map_nil] at e1 e2 r1 r2 ⊢
    have i0 : dIx (.lst [a0.d, a1.d, a2.d]) (.int 0) = some a0.d := rfl
    refine ⟨O, E, R, l1, l2, l3, ?_, ?_, ?_⟩
    · show (okN 9 (.lst O) && (okN 9 (.lst E) && (okN 9 (.lst R) && true))) = true
      rw [g1, g2, g3]; rfl
    · generalize a0.d = x0 at *
      generalize a1.d = x1 at *
      generalize a2.d = x2 at *
      generalize stD w h bw bh g s = S at *
      simp [f_L_lists, b_L_lists, e1, e2, e3', i0, -v_ixL]
    · generalize a0.d = x0 at *
      generalize a1.d = x1 at *
      generalize a2.d = x2 at *
      generalize stD w h bw bh g s = S at *
      simp [f_R_L_lists, run3, b_R_L_lists, s3, sFnL, r1, r2, r3', i0, -v_ixL]
end Pk
namespace Pk
open PySem Dl
/-- the windows: nothing of them hangs on the script -/
noncomputable def winS : Ss := (sNewW2 7 8 f_check_both (sCons (sV 6) (sCons (sTup (sCons (sC (.int 0)) (sCons (sC (.int 0)) (sCons (sC (.int 1)) (sCons (sC (.int 1)) sNil))))) sNil)) (sCons (sV 6) (sCons (sTup (sCons (sC (.int 0)) (sCons (sC (.int 0)) (sCons (sC (.int 1)) (sCons (sC (.int 1)) sNil))))) sNil))
    (sSeq (sDropW (wMeth 3 7 g_W_step (sCons (sC (.int 1)) (sCons (sC (.int 1)) sNil))))
    (sNewC 9 7 f_check_both
    (sSeq (sDropW (wMeth 3 9 g_W_step (sCons (sC (.int 1)) (sCons (sC (.int 1)) sNil))))
    (sSeq (sIf [7, 8] (bNot (bAnd (toB (sOp dEq (sMeth0 f_W_anchor (sV 7)) (sTup (sCons (sC (.int 1)) (sCons (sC (.int 1)) (sCons (sC (.int 1)) (sCons (sC (.int 1)) sNil))))))) (toB (sOp dEq (sMeth0 f_W_anchor (sV 8)) (sTup (sCons (sC (.int 0)) (sCons (sC (.int 0)) (sCons (sC (.int 1)) (sCons (sC (.int 1)) sNil))))))))) (sRet [] (sC (.bl false))) sNext)
    (sRet [9] (sOp dEq (sMeth0 f_W_anchor (sV 9)) (sTup (sCons (sC (.int 2)) (sCons (sC (.int 2)) (sCons (sC (.int 1)) (sCons (sC (.int 1)) sNil))))))))))))
theorem newW2_go {i j : Nat} {f : List D → Oe D} {sl sl2 : Sl} {rest : Ss} {ρ : Sig} {d1 d2 e1 e2 d e : D} {fl : Fl} (hij : i ≠ j) (h1 : sl (expo [] ρ) = some (.ok [d1, d2])) (h2 : sl2 (expo [] ρ) = some (.ok [e1, e2])) (hf : f [d1, d2] = some (.ok d)) (he : f [e1, e2] = some (.ok e))
    (hr : ∀ a b, a ≠ b → rest ((ρ.set i (.own (.win a (.tup [d1, d2]) [] []))).set j (.own (.win b (.tup [e1, e2]) [] []))) = some fl) : sNewW2 i j f sl sl2 rest ρ = some fl := by
  unfold sNewW2
  rw [h1]; dsimp only
  rw [h2]; dsimp only
  rw [hf]; dsimp only
  rw [he]; dsimp only
  rw [if_neg hij]
  exact allA_of hr
theorem newC_go {i j : Nat} {f : List D → Oe D} {rest : Ss} {ρ : Sig} {a : Addr} {d1 d2 d : D} {dn un : List D} {fl : Fl} (h1 : ρ[j]? = some (.own (.win a (.tup [d1, d2]) dn un))) (hf : f [d1, d2] = some (.ok d)) (l1 : lf d1 = true) (l2 : lf d2 = true)
    (hr : ∀ b, rest (ρ.set i (.own (.win b (.tup [d1, d2]) dn un))) = some fl) : sNewC i j f rest ρ = some fl := by
  unfold sNewC
  rw [h1]; dsimp only
  rw [hf]; dsimp only
  rw [l1, l2]
  exact allA1_of hr
theorem drop_go {s : SigE} {ρ ρ' : Sig} {d : D} (h : s ρ = some (.ok d, ρ')) : sDropW s ρ = some (.nx ρ') := by
  unfold sDropW
  rw [h]
theorem run_if0' {ms : List Nat} {c : Sb} {A B : Ss} {ρ : Sig} {o : Option Fl} (h : c (expo ms ρ) = some (.ok false)) (h2 : B ρ = o) : sIf ms c A B ρ = o := by
  unfold sIf stp
  rw [h]; exact h2
section
variable {S A Rg : D} {Kp Fi : List D} {ns : List Int}
theorem p_wins : winS [.dat (.scr ns), .dat S, .dat A, .own (.lst Kp), .own (.lst Fi), .dat Rg, .dat (stD 6 6 1 1 0 [.t]), .no, .no, .no, .no, .no] = some (.rt (.bl true)) := by
  have o : OkS 6 6 1 1 0 [.t] := ⟨by decide, by decide, by decide, by decide, by decide, by decide, by decide, by decide, by decide, by decide, ⟨by decide, by decide, by decide⟩⟩
  have k0 : OkA 6 6 0 0 1 1 := ⟨by decide, by decide, by decide, by decide, by decide, by decide⟩
  have k1 : OkA 6 6 1 1 1 1 := ⟨by decide, by decide, by decide, by decide, by decide, by decide⟩
  have k2 : OkA 6 6 2 2 1 1 := ⟨by decide, by decide, by decide, by decide, by decide, by decide⟩
  have cb0 := p_check_both o k0
  have cb1 := p_check_both o k1
  unfold winS
  refine newW2_go (by decide) (d1 := stD 6 6 1 1 0 [.t]) (d2 := anD 0 0 1 1) (e1 := stD 6 6 1 1 0 [.t]) (e2 := anD 0 0 1 1) (by simp) (by simp) cb0 cb0 fun a b hab => ?_
  have s1 : g_W_step [wD 6 6 1 1 0 1 1 a ⟨[.t], 0, 0⟩ [] [], .int 1, .int 1] = some (.ok (.int (way 6 6 1 1 0 1 1 [.t] 0 0 (0 + 1) (0 + 1))), wD 6 6 1 1 0 1 1 a ⟨[.t], 0 + 1, 0 + 1⟩ ([] ++ [⟨[.t], 0, 0⟩]) []) :=
    p_step_ok (p := ⟨[.t], 0, 0⟩) (dl := []) (ul := []) 1 1 (by decide) (by decide) (by decide) (by decide) (by decide) (by decide) (by decide) (by decide) (p_check_anchor _ _ _ k1)
  have s2 : ∀ c, g_W_step [wD 6 6 1 1 0 1 1 c ⟨[.t], 1, 1⟩ [⟨[.t], 0, 0⟩] [], .int 1, .int 1] = some (.ok (.int (way 6 6 1 1 0 1 1 [.t] 1 1 (1 + 1) (1 + 1))), wD 6 6 1 1 0 1 1 c ⟨[.t], 1 + 1, 1 + 1⟩ ([⟨[.t], 0, 0⟩] ++ [⟨[.t], 1, 1⟩]) []) := fun c =>
    p_step_ok (p := ⟨[.t], 1, 1⟩) (dl := [⟨[.t], 0, 0⟩]) (ul := []) 1 1 (by decide) (by decide) (by decide) (by decide) (by decide) (by decide) (by decide) (by decide) (p_check_anchor _ _ _ k2)
  have w0 : ∀ (c : Addr) (dn : List D), f_W_anchor [.win c (preD 6 6 1 1 0 1 1 ⟨[.t], 0, 0⟩) dn []] = some (.ok (anD 0 0 1 1)) := fun c dn => p_W_anchor
  have w1 : ∀ (c : Addr) (dn : List D), f_W_anchor [.win c (preD 6 6 1 1 0 1 1 ⟨[.t], 1, 1⟩) dn []] = some (.ok (anD 1 1 1 1)) := fun c dn => p_W_anchor
  have w2 : ∀ (c : Addr) (dn : List D), f_W_anchor [.win c (preD 6 6 1 1 0 1 1 ⟨[.t], 2, 2⟩) dn []] = some (.ok (anD 2 2 1 1)) := fun c dn => p_W_anchor
  generalize way 6 6 1 1 0 1 1 [.t] 0 0 (0 + 1) (0 + 1) = V1 at s1
  generalize way 6 6 1 1 0 1 1 [.t] 1 1 (1 + 1) (1 + 1) = V2 at s2
  have q0 : dEq (anD 0 0 1 1) (.tup [.int 0, .int 0, .int 1, .int 1]) = some (.bl true) := eq_same rfl
  have q1 : dEq (anD 1 1 1 1) (.tup [.int 1, .int 1, .int 1, .int 1]) = some (.bl true) := eq_same rfl
  have q2 : dEq (anD 2 2 1 1) (.tup [.int 2, .int 2, .int 1, .int 1]) = some (.bl true) := eq_same rfl
  have e1 : (preD 6 6 1 1 0 1 1 ⟨[.t], 0 + 1, 0 + 1⟩) = preD 6 6 1 1 0 1 1 ⟨[.t], 1, 1⟩ := rfl
  have e2 : (preD 6 6 1 1 0 1 1 ⟨[.t], 1 + 1, 1 + 1⟩) = preD 6 6 1 1 0 1 1 ⟨[.t], 2, 2⟩ := rfl
  show (sSeq _ _) [.dat (.scr ns), .dat S, .dat A, .own (.lst Kp), .own (.lst Fi), .dat Rg, .dat (stD 6 6 1 1 0 [.t]), .own (.win a (preD 6 6 1 1 0 1 1 ⟨[.t], 0, 0⟩) [] []), .own (.win b (preD 6 6 1 1 0 1 1 ⟨[.t], 0, 0⟩) [] []), .no, .no, .no] = _
  refine run_seq [.dat (.scr ns), .dat S, .dat A, .own (.lst Kp), .own (.lst Fi), .dat Rg, .dat (stD 6 6 1 1 0 [.t]), .own (.win a (preD 6 6 1 1 0 1 1 ⟨[.t], 1, 1⟩) [preD 6 6 1 1 0 1 1 ⟨[.t], 0, 0⟩] []), .own (.win b (preD 6 6 1 1 0 1 1 ⟨[.t], 0, 0⟩) [] []), .no, .no, .no] (drop_go (d := .int V1) (ρ' := [.dat (.scr ns), .dat S, .dat A, .own (.lst Kp), .own (.lst Fi), .dat Rg, .dat (stD 6 6 1 1 0 [.t]), .own (.win a (preD 6 6 1 1 0 1 1 ⟨[.t], 1, 1⟩) [preD 6 6 1 1 0 1 1 ⟨[.t], 0, 0⟩] []), .own (.win b (preD 6 6 1 1 0 1 1 ⟨[.t], 0, 0⟩) [] []), .no, .no, .no]) ?_) ?_
  · have hw : wMeth 3 7 g_W_step (sCons (sC (.int 1)) (sCons (sC (.int 1)) sNil)) [.dat (.scr ns), .dat S, .dat A, .own (.lst Kp), .own (.lst Fi), .dat Rg, .dat (stD 6 6 1 1 0 [.t]), .own (.win a (preD 6 6 1 1 0 1 1 ⟨[.t], 0, 0⟩) [] []), .own (.win b (preD 6 6 1 1 0 1 1 ⟨[.t], 0, 0⟩) [] []), .no, .no, .no] = wAfter 7 a [.dat (.scr ns), .dat S, .dat A, .own (.lst Kp), .own (.lst Fi), .dat Rg, .dat (stD 6 6 1 1 0 [.t]), .own (.win a (preD 6 6 1 1 0 1 1 ⟨[.t], 0, 0⟩) [] []), .own (.win b (preD 6 6 1 1 0 1 1 ⟨[.t], 0, 0⟩) [] []), .no, .no, .no] (g_W_step [.win a (preD 6 6 1 1 0 1 1 ⟨[.t], 0, 0⟩) [] [], .int 1, .int 1]) := rfl
    have s1' : g_W_step [.win a (preD 6 6 1 1 0 1 1 ⟨[.t], 0, 0⟩) [] [], .int 1, .int 1] = some (.ok (.int V1), .win a (preD 6 6 1 1 0 1 1 ⟨[.t], 1, 1⟩) [preD 6 6 1 1 0 1 1 ⟨[.t], 0, 0⟩] []) := s1
    rw [hw, s1']
    unfold wAfter
    dsimp only
    rw [if_pos rfl]
    rfl
  refine newC_go (a := a) (d1 := stD 6 6 1 1 0 [.t]) (d2 := anD 1 1 1 1) rfl cb1 rfl rfl fun c => ?_
  show (sSeq _ _) [.dat (.scr ns), .dat S, .dat A, .own (.lst Kp), .own (.lst Fi), .dat Rg, .dat (stD 6 6 1 1 0 [.t]), .own (.win a (preD 6 6 1 1 0 1 1 ⟨[.t], 1, 1⟩) [preD 6 6 1 1 0 1 1 ⟨[.t], 0, 0⟩] []), .own (.win b (preD 6 6 1 1 0 1 1 ⟨[.t], 0, 0⟩) [] []), .own (.win c (preD 6 6 1 1 0 1 1 ⟨[.t], 1, 1⟩) [preD 6 6 1 1 0 1 1 ⟨[.t], 0, 0⟩] []), .no, .no] = _
  refine run_seq [.dat (.scr ns), .dat S, .dat A, .own (.lst Kp), .own (.lst Fi), .dat Rg, .dat (stD 6 6 1 1 0 [.t]), .own (.win a (preD 6 6 1 1 0 1 1 ⟨[.t], 1, 1⟩) [preD 6 6 1 1 0 1 1 ⟨[.t], 0, 0⟩] []), .own (.win b (preD 6 6 1 1 0 1 1 ⟨[.t], 0, 0⟩) [] []), .own (.win c (preD 6 6 1 1 0 1 1 ⟨[.t], 2, 2⟩) [preD 6 6 1 1 0 1 1 ⟨[.t], 0, 0⟩, preD 6 6 1 1 0 1 1 ⟨[.t], 1, 1⟩] []), .no, .no] (drop_go (d := .int V2) (ρ' := [.dat (.scr ns), .dat S, .dat A, .own (.lst Kp), .own (.lst Fi), .dat Rg, .dat (stD 6 6 1 1 0 [.t]), .own (.win a (preD 6 6 1 1 0 1 1 ⟨[.t], 1, 1⟩) [preD 6 6 1 1 0 1 1 ⟨[.t], 0, 0⟩] []), .own (.win b (preD 6 6 1 1 0 1 1 ⟨[.t], 0, 0⟩) [] []), .own (.win c (preD 6 6 1 1 0 1 1 ⟨[.t], 2, 2⟩) [preD 6 6 1 1 0 1 1 ⟨[.t], 0, 0⟩, preD 6 6 1 1 0 1 1 ⟨[.t], 1, 1⟩] []), .no, .no]) ?_) ?_
  · have hw : wMeth 3 9 g_W_step (sCons (sC (.int 1)) (sCons (sC (.int 1)) sNil)) [.dat (.scr ns), .dat S, .dat A, .own (.lst Kp), .own (.lst Fi), .dat Rg, .dat (stD 6 6 1 1 0 [.t]), .own (.win a (preD 6 6 1 1 0 1 1 ⟨[.t], 1, 1⟩) [preD 6 6 1 1 0 1 1 ⟨[.t], 0, 0⟩] []), .own (.win b (preD 6 6 1 1 0 1 1 ⟨[.t], 0, 0⟩) [] []), .own (.win c (preD 6 6 1 1 0 1 1 ⟨[.t], 1, 1⟩) [preD 6 6 1 1 0 1 1 ⟨[.t], 0, 0⟩] []), .no, .no] = wAfter 9 c [.dat (.scr ns), .dat S, .dat A, .own (.lst Kp), .own (.lst Fi), .dat Rg, .dat (stD 6 6 1 1 0 [.t]), .own (.win a (preD 6 6 1 1 0 1 1 ⟨[.t], 1, 1⟩) [preD 6 6 1 1 0 1 1 ⟨[.t], 0, 0⟩] []), .own (.win b (preD 6 6 1 1 0 1 1 ⟨[.t], 0, 0⟩) [] []), .own (.win c (preD 6 6 1 1 0 1 1 ⟨[.t], 1, 1⟩) [preD 6 6 1 1 0 1 1 ⟨[.t], 0, 0⟩] []), .no, .no] (g_W_step [.win c (preD 6 6 1 1 0 1 1 ⟨[.t], 1, 1⟩) [preD 6 6 1 1 0 1 1 ⟨[.t], 0, 0⟩] [], .int 1, .int 1]) := rfl
    have s2' : g_W_step [.win c (preD 6 6 1 1 0 1 1 ⟨[.t], 1, 1⟩) [preD 6 6 1 1 0 1 1 ⟨[.t], 0, 0⟩] [], .int 1, .int 1] = some (.ok (.int V2), .win c (preD 6 6 1 1 0 1 1 ⟨[.t], 2, 2⟩) [preD 6 6 1 1 0 1 1 ⟨[.t], 0, 0⟩, preD 6 6 1 1 0 1 1 ⟨[.t], 1, 1⟩] []) := s2 c
    rw [hw, s2']
    unfold wAfter
    dsimp only
    rw [if_pos rfl]
    rfl
  have w1' := w1 a [preD 6 6 1 1 0 1 1 ⟨[.t], 0, 0⟩]
  have w0' := w0 b []
  have w2' := w2 c [preD 6 6 1 1 0 1 1 ⟨[.t], 0, 0⟩, preD 6 6 1 1 0 1 1 ⟨[.t], 1, 1⟩]
  generalize [preD 6 6 1 1 0 1 1 ⟨[.t], 0, 0⟩, preD 6 6 1 1 0 1 1 ⟨[.t], 1, 1⟩] = D2 at *
  generalize [preD 6 6 1 1 0 1 1 ⟨[.t], 0, 0⟩] = D1 at *
  generalize preD 6 6 1 1 0 1 1 ⟨[.t], 0, 0⟩ = P0 at *
  generalize preD 6 6 1 1 0 1 1 ⟨[.t], 1, 1⟩ = P1 at *
  generalize preD 6 6 1 1 0 1 1 ⟨[.t], 2, 2⟩ = P2 at *
  generalize stD 6 6 1 1 0 [.t] = SM at *
  refine run_seq [.dat (.scr ns), .dat S, .dat A, .own (.lst Kp), .own (.lst Fi), .dat Rg, .dat SM, .own (.win a P1 D1 []), .own (.win b P0 [] []), .own (.win c P2 D2 []), .no, .no] (run_if0' ?_ rfl) ?_
  · simp [sMeth0, w1', w0', q0, q1]
  · simp [sMeth0, w2', q2]
end
end Pk
namespace Pk
open PySem Dl
theorem plain : ∀ ns : List Int, ns.length ≤ 63 → f_law [.scr ns] = some (.ok (.bl true)) := by
  intro ns hn0
  have hn : ns.length ≤ 1000 := by omega
  obtain ⟨w, h, bw, bh, g, s, o, w2, h2, bw2, bh2, g2, es⟩ := p_L_setting ns 10 hn (by omega) (by omega)
  have hw1 := o.w1
  have hh1 := o.h1
  obtain ⟨as, asl, aok, eas⟩ := lc_an (t := tgRN 10) (elt := sFn 3 f_L_anchor (sCons (sV 0) (sCons (sOp dAdd (sC (.int 40)) (sOp dMul (sC (.int 6)) (sV 10))) (sCons (sV 1) sNil))))
    (ρ := [some (.scr ns), some (stD w h bw bh g s), none, none, none, none, none, none, none, none, none, none]) w h (rgD 0 3) fun d hd => by
      obtain ⟨i, hi, rfl⟩ := rg0_mem hd
      obtain ⟨l, t, sw, sh, a, sw4, sh4, ea⟩ := p_L_anchor ns (40 + 6 * i) w h (.tup [.int bw, .int bh]) (.int g) (.tup (s.map sdD)) hn (by omega) (by omega) hw1 hh1
      exact ⟨⟨l, t, sw, sh⟩, a, _, rfl, by simp [ea, sm 6 (by omega) (by omega), sm (i : Int) (by omega) (by omega), An.d]⟩
  have asl3 : as.length = 3 := asl
  obtain ⟨O, E, R, lO, lE, lR, okF, eL, eR⟩ := p_lists o as aok asl3
  have eB := p_best_order o as aok (by omega)
  have okA := okN_ans 7 as
  have lA := lf_ans as
  match as, asl3 with
  | [a0, a1, a2], _ =>
    have k := aok a0 (by simp)
    have eA := p_arrow o k rfl
    have eA' : f_arrow [stD w h bw bh g s, a0.d] = _ := eA
    have ar := ok_arr (midI a0.l a0.sw) (midI a0.t a0.sh) (plX w bw g a0.l a0.sw (s.find? (roomB w h bw bh g a0.l a0.t a0.sw a0.sh))) (plY h bh g a0.t a0.sh (s.find? (roomB w h bw bh g a0.l a0.t a0.sw a0.sh))) bw bh (s.find? (roomB w h bw bh g a0.l a0.t a0.sw a0.sh))
    have nA := ne_same ar
    have eP := p_place_in (rx := 0) (ry := 0) (rw := w) (rh := h) o ⟨by omega, by omega, o.bw2, o.bh2, by omega, by omega⟩ k
    have eP' : f_place_in [stD w h bw bh g s, anD 0 0 w h, a0.d] = _ := eP
    have nP : ∀ x y : Int, dNe (anD x y bw bh) (anD x y bw bh) = some (.bl false) := fun x y => ne_same rfl
    have nP' := nP (spX g bw a0.l a0.sw 0 w (s.find? (inB bw bh g 0 0 w h a0.l a0.t a0.sw a0.sh))) (spY g bh a0.t a0.sh 0 h (s.find? (inB bw bh g 0 0 w h a0.l a0.t a0.sw a0.sh)))
    have k1 := k.l1
    have k2 := k.t1
    have k3 := k.l2
    have k4 := k.t2
    have eC := p_count_straight (g := g) o k.sw1 (by omega) k.sh1 (by omega)
    have nC : ∀ x : Int, dNe (.int x) (.int x) = some (.bl false) := fun x => ne_same rfl
    have nC' := nC (((ancA w h a0.sw a0.sh).filter (zeroA w h bw bh g s)).length : Nat)
    have cut : cutD [.int a0.l, .int a0.t, .int a0.sw, .int a0.sh] (some 2) none = [D.int a0.sw, D.int a0.sh] := rfl
    have nB := ne_same (okN_pD 8 (bestP w h bw bh g s [a0, a1, a2]))
    have nF := ne_same okF
    have nS := ne_same okA
    have j0 : dIx (stD w h bw bh g s) (.int 0) = some (.tup [.int w, .int h]) := rfl
    have j1 : dIx (.tup [.int w, .int h]) (.int 0) = some (.int w) := rfl
    have j2 : dIx (.tup [.int w, .int h]) (.int 1) = some (.int h) := rfl
    have lS : lf (stD w h bw bh g s) = true := lf_st w h bw bh g s
    have i0 : dIx (.lst ([a0, a1, a2].map An.d)) (.int 0) = some a0.d := rfl
    have cutT : ∀ ρ : Rho, ∀ se : Sx, se ρ = some (.ok a0.d) → sCutT se (sPart (sC (.int 2))) sNoPart ρ = some (.ok (.tup [.int a0.sw, .int a0.sh])) := fun ρ se hse => by
      unfold sCutT
      rw [hse]
      rfl
    have lO' : O.length ≤ 1000000 := by omega
    have lE' : E.length ≤ 1000000 := by omega
    have lR' : R.length ≤ 1000000 := by omega
    have hd0 : a0.d = anD a0.l a0.t a0.sw a0.sh := rfl
    have hAl : ([a0, a1, a2].map An.d).length = 3 := rfl
    have lA' : lfAll ([a0, a1, a2].map An.d) = true := lA
    generalize arrD (midI a0.l a0.sw) (midI a0.t a0.sh) (plX w bw g a0.l a0.sw (s.find? (roomB w h bw bh g a0.l a0.t a0.sw a0.sh))) (plY h bh g a0.t a0.sh (s.find? (roomB w h bw bh g a0.l a0.t a0.sw a0.sh))) bw bh (s.find? (roomB w h bw bh g a0.l a0.t a0.sw a0.sh)) = AR at *
    generalize anD (spX g bw a0.l a0.sw 0 w (s.find? (inB bw bh g 0 0 w h a0.l a0.t a0.sw a0.sh))) (spY g bh a0.t a0.sh 0 h (s.find? (inB bw bh g 0 0 w h a0.l a0.t a0.sw a0.sh))) bw bh = PL at *
    generalize ((((ancA w h a0.sw a0.sh).filter (zeroA w h bw bh g s)).length : Nat) : Int) = CN at *
    generalize pD (bestP w h bw bh g s [a0, a1, a2]) = BP at *
    generalize hRg : anD 0 0 w h = Rg at *
    generalize [a0, a1, a2].map An.d = AS at *
    generalize stD w h bw bh g s = S at *
    generalize a0.d = d0 at *
    generalize a0.sw = q1 at *
    generalize a0.sh = q2 at *
    rw [f_law, runD_fin]
    unfold b_law
    refine fin_run [.dat (.scr ns), .dat S, .no, .no, .no, .no, .no, .no, .no, .no, .no, .no] (by simp [es, lS]) ?_
    refine fin_run [.dat (.scr ns), .dat S, .own (.lst AS), .no, .no, .no, .no, .no, .no, .no, .no, .no] (by simp [lcS, eas, lA', rgD_len]) ?_
    refine fin_run [.dat (.scr ns), .dat S, .dat (.lst AS), .own (.lst AS), .own (.lst [.lst O, .lst E, .lst R]), .no, .no, .no, .no, .no, .no, .no] (by simp [parS, mlf, eL, lcS, lO', lE', lR', hAl, lf, lfAll, lA']) ?_
    refine fin_run [.dat (.scr ns), .dat S, .dat (.lst AS), .own (.lst AS), .own (.lst [.lst O, .lst E, .lst R]), .no, .no, .no, .no, .no, .no, .no] (by simp [sChLL, eR, lO', lE', lR']) ?_
    refine fin_run [.dat (.scr ns), .dat S, .dat (.lst AS), .own (.lst AS), .own (.lst [.lst O, .lst E, .lst R]), .no, .no, .no, .no, .no, .no, .no] (by simp [eL, nF, nS]) ?_
    refine fin_run [.dat (.scr ns), .dat S, .dat (.lst AS), .own (.lst AS), .own (.lst [.lst O, .lst E, .lst R]), .no, .no, .no, .no, .no, .no, .no] (by simp [eB, nB]) ?_
    refine fin_run [.dat (.scr ns), .dat S, .dat (.lst AS), .own (.lst AS), .own (.lst [.lst O, .lst E, .lst R]), .no, .no, .no, .no, .no, .no, .no] (by simp [i0, eA', nA, nS, -v_ixL]) ?_
    refine fin_run [.dat (.scr ns), .dat S, .dat (.lst AS), .own (.lst AS), .own (.lst [.lst O, .lst E, .lst R]), .dat Rg, .no, .no, .no, .no, .no, .no] (by simp [j0, j1, j2, lf, lfAll, ← hRg, -v_ixT]) ?_
    refine fin_run [.dat (.scr ns), .dat S, .dat (.lst AS), .own (.lst AS), .own (.lst [.lst O, .lst E, .lst R]), .dat Rg, .no, .no, .no, .no, .no, .no] (by simp [i0, eP', nP', -v_ixL]) ?_
    refine fin_run [.dat (.scr ns), .dat S, .dat (.lst AS), .own (.lst AS), .own (.lst [.lst O, .lst E, .lst R]), .dat Rg, .no, .no, .no, .no, .no, .no] (by simp [i0, hd0, cut, eC, nC', -v_ixL]) ?_
    refine fin_run [.dat (.scr ns), .dat S, .dat (.lst AS), .own (.lst AS), .own (.lst [.lst O, .lst E, .lst R]), .dat Rg, .dat (stD 6 6 1 1 0 [.t]), .no, .no, .no, .no, .no] (by simp [lf, lfAll, sdD]) ?_
    have e := p_wins (ns := ns) (S := S) (A := .lst AS) (Kp := AS) (Fi := [.lst O, .lst E, .lst R]) (Rg := Rg)
    unfold winS at e
    rw [e]
    rfl
end Pk
namespace Pk
open PySem L2 Dl
theorem all_mk {P : Program} {w : World} {K : PySem.W.Frag} {h : Heap} {mg : Str → Option Value} {fa : Addr} (X : K.In h) (G : h.Ns mainGlobals mg) (hfa : mg "law" = some (.ref fa))
    (i_is_int : DefIn K "is_int" s_is_int)
    (i_is_side : DefIn K "is_side" s_is_side)
    (i_are_sides : DefIn K "are_sides" s_are_sides)
    (i_is_size : DefIn K "is_size" s_is_size)
    (i_is_setting : DefIn K "is_setting" s_is_setting)
    (i_check_setting : DefIn K "check_setting" s_check_setting)
    (i_has_anchor : DefIn K "has_anchor" s_has_anchor)
    (i_check_anchors : DefIn K "check_anchors" s_check_anchors)
    (i_inside : DefIn K "inside" s_inside)
    (i_centred : DefIn K "centred" s_centred)
    (i_spot_on : DefIn K "spot_on" s_spot_on)
    (i_has_room : DefIn K "has_room" s_has_room)
    (i_find_fitting : DefIn K "find_fitting" s_find_fitting)
    (i_common : DefIn K "common" s_common)
    (i_overlap : DefIn K "overlap" s_overlap)
    (i_find_open : DefIn K "find_open" s_find_open)
    (i_open_all : DefIn K "open_all" s_open_all)
    (i_find_shown : DefIn K "find_shown" s_find_shown)
    (i_in_each_others_way : DefIn K "in_each_others_way" s_in_each_others_way)
    (i_check_anchor : DefIn K "check_anchor" s_check_anchor)
    (i_check_both : DefIn K "check_both" s_check_both)
    (i_find_side : DefIn K "find_side" s_find_side)
    (i_find_raw : DefIn K "find_raw" s_find_raw)
    (i_within : DefIn K "within" s_within)
    (i_find_place : DefIn K "find_place" s_find_place)
    (i_picture : DefIn K "picture" s_picture)
    (i_L_lists : DefIn K "_law_lists" s_L_lists)
    (i_W_change : MethIn K "change" "Window.change" s_W_change)
    (i_find_way : DefIn K "find_way" s_find_way)
    (i_W_step : MethIn K "step" "Window.step" s_W_step)
    (i_W_init : MethIn K "__init__" "Window.__init__" s_W_init)
    (i_W_copy : MethIn K "copy" "Window.copy" s_W_copy)
    (i_L_drawn : DefIn K "_law_drawn" s_L_drawn)
    (i_L_setting : DefIn K "_law_setting" s_L_setting)
    (i_W_anchor : MethIn K "anchor" "Window.anchor" s_W_anchor)
    (i_L_anchor : DefIn K "_law_anchor" s_L_anchor)
    (i_L_changed : DefIn K "_law_changed" s_L_changed)
    (i_all_orders : DefIn K "all_orders" s_all_orders)
    (i_find_best : DefIn K "find_best" s_find_best)
    (i_best_order : DefIn K "best_order" s_best_order)
    (i_has_region : DefIn K "has_region" s_has_region)
    (i_check_region : DefIn K "check_region" s_check_region)
    (i_lies_in : DefIn K "lies_in" s_lies_in)
    (i_find_side_in : DefIn K "find_side_in" s_find_side_in)
    (i_place_in : DefIn K "place_in" s_place_in)
    (i_check_size : DefIn K "check_size" s_check_size)
    (i_all_anchors : DefIn K "all_anchors" s_all_anchors)
    (i_find_middle : DefIn K "find_middle" s_find_middle)
    (i_nearest : DefIn K "nearest" s_nearest)
    (i_find_arrow : DefIn K "find_arrow" s_find_arrow)
    (i_find_off : DefIn K "find_off" s_find_off)
    (i_count_straight : DefIn K "count_straight" s_count_straight)
    (i_arrow : DefIn K "arrow" s_arrow)
    (i_law : DefIn K "law" s_law)
    (iC : ClsIn K)
    (iM : MakeIn K)
    (b_abs : PySem.W.nsIn K mainGlobals "abs" = some none)
    (b_all : PySem.W.nsIn K mainGlobals "all" = some none)
    (b_any : PySem.W.nsIn K mainGlobals "any" = some none)
    (b_bool : PySem.W.nsIn K mainGlobals "bool" = some none)
    (b_enumerate : PySem.W.nsIn K mainGlobals "enumerate" = some none)
    (b_int : PySem.W.nsIn K mainGlobals "int" = some none)
    (b_isinstance : PySem.W.nsIn K mainGlobals "isinstance" = some none)
    (b_len : PySem.W.nsIn K mainGlobals "len" = some none)
    (b_list : PySem.W.nsIn K mainGlobals "list" = some none)
    (b_max : PySem.W.nsIn K mainGlobals "max" = some none)
    (b_min : PySem.W.nsIn K mainGlobals "min" = some none)
    (b_range : PySem.W.nsIn K mainGlobals "range" = some none)
    (b_set : PySem.W.nsIn K mainGlobals "set" = some none)
    (b_str : PySem.W.nsIn K mainGlobals "str" = some none)
    (b_tuple : PySem.W.nsIn K mainGlobals "tuple" = some none)
    (c_BOTTOM : GlIn K "BOTTOM" (.str "bottom"))
    (c_BOX : GlIn K "BOX" (.str "#"))
    (c_EMPTY : GlIn K "EMPTY" (.str "."))
    (c_HERE : GlIn K "HERE" (.str "@"))
    (c_LEFT : GlIn K "LEFT" (.str "left"))
    (c_MAX_ANCHORS : GlIn K "MAX_ANCHORS" (.int 6))
    (c_MAX_GAP : GlIn K "MAX_GAP" (.int 5))
    (c_MAX_ORDERED : GlIn K "MAX_ORDERED" (.int 4))
    (c_MAX_SIZE : GlIn K "MAX_SIZE" (.int 30))
    (c_OVER : GlIn K "OVER" (.str "over"))
    (c_RIGHT : GlIn K "RIGHT" (.str "right"))
    (c_SIDES : GlIn K "SIDES" (.tup [(.str "top"), (.str "bottom"), (.str "left"), (.str "right")]))
    (c_TOP : GlIn K "TOP" (.str "top"))
    (x_InvalidAnchor : ExcIn K "InvalidAnchor")
    (x_InvalidAnchors : ExcIn K "InvalidAnchors")
    (x_InvalidNumber : ExcIn K "InvalidNumber")
    (x_InvalidRegion : ExcIn K "InvalidRegion")
    (x_InvalidSetting : ExcIn K "InvalidSetting")
    (x_InvalidSize : ExcIn K "InvalidSize")
    (x_TooLarge : ExcIn K "TooLarge")
    (plain : ∀ ns : List Int, ns.length ≤ 63 → f_law [.scr ns] = some (.ok (.bl true))) :
    ∃ fd : FuncData, (∀ (s : Shared) (u : Value), BindsTo s fd ⟨[u], []⟩ [("_law_script", u)]) ∧ ∀ base : Heap, K.In base → base.Ns mainGlobals mg → FnOk P w K mg base (L2.CX P w) 10 fa fd ["_law_script"] (spLaw K 63) := by
  have T : Txt K mg := { b_abs := PySem.W.mg_none_of X G b_abs, b_all := PySem.W.mg_none_of X G b_all, b_any := PySem.W.mg_none_of X G b_any, b_bool := PySem.W.mg_none_of X G b_bool, b_enumerate := PySem.W.mg_none_of X G b_enumerate, b_int := PySem.W.mg_none_of X G b_int, b_isinstance := PySem.W.mg_none_of X G b_isinstance, b_len := PySem.W.mg_none_of X G b_len, b_list := PySem.W.mg_none_of X G b_list, b_max := PySem.W.mg_none_of X G b_max, b_min := PySem.W.mg_none_of X G b_min, b_range := PySem.W.mg_none_of X G b_range, b_set := PySem.W.mg_none_of X G b_set, b_str := PySem.W.mg_none_of X G b_str, b_tuple := PySem.W.mg_none_of X G b_tuple, c_BOTTOM := c_BOTTOM.gl X G, c_BOX := c_BOX.gl X G, c_EMPTY := c_EMPTY.gl X G, c_HERE := c_HERE.gl X G, c_LEFT := c_LEFT.gl X G, c_MAX_ANCHORS := c_MAX_ANCHORS.gl X G, c_MAX_GAP := c_MAX_GAP.gl X G, c_MAX_ORDERED := c_MAX_ORDERED.gl X G, c_MAX_SIZE := c_MAX_SIZE.gl X G, c_OVER := c_OVER.gl X G, c_RIGHT := c_RIGHT.gl X G, c_SIDES := c_SIDES.gl X G, c_TOP := c_TOP.gl X G, x_InvalidAnchor := x_InvalidAnchor.gl X G, x_InvalidAnchors := x_InvalidAnchors.gl X G, x_InvalidNumber := x_InvalidNumber.gl X G, x_InvalidRegion := x_InvalidRegion.gl X G, x_InvalidSetting := x_InvalidSetting.gl X G, x_InvalidSize := x_InvalidSize.gl X G, x_TooLarge := x_TooLarge.gl X G }
  obtain ⟨C, hW⟩ := iC.gl X G
  obtain ⟨a_is_int, fd_is_int, F_is_int, m_is_int, bi_is_int, be_is_int⟩ := i_is_int.get (ps := ["value", "least", "most"]) X G (fun _ _ _ _ _ _ us hl => match us, hl with | [_, _, _], _ => rfl)
  obtain ⟨a_is_side, fd_is_side, F_is_side, m_is_side, bi_is_side, be_is_side⟩ := i_is_side.get (ps := ["value"]) X G (fun _ _ _ _ _ _ us hl => match us, hl with | [_], _ => rfl)
  obtain ⟨a_are_sides, fd_are_sides, F_are_sides, m_are_sides, bi_are_sides, be_are_sides⟩ := i_are_sides.get (ps := ["value"]) X G (fun _ _ _ _ _ _ us hl => match us, hl with | [_], _ => rfl)
  obtain ⟨a_is_size, fd_is_size, F_is_size, m_is_size, bi_is_size, be_is_size⟩ := i_is_size.get (ps := ["value", "wide", "high"]) X G (fun _ _ _ _ _ _ us hl => match us, hl with | [_, _, _], _ => rfl)
  obtain ⟨a_is_setting, fd_is_setting, F_is_setting, m_is_setting, bi_is_setting, be_is_setting⟩ := i_is_setting.get (ps := ["candidate"]) X G (fun _ _ _ _ _ _ us hl => match us, hl with | [_], _ => rfl)
  obtain ⟨a_check_setting, fd_check_setting, F_check_setting, m_check_setting, bi_check_setting, be_check_setting⟩ := i_check_setting.get (ps := ["value"]) X G (fun _ _ _ _ _ _ us hl => match us, hl with | [_], _ => rfl)
  obtain ⟨a_has_anchor, fd_has_anchor, F_has_anchor, m_has_anchor, bi_has_anchor, be_has_anchor⟩ := i_has_anchor.get (ps := ["setting", "candidate"]) X G (fun _ _ _ _ _ _ us hl => match us, hl with | [_, _], _ => rfl)
  obtain ⟨a_check_anchors, fd_check_anchors, F_check_anchors, m_check_anchors, bi_check_anchors, be_check_anchors⟩ := i_check_anchors.get (ps := ["setting", "anchors"]) X G (fun _ _ _ _ _ _ us hl => match us, hl with | [_, _], _ => rfl)
  obtain ⟨a_inside, fd_inside, F_inside, m_inside, bi_inside, be_inside⟩ := i_inside.get (ps := ["start", "box", "low", "size"]) X G (fun _ _ _ _ _ _ us hl => match us, hl with | [_, _, _, _], _ => rfl)
  obtain ⟨a_centred, fd_centred, F_centred, m_centred, bi_centred, be_centred⟩ := i_centred.get (ps := ["start", "size", "box"]) X G (fun _ _ _ _ _ _ us hl => match us, hl with | [_, _, _], _ => rfl)
  obtain ⟨a_spot_on, fd_spot_on, F_spot_on, m_spot_on, bi_spot_on, be_spot_on⟩ := i_spot_on.get (ps := ["setting", "region", "anchor", "side"]) X G (fun _ _ _ _ _ _ us hl => match us, hl with | [_, _, _, _], _ => rfl)
  obtain ⟨a_has_room, fd_has_room, F_has_room, m_has_room, bi_has_room, be_has_room⟩ := i_has_room.get (ps := ["setting", "anchor", "side"]) X G (fun _ _ _ _ _ _ us hl => match us, hl with | [_, _, _], _ => rfl)
  obtain ⟨a_find_fitting, fd_find_fitting, F_find_fitting, m_find_fitting, bi_find_fitting, be_find_fitting⟩ := i_find_fitting.get (ps := ["setting", "anchor"]) X G (fun _ _ _ _ _ _ us hl => match us, hl with | [_, _], _ => rfl)
  obtain ⟨a_common, fd_common, F_common, m_common, bi_common, be_common⟩ := i_common.get (ps := ["start", "size", "other", "length"]) X G (fun _ _ _ _ _ _ us hl => match us, hl with | [_, _, _, _], _ => rfl)
  obtain ⟨a_overlap, fd_overlap, F_overlap, m_overlap, bi_overlap, be_overlap⟩ := i_overlap.get (ps := ["one", "other"]) X G (fun _ _ _ _ _ _ us hl => match us, hl with | [_, _], _ => rfl)
  obtain ⟨a_find_open, fd_find_open, F_find_open, m_find_open, bi_find_open, be_find_open⟩ := i_find_open.get (ps := ["setting", "anchors"]) X G (fun _ _ _ _ _ _ us hl => match us, hl with | [_, _], _ => rfl)
  obtain ⟨a_open_all, fd_open_all, F_open_all, m_open_all, bi_open_all, be_open_all⟩ := i_open_all.get (ps := ["setting", "anchors"]) X G (fun _ _ _ _ _ _ us hl => match us, hl with | [_, _], _ => rfl)
  obtain ⟨a_find_shown, fd_find_shown, F_find_shown, m_find_shown, bi_find_shown, be_find_shown⟩ := i_find_shown.get (ps := ["setting", "anchors"]) X G (fun _ _ _ _ _ _ us hl => match us, hl with | [_, _], _ => rfl)
  obtain ⟨a_in_each_others_way, fd_in_each_others_way, F_in_each_others_way, m_in_each_others_way, bi_in_each_others_way, be_in_each_others_way⟩ := i_in_each_others_way.get (ps := ["setting", "anchors"]) X G (fun _ _ _ _ _ _ us hl => match us, hl with | [_, _], _ => rfl)
  obtain ⟨a_check_anchor, fd_check_anchor, F_check_anchor, m_check_anchor, bi_check_anchor, be_check_anchor⟩ := i_check_anchor.get (ps := ["setting", "value"]) X G (fun _ _ _ _ _ _ us hl => match us, hl with | [_, _], _ => rfl)
  obtain ⟨a_check_both, fd_check_both, F_check_both, m_check_both, bi_check_both, be_check_both⟩ := i_check_both.get (ps := ["setting", "anchor"]) X G (fun _ _ _ _ _ _ us hl => match us, hl with | [_, _], _ => rfl)
  obtain ⟨a_find_side, fd_find_side, F_find_side, m_find_side, bi_find_side, be_find_side⟩ := i_find_side.get (ps := ["setting", "anchor"]) X G (fun _ _ _ _ _ _ us hl => match us, hl with | [_, _], _ => rfl)
  obtain ⟨a_find_raw, fd_find_raw, F_find_raw, m_find_raw, bi_find_raw, be_find_raw⟩ := i_find_raw.get (ps := ["setting", "anchor"]) X G (fun _ _ _ _ _ _ us hl => match us, hl with | [_, _], _ => rfl)
  obtain ⟨a_within, fd_within, F_within, m_within, bi_within, be_within⟩ := i_within.get (ps := ["start", "box", "screen"]) X G (fun _ _ _ _ _ _ us hl => match us, hl with | [_, _, _], _ => rfl)
  obtain ⟨a_find_place, fd_find_place, F_find_place, m_find_place, bi_find_place, be_find_place⟩ := i_find_place.get (ps := ["setting", "anchor"]) X G (fun _ _ _ _ _ _ us hl => match us, hl with | [_, _], _ => rfl)
  obtain ⟨a_picture, fd_picture, F_picture, m_picture, bi_picture, be_picture⟩ := i_picture.get (ps := ["setting", "anchor"]) X G (fun _ _ _ _ _ _ us hl => match us, hl with | [_, _], _ => rfl)
  obtain ⟨a_L_lists, fd_L_lists, F_L_lists, m_L_lists, bi_L_lists, be_L_lists⟩ := i_L_lists.get (ps := ["_law_setting_here", "_law_anchors"]) X G (fun _ _ _ _ _ _ us hl => match us, hl with | [_, _], _ => rfl)
  obtain ⟨C_W_change, a_W_change, fd_W_change, F_W_change, hC_W_change, hM_W_change, bi_W_change⟩ := i_W_change.get (ps := ["self", "setting", "anchor"]) X G (fun _ _ _ _ _ _ us hl => match us, hl with | [_, _, _], _ => rfl)
  obtain ⟨a_find_way, fd_find_way, F_find_way, m_find_way, bi_find_way, be_find_way⟩ := i_find_way.get (ps := ["setting", "anchor", "other"]) X G (fun _ _ _ _ _ _ us hl => match us, hl with | [_, _, _], _ => rfl)
  obtain ⟨C_W_step, a_W_step, fd_W_step, F_W_step, hC_W_step, hM_W_step, bi_W_step⟩ := i_W_step.get (ps := ["self", "across", "down"]) X G (fun _ _ _ _ _ _ us hl => match us, hl with | [_, _, _], _ => rfl)
  obtain ⟨C_W_init, a_W_init, fd_W_init, F_W_init, hC_W_init, hM_W_init, bi_W_init⟩ := i_W_init.get (ps := ["self", "setting", "anchor"]) X G (fun _ _ _ _ _ _ us hl => match us, hl with | [_, _, _], _ => rfl)
  obtain ⟨C_W_copy, a_W_copy, fd_W_copy, F_W_copy, hC_W_copy, hM_W_copy, bi_W_copy⟩ := i_W_copy.get (ps := ["self"]) X G (fun _ _ _ _ _ _ us hl => match us, hl with | [_], _ => rfl)
  obtain ⟨a_L_drawn, fd_L_drawn, F_L_drawn, m_L_drawn, bi_L_drawn, be_L_drawn⟩ := i_L_drawn.get (ps := ["_law_script", "_law_k", "_law_many"]) X G (fun _ _ _ _ _ _ us hl => match us, hl with | [_, _, _], _ => rfl)
  obtain ⟨a_L_setting, fd_L_setting, F_L_setting, m_L_setting, bi_L_setting, be_L_setting⟩ := i_L_setting.get (ps := ["_law_script", "_law_at"]) X G (fun _ _ _ _ _ _ us hl => match us, hl with | [_, _], _ => rfl)
  obtain ⟨C_W_anchor, a_W_anchor, fd_W_anchor, F_W_anchor, hC_W_anchor, hM_W_anchor, bi_W_anchor⟩ := i_W_anchor.get (ps := ["self"]) X G (fun _ _ _ _ _ _ us hl => match us, hl with | [_], _ => rfl)
  obtain ⟨a_L_anchor, fd_L_anchor, F_L_anchor, m_L_anchor, bi_L_anchor, be_L_anchor⟩ := i_L_anchor.get (ps := ["_law_script", "_law_at", "_law_setting_here"]) X G (fun _ _ _ _ _ _ us hl => match us, hl with | [_, _, _], _ => rfl)
  obtain ⟨a_L_changed, fd_L_changed, F_L_changed, m_L_changed, bi_L_changed, be_L_changed⟩ := i_L_changed.get (ps := ["_law_rows"]) X G (fun _ _ _ _ _ _ us hl => match us, hl with | [_], _ => rfl)
  obtain ⟨a_all_orders, fd_all_orders, F_all_orders, m_all_orders, bi_all_orders, be_all_orders⟩ := i_all_orders.get (ps := ["many"]) X G (fun _ _ _ _ _ _ us hl => match us, hl with | [_], _ => rfl)
  obtain ⟨a_find_best, fd_find_best, F_find_best, m_find_best, bi_find_best, be_find_best⟩ := i_find_best.get (ps := ["setting", "anchors"]) X G (fun _ _ _ _ _ _ us hl => match us, hl with | [_, _], _ => rfl)
  obtain ⟨a_best_order, fd_best_order, F_best_order, m_best_order, bi_best_order, be_best_order⟩ := i_best_order.get (ps := ["setting", "anchors"]) X G (fun _ _ _ _ _ _ us hl => match us, hl with | [_, _], _ => rfl)
  obtain ⟨a_has_region, fd_has_region, F_has_region, m_has_region, bi_has_region, be_has_region⟩ := i_has_region.get (ps := ["setting", "candidate"]) X G (fun _ _ _ _ _ _ us hl => match us, hl with | [_, _], _ => rfl)
  obtain ⟨a_check_region, fd_check_region, F_check_region, m_check_region, bi_check_region, be_check_region⟩ := i_check_region.get (ps := ["setting", "region"]) X G (fun _ _ _ _ _ _ us hl => match us, hl with | [_, _], _ => rfl)
  obtain ⟨a_lies_in, fd_lies_in, F_lies_in, m_lies_in, bi_lies_in, be_lies_in⟩ := i_lies_in.get (ps := ["rectangle", "region"]) X G (fun _ _ _ _ _ _ us hl => match us, hl with | [_, _], _ => rfl)
  obtain ⟨a_find_side_in, fd_find_side_in, F_find_side_in, m_find_side_in, bi_find_side_in, be_find_side_in⟩ := i_find_side_in.get (ps := ["setting", "region", "anchor"]) X G (fun _ _ _ _ _ _ us hl => match us, hl with | [_, _, _], _ => rfl)
  obtain ⟨a_place_in, fd_place_in, F_place_in, m_place_in, bi_place_in, be_place_in⟩ := i_place_in.get (ps := ["setting", "region", "anchor"]) X G (fun _ _ _ _ _ _ us hl => match us, hl with | [_, _, _], _ => rfl)
  obtain ⟨a_check_size, fd_check_size, F_check_size, m_check_size, bi_check_size, be_check_size⟩ := i_check_size.get (ps := ["setting", "size"]) X G (fun _ _ _ _ _ _ us hl => match us, hl with | [_, _], _ => rfl)
  obtain ⟨a_all_anchors, fd_all_anchors, F_all_anchors, m_all_anchors, bi_all_anchors, be_all_anchors⟩ := i_all_anchors.get (ps := ["setting", "size"]) X G (fun _ _ _ _ _ _ us hl => match us, hl with | [_, _], _ => rfl)
  obtain ⟨a_find_middle, fd_find_middle, F_find_middle, m_find_middle, bi_find_middle, be_find_middle⟩ := i_find_middle.get (ps := ["anchor"]) X G (fun _ _ _ _ _ _ us hl => match us, hl with | [_], _ => rfl)
  obtain ⟨a_nearest, fd_nearest, F_nearest, m_nearest, bi_nearest, be_nearest⟩ := i_nearest.get (ps := ["value", "start", "size"]) X G (fun _ _ _ _ _ _ us hl => match us, hl with | [_, _, _], _ => rfl)
  obtain ⟨a_find_arrow, fd_find_arrow, F_find_arrow, m_find_arrow, bi_find_arrow, be_find_arrow⟩ := i_find_arrow.get (ps := ["setting", "anchor"]) X G (fun _ _ _ _ _ _ us hl => match us, hl with | [_, _], _ => rfl)
  obtain ⟨a_find_off, fd_find_off, F_find_off, m_find_off, bi_find_off, be_find_off⟩ := i_find_off.get (ps := ["setting", "anchor"]) X G (fun _ _ _ _ _ _ us hl => match us, hl with | [_, _], _ => rfl)
  obtain ⟨a_count_straight, fd_count_straight, F_count_straight, m_count_straight, bi_count_straight, be_count_straight⟩ := i_count_straight.get (ps := ["setting", "size"]) X G (fun _ _ _ _ _ _ us hl => match us, hl with | [_, _], _ => rfl)
  obtain ⟨a_arrow, fd_arrow, F_arrow, m_arrow, bi_arrow, be_arrow⟩ := i_arrow.get (ps := ["setting", "anchor"]) X G (fun _ _ _ _ _ _ us hl => match us, hl with | [_, _], _ => rfl)
  obtain ⟨a_law, fd_law, F_law, m_law, bi_law, be_law⟩ := i_law.get (ps := ["_law_script"]) X G (fun _ _ _ _ _ _ us hl => match us, hl with | [_], _ => rfl)
  have e := hfa.symm.trans m_law
  cases e
  refine ⟨fd_law, fun s u => be_law s [u] rfl, fun base _ _ => law_ok ?_ plain⟩
  have G_is_int : FnD P w K mg base 2 "is_int" 3 f_is_int := w_is_int T F_is_int m_is_int bi_is_int
  have G_is_side : FnD P w K mg base 2 "is_side" 1 f_is_side := w_is_side T F_is_side m_is_side bi_is_side
  have G_are_sides : FnD P w K mg base 3 "are_sides" 1 f_are_sides := w_are_sides T F_are_sides m_are_sides bi_are_sides G_is_side
  have G_is_size : FnD P w K mg base 3 "is_size" 3 f_is_size := w_is_size T F_is_size m_is_size bi_is_size G_is_int
  have G_is_setting : FnD P w K mg base 4 "is_setting" 1 f_is_setting := w_is_setting T F_is_setting m_is_setting bi_is_setting G_is_int G_are_sides G_is_size
  have G_check_setting : FnD P w K mg base 5 "check_setting" 1 f_check_setting := w_check_setting T F_check_setting m_check_setting bi_check_setting G_is_setting
  have G_has_anchor : FnD P w K mg base 3 "has_anchor" 2 f_has_anchor := w_has_anchor T F_has_anchor m_has_anchor bi_has_anchor G_is_int
  have G_check_anchors : FnD P w K mg base 6 "check_anchors" 2 f_check_anchors := w_check_anchors T F_check_anchors m_check_anchors bi_check_anchors G_check_setting G_has_anchor
  have G_inside : FnD P w K mg base 2 "inside" 4 f_inside := w_inside T F_inside m_inside bi_inside
  have G_centred : FnD P w K mg base 2 "centred" 3 f_centred := w_centred T F_centred m_centred bi_centred
  have G_spot_on : FnD P w K mg base 3 "spot_on" 4 f_spot_on := w_spot_on T F_spot_on m_spot_on bi_spot_on G_inside G_centred
  have G_has_room : FnD P w K mg base 2 "has_room" 3 f_has_room := w_has_room T F_has_room m_has_room bi_has_room
  have G_find_fitting : FnD P w K mg base 3 "find_fitting" 2 f_find_fitting := w_find_fitting T F_find_fitting m_find_fitting bi_find_fitting G_has_room
  have G_common : FnD P w K mg base 2 "common" 4 f_common := w_common T F_common m_common bi_common
  have G_overlap : FnD P w K mg base 3 "overlap" 2 f_overlap := w_overlap T F_overlap m_overlap bi_overlap G_common
  have G_find_open : FnD P w K mg base 4 "find_open" 2 f_find_open := w_find_open T F_find_open m_find_open bi_find_open G_spot_on G_find_fitting G_overlap
  have G_open_all : FnD P w K mg base 7 "open_all" 2 f_open_all := w_open_all T F_open_all m_open_all bi_open_all G_check_anchors G_find_open
  have G_find_shown : FnD P w K mg base 5 "find_shown" 2 f_find_shown := w_find_shown T F_find_shown m_find_shown bi_find_shown G_find_open
  have G_in_each_others_way : FnD P w K mg base 7 "in_each_others_way" 2 f_in_each_others_way := w_in_each_others_way T F_in_each_others_way m_in_each_others_way bi_in_each_others_way G_check_anchors G_find_shown
  have G_check_anchor : FnD P w K mg base 4 "check_anchor" 2 f_check_anchor := w_check_anchor T F_check_anchor m_check_anchor bi_check_anchor G_has_anchor
  have G_check_both : FnD P w K mg base 6 "check_both" 2 f_check_both := w_check_both T F_check_both m_check_both bi_check_both G_check_setting G_check_anchor
  have G_find_side : FnD P w K mg base 4 "find_side" 2 f_find_side := w_find_side T F_find_side m_find_side bi_find_side G_find_fitting
  have G_find_raw : FnD P w K mg base 5 "find_raw" 2 f_find_raw := w_find_raw T F_find_raw m_find_raw bi_find_raw G_centred G_find_side
  have G_within : FnD P w K mg base 2 "within" 3 f_within := w_within T F_within m_within bi_within
  have G_find_place : FnD P w K mg base 6 "find_place" 2 f_find_place := w_find_place T F_find_place m_find_place bi_find_place G_find_raw G_within
  have G_picture : FnD P w K mg base 7 "picture" 2 f_picture := w_picture T F_picture m_picture bi_picture G_check_both G_find_place G_overlap
  have G_L_lists : FnD P w K mg base 8 "_law_lists" 2 f_L_lists := w_L_lists T F_L_lists m_L_lists bi_L_lists G_open_all G_in_each_others_way G_picture
  have G_R_find_open : FnL P w K mg base 4 "find_open" 2 f_R_find_open := w_R_find_open T F_find_open m_find_open bi_find_open G_spot_on G_find_fitting G_overlap
  have G_R_open_all : FnL P w K mg base 7 "open_all" 2 f_R_open_all := w_R_open_all T F_open_all m_open_all bi_open_all G_check_anchors G_R_find_open
  have G_R_in_each_others_way : FnL P w K mg base 7 "in_each_others_way" 2 f_R_in_each_others_way := w_R_in_each_others_way T F_in_each_others_way m_in_each_others_way bi_in_each_others_way G_check_anchors G_find_shown
  have G_R_picture : FnL P w K mg base 7 "picture" 2 f_R_picture := w_R_picture T F_picture m_picture bi_picture G_check_both G_find_place G_overlap
  have G_R_L_lists : FnLL P w K mg base 8 "_law_lists" 2 f_R_L_lists := w_R_L_lists T F_L_lists m_L_lists bi_L_lists G_R_open_all G_R_in_each_others_way G_R_picture
  have G_W_change : MtW P w K mg base 2 "change" 3 g_W_change := w_W_change T hW hC_W_change hM_W_change F_W_change bi_W_change
  have G_find_way : FnD P w K mg base 7 "find_way" 3 f_find_way := w_find_way T F_find_way m_find_way bi_find_way G_find_place
  have G_W_step : MtW P w K mg base 8 "step" 3 g_W_step := w_W_step T hW hC_W_step hM_W_step F_W_step bi_W_step G_W_change G_check_anchor G_find_way G_is_int
  have G_W_init : MkW P w K mg base 7 f_check_both := w_W_init X G iM T hW hC_W_init hM_W_init F_W_init bi_W_init G_check_both
  have G_W_copy : CpW P w K mg base 9 "copy" f_check_both := w_W_copy T hW hC_W_copy hM_W_copy F_W_copy bi_W_copy G_W_init
  have G_L_drawn : FnD P w K mg base 2 "_law_drawn" 3 f_L_drawn := w_L_drawn T F_L_drawn m_L_drawn bi_L_drawn
  have G_L_setting : FnD P w K mg base 3 "_law_setting" 2 f_L_setting := w_L_setting T F_L_setting m_L_setting bi_L_setting G_L_drawn
  have G_W_anchor : MtD P w K mg base 2 "anchor" 1 f_W_anchor := w_W_anchor T hW hC_W_anchor hM_W_anchor F_W_anchor bi_W_anchor
  have G_L_anchor : FnD P w K mg base 3 "_law_anchor" 3 f_L_anchor := w_L_anchor T F_L_anchor m_L_anchor bi_L_anchor G_L_drawn
  have G_L_changed : FnCh P w K mg base 2 "_law_changed" := w_L_changed T F_L_changed m_L_changed bi_L_changed
  have G_all_orders : FnD P w K mg base 2 "all_orders" 1 f_all_orders := w_all_orders T F_all_orders m_all_orders bi_all_orders
  have G_find_best : FnD P w K mg base 7 "find_best" 2 f_find_best := w_find_best T F_find_best m_find_best bi_find_best G_check_anchors G_all_orders G_find_shown
  have G_best_order : FnD P w K mg base 8 "best_order" 2 f_best_order := w_best_order T F_best_order m_best_order bi_best_order G_find_best
  have G_has_region : FnD P w K mg base 4 "has_region" 2 f_has_region := w_has_region T F_has_region m_has_region bi_has_region G_has_anchor
  have G_check_region : FnD P w K mg base 6 "check_region" 2 f_check_region := w_check_region T F_check_region m_check_region bi_check_region G_check_setting G_has_region
  have G_lies_in : FnD P w K mg base 2 "lies_in" 2 f_lies_in := w_lies_in T F_lies_in m_lies_in bi_lies_in
  have G_find_side_in : FnD P w K mg base 4 "find_side_in" 3 f_find_side_in := w_find_side_in T F_find_side_in m_find_side_in bi_find_side_in G_has_room G_lies_in G_spot_on
  have G_place_in : FnD P w K mg base 7 "place_in" 3 f_place_in := w_place_in T F_place_in m_place_in bi_place_in G_check_region G_check_anchor G_spot_on G_find_side_in
  have G_check_size : FnD P w K mg base 6 "check_size" 2 f_check_size := w_check_size T F_check_size m_check_size bi_check_size G_check_setting G_is_size
  have G_all_anchors : FnD P w K mg base 2 "all_anchors" 2 f_all_anchors := w_all_anchors T F_all_anchors m_all_anchors bi_all_anchors
  have G_find_middle : FnD P w K mg base 2 "find_middle" 1 f_find_middle := w_find_middle T F_find_middle m_find_middle bi_find_middle
  have G_nearest : FnD P w K mg base 2 "nearest" 3 f_nearest := w_nearest T F_nearest m_nearest bi_nearest
  have G_find_arrow : FnD P w K mg base 7 "find_arrow" 2 f_find_arrow := w_find_arrow T F_find_arrow m_find_arrow bi_find_arrow G_find_side G_find_place G_find_middle G_nearest
  have G_find_off : FnD P w K mg base 8 "find_off" 2 f_find_off := w_find_off T F_find_off m_find_off bi_find_off G_find_arrow G_find_middle G_find_side
  have G_count_straight : FnD P w K mg base 9 "count_straight" 2 f_count_straight := w_count_straight T F_count_straight m_count_straight bi_count_straight G_check_size G_all_anchors G_find_off
  have G_arrow : FnD P w K mg base 8 "arrow" 2 f_arrow := w_arrow T F_arrow m_arrow bi_arrow G_check_both G_find_arrow
  exact w_law T F_law hfa bi_law G_R_L_lists G_W_step G_W_copy G_L_setting G_W_anchor G_L_anchor G_L_changed G_best_order G_place_in G_count_straight G_W_init G_L_lists G_arrow
end Pk
open PySem PySem.W PyProof.Rows in
set_option maxRecDepth 100000 in
set_option maxHeartbeats 0 in
theorem PySem.Challenge.cw_popupsides_k99_repeated_calls_holds : PySem.Challenge.rw_popupsides_k99_repeated_calls.Holds := by
  w_on; o_law; k_head; (case hw => w_witness2)
  k_fill
  refine Dl.walk_law (l := PySem.Challenge.rw_popupsides_k99_repeated_calls) (n := 63) (k := 10) rfl (by decide) rfl ⟨rfl, by decide, by decide⟩ (fun w h Y => PySem.W.kIn_of Y) ?F
  case F =>
    intro w mg fa h KX G hmg
    refine' Pk.all_mk KX G hmg ?i_is_int ?i_is_side ?i_are_sides ?i_is_size ?i_is_setting ?i_check_setting ?i_has_anchor ?i_check_anchors ?i_inside ?i_centred ?i_spot_on ?i_has_room ?i_find_fitting ?i_common ?i_overlap ?i_find_open ?i_open_all ?i_find_shown ?i_in_each_others_way ?i_check_anchor ?i_check_both ?i_find_side ?i_find_raw ?i_within ?i_find_place ?i_picture ?i_L_lists ?i_W_change ?i_find_way ?i_W_step ?i_W_init ?i_W_copy ?i_L_drawn ?i_L_setting ?i_W_anchor ?i_L_anchor ?i_L_changed ?i_all_orders ?i_find_best ?i_best_order ?i_has_region ?i_check_region ?i_lies_in ?i_find_side_in ?i_place_in ?i_check_size ?i_all_anchors ?i_find_middle ?i_nearest ?i_find_arrow ?i_find_off ?i_count_straight ?i_arrow ?i_law ?iC ?iM ?b_abs ?b_all ?b_any ?b_bool ?b_enumerate ?b_int ?b_isinstance ?b_len ?b_list ?b_max ?b_min ?b_range ?b_set ?b_str ?b_tuple ?c_BOTTOM ?c_BOX ?c_EMPTY ?c_HERE ?c_LEFT ?c_MAX_ANCHORS ?c_MAX_GAP ?c_MAX_ORDERED ?c_MAX_SIZE ?c_OVER ?c_RIGHT ?c_SIDES ?c_TOP ?x_InvalidAnchor ?x_InvalidAnchors ?x_InvalidNumber ?x_InvalidRegion ?x_InvalidSetting ?x_InvalidSize ?x_TooLarge Pk.plain
    (case iC => refine' Dl.clsIn ?yA ?yB ?yC ?yD ?yE ?yF ?yG ?yH; (case yA => k_is); (case yB => k_is); (case yC => k_is); (case yD => k_is); (case yE => k_is); (case yF => k_is); (case yG => k_is); (case yH => k_is))
    (case iM => refine' Dl.makeIn ?yA ?yB ?yC; (case yA => k_is); (case yB => k_is); (case yC => k_is))
    (case i_is_int => refine' Dl.defIn ?a ?l ?c ?k; (case a => k_is); (case l => k_is); (case c => k_is); (case k => k_is))
    (case i_is_side => refine' Dl.defIn ?a ?l ?c ?k; (case a => k_is); (case l => k_is); (case c => k_is); (case k => k_is))
    (case i_are_sides => refine' Dl.defIn ?a ?l ?c ?k; (case a => k_is); (case l => k_is); (case c => k_is); (case k => k_is))
    (case i_is_size => refine' Dl.defIn ?a ?l ?c ?k; (case a => k_is); (case l => k_is); (case c => k_is); (case k => k_is))
    (case i_is_setting => refine' Dl.defIn ?a ?l ?c ?k; (case a => k_is); (case l => k_is); (case c => k_is); (case k => k_is))
    (case i_check_setting => refine' Dl.defIn ?a ?l ?c ?k; (case a => k_is); (case l => k_is); (case c => k_is); (case k => k_is))
    (case i_has_anchor => refine' Dl.defIn ?a ?l ?c ?k; (case a => k_is); (case l => k_is); (case c => k_is); (case k => k_is))
    (case i_check_anchors => refine' Dl.defIn ?a ?l ?c ?k; (case a => k_is); (case l => k_is); (case c => k_is); (case k => k_is))
    (case i_inside => refine' Dl.defIn ?a ?l ?c ?k; (case a => k_is); (case l => k_is); (case c => k_is); (case k => k_is))
    (case i_centred => refine' Dl.defIn ?a ?l ?c ?k; (case a => k_is); (case l => k_is); (case c => k_is); (case k => k_is))
    (case i_spot_on => refine' Dl.defIn ?a ?l ?c ?k; (case a => k_is); (case l => k_is); (case c => k_is); (case k => k_is))
    (case i_has_room => refine' Dl.defIn ?a ?l ?c ?k; (case a => k_is); (case l => k_is); (case c => k_is); (case k => k_is))
    (case i_find_fitting => refine' Dl.defIn ?a ?l ?c ?k; (case a => k_is); (case l => k_is); (case c => k_is); (case k => k_is))
    (case i_common => refine' Dl.defIn ?a ?l ?c ?k; (case a => k_is); (case l => k_is); (case c => k_is); (case k => k_is))
    (case i_overlap => refine' Dl.defIn ?a ?l ?c ?k; (case a => k_is); (case l => k_is); (case c => k_is); (case k => k_is))
    (case i_find_open => refine' Dl.defIn ?a ?l ?c ?k; (case a => k_is); (case l => k_is); (case c => k_is); (case k => k_is))
    (case i_open_all => refine' Dl.defIn ?a ?l ?c ?k; (case a => k_is); (case l => k_is); (case c => k_is); (case k => k_is))
    (case i_find_shown => refine' Dl.defIn ?a ?l ?c ?k; (case a => k_is); (case l => k_is); (case c => k_is); (case k => k_is))
    (case i_in_each_others_way => refine' Dl.defIn ?a ?l ?c ?k; (case a => k_is); (case l => k_is); (case c => k_is); (case k => k_is))
    (case i_check_anchor => refine' Dl.defIn ?a ?l ?c ?k; (case a => k_is); (case l => k_is); (case c => k_is); (case k => k_is))
    (case i_check_both => refine' Dl.defIn ?a ?l ?c ?k; (case a => k_is); (case l => k_is); (case c => k_is); (case k => k_is))
    (case i_find_side => refine' Dl.defIn ?a ?l ?c ?k; (case a => k_is); (case l => k_is); (case c => k_is); (case k => k_is))
    (case i_find_raw => refine' Dl.defIn ?a ?l ?c ?k; (case a => k_is); (case l => k_is); (case c => k_is); (case k => k_is))
    (case i_within => refine' Dl.defIn ?a ?l ?c ?k; (case a => k_is); (case l => k_is); (case c => k_is); (case k => k_is))
    (case i_find_place => refine' Dl.defIn ?a ?l ?c ?k; (case a => k_is); (case l => k_is); (case c => k_is); (case k => k_is))
    (case i_picture => refine' Dl.defIn ?a ?l ?c ?k; (case a => k_is); (case l => k_is); (case c => k_is); (case k => k_is))
    (case i_L_lists => refine' Dl.defIn ?a ?l ?c ?k; (case a => k_is); (case l => k_is); (case c => k_is); (case k => k_is))
    (case i_W_change => refine' Dl.methIn ?zA ?zB ?zC ?zD ?zE ?zF; (case zA => k_is); (case zB => k_is); (case zC => k_is); (case zD => k_is); (case zE => k_is); (case zF => k_is))
    (case i_find_way => refine' Dl.defIn ?a ?l ?c ?k; (case a => k_is); (case l => k_is); (case c => k_is); (case k => k_is))
    (case i_W_step => refine' Dl.methIn ?zA ?zB ?zC ?zD ?zE ?zF; (case zA => k_is); (case zB => k_is); (case zC => k_is); (case zD => k_is); (case zE => k_is); (case zF => k_is))
    (case i_W_init => refine' Dl.methIn ?zA ?zB ?zC ?zD ?zE ?zF; (case zA => k_is); (case zB => k_is); (case zC => k_is); (case zD => k_is); (case zE => k_is); (case zF => k_is))
    (case i_W_copy => refine' Dl.methIn ?zA ?zB ?zC ?zD ?zE ?zF; (case zA => k_is); (case zB => k_is); (case zC => k_is); (case zD => k_is); (case zE => k_is); (case zF => k_is))
    (case i_L_drawn => refine' Dl.defIn ?a ?l ?c ?k; (case a => k_is); (case l => k_is); (case c => k_is); (case k => k_is))
    (case i_L_setting => refine' Dl.defIn ?a ?l ?c ?k; (case a => k_is); (case l => k_is); (case c => k_is); (case k => k_is))
    (case i_W_anchor => refine' Dl.methIn ?zA ?zB ?zC ?zD ?zE ?zF; (case zA => k_is); (case zB => k_is); (case zC => k_is); (case zD => k_is); (case zE => k_is); (case zF => k_is))
    (case i_L_anchor => refine' Dl.defIn ?a ?l ?c ?k; (case a => k_is); (case l => k_is); (case c => k_is); (case k => k_is))
    (case i_L_changed => refine' Dl.defIn ?a ?l ?c ?k; (case a => k_is); (case l => k_is); (case c => k_is); (case k => k_is))
    (case i_all_orders => refine' Dl.defIn ?a ?l ?c ?k; (case a => k_is); (case l => k_is); (case c => k_is); (case k => k_is))
    (case i_find_best => refine' Dl.defIn ?a ?l ?c ?k; (case a => k_is); (case l => k_is); (case c => k_is); (case k => k_is))
    (case i_best_order => refine' Dl.defIn ?a ?l ?c ?k; (case a => k_is); (case l => k_is); (case c => k_is); (case k => k_is))
    (case i_has_region => refine' Dl.defIn ?a ?l ?c ?k; (case a => k_is); (case l => k_is); (case c => k_is); (case k => k_is))
    (case i_check_region => refine' Dl.defIn ?a ?l ?c ?k; (case a => k_is); (case l => k_is); (case c => k_is); (case k => k_is))
    (case i_lies_in => refine' Dl.defIn ?a ?l ?c ?k; (case a => k_is); (case l => k_is); (case c => k_is); (case k => k_is))
    (case i_find_side_in => refine' Dl.defIn ?a ?l ?c ?k; (case a => k_is); (case l => k_is); (case c => k_is); (case k => k_is))
    (case i_place_in => refine' Dl.defIn ?a ?l ?c ?k; (case a => k_is); (case l => k_is); (case c => k_is); (case k => k_is))
    (case i_check_size => refine' Dl.defIn ?a ?l ?c ?k; (case a => k_is); (case l => k_is); (case c => k_is); (case k => k_is))
    (case i_all_anchors => refine' Dl.defIn ?a ?l ?c ?k; (case a => k_is); (case l => k_is); (case c => k_is); (case k => k_is))
    (case i_find_middle => refine' Dl.defIn ?a ?l ?c ?k; (case a => k_is); (case l => k_is); (case c => k_is); (case k => k_is))
    (case i_nearest => refine' Dl.defIn ?a ?l ?c ?k; (case a => k_is); (case l => k_is); (case c => k_is); (case k => k_is))
    (case i_find_arrow => refine' Dl.defIn ?a ?l ?c ?k; (case a => k_is); (case l => k_is); (case c => k_is); (case k => k_is))
    (case i_find_off => refine' Dl.defIn ?a ?l ?c ?k; (case a => k_is); (case l => k_is); (case c => k_is); (case k => k_is))
    (case i_count_straight => refine' Dl.defIn ?a ?l ?c ?k; (case a => k_is); (case l => k_is); (case c => k_is); (case k => k_is))
    (case i_arrow => refine' Dl.defIn ?a ?l ?c ?k; (case a => k_is); (case l => k_is); (case c => k_is); (case k => k_is))
    (case i_law => refine' Dl.defIn ?a ?l ?c ?k; (case a => k_is); (case l => k_is); (case c => k_is); (case k => k_is))
    (case b_abs => k_is)
    (case b_all => k_is)
    (case b_any => k_is)
    (case b_bool => k_is)
    (case b_enumerate => k_is)
    (case b_int => k_is)
    (case b_isinstance => k_is)
    (case b_len => k_is)
    (case b_list => k_is)
    (case b_max => k_is)
    (case b_min => k_is)
    (case b_range => k_is)
    (case b_set => k_is)
    (case b_str => k_is)
    (case b_tuple => k_is)
    (case c_BOTTOM => refine' Dl.glIn ?a ?v; (case a => k_is); (case v => exact Dl.gv_str))
    (case c_BOX => refine' Dl.glIn ?a ?v; (case a => k_is); (case v => exact Dl.gv_str))
    (case c_EMPTY => refine' Dl.glIn ?a ?v; (case a => k_is); (case v => exact Dl.gv_str))
    (case c_HERE => refine' Dl.glIn ?a ?v; (case a => k_is); (case v => exact Dl.gv_str))
    (case c_LEFT => refine' Dl.glIn ?a ?v; (case a => k_is); (case v => exact Dl.gv_str))
    (case c_MAX_ANCHORS => refine' Dl.glIn ?a ?v; (case a => k_is); (case v => exact Dl.gv_int))
    (case c_MAX_GAP => refine' Dl.glIn ?a ?v; (case a => k_is); (case v => exact Dl.gv_int))
    (case c_MAX_ORDERED => refine' Dl.glIn ?a ?v; (case a => k_is); (case v => exact Dl.gv_int))
    (case c_MAX_SIZE => refine' Dl.glIn ?a ?v; (case a => k_is); (case v => exact Dl.gv_int))
    (case c_OVER => refine' Dl.glIn ?a ?v; (case a => k_is); (case v => exact Dl.gv_str))
    (case c_RIGHT => refine' Dl.glIn ?a ?v; (case a => k_is); (case v => exact Dl.gv_str))
    (case c_SIDES => refine' Dl.glIn ?a ?v; (case a => k_is); (case v => refine' Dl.gv_tup ?l ?t ?z; (case l => k_is); (case z => decide); (case t => refine' Dl.gvs_cons ?v ?t; (case v => exact Dl.gv_str); (case t => refine' Dl.gvs_cons ?v ?t; (case v => exact Dl.gv_str); (case t => refine' Dl.gvs_cons ?v ?t; (case v => exact Dl.gv_str); (case t => refine' Dl.gvs_cons ?v ?t; (case v => exact Dl.gv_str); (case t => exact Dl.gvs_nil)))))))
    (case c_TOP => refine' Dl.glIn ?a ?v; (case a => k_is); (case v => exact Dl.gv_str))
    (case x_InvalidAnchor => refine' Dl.excIn ?a ?e ?k ?s ?t; (case a => k_is); (case e => k_exc); (case k => k_is); (case s => k_is); (case t => k_is))
    (case x_InvalidAnchors => refine' Dl.excIn ?a ?e ?k ?s ?t; (case a => k_is); (case e => k_exc); (case k => k_is); (case s => k_is); (case t => k_is))
    (case x_InvalidNumber => refine' Dl.excIn ?a ?e ?k ?s ?t; (case a => k_is); (case e => k_exc); (case k => k_is); (case s => k_is); (case t => k_is))
    (case x_InvalidRegion => refine' Dl.excIn ?a ?e ?k ?s ?t; (case a => k_is); (case e => k_exc); (case k => k_is); (case s => k_is); (case t => k_is))
    (case x_InvalidSetting => refine' Dl.excIn ?a ?e ?k ?s ?t; (case a => k_is); (case e => k_exc); (case k => k_is); (case s => k_is); (case t => k_is))
    (case x_InvalidSize => refine' Dl.excIn ?a ?e ?k ?s ?t; (case a => k_is); (case e => k_exc); (case k => k_is); (case s => k_is); (case t => k_is))
    (case x_TooLarge => refine' Dl.excIn ?a ?e ?k ?s ?t; (case a => k_is); (case e => k_exc); (case k => k_is); (case s => k_is); (case t => k_is))
