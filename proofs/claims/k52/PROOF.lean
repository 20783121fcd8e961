import PyProof.Rows.All
import Wide.All
import OpenK.AllK
import Wide.FinOn
import HandS.ForMost
import HandS.ForExc
import HandS.IsInst
import HandS.Style
import HandS.CallSlots
import HandS.Deep
import HandS.Strs
import HandS.Lambda
import HandS.TupAny
import HandS.Conv
import HandS.Wide
import HandS.TupLe
import HandS.SetFor
import PyProof.TupleOfSeq
import PyProof.Rows.SortShellAny
import HandS.ExcOwn
import HandS.ExcIs
import HandS.WordsExc
import KE.DataMinMax
import HandS.Iter
import PyProof.ZipIter
import HandS.Text
import HandS.Dict
import HandS.SortKw
import KE.SortKeyHeap
import HandS.EndTab
import PySem.Challenge.RW_popupsides_k52_arrows
set_option Elab.async false
set_option autoImplicit false
set_option linter.all false
set_option maxHeartbeats 4000000
set_option maxRecDepth 100000
/-! Dl1: data, what a value represents, heaps that grow. -/
namespace Dl
open PySem L2

inductive D where
  | non | bl (b : Bool) | int (i : Int) | str (x : Str)
  | tup (ds : List D) | lst (ds : List D) | dic (kvs : List (Key × V)) | scr (ns : List Int) | fn (nm : Str) | exn (a : Addr) | tpl (ds : List D) | dlx (a : Addr) (kns : List (Int × List Int))

/-- not a table of code objects -/
def NT : HO → Bool
  | .tbl _ => false
  | _ => true
/-- a heap that keeps what is tracked, but for the tables -/
structure Ex (H H' : Hp) : Prop where
  k : ∀ a o, H a = some o → NT o = true → H' a = some o
  n : ∀ a, H' a = none → H a = none
/-- the name of the lambdas of _law_arrow -/
def QN : Str := "_law_arrow.<locals>.<lambda>"
/-- the tables stay tables -/
def KeepT (H H' : Hp) : Prop := ∀ a q, q = QN → LamX.TabS H a q → LamX.TabS H' a q
theorem Ex.full {H H' : Hp} (h : ∀ a o, H a = some o → H' a = some o) : Ex H H' := ⟨fun a o e _ => h a o e, fun a e => by
  cases q : H a with
  | none => rfl
  | some o => rw [h a o q] at e; cases e⟩
theorem Ex.refl (H : Hp) : Ex H H := .full fun _ _ h => h
theorem Ex.trans {H H1 H2 : Hp} (a : Ex H H1) (b : Ex H1 H2) : Ex H H2 := ⟨fun x o h t => b.k x o (a.k x o h t) t, fun x h => a.n x (b.n x h)⟩
theorem new_full {H : Hp} {p : Addr} {o : HO} (h : H p = none) : ∀ a u, H a = some u → upd H p o a = some u := fun a u e => by
  rw [upd_ne (ne_of_none e h)]
  exact e
theorem Ex.new {H : Hp} {p : Addr} {o : HO} (h : H p = none) : Ex H (upd H p o) := .full (new_full h)
theorem KeepT.refl (H : Hp) : KeepT H H := fun _ _ _ h => h
theorem KeepT.trans {H H1 H2 : Hp} (a : KeepT H H1) (b : KeepT H1 H2) : KeepT H H2 := fun x q e h => b x q e (a x q e h)
theorem KeepT.new {H : Hp} {p : Addr} {o : HO} (h : H p = none) : KeepT H (upd H p o) := fun _ _ _ t => t.ext (new_full h)
/-- the table of the code of the def at fa, as K tells it -/
def TabOf (K : PySem.W.Frag) (fa c P : Addr) : Prop := ∃ (o : Obj) (fd : FuncData) (e : Value) (dd : Option Addr) (vs : Array Value) (sl : Array (Option Value)), K.lookup fa = some o ∧ o.data = .func fd ∧ fd.code = .ref c ∧ K.lookup c = some ⟨e, dd, .fields vs, sl⟩ ∧ vs[11]? = some (.ref P)
/-- the table of _law_arrow is a table -/
def HT (K : PySem.W.Frag) (mg : Str → Option Value) (H : Hp) : Prop := ∀ fa c P, mg "_law_arrow" = some (.ref fa) → TabOf K fa c P → LamX.TabS H P QN
theorem HT.keep {K : PySem.W.Frag} {mg : Str → Option Value} {H H' : Hp} (h : HT K mg H) (k : KeepT H H') : HT K mg H' := fun fa c P h1 h2 => k _ _ rfl (h fa c P h1 h2)
theorem Ex.none {H H' : Hp} {p : Addr} (e : Ex H H') (h : H' p = none) : H p = none := e.n p h
theorem Ex.rd {H H' : Hp} {a : Addr} {u : HO} (e : Ex H H') (h : Rd H a u) (hn : NT u = true := by rfl) : Rd H' a u := by
  rcases h with h | ⟨o, h⟩
  · exact .inl (e.k a _ h hn)
  · exact .inr ⟨o, e.k a _ h rfl⟩
theorem Ex.sqL {K : PySem.W.Frag} {H H' : Hp} {a : Addr} {xs : List V} (e : Ex H H') (h : SqL K H a xs) : SqL K H' a xs := by
  rcases h with h | h
  · exact .inl (e.rd h)
  · exact .inr h
theorem Ex.sqT {K : PySem.W.Frag} {H H' : Hp} {a : Addr} {xs : List V} (e : Ex H H') (h : SqT K H a xs) : SqT K H' a xs := by
  rcases h with h | h
  · exact .inl (e.rd h)
  · exact .inr h

/-- a dict with int keys whose values are lists of ints -/
def KRep (F : Hp) : List (Key × V) → List (Int × List Int) → Prop
  | [], [] => True
  | p :: r, q :: s => p.1 = Sum.inl q.1 ∧ (∃ b, p.2 = .ref b ∧ F b = some (.lst (q.2.map V.int))) ∧ KRep F r s
  | _, _ => False
theorem KRep.mo {F F' : Hp} (e : Ex F F') : ∀ {kvs : List (Key × V)} {kns : List (Int × List Int)}, KRep F kvs kns → KRep F' kvs kns
  | [], [], _ => trivial
  | p :: r, q :: s, h => ⟨h.1, by obtain ⟨b, h1, h2⟩ := h.2.1; exact ⟨b, h1, e.k _ _ h2 rfl⟩, KRep.mo e h.2.2⟩
  | [], _ :: _, h => h.elim
  | _ :: _, [], h => h.elim
/-- a tuple whose object is known to have no dict of its own -/
def PlT (F : Hp) (a : Addr) (xs : List V) : Prop := ∃ o : Obj, F a = some (.frz o (.tup xs)) ∧ o.cls = .type "tuple" ∧ o.dict = none
theorem Ex.plT {H H' : Hp} {a : Addr} {xs : List V} (e : Ex H H') (h : PlT H a xs) : PlT H' a xs := by
  obtain ⟨o, h1, h2⟩ := h
  exact ⟨o, e.k _ _ h1 rfl, h2⟩
section
variable (K : PySem.W.Frag) (mg : Str → Option Value) (F : Hp)
mutual
inductive Rep : V → D → Prop
  | non : Rep .non .non
  | bl (b : Bool) : Rep (.bl b) (.bl b)
  | int (i : Int) : Rep (.int i) (.int i)
  | str (x : Str) : Rep (.str x) (.str x)
  | tup {a : Addr} {xs : List V} {ds : List D} : SqT K F a xs → RepAll xs ds → Rep (.ref a) (.tup ds)
  | lst {a : Addr} {xs : List V} {ds : List D} : F a = some (.lst xs) → RepAll xs ds → Rep (.ref a) (.lst ds)
  | dic {a : Addr} {kvs : List (Key × V)} : F a = some (.dK kvs) → (kvs.all fun p => flatV p.2) = true → Rep (.ref a) (.dic kvs)
  | scr {a : Addr} {ns : List Int} : SqL K F a (ns.map V.int) → Rep (.ref a) (.scr ns)
  | fn {a : Addr} {nm : Str} : mg nm = some (.ref a) → Rep (.ref a) (.fn nm)
  | exn (a : Addr) : Rep (.ref a) (.exn a)
  | tpl {a : Addr} {xs : List V} {ds : List D} : PlT F a xs → RepAll xs ds → Rep (.ref a) (.tpl ds)
  | dlx {a : Addr} {kvs : List (Key × V)} {kns : List (Int × List Int)} : F a = some (.dK kvs) → KRep F kvs kns → Rep (.ref a) (.dlx a kns)
inductive RepAll : List V → List D → Prop
  | nil : RepAll [] []
  | cons {v : V} {vs : List V} {d : D} {ds : List D} : Rep v d → RepAll vs ds → RepAll (v :: vs) (d :: ds)
end
end

section
variable {K : PySem.W.Frag} {mg : Str → Option Value} {F F' H H' : Hp}
mutual
theorem Rep.mono (e : Ex F F') : ∀ (d : D) (v : V), Rep K mg F v d → Rep K mg F' v d
  | .non, _, h => by cases h; exact .non
  | .bl b, _, h => by cases h; exact .bl b
  | .int i, _, h => by cases h; exact .int i
  | .str x, _, h => by cases h; exact .str x
  | .tup ds, _, h => by cases h with | tup hs ha => exact .tup (e.sqT hs) (RepAll.mono e ds _ ha)
  | .lst ds, _, h => by cases h with | lst hs ha => exact .lst (e.k _ _ hs rfl) (RepAll.mono e ds _ ha)
  | .dic kvs, _, h => by cases h with | dic h1 h2 => exact .dic (e.k _ _ h1 rfl) h2
  | .scr ns, _, h => by cases h with | scr h1 => exact .scr (e.sqL h1)
  | .fn nm, _, h => by cases h with | fn h1 => exact .fn h1
  | .exn a, _, h => by cases h; exact .exn a
  | .tpl ds, _, h => by cases h with | tpl hs ha => exact .tpl (e.plT hs) (RepAll.mono e ds _ ha)
  | .dlx a kns, _, h => by cases h with | dlx hs hk => exact .dlx (e.k _ _ hs rfl) (hk.mo e)
theorem RepAll.mono (e : Ex F F') : ∀ (ds : List D) (vs : List V), RepAll K mg F vs ds → RepAll K mg F' vs ds
  | [], _, h => by cases h; exact .nil
  | d :: ds, _, h => by cases h with | cons h1 h2 => exact .cons (Rep.mono e d _ h1) (RepAll.mono e ds _ h2)
end
theorem Rep.mo {d : D} {v : V} (h : Rep K mg F v d) (e : Ex F F') : Rep K mg F' v d := Rep.mono e d v h
theorem RepAll.mo {d : List D} {v : List V} (h : RepAll K mg F v d) (e : Ex F F') : RepAll K mg F' v d := RepAll.mono e d v h
theorem RepAll.length : ∀ {vs : List V} {ds : List D}, RepAll K mg F vs ds → vs.length = ds.length
  | _, [], h => by cases h; rfl
  | _, d :: ds, h => by cases h with | cons h1 h2 => rw [List.length_cons, List.length_cons, RepAll.length h2]
theorem RepAll.get : ∀ {vs : List V} {ds : List D} {i : Nat} {d : D}, RepAll K mg F vs ds → ds[i]? = some d → ∃ v, vs[i]? = some v ∧ Rep K mg F v d
  | _, [], _, _, _, h => by simp at h
  | _, d :: ds, 0, _, h, e => by
    cases h with
    | cons h1 h2 => simp at e; subst e; exact ⟨_, rfl, h1⟩
  | _, d :: ds, i + 1, _, h, e => by
    cases h with
    | cons h1 h2 =>
      obtain ⟨v, e1, r⟩ := RepAll.get (i := i) h2 (by simpa using e)
      exact ⟨v, by simpa using e1, r⟩
theorem RepAll.get' : ∀ {vs : List V} {ds : List D} {i : Nat} {v : V}, RepAll K mg F vs ds → vs[i]? = some v → ∃ d, ds[i]? = some d ∧ Rep K mg F v d
  | _, [], _, _, h, e => by cases h; simp at e
  | _, d :: ds, 0, _, h, e => by
    cases h with
    | cons h1 h2 => simp at e; subst e; exact ⟨_, rfl, h1⟩
  | _, d :: ds, i + 1, _, h, e => by
    cases h with
    | cons h1 h2 =>
      obtain ⟨v, e1, r⟩ := RepAll.get' (i := i) h2 (by simpa using e)
      exact ⟨v, by simpa using e1, r⟩
theorem RepAll.append : ∀ {vs ws : List V} {ds es : List D}, RepAll K mg F vs ds → RepAll K mg F ws es → RepAll K mg F (vs ++ ws) (ds ++ es)
  | _, _, [], _, h, g => by cases h; exact g
  | _, _, d :: ds, _, h, g => by cases h with | cons h1 h2 => exact .cons h1 (RepAll.append h2 g)
theorem RepAll.take : ∀ {vs : List V} {ds : List D} (n : Nat), RepAll K mg F vs ds → RepAll K mg F (vs.take n) (ds.take n)
  | _, _, 0, _ => .nil
  | _, [], _ + 1, h => by cases h; exact .nil
  | _, d :: ds, n + 1, h => by cases h with | cons h1 h2 => exact .cons h1 (RepAll.take n h2)
theorem RepAll.drop : ∀ {vs : List V} {ds : List D} (n : Nat), RepAll K mg F vs ds → RepAll K mg F (vs.drop n) (ds.drop n)
  | _, _, 0, h => h
  | _, [], _ + 1, h => by cases h; exact .nil
  | _, d :: ds, n + 1, h => by cases h with | cons h1 h2 => exact RepAll.drop n h2
theorem RepAll.reverse : ∀ {vs : List V} {ds : List D}, RepAll K mg F vs ds → RepAll K mg F vs.reverse ds.reverse
  | _, [], h => by cases h; exact .nil
  | _, d :: ds, h => by
    cases h with
    | cons h1 h2 => rw [List.reverse_cons, List.reverse_cons]; exact (RepAll.reverse h2).append (.cons h1 .nil)
theorem RepAll.eraseIdx : ∀ {vs : List V} {ds : List D} (i : Nat), RepAll K mg F vs ds → RepAll K mg F (vs.eraseIdx i) (ds.eraseIdx i)
  | _, [], _, h => by cases h; exact .nil
  | _, d :: ds, 0, h => by cases h with | cons h1 h2 => exact h2
  | _, d :: ds, i + 1, h => by cases h with | cons h1 h2 => exact .cons h1 (RepAll.eraseIdx i h2)
theorem RepAll.rep {vs : List V} {ds : List D} (h : RepAll K mg F vs ds) : ∀ k : Nat, RepAll K mg F (List.replicate k vs).flatten (List.replicate k ds).flatten
  | 0 => .nil
  | k + 1 => by rw [List.replicate_succ, List.replicate_succ, List.flatten_cons, List.flatten_cons]; exact h.append (RepAll.rep h k)
theorem RepAll.ints : ∀ (ns : List Int), RepAll K mg F (ns.map V.int) (ns.map D.int)
  | [] => .nil
  | n :: ns => .cons (.int n) (RepAll.ints ns)

/-! ### data without a list: it leans on tuples alone -/
mutual
def lf : D → Bool
  | .non => true
  | .bl _ => true
  | .int _ => true
  | .str _ => true
  | .fn _ => true
  | .exn _ => true
  | .tpl _ => false
  | .dlx _ _ => false
  | .tup ds => lfAll ds
  | .lst _ => false
  | .dic _ => false
  | .scr _ => false
def lfAll : List D → Bool
  | [] => true
  | d :: ds => lf d && lfAll ds
end
def Tups (F F' : Hp) : Prop := ∀ a xs, SqT K F a xs → SqT K F' a xs
mutual
theorem Rep.lf (e : Tups (K := K) F F') : ∀ (d : D) (v : V), Dl.lf d = true → Rep K mg F v d → Rep K mg F' v d
  | .non, _, _, h => by cases h; exact .non
  | .bl b, _, _, h => by cases h; exact .bl b
  | .int i, _, _, h => by cases h; exact .int i
  | .str x, _, _, h => by cases h; exact .str x
  | .tup ds, _, l, h => by
    cases h with
    | tup hs ha => exact .tup (e _ _ hs) (RepAll.lf e ds _ (by simpa [Dl.lf] using l) ha)
  | .fn nm, _, _, h => by cases h with | fn h1 => exact .fn h1
  | .exn a, _, _, h => by cases h; exact .exn a
  | .tpl ds, _, l, _ => by simp [Dl.lf] at l
  | .dlx _ _, _, l, _ => by simp [Dl.lf] at l
  | .lst ds, _, l, _ => by simp [Dl.lf] at l
  | .dic ds, _, l, _ => by simp [Dl.lf] at l
  | .scr ds, _, l, _ => by simp [Dl.lf] at l
theorem RepAll.lf (e : Tups (K := K) F F') : ∀ (ds : List D) (vs : List V), Dl.lfAll ds = true → RepAll K mg F vs ds → RepAll K mg F' vs ds
  | [], _, _, h => by cases h; exact .nil
  | d :: ds, _, l, h => by
    have l' : Dl.lf d = true ∧ Dl.lfAll ds = true := by simpa [Dl.lfAll] using l
    cases h with | cons h1 h2 => exact .cons (Rep.lf e d _ l'.1 h1) (RepAll.lf e ds _ l'.2 h2)
end

/-! ### the frozen part F inside H; both grow, the new of F is new to H -/
structure Grow (F H F' H' : Hp) : Prop where
  f : Ex F F'
  h : Ex H H'
  s : Ex F' H'
  n : ∀ a o, F' a = some o → F a = some o ∨ H a = none
  t : KeepT H H'
theorem Grow.refl (e : Ex F H) : Grow F H F H := ⟨.refl _, .refl _, e, fun _ _ h => .inl h, .refl _⟩
theorem Grow.trans {F1 H1 F2 H2 : Hp} (a : Grow F H F1 H1) (b : Grow F1 H1 F2 H2) : Grow F H F2 H2 :=
  ⟨a.f.trans b.f, a.h.trans b.h, b.s, fun x o e => (b.n x o e).elim (fun q => a.n x o q) fun q => .inr (a.h.none q), a.t.trans b.t⟩
/-- a new object, in both -/
theorem Grow.both {p : Addr} {o : HO} (e : Ex F H) (h : H p = none) : Grow F H (upd F p o) (upd H p o) := by
  have hf : F p = none := e.none h
  refine ⟨.new hf, .new h, ⟨fun a u q t => ?_, fun a q => ?_⟩, fun a u q => ?_, .new h⟩
  · by_cases ha : a = p
    · subst ha; rw [upd_same] at q ⊢; exact q
    · rw [upd_ne ha] at q ⊢; exact e.k a u q t
  · by_cases ha : a = p
    · subst ha; rw [upd_same] at q; cases q
    · rw [upd_ne ha] at q ⊢; exact e.n a q
  · by_cases ha : a = p
    · subst ha; exact .inr h
    · rw [upd_ne ha] at q; exact .inl q
/-- a new object, in H alone -/
theorem Grow.only {p : Addr} {o : HO} (e : Ex F H) (h : H p = none) : Grow F H F (upd H p o) :=
  ⟨.refl _, .new h, e.trans (.new h), fun _ _ q => .inl q, .new h⟩
/-- frozen afterwards -/
theorem Grow.freeze {p : Addr} {o : HO} (g : Grow F H F' H') (hp : H p = none) (h1 : F' p = none) (h2 : H' p = some o) : Grow F H (upd F' p o) H' :=
  ⟨g.f.trans (.new h1), g.h, ⟨fun a u q t => by
    by_cases ha : a = p
    · subst ha; rw [upd_same] at q; cases q; exact h2
    · rw [upd_ne ha] at q; exact g.s.k a u q t, fun a q => by
    by_cases ha : a = p
    · subst ha; rw [h2] at q; cases q
    · rw [upd_ne ha]; exact g.s.n a q⟩, fun a u q => by
    by_cases ha : a = p
    · subst ha; exact .inr hp
    · rw [upd_ne ha] at q; exact g.n a u q, g.t⟩
/-- an object that is no table and no code is written -/
theorem KeepT.over {D : Addr} {u o : HO} (hD : H D = some u) (n1 : ∀ ps, u ≠ .tbl ps) (n2 : ∀ c q, u ≠ LamX.CodeO c q) : KeepT H (upd H D o) := fun a q _ t => by
  obtain ⟨ps, h1, h2, h3⟩ := t
  refine ⟨ps, by rw [upd_ne (fun z => by rw [z, hD] at h1; exact n1 _ (Option.some.inj h1))]; exact h1, h2, fun pos cv hc => ?_⟩
  obtain ⟨c, e1, e2⟩ := h3 pos cv hc
  exact ⟨c, e1, by rw [upd_ne (fun z => by rw [z, hD] at e2; exact n2 _ _ (Option.some.inj e2))]; exact e2⟩
theorem Grow.over {D : Addr} {u o : HO} (g : Grow F H F' H') (h0 : H D = none) (hF : F' D = none) (hH : H' D = some u) (n1 : ∀ ps, u ≠ .tbl ps) (n2 : ∀ c q, u ≠ LamX.CodeO c q) : Grow F H F' (upd H' D o) :=
  ⟨g.f, ⟨fun a x q t => by rw [upd_ne (ne_of_none q h0)]; exact g.h.k a x q t, fun a q => by
    by_cases w : a = D
    · rw [w]; exact h0
    · rw [upd_ne w] at q; exact g.h.n a q⟩, ⟨fun a x q t => by rw [upd_ne (ne_of_none q hF)]; exact g.s.k a x q t, fun a q => by
    by_cases w : a = D
    · rw [w]; exact hF
    · rw [upd_ne w] at q; exact g.s.n a q⟩, g.n, g.t.trans (.over hH n1 n2)⟩
theorem Grow.overL {D : Addr} {xs ys : List V} (g : Grow F H F' H') (h0 : H D = none) (hF : F' D = none) (hH : H' D = some (.lst xs)) : Grow F H F' (upd H' D (.lst ys)) :=
  g.over h0 hF hH (fun _ z => by cases z) fun c q z => by unfold LamX.CodeO at z; cases z
theorem Grow.overD {D : Addr} {xs ys : List (Key × V)} (g : Grow F H F' H') (h0 : H D = none) (hF : F' D = none) (hH : H' D = some (.dK xs)) : Grow F H F' (upd H' D (.dK ys)) :=
  g.over h0 hF hH (fun _ z => by cases z) fun c q z => by unfold LamX.CodeO at z; cases z
theorem Grow.back {p : Addr} {o : HO} (g : Grow F (upd H p o) F' H') (hp : H p = none) : Grow F H F' H' :=
  ⟨g.f, (Ex.new hp).trans g.h, g.s, fun a u q => (g.n a u q).elim .inl fun w => by
    by_cases ha : a = p
    · subst ha; exact .inr hp
    · rw [upd_ne ha] at w; exact .inr w, (KeepT.new hp).trans g.t⟩
end
end Dl
/-! Dl2: readings that follow a plain function of the data; expressions. -/
namespace Dl
open PySem L2

abbrev Oe (α : Type) := Option (Except Str α)
abbrev Rho := List (Option D)
abbrev Sx := Rho → Oe D
abbrev Sb := Rho → Oe Bool
abbrev Sl := Rho → Oe (List D)
def bd {α β : Type} (o : Oe α) (f : α → Oe β) : Oe β :=
  match o with
  | some (.ok a) => f a
  | some (.error c) => some (.error c)
  | none => none
theorem bd_some {α β : Type} {o : Oe α} {f : α → Oe β} {r : Except Str β} (h : bd o f = some r) :
    (∃ a, o = some (.ok a) ∧ f a = some r) ∨ ∃ c, o = some (.error c) ∧ r = .error c := by
  unfold bd at h
  split at h
  · exact .inl ⟨_, rfl, h⟩
  · exact .inr ⟨_, rfl, (Option.some.inj h).symm⟩
  · cases h
def lift {α : Type} (o : Option α) : Oe α := o.map .ok
theorem lift_some {α : Type} {o : Option α} {r : Except Str α} (h : lift o = some r) : ∃ a, o = some a ∧ r = .ok a := by
  unfold lift at h
  cases o with
  | none => cases h
  | some a => exact ⟨a, rfl, (Option.some.inj h).symm⟩

/-- a kind of answer: F, H ahead, F', H' behind -/
structure Kd (β α : Type) where
  rep : Hp → Hp → Hp → β → α → Prop
  mono : ∀ {H H1 F' H' b a}, Ex H H1 → rep H1 F' H' b a → rep H F' H' b a

section
variable (K : PySem.W.Frag) (mg : Str → Option Value)
structure View (F H : Hp) (σ : St) (ρ : Rho) : Prop where
  e : Ex F H
  v : ∀ (i : Nat) (d : D), ρ[i]? = some (some d) → ∃ v, σ[i]? = some (some v) ∧ Rep K mg F v d
  l : ρ.length ≤ σ.length
  t : HT K mg H
def kV : Kd V D := ⟨fun _ F' _ v d => Rep K mg F' v d, fun _ h => h⟩
def kT : Kd Bool Bool := ⟨fun _ _ _ b a => b = a, fun _ h => h⟩
def kA : Kd (List V) (List D) := ⟨fun _ F' _ vs ds => RepAll K mg F' vs ds, fun _ h => h⟩
/-- a new list, not frozen -/
def kL : Kd V (List D) := ⟨fun H F' H' v ds => ∃ p xs, v = .ref p ∧ H p = none ∧ F' p = none ∧ H' p = some (.lst xs) ∧ RepAll K mg F' xs ds, fun e ⟨p, xs, a, b, c⟩ => ⟨p, xs, a, e.none b, c⟩⟩
def kO : Kd (Option Int) (Option Int) := ⟨fun _ _ _ b a => b = a, fun _ h => h⟩
variable (W : WX)
def FinX (F H : Hp) (σ : St) (c : Str) : Prop := ∀ C F' H', Grow F H F' H' → mg c = some (.ref C) → W (.ref C) none σ H'
variable {α β : Type}
def Fin (k : Kd β α) (F H : Hp) (σ : St) (r : Except Str α) (Q : β → Hp → Prop) : Prop :=
  match r with
  | .ok a => ∀ b F' H', Grow F H F' H' → k.rep H F' H' b a → Q b H'
  | .error c => FinX mg W F H σ c
def tK (k : Kd β α) (s : Rho → Oe α) : St → Hp → (β → Hp → Prop) → Prop := fun σ H Q =>
  ∃ ρ F r, View K mg F H σ ρ ∧ s ρ = some r ∧ Fin mg W k F H σ r Q
abbrev tS (s : Sx) : TE := tK K mg W (kV K mg) s
abbrev tT (s : Sb) : TT := tK K mg W kT s
abbrev tA (s : Sl) : TA := tK K mg W (kA K mg) s
abbrev tL (s : Sl) : TE := tK K mg W (kL K mg) s
end

section
variable {K : PySem.W.Frag} {mg : Str → Option Value} {W : WX} {α β γ δ ε ζ : Type} {F H F1 H1 : Hp} {σ : St} {ρ : Rho}
theorem View.mo (h : View K mg F H σ ρ) (g : Grow F H F1 H1) : View K mg F1 H1 σ ρ :=
  ⟨g.s, fun i d e => let ⟨v, e1, r⟩ := h.v i d e; ⟨v, e1, r.mo g.f⟩, h.l, h.t.keep g.t⟩
theorem Fin.mo {k : Kd β α} {r : Except Str α} {Q : β → Hp → Prop} (h : Fin mg W k F H σ r Q) (g : Grow F H F1 H1) : Fin mg W k F1 H1 σ r Q := by
  cases r with
  | ok a => exact fun b F' H' g' q => h b F' H' (g.trans g') (k.mono g.h q)
  | error c => exact fun C F' H' g' q => h C F' H' (g.trans g') q
theorem Fin.err {k : Kd β α} {k' : Kd δ γ} {c : Str} {Q : β → Hp → Prop} {Q' : δ → Hp → Prop} (h : Fin mg W k F H σ (.error c) Q) : Fin mg W k' F H σ (.error c) Q' := h
/-- a part is run, then the rest -/
theorem part {k : Kd β α} {k' : Kd δ γ} {s : Rho → Oe α} {f : α → Oe γ} {r : Except Str γ} {Q : β → Hp → Prop} {Q' : δ → Hp → Prop} (v : View K mg F H σ ρ) (e : bd (s ρ) f = some r) (fin : Fin mg W k' F H σ r Q')
    (h : ∀ a b F1 H1, s ρ = some (.ok a) → f a = some r → Grow F H F1 H1 → View K mg F1 H1 σ ρ → k.rep H F1 H1 b a → Fin mg W k' F1 H1 σ r Q' → Q b H1) : tK K mg W k s σ H Q := by
  rcases bd_some e with ⟨a, ea, e⟩ | ⟨c, ea, rfl⟩
  · exact ⟨ρ, F, .ok a, v, ea, fun b F1 H1 g q => h a b F1 H1 ea e g (v.mo g) q (fin.mo g)⟩
  · exact ⟨ρ, F, .error c, v, ea, fin⟩
/-- the last part -/
theorem whole {k : Kd β α} {s : Rho → Oe α} {r : Except Str α} {Q : β → Hp → Prop} (v : View K mg F H σ ρ) (e : s ρ = some r) (fin : Fin mg W k F H σ r Q) : tK K mg W k s σ H Q := ⟨ρ, F, r, v, e, fin⟩
end

/-! ### rules of the layer below, weakened -/
section
variable {X : Cx} {e : Expr} {es : List Expr} {st : Stmt} {sts : List Stmt}
theorem pe_imp {t t' : TE} (h : PE X e t) (i : ∀ σ H Q, t' σ H Q → t σ H Q) : PE X e t' := ⟨fun pins s σ H Q I q => h.run pins s σ H Q I (i σ H Q q)⟩
theorem pt_imp {t t' : TT} (h : PT X e t) (i : ∀ σ H Q, t' σ H Q → t σ H Q) : PT X e t' := ⟨fun pins s σ H Q I q => h.run pins s σ H Q I (i σ H Q q)⟩
theorem pw_imp {t t' : TT} (h : PW X e t) (i : ∀ σ H Q, t' σ H Q → t σ H Q) : PW X e t' := ⟨fun wh pins s σ H Q I q => h.run wh pins s σ H Q I (i σ H Q q)⟩
theorem pa_imp {t t' : TA} (h : PA X es t) (i : ∀ σ H Q, t' σ H Q → t σ H Q) : PA X es t' := ⟨fun pos pins s σ H Q I q => h.run pos pins s σ H Q I (i σ H Q q)⟩
theorem ps_imp {t t' : TS} (h : PS X st t) (i : ∀ D σ H, t' D σ H → t D σ H) : PS X st t' := ⟨fun pins s σ H D I q => h.run pins s σ H D I (i D σ H q)⟩
theorem pss_imp {t t' : TS} (h : PSs X sts t) (i : ∀ D σ H, t' D σ H → t D σ H) : PSs X sts t' := ⟨fun pins s σ H D I q => h.run pins s σ H D I (i D σ H q)⟩
theorem pts_imp {t t' : TT} (h : PTs X es t) (i : ∀ σ H Q, t' σ H Q → t σ H Q) : PTs X es t' := ⟨fun pins s σ H Q I q => h.run pins s σ H Q I (i σ H Q q)⟩
theorem po_imp {o : Option Expr} {t t' : TO} (h : PO X o t) (i : ∀ σ H Q, t' σ H Q → t σ H Q) : PO X o t' := ⟨fun pins s σ H Q I q => h.run pins s σ H Q I (i σ H Q q)⟩
end

/-! ### names, constants -/
section
variable {X : Cx} {W : WX} {pos : Pos}
def sV (i : Nat) : Sx := fun ρ => lift ((ρ[i]?).bind id)
def sC (d : D) : Sx := fun _ => some (.ok d)
theorem d_var (i : Nat) {x : Str} (hN : X.N[i]? = some x := by rfl) (hv : Vis X.env.scope x := by first | exact Or.inl rfl | exact Or.inr (Or.inl rfl) | exact Or.inr (Or.inr rfl)) (hd : (x == ("__debug__" : Str)) = false := by decide)
    (hcd : (x == ("__classdict__" : Str)) = false := by decide) : PE X (.Name x pos) (tS X.K X.mg W (sV i)) := by
  refine pe_imp (pe_var hN hv hd hcd) fun σ H Q ⟨ρ, F, r, v, e, fin⟩ => ?_
  obtain ⟨d, e1, rfl⟩ := lift_some e
  have e2 : ρ[i]? = some (some d) := by
    cases q : ρ[i]? with
    | none => rw [q] at e1; cases e1
    | some o => rw [q] at e1; exact congrArg some e1
  obtain ⟨u, e3, rp⟩ := v.v i d e2
  exact ⟨u, e3, fin u F H (.refl v.e) rp⟩
theorem d_const {e : Expr} {v : V} {d : D} (h : PE X e (tC v)) (hr : ∀ F, Rep X.K X.mg F v d) : PE X e (tS X.K X.mg W (sC d)) :=
  pe_imp h fun σ H Q ⟨ρ, F, r, v', e, fin⟩ => by cases e; exact fin v F H (.refl v'.e) (hr F)
theorem d_int {i j} : PE X (.Constant (.int i) j pos) (tS X.K X.mg W (sC (.int i))) := d_const pe_int fun _ => .int i
theorem d_bl {b j} : PE X (.Constant (.bool b) j pos) (tS X.K X.mg W (sC (.bl b))) := d_const pe_bl fun _ => .bl b
theorem d_non {j} : PE X (.Constant .none j pos) (tS X.K X.mg W (sC .non)) := d_const pe_non fun _ => .non
theorem d_str {x j} : PE X (.Constant (.str x) j pos) (tS X.K X.mg W (sC (.str x))) := d_const pe_str fun _ => .str x
/-- a constant of the module -/
theorem d_glob {x : Str} {v : V} {u : Value} {d : D} (hm : X.mg x = some u) (r : RelV v u) (hr : ∀ F, Rep X.K X.mg F v d) (hg : Gl X x := by rfl) (hd : (x == ("__debug__" : Str)) = false := by decide) : PE X (.Name x pos) (tS X.K X.mg W (sC d)) := d_const (pe_glob hg hm r hd) hr
/-- a def as a value -/
theorem d_fn {x : Str} {f : Addr} (hm : X.mg x = some (.ref f)) (hg : Gl X x := by rfl) (hd : (x == ("__debug__" : Str)) = false := by decide) : PE X (.Name x pos) (tS X.K X.mg W (sC (.fn x))) := d_const (pe_glob (v := .ref f) hg hm rfl hd) fun _ => .fn hm
end

/-! ### operators, by values -/
def sOp (f : D → D → Option D) (a b : Sx) : Sx := fun ρ => bd (a ρ) fun x => bd (b ρ) fun y => lift (f x y)
def sUn (f : D → Option D) (a : Sx) : Sx := fun ρ => bd (a ρ) fun x => lift (f x)
def Op2 (K : PySem.W.Frag) (mg : Str → Option Value) (r : R2) (f : D → D → Option D) : Prop :=
  ∀ F H x y dx dy dz (Q : VK), Ex F H → Rep K mg F x dx → Rep K mg F y dy → f dx dy = some dz → (∀ v F' H', Grow F H F' H' → Rep K mg F' v dz → Q v H') → r x y H Q
def Op1 (K : PySem.W.Frag) (mg : Str → Option Value) (r : V → Hp → VK → Prop) (f : D → Option D) : Prop :=
  ∀ F H x dx dz (Q : VK), Ex F H → Rep K mg F x dx → f dx = some dz → (∀ v F' H', Grow F H F' H' → Rep K mg F' v dz → Q v H') → r x H Q
def CallN (K : PySem.W.Frag) (mg : Str → Option Value) (r : List V → Hp → VK → Prop) (f : List D → Option D) : Prop :=
  ∀ F H xs ds dz (Q : VK), Ex F H → RepAll K mg F xs ds → f ds = some dz → (∀ v F' H', Grow F H F' H' → Rep K mg F' v dz → Q v H') → r xs H Q
section
variable {X : Cx} {W : WX} {pos : Pos} {a b c : Expr} {sa sb sc : Sx} {f : D → D → Option D} {r : R2}
theorem op_reads (hf : Op2 X.K X.mg r f) {σ : St} {H : Hp} {Q : VK} (h : tS X.K X.mg W (sOp f sa sb) σ H Q) : tOp r (tS X.K X.mg W sa) (tS X.K X.mg W sb) σ H Q := by
  obtain ⟨ρ, F, z, v, e, fin⟩ := h
  refine part v e fin fun dx x F1 H1 _ e g v1 rx fin1 => ?_
  refine part v1 e fin1 fun dy y F2 H2 _ e g2 v2 ry fin2 => ?_
  obtain ⟨dz, e', rfl⟩ := lift_some e
  exact hf F2 H2 x y dx dy dz Q v2.e (rx.mo g2.f) ry e' fin2
theorem d_op {op : Operator} (ho : OpR X (binaryOp op) r) (hf : Op2 X.K X.mg r f) (ha : PE X a (tS X.K X.mg W sa)) (hb : PE X b (tS X.K X.mg W sb)) : PE X (.BinOp a op b pos) (tS X.K X.mg W (sOp f sa sb)) :=
  pe_imp (pe_op ho ha hb) fun _ _ _ h => op_reads hf h
theorem d_cmp {op : CmpOp} (ho : OpR X (compareOp op) r) (hf : Op2 X.K X.mg r f) (ha : PE X a (tS X.K X.mg W sa)) (hb : PE X b (tS X.K X.mg W sb)) (hm : behindInMarks op b = false := by first | exact nomark _ | rfl) : PE X (.Compare a [op] [b] pos) (tS X.K X.mg W (sOp f sa sb)) :=
  pe_imp (pe_cmpR ho ha hb hm) fun _ _ _ h => op_reads hf h
theorem d_ix (hr : IxR X r) (hf : Op2 X.K X.mg r f) (ha : PE X a (tS X.K X.mg W sa)) (hb : PE X b (tS X.K X.mg W sb)) (hs : PlainIx b := by exact fun _ _ => rfl) : PE X (.Subscript a b pos) (tS X.K X.mg W (sOp f sa sb)) :=
  pe_imp (pe_ix hr ha hb hs) fun _ _ _ h => op_reads hf h
theorem d_un {op : UnaryOp} {r : V → Hp → VK → Prop} {f : D → Option D} (ho : UnR X (unaryOp op) r) (hf : Op1 X.K X.mg r f) (ha : PE X a (tS X.K X.mg W sa)) : PE X (.UnaryOp op a pos) (tS X.K X.mg W (sUn f sa)) := by
  refine pe_imp (pe_un ho ha) fun σ H Q ⟨ρ, F, z, v, e, fin⟩ => ?_
  refine part v e fin fun dx x F1 H1 _ e g v1 rx fin1 => ?_
  obtain ⟨dz, e', rfl⟩ := lift_some e
  exact hf F1 H1 x dx dz Q v1.e rx e' fin1

/-! ### argument lists, displays -/
def sNil : Sl := fun _ => some (.ok [])
def sCons (a : Sx) (l : Sl) : Sl := fun ρ => bd (a ρ) fun x => bd (l ρ) fun xs => some (.ok (x :: xs))
theorem da_nil : PA X [] (tA X.K X.mg W sNil) := pa_imp pa_nil fun σ H Q ⟨ρ, F, r, v, e, fin⟩ => by cases e; exact fin [] F H (.refl v.e) .nil
theorem da_cons {es : List Expr} {sl : Sl} (ha : PE X a (tS X.K X.mg W sa)) (hr : PA X es (tA X.K X.mg W sl)) (hs : starEach (a :: es) X.env = (false, eval a X.env) :: starEach es X.env := by rfl) : PA X (a :: es) (tA X.K X.mg W (sCons sa sl)) := by
  refine pa_imp (pa_cons ha hr hs) fun σ H Q ⟨ρ, F, z, v, e, fin⟩ => ?_
  refine part v e fin fun dx x F1 H1 _ e g v1 rx fin1 => ?_
  refine part v1 e fin1 fun ds xs F2 H2 _ e g2 v2 rs fin2 => ?_
  cases e
  exact fin2 (x :: xs) F2 H2 (.refl v2.e) (.cons (rx.mo g2.f) rs)
def okLen (n : Nat) : Bool := decide (n ≤ 1000000)
theorem okLen_line {n : Nat} (h : okLen n = true) : n ≤ sizeLine := Nat.le_trans (of_decide_eq_true h) (by decide)
def sTup (l : Sl) : Sx := fun ρ => bd (l ρ) fun ds => if okLen ds.length then some (.ok (.tup ds)) else none
theorem d_tup {es : List Expr} {x1} {sl : Sl} (h : PA X es (tA X.K X.mg W sl)) : PE X (.Tuple es x1 pos) (tS X.K X.mg W (sTup sl)) := by
  refine pe_imp (pe_tup h) fun σ H Q ⟨ρ, F, z, v, e, fin⟩ => ?_
  refine part v e fin fun ds xs F1 H1 _ e g v1 rs fin1 => ?_
  split at e
  · rename_i ho
    cases e
    refine ⟨by rw [rs.length]; exact okLen_line ho, fun p hp => ?_⟩
    exact fin1 (.ref p) _ _ (.both v1.e hp) (.tup (.inl (.inl upd_same)) (rs.mo (.new (v1.e.none hp))))
  · cases e
def sLst (l : Sl) : Sl := fun ρ => bd (l ρ) fun ds => if okLen ds.length then some (.ok ds) else none
theorem l_lst {es : List Expr} {sl : Sl} (h : PA X es (tA X.K X.mg W sl)) : PE X (.List es pos) (tL X.K X.mg W (sLst sl)) := by
  refine pe_imp (pe_lst h) fun σ H Q ⟨ρ, F, z, v, e, fin⟩ => ?_
  refine part v e fin fun ds xs F1 H1 _ e g v1 rs fin1 => ?_
  split at e
  · rename_i ho
    cases e
    refine ⟨by rw [rs.length]; exact okLen_line ho, fun p hp => ?_⟩
    exact fin1 (.ref p) F1 _ (.only v1.e hp) ⟨p, xs, rfl, hp, v1.e.none hp, upd_same, rs⟩
  · cases e
/-- a new list, frozen as it is -/
def sOfL (l : Sl) : Sx := fun ρ => bd (l ρ) fun ds => some (.ok (.lst ds))
theorem d_ofL {e : Expr} {sl : Sl} (h : PE X e (tL X.K X.mg W sl)) : PE X e (tS X.K X.mg W (sOfL sl)) := by
  refine pe_imp h fun σ H Q ⟨ρ, F, z, v, e, fin⟩ => ?_
  rcases bd_some e with ⟨ds, ea, e⟩ | ⟨c, ea, rfl⟩
  · cases e
    refine ⟨ρ, F, .ok ds, v, ea, fun b F1 H1 g ⟨p, xs, eb, hp, f1, h1, rs⟩ => ?_⟩
    subst eb
    exact fin (.ref p) _ H1 (g.freeze hp f1 h1) (.lst upd_same (rs.mo (.new f1)))
  · exact ⟨ρ, F, .error c, v, ea, fin⟩

/-! ### calls of built-ins, by values -/
def sCall (f : List D → Option D) (l : Sl) : Sx := fun ρ => bd (l ρ) fun ds => lift (f ds)
theorem call_reads {r : List V → Hp → VK → Prop} {f : List D → Option D} {sl : Sl} (hf : CallN X.K X.mg r f) {σ : St} {H : Hp} {Q : VK} (h : tS X.K X.mg W (sCall f sl) σ H Q) : tCB r (tA X.K X.mg W sl) σ H Q := by
  obtain ⟨ρ, F, z, v, e, fin⟩ := h
  refine part v e fin fun ds xs F1 H1 _ e g v1 rs fin1 => ?_
  obtain ⟨dz, e', rfl⟩ := lift_some e
  exact hf F1 H1 xs ds dz Q v1.e rs e' fin1
theorem d_callB {id : String} {r : List V → Hp → VK → Prop} {f : List D → Option D} {es : List Expr} {sl : Sl} {x : Str} {p : Pos} (hc : CallR X (.builtin id) r) (hf : CallN X.K X.mg r f) (hm : X.mg x = none) (hv : bootBuiltins x = some (.builtin id)) (ha : PA X (a :: es) (tA X.K X.mg W sl)) (hg : Gl X x := by rfl)
    (hn : x ≠ "__name__" := by decide) (hdb : (x == ("__debug__" : Str)) = false := by decide) (he : starEach (a :: es) X.env = (false, eval a X.env) :: starEach es X.env := by rfl) (hpl : (backTo pos (starEach es X.env)).any (·.1) = false := by rfl) :
    PE X (.Call (.Name x p) (a :: es) [] pos) (tS X.K X.mg W (sCall f sl)) :=
  pe_imp (pe_callB hc hg hm hv ha hn hdb he hpl) fun _ _ _ h => call_reads hf h
theorem d_callTy {T : String} {r : List V → Hp → VK → Prop} {f : List D → Option D} {es : List Expr} {sl : Sl} {x : Str} {p : Pos} (hc : CallR X (.type T) r) (hf : CallN X.K X.mg r f) (hm : X.mg x = none) (hv : bootBuiltins x = some (.type T)) (ha : PA X (a :: es) (tA X.K X.mg W sl)) (hg : Gl X x := by rfl)
    (hn : x ≠ "__name__" := by decide) (hdb : (x == ("__debug__" : Str)) = false := by decide) (he : starEach (a :: es) X.env = (false, eval a X.env) :: starEach es X.env := by rfl) (hpl : (backTo pos (starEach es X.env)).any (·.1) = false := by rfl) :
    PE X (.Call (.Name x p) (a :: es) [] pos) (tS X.K X.mg W (sCall f sl)) :=
  pe_imp (pe_callTy hc hg hm hv ha hn hdb he hpl) fun _ _ _ h => call_reads hf h
end
end Dl
/-! Dl3: operators of data. -/
namespace Dl
open PySem L2

/-! ### equality of data -/
def b2 (b : Bool) : Int := if b then 1 else 0
/-- data that may be compared, nested less than n deep -/
def okN : Nat → D → Bool
  | 0, _ => false
  | n + 1, d => match d with
    | .non => true
    | .bl _ => true
    | .int _ => true
    | .str x => PySem.PyData.canLay0 (.str x)
    | .tup ds => ds.all (okN n)
    | .lst ds => ds.all (okN n)
    | .scr _ => true
    | .dic _ => false
    | .fn _ => false
    | .exn _ => false
    | .tpl _ => false
    | .dlx _ _ => false
def all2 {α β : Type} (f : α → β → Bool) : List α → List β → Bool
  | [], [] => true
  | x :: xs, y :: ys => f x y && all2 f xs ys
  | _, _ => false
def eqN : Nat → D → D → Bool
  | 0, _, _ => false
  | n + 1, a, b => match a, b with
    | .non, .non => true
    | .bl x, .bl y => x == y
    | .bl x, .int j => b2 x == j
    | .int i, .bl y => i == b2 y
    | .int i, .int j => i == j
    | .str x, .str y => x == y
    | .tup xs, .tup ys => all2 (eqN n) xs ys
    | .lst xs, .lst ys => all2 (eqN n) xs ys
    | .scr ns, .scr ms => ns == ms
    | .scr ns, .lst ys => all2 (fun i d => eqN n (.int i) d) ns ys
    | .lst xs, .scr ms => all2 (fun d j => eqN n d (.int j)) xs ms
    | _, _ => false
mutual
def toPy : D → PyData
  | .non => .none
  | .bl b => .bool b
  | .int i => .int i
  | .str x => .str x
  | .tup ds => .tuple (toPys ds)
  | .lst ds => .list (toPys ds)
  | .scr ns => .list (ns.map .int)
  | .dic _ => .none
  | .fn _ => .none
  | .exn _ => .none
  | .tpl _ => .none
  | .dlx _ _ => .none
def toPys : List D → List PyData
  | [] => []
  | d :: ds => toPy d :: toPys ds
end
theorem canLayAll_ints : ∀ ns : List Int, PyData.canLayAll0 (ns.map PyData.int) = true
  | [] => by simp [PyData.canLayAll0]
  | n :: ns => by simp [PyData.canLayAll0, PyData.canLay0, canLayAll_ints ns]
theorem depthAll_ints : ∀ ns : List Int, PyData.depthAll (ns.map PyData.int) = 0
  | [] => by simp [PyData.depthAll]
  | n :: ns => by simp [PyData.depthAll, PyData.depth, depthAll_ints ns]
theorem ok_lay : ∀ (n : Nat) (d : D), okN n d = true → (toPy d).canLay0 = true ∧ (toPy d).depth ≤ n
  | 0, _, h => by simp [okN] at h
  | n + 1, d, h => by
    have rec_ : ∀ ds : List D, ds.all (okN n) = true → PyData.canLayAll0 (toPys ds) = true ∧ PyData.depthAll (toPys ds) ≤ n := by
      intro ds
      induction ds with
      | nil => intro _; simp [toPys, PyData.canLayAll0, PyData.depthAll]
      | cons d ds ih =>
        intro h
        rw [List.all_cons, Bool.and_eq_true] at h
        obtain ⟨h1, h2⟩ := ok_lay n d h.1
        obtain ⟨h3, h4⟩ := ih h.2
        refine ⟨by simp [toPys, PyData.canLayAll0, h1, h3], ?_⟩
        simp only [toPys, PyData.depthAll]; omega
    cases d with
    | non => simp [toPy, PyData.canLay0, PyData.depth]
    | bl b => simp [toPy, PyData.canLay0, PyData.depth]
    | int i => simp [toPy, PyData.canLay0, PyData.depth]
    | str x => exact ⟨by simpa [toPy, okN] using h, by simp [toPy, PyData.depth]⟩
    | tup ds =>
      obtain ⟨h1, h2⟩ := rec_ ds (by simpa [okN] using h)
      exact ⟨by simpa [toPy, PyData.canLay0] using h1, by simp only [toPy, PyData.depth]; omega⟩
    | lst ds =>
      obtain ⟨h1, h2⟩ := rec_ ds (by simpa [okN] using h)
      exact ⟨by simpa [toPy, PyData.canLay0] using h1, by simp only [toPy, PyData.depth]; omega⟩
    | scr ns => exact ⟨by simpa [toPy, PyData.canLay0] using canLayAll_ints ns, by simp only [toPy, PyData.depth, depthAll_ints]; omega⟩
    | dic _ => simp [okN] at h
    | fn _ => simp [okN] at h
    | exn _ => simp [okN] at h
    | tpl _ => simp [okN] at h
    | dlx _ _ => simp [okN] at h
theorem ok_shaped {n : Nat} (hn : n ≤ 64) {d : D} (h : okN n d = true) : SeqAt.shaped (toPy d) = true := by
  obtain ⟨h1, h2⟩ := ok_lay n d h
  show ((toPy d).canLay0 && decide ((toPy d).depth ≤ 64)) = true
  rw [Bool.and_eq_true]
  exact ⟨h1, decide_eq_true (by omega)⟩
theorem eqvAll_ints : ∀ ns ms : List Int, PyData.eqvAll (ns.map PyData.int) (ms.map PyData.int) = (ns == ms)
  | [], [] => by simp [PyData.eqvAll]
  | [], m :: ms => by simp [PyData.eqvAll]
  | n :: ns, [] => by simp [PyData.eqvAll]
  | n :: ns, m :: ms => by
    have e : (n :: ns == m :: ms) = (n == m && ns == ms) := rfl
    simp [PyData.eqvAll, PyData.eqv, eqvAll_ints ns ms, e]
theorem eqv_eqN : ∀ (n : Nat) (a b : D), okN n a = true → okN n b = true → PyData.eqv (toPy a) (toPy b) = eqN n a b
  | 0, _, _, h, _ => by simp [okN] at h
  | n + 1, a, b, ha, hb => by
    have rec_ : ∀ xs ys : List D, xs.all (okN n) = true → ys.all (okN n) = true → PyData.eqvAll (toPys xs) (toPys ys) = all2 (eqN n) xs ys := by
      intro xs
      induction xs with
      | nil => intro ys _ _; cases ys <;> simp [toPys, PyData.eqvAll, all2]
      | cons x xs ih =>
        intro ys h1 h2
        cases ys with
        | nil => simp [toPys, PyData.eqvAll, all2]
        | cons y ys =>
          rw [List.all_cons, Bool.and_eq_true] at h1 h2
          simp only [toPys, PyData.eqvAll, all2]
          rw [eqv_eqN n x y h1.1 h2.1, ih ys h1.2 h2.2]
    have recI : ∀ (ns : List Int) (ys : List D), ys.all (okN n) = true → PyData.eqvAll (ns.map PyData.int) (toPys ys) = all2 (fun i d => eqN n (.int i) d) ns ys := by
      intro ns
      induction ns with
      | nil => intro ys _; cases ys <;> simp [toPys, PyData.eqvAll, all2]
      | cons m ns ih =>
        intro ys h2
        cases ys with
        | nil => simp [toPys, PyData.eqvAll, all2]
        | cons y ys =>
          rw [List.all_cons, Bool.and_eq_true] at h2
          have hi : okN n (.int m) = true := by cases n with | zero => simp [okN] at h2 | succ k => rfl
          simp only [List.map_cons, toPys, PyData.eqvAll, all2]
          rw [← eqv_eqN n (.int m) y hi h2.1, ih ys h2.2]; rfl
    have recJ : ∀ (xs : List D) (ms : List Int), xs.all (okN n) = true → PyData.eqvAll (toPys xs) (ms.map PyData.int) = all2 (fun d j => eqN n d (.int j)) xs ms := by
      intro xs
      induction xs with
      | nil => intro ms _; cases ms <;> simp [toPys, PyData.eqvAll, all2]
      | cons x xs ih =>
        intro ms h1
        cases ms with
        | nil => simp [toPys, PyData.eqvAll, all2]
        | cons m ms =>
          rw [List.all_cons, Bool.and_eq_true] at h1
          have hi : okN n (.int m) = true := by cases n with | zero => simp [okN] at h1 | succ k => rfl
          simp only [List.map_cons, toPys, PyData.eqvAll, all2]
          rw [← eqv_eqN n x (.int m) h1.1 hi, ih ms h1.2]; rfl
    cases a <;> cases b <;> first
      | (simp [okN] at ha; done)
      | (simp [okN] at hb; done)
      | (simp [toPy, PyData.eqv, eqN, b2]; done)
      | (simp only [toPy, PyData.eqv, eqN]; exact rec_ _ _ (by simpa [okN] using ha) (by simpa [okN] using hb))
      | (simp only [toPy, PyData.eqv, eqN]; exact eqvAll_ints _ _)
      | (simp only [toPy, PyData.eqv, eqN]; exact recJ _ _ (by simpa [okN] using ha))
      | (simp only [toPy, PyData.eqv, eqN]; exact recI _ _ (by simpa [okN] using hb))
end Dl
/-! Dl4: operators of data, with their rules. -/
namespace Dl
open PySem L2
section
variable {K : PySem.W.Frag} {mg : Str → Option Value} {F H : Hp}
mutual
theorem Rep.dp : ∀ (n : Nat) (d : D) (v : V), okN n d = true → Rep K mg F v d → Dp K F v (toPy d)
  | 0, _, _, o, _ => by simp [okN] at o
  | n + 1, .non, _, _, h => by cases h; exact .non
  | n + 1, .bl b, _, _, h => by cases h; exact .bl b
  | n + 1, .int i, _, _, h => by cases h; exact .int i
  | n + 1, .str x, _, _, h => by cases h; exact .str x
  | n + 1, .tup ds, _, o, h => by cases h with | tup hs ha => exact .tup hs (RepAll.dp n ds _ (by simpa [okN] using o) ha)
  | n + 1, .lst ds, _, o, h => by cases h with | lst hs ha => exact .lst (.inl (.inl hs)) (RepAll.dp n ds _ (by simpa [okN] using o) ha)
  | n + 1, .scr ns, _, _, h => by
    cases h with
    | scr hs =>
      have : ∀ ns : List Int, DpAll K F (ns.map V.int) (ns.map PyData.int) := fun ns => by
        induction ns with
        | nil => exact .nil
        | cons n ns ih => exact .cons (.int n) ih
      exact .lst hs (this ns)
  | n + 1, .dic _, _, o, _ => by simp [okN] at o
  | n + 1, .fn _, _, o, _ => by simp [okN] at o
  | n + 1, .exn _, _, o, _ => by simp [okN] at o
  | n + 1, .tpl _, _, o, _ => by simp [okN] at o
  | n + 1, .dlx _ _, _, o, _ => by simp [okN] at o
theorem RepAll.dp : ∀ (n : Nat) (ds : List D) (vs : List V), (∀ x, x ∈ ds → okN n x = true) → RepAll K mg F vs ds → DpAll K F vs (toPys ds)
  | _, [], _, _, h => by cases h; exact .nil
  | n, d :: ds, _, o, h => by
    cases h with
    | cons h1 h2 => exact .cons (Rep.dp n d _ (o d List.mem_cons_self) h1) (RepAll.dp n ds _ (fun x q => o x (List.mem_cons_of_mem _ q)) h2)
end
mutual
theorem Dp.mono {F' : Hp} (e : Ex F F') : ∀ (d : PyData) (v : V), Dp K F v d → Dp K F' v d
  | .none, _, h => by cases h; exact .non
  | .bool b, _, h => by cases h; exact .bl b
  | .int i, _, h => by cases h; exact .int i
  | .str x, _, h => by cases h; exact .str x
  | .list ds, _, h => by cases h with | lst hs ha => exact .lst (e.sqL hs) (DpAll.mono e ds _ ha)
  | .tuple ds, _, h => by cases h with | tup hs ha => exact .tup (e.sqT hs) (DpAll.mono e ds _ ha)
  | .dict _, _, h => by cases h
theorem DpAll.mono {F' : Hp} (e : Ex F F') : ∀ (ds : List PyData) (vs : List V), DpAll K F vs ds → DpAll K F' vs ds
  | [], _, h => by cases h; exact .nil
  | d :: ds, _, h => by cases h with | cons h1 h2 => exact .cons (Dp.mono e d _ h1) (DpAll.mono e ds _ h2)
end
end

/-! ### numbers -/
def small64 (i : Int) : Bool := decide (-18446744073709551616 < i) && decide (i < 18446744073709551616)
def dAdd : D → D → Option D
  | .int i, .int j => some (.int (i + j))
  | .str x, .str y => if okLen (x.length + y.length) then some (.str (x ++ y)) else none
  | .tup xs, .tup ys => if okLen (xs.length + ys.length) then some (.tup (xs ++ ys)) else none
  | _, _ => none
def dSub : D → D → Option D
  | .int i, .int j => some (.int (i - j))
  | _, _ => none
def dMul : D → D → Option D
  | .int i, .int j => if small64 i || small64 j then some (.int (i * j)) else none
  | _, _ => none
def divOk (j : Int) : Bool := decide (0 < j) && decide (j < 1073741824 * 1073741824 * 1073741824)
def dDiv : D → D → Option D
  | .int i, .int j => if divOk j then some (.int (i / j)) else none
  | _, _ => none
def dMod : D → D → Option D
  | .int i, .int j => if decide (0 < j) then some (.int (i % j)) else none
  | _, _ => none
def dPow : D → D → Option D
  | .int i, .int j => if decide (0 ≤ j) && decide (j ≤ 1000) && small64 i && decide (i.natAbs < 18446744073709551616) then some (.int (i ^ j.toNat)) else none
  | _, _ => none
def dNeg : D → Option D
  | .int i => some (.int (-i))
  | _ => none
def dLt : D → D → Option D
  | .int i, .int j => some (.bl (decide (i < j)))
  | _, _ => none
def dLe : D → D → Option D
  | .int i, .int j => some (.bl (decide (i ≤ j)))
  | _, _ => none
def dGt : D → D → Option D
  | .int i, .int j => some (.bl (decide (j < i)))
  | _, _ => none
def dGe : D → D → Option D
  | .int i, .int j => some (.bl (decide (j ≤ i)))
  | _, _ => none
def dEq (a b : D) : Option D := if okN 10 a && okN 10 b then some (.bl (eqN 10 a b)) else none
def dNe (a b : D) : Option D := if okN 10 a && okN 10 b then some (.bl (!eqN 10 a b)) else none
def isN : D → Bool
  | .non => true
  | _ => false
def dIs : D → D → Option D
  | x, .non => some (.bl (isN x))
  | .bl a, .bl b => some (.bl (a == b))
  | _, _ => none
def dIsNot : D → D → Option D
  | x, .non => some (.bl (!isN x))
  | .bl a, .bl b => some (.bl (!(a == b)))
  | _, _ => none
/-- the items of a list or a tuple -/
def itemsOf : D → Option (List D)
  | .tup xs => some xs
  | .lst xs => some xs
  | _ => none
def flatD : D → Bool
  | .non => true
  | .bl _ => true
  | .int _ => true
  | .str _ => true
  | _ => false
def anyEq (x : D) (ys : List D) : Bool := ys.any fun y => eqN 10 y x
def inOf (x : D) : D → Option Bool
  | .tup ys => if flatD x && ys.all flatD then some (anyEq x ys) else none
  | .lst ys => if flatD x && ys.all flatD then some (anyEq x ys) else if okN 9 x && ys.all (okN 9) then some (anyEq x ys) else none
  | _ => none
def dIn (x y : D) : Option D := (inOf x y).map D.bl
def dNotIn (x y : D) : Option D := (inOf x y).map fun b => D.bl (!b)
def lookK (kvs : List (Key × V)) (k : Key) : Option V := (kvs.find? fun p => decide (p.1 = k)).map (·.2)
def dIx : D → D → Option D
  | .tup xs, .int i => atI xs i
  | .lst xs, .int i => atI xs i
  | .scr ns, .int i => (atI ns i).map D.int
  | _, _ => none
def dLen : List D → Option D
  | [.tup xs] => some (.int xs.length)
  | [.lst xs] => some (.int xs.length)
  | [.scr ns] => some (.int ns.length)
  | [.str x] => if okLen x.length then some (.int x.length) else none
  | _ => none
def dMax2 : List D → Option D
  | [.int i, .int j] => some (.int (if j > i then j else i))
  | _ => none
def dMin2 : List D → Option D
  | [.int i, .int j] => some (.int (if j < i then j else i))
  | _ => none
def dAbs : List D → Option D
  | [.int i] => some (.int (if i < 0 then -i else i))
  | _ => none
def blsOf : List D → Option (List Bool)
  | [] => some []
  | .bl b :: ds => (blsOf ds).map (b :: ·)
  | _ => none
def dAll : List D → Option D
  | [.lst xs] => (blsOf xs).map fun bs => .bl (bs.all id)
  | _ => none
def dAny : List D → Option D
  | [.lst xs] => (blsOf xs).map fun bs => .bl (bs.any id)
  | _ => none
def dTupleOf : List D → Option D
  | [.lst xs] => some (.tup xs)
  | [.tup xs] => some (.tup xs)
  | _ => none
/-- the built-in type's name of data -/
def tyName : D → Option String
  | .non => some "NoneType"
  | .bl _ => some "bool"
  | .int _ => some "int"
  | .str _ => some "str"
  | .tup _ => some "tuple"
  | .lst _ => some "list"
  | .dic _ => some "dict"
  | _ => none
def dIsInst (T : String) : D → Option D
  | d => match tyName d with
    | some t => (kitB t T).map D.bl
    | none => none

section
variable {X : Cx} {K : PySem.W.Frag} {mg : Str → Option Value}
abbrev rAddD (K : PySem.W.Frag) : R2 := fun x y H Q => ((∃ i j, x = .int i ∧ y = .int j ∧ Q (.int (i + j)) H) ∨ (∃ i j, x = .str i ∧ y = .str j ∧ i.length + j.length ≤ sizeLine ∧ Q (.str (i ++ j)) H)) ∨ rCatA K x y H Q
theorem op_addD : OpR X (binaryOp .Add) (rAddD X.K) := (op_add.or op_add_str).or op_catA
theorem RepAll.nil_iff {F : Hp} {vs : List V} {ds : List D} (h : RepAll K mg F vs ds) : vs = [] ↔ ds = [] := by
  cases h <;> simp
theorem o_add : Op2 K mg (rAddD K) dAdd := by
  intro F H x y dx dy dz Q e rx ry hf q
  unfold dAdd at hf
  split at hf
  · cases hf; cases rx; cases ry
    exact .inl (.inl ⟨_, _, rfl, rfl, q _ F H (.refl e) (.int _)⟩)
  · split at hf
    · rename_i hl
      cases hf; cases rx; cases ry
      exact .inl (.inr ⟨_, _, rfl, rfl, okLen_line hl, q _ F H (.refl e) (.str _)⟩)
    · cases hf
  · split at hf
    · rename_i hl
      cases hf
      cases rx with
      | tup h1 r1 =>
        cases ry with
        | tup h2 r2 =>
          refine .inr ⟨_, _, _, _, rfl, rfl, e.sqT h1, e.sqT h2, by rw [r1.length, r2.length]; exact okLen_line hl, fun z => ?_, fun _ z => ?_, fun _ _ p hp => ?_⟩
          · have z2 := r1.nil_iff.mp z
            subst z2
            exact q _ F H (.refl e) (.tup h2 (by simpa using r2))
          · have z2 := r2.nil_iff.mp z
            subst z2
            exact q _ F H (.refl e) (.tup h1 (by simpa using r1))
          · exact q _ _ _ (.both e hp) (.tup (.inl (.inl upd_same)) ((r1.append r2).mo (.new (e.none hp))))
    · cases hf
  · cases hf
theorem o_int2 {g : Int → Int → Int} {f : D → D → Option D} (h : ∀ x y z, f x y = some z → ∃ i j, x = .int i ∧ y = .int j ∧ z = .int (g i j)) : Op2 K mg (rI0 fun i j => .int (g i j)) f := by
  intro F H x y dx dy dz Q e rx ry hf q
  obtain ⟨i, j, rfl, rfl, rfl⟩ := h _ _ _ hf
  cases rx; cases ry
  exact ⟨i, j, rfl, rfl, q _ F H (.refl e) (.int _)⟩
theorem o_cmp2 {g : Int → Int → Bool} {f : D → D → Option D} (h : ∀ x y z, f x y = some z → ∃ i j, x = .int i ∧ y = .int j ∧ z = .bl (g i j)) : Op2 K mg (rI0 fun i j => .bl (g i j)) f := by
  intro F H x y dx dy dz Q e rx ry hf q
  obtain ⟨i, j, rfl, rfl, rfl⟩ := h _ _ _ hf
  cases rx; cases ry
  exact ⟨i, j, rfl, rfl, q _ F H (.refl e) (.bl _)⟩
theorem o_intC {C : Int → Int → Prop} {g : Int → Int → Int} {f : D → D → Option D} (h : ∀ x y z, f x y = some z → ∃ i j, x = .int i ∧ y = .int j ∧ C i j ∧ z = .int (g i j)) : Op2 K mg (rI C fun i j => .int (g i j)) f := by
  intro F H x y dx dy dz Q e rx ry hf q
  obtain ⟨i, j, rfl, rfl, c, rfl⟩ := h _ _ _ hf
  cases rx; cases ry
  exact ⟨i, j, rfl, rfl, c, q _ F H (.refl e) (.int _)⟩
theorem o_sub : Op2 K mg (rI0 fun i j => .int (i - j)) dSub := o_int2 fun x y z h => by
  unfold dSub at h; split at h
  · cases h; exact ⟨_, _, rfl, rfl, rfl⟩
  · cases h
theorem o_lt : Op2 K mg (rI0 fun i j => .bl (decide (i < j))) dLt := o_cmp2 fun x y z h => by
  unfold dLt at h; split at h
  · cases h; exact ⟨_, _, rfl, rfl, rfl⟩
  · cases h
theorem o_le : Op2 K mg (rI0 fun i j => .bl (decide (i ≤ j))) dLe := o_cmp2 fun x y z h => by
  unfold dLe at h; split at h
  · cases h; exact ⟨_, _, rfl, rfl, rfl⟩
  · cases h
theorem o_gt : Op2 K mg (rI0 fun i j => .bl (decide (j < i))) dGt := o_cmp2 fun x y z h => by
  unfold dGt at h; split at h
  · cases h; exact ⟨_, _, rfl, rfl, rfl⟩
  · cases h
theorem o_ge : Op2 K mg (rI0 fun i j => .bl (decide (j ≤ i))) dGe := o_cmp2 fun x y z h => by
  unfold dGe at h; split at h
  · cases h; exact ⟨_, _, rfl, rfl, rfl⟩
  · cases h
theorem small_of {i : Int} (h : small64 i = true) : -(2 ^ 64) < i ∧ i < 2 ^ 64 := by
  unfold small64 at h
  rw [Bool.and_eq_true, decide_eq_true_eq, decide_eq_true_eq] at h
  exact ⟨by omega, by omega⟩
theorem o_mul : Op2 K mg (rI CMul fun i j => .int (i * j)) dMul := o_intC fun x y z h => by
  unfold dMul at h; split at h
  · split at h
    · rename_i c
      cases h
      rw [Bool.or_eq_true] at c
      exact ⟨_, _, rfl, rfl, c.imp small_of small_of, rfl⟩
    · cases h
  · cases h
theorem o_div : Op2 K mg (rI CDivW fun i j => .int (i / j)) dDiv := o_intC fun x y z h => by
  unfold dDiv at h; split at h
  · split at h
    · rename_i c
      cases h
      unfold divOk at c
      rw [Bool.and_eq_true, decide_eq_true_eq, decide_eq_true_eq] at c
      refine ⟨_, _, rfl, rfl, wide_div (b := 90) c.1 ?_ (by decide) (by decide), rfl⟩
      have e : (2 : Nat) ^ 90 = 1073741824 * 1073741824 * 1073741824 := by decide
      omega
    · cases h
  · cases h
theorem o_mod : Op2 K mg (rI (fun _ j => 0 < j) fun i j => .int (i % j)) dMod := o_intC fun x y z h => by
  unfold dMod at h; split at h
  · split at h
    · rename_i c
      cases h
      exact ⟨_, _, rfl, rfl, of_decide_eq_true c, rfl⟩
    · cases h
  · cases h
theorem o_pow : Op2 K mg (rI CPow fun i j => .int (i ^ j.toNat)) dPow := o_intC fun x y z h => by
  unfold dPow at h; split at h
  · split at h
    · rename_i c
      cases h
      simp only [Bool.and_eq_true, decide_eq_true_eq] at c
      exact ⟨_, _, rfl, rfl, ⟨c.1.1.1, by omega, by have := c.2; omega⟩, rfl⟩
    · cases h
  · cases h
theorem o_neg : Op1 K mg (rU fun i => .int (-i)) dNeg := by
  intro F H x dx dz Q e rx hf q
  unfold dNeg at hf; split at hf
  · cases hf; cases rx
    exact ⟨_, rfl, q _ F H (.refl e) (.int _)⟩
  · cases hf
theorem o_eq : Op2 K mg (rEqD K) dEq := by
  intro F H x y dx dy dz Q e rx ry hf q
  unfold dEq at hf
  split at hf
  · rename_i c
    cases hf
    rw [Bool.and_eq_true] at c
    refine ⟨_, _, Dp.mono e _ _ (Rep.dp 10 _ _ c.1 rx), Dp.mono e _ _ (Rep.dp 10 _ _ c.2 ry), ok_shaped (by decide) c.1, ok_shaped (by decide) c.2, ?_⟩
    rw [eqv_eqN 10 _ _ c.1 c.2]
    exact q _ F H (.refl e) (.bl _)
  · cases hf
theorem o_ne : Op2 K mg (rNeD K) dNe := by
  intro F H x y dx dy dz Q e rx ry hf q
  unfold dNe at hf
  split at hf
  · rename_i c
    cases hf
    rw [Bool.and_eq_true] at c
    refine ⟨_, _, Dp.mono e _ _ (Rep.dp 10 _ _ c.1 rx), Dp.mono e _ _ (Rep.dp 10 _ _ c.2 ry), ok_shaped (by decide) c.1, ok_shaped (by decide) c.2, ?_⟩
    rw [eqv_eqN 10 _ _ c.1 c.2]
    exact q _ F H (.refl e) (.bl _)
  · cases hf
theorem isN_rep {F : Hp} {x : V} {d : D} (r : Rep K mg F x d) : decide (x = .non) = isN d := by
  cases r <;> simp [isN]
abbrev rIsD : R2 := fun x y H Q => (y = .non ∧ Q (.bl (decide (x = .non))) H) ∨ (∃ a b, x = .bl a ∧ y = .bl b ∧ Q (.bl (decide (a = b))) H)
abbrev rIsNotD : R2 := fun x y H Q => (y = .non ∧ Q (.bl (!decide (x = .non))) H) ∨ (∃ a b, x = .bl a ∧ y = .bl b ∧ Q (.bl (!decide (a = b))) H)
theorem op_isD : OpR X (compareOp .Is) rIsD := op_isN.or op_is_bl
theorem op_isNotD : OpR X (compareOp .IsNot) rIsNotD := op_notN.or op_isnot_bl
theorem o_is : Op2 K mg rIsD dIs := by
  intro F H x y dx dy dz Q e rx ry hf q
  unfold dIs at hf; split at hf
  · cases hf; cases ry
    exact .inl ⟨rfl, by rw [isN_rep rx]; exact q _ F H (.refl e) (.bl _)⟩
  · cases hf; cases rx; cases ry
    exact .inr ⟨_, _, rfl, rfl, by rw [← Bool.beq_eq_decide_eq]; exact q _ F H (.refl e) (.bl _)⟩
  · cases hf
theorem o_isnot : Op2 K mg rIsNotD dIsNot := by
  intro F H x y dx dy dz Q e rx ry hf q
  unfold dIsNot at hf; split at hf
  · cases hf; cases ry
    exact .inl ⟨rfl, by rw [isN_rep rx]; exact q _ F H (.refl e) (.bl _)⟩
  · cases hf; cases rx; cases ry
    exact .inr ⟨_, _, rfl, rfl, by rw [← Bool.beq_eq_decide_eq]; exact q _ F H (.refl e) (.bl _)⟩
  · cases hf

/-! ### in -/
theorem flat_rep {F : Hp} {x : V} {d : D} (r : Rep K mg F x d) (h : flatD d = true) : flatV x = true := by
  cases r <;> simp_all [flatD, flatV]
theorem flat_all {F : Hp} : ∀ {xs : List V} {ds : List D}, RepAll K mg F xs ds → ds.all flatD = true → xs.all flatV = true
  | _, [], h, _ => by cases h; rfl
  | _, d :: ds, h, o => by
    cases h with
    | cons h1 h2 =>
      rw [List.all_cons, Bool.and_eq_true] at o ⊢
      exact ⟨flat_rep h1 o.1, flat_all h2 o.2⟩
theorem eqV_rep {F : Hp} {x y : V} {d c : D} (r : Rep K mg F x d) (r' : Rep K mg F y c) (h : flatD d = true) (h' : flatD c = true) : eqV y x = eqN 10 c d := by
  cases r <;> cases r' <;> first | (simp [flatD] at h; done) | (simp [flatD] at h'; done) | simp [eqV, eqN, b2]
theorem inV_rep {F : Hp} {x : V} {d : D} (r : Rep K mg F x d) (h : flatD d = true) : ∀ {xs : List V} {ds : List D}, RepAll K mg F xs ds → ds.all flatD = true → inV x xs = anyEq d ds
  | _, [], g, _ => by cases g; rfl
  | _, c :: ds, g, o => by
    cases g with
    | cons h1 h2 =>
      rw [List.all_cons, Bool.and_eq_true] at o
      have ih := inV_rep r h h2 o.2
      unfold inV anyEq at ih ⊢
      rw [List.any_cons, List.any_cons, ih, eqV_rep r h1 h o.1]
theorem toPys_eq : ∀ ds : List D, toPys ds = ds.map toPy
  | [] => by simp [toPys]
  | d :: ds => by simp [toPys, toPys_eq ds]
theorem ok_up : ∀ (n : Nat) (d : D), okN n d = true → okN (n + 1) d = true
  | 0, _, h => by simp [okN] at h
  | n + 1, d, h => by
    cases d <;> first
      | exact h
      | (simp only [okN, List.all_eq_true] at h ⊢; intro x hx; exact ok_up n x (h x hx))
theorem any_eqv {d : D} (hd : okN 9 d = true) : ∀ ds : List D, ds.all (okN 9) = true → ((toPys ds).any fun z => PyData.eqv z (toPy d)) = anyEq d ds
  | [], _ => by simp [toPys, anyEq]
  | c :: ds, h => by
    rw [List.all_cons, Bool.and_eq_true] at h
    have ih := any_eqv hd ds h.2
    unfold anyEq at ih ⊢
    rw [toPys, List.any_cons, List.any_cons, ih, eqv_eqN 10 c d (ok_up 9 c h.1) (ok_up 9 d hd)]
abbrev rInB (K : PySem.W.Frag) : R2 := fun x y H Q => rIn K false x y H Q ∨ rInD K x y H Q
abbrev rNotInB (K : PySem.W.Frag) : R2 := fun x y H Q => rIn K true x y H Q ∨ rNotInD K x y H Q
theorem op_inB (hu : X.A.units + 65 < cLine) : OpR X (compareOp .In) (rInB X.K) := op_in_seq.or (op_inD hu)
theorem op_notInB (hu : X.A.units + 65 < cLine) : OpR X (compareOp .NotIn) (rNotInB X.K) := op_notIn_seq.or (op_notInD hu)
theorem in_cases {F H : Hp} {x y : V} {dx dy : D} {b : Bool} (e : Ex F H) (rx : Rep K mg F x dx) (ry : Rep K mg F y dy) (h : inOf dx dy = some b) :
    (∃ p xs, y = .ref p ∧ (SqL K H p xs ∨ SqT K H p xs) ∧ flatV x = true ∧ xs.all flatV = true ∧ inV x xs = b) ∨
    (∃ d ds, Dp K H x d ∧ Dp K H y (.list ds) ∧ SeqAt.shaped d = true ∧ SeqAt.shaped (.list ds) = true ∧ (ds.any fun z => PyData.eqv z d) = b) := by
  unfold inOf at h
  split at h
  · split at h
    · rename_i ys c
      rw [Bool.and_eq_true] at c
      cases h
      cases ry with
      | tup h1 r1 => exact .inl ⟨_, _, rfl, .inr (e.sqT h1), flat_rep rx c.1, flat_all r1 c.2, inV_rep rx c.1 r1 c.2⟩
    · cases h
  · split at h
    · rename_i ys c
      rw [Bool.and_eq_true] at c
      cases h
      cases ry with
      | lst h1 r1 => exact .inl ⟨_, _, rfl, .inl (e.sqL (.inl (.inl h1))), flat_rep rx c.1, flat_all r1 c.2, inV_rep rx c.1 r1 c.2⟩
    · split at h
      · rename_i ys _ c
        rw [Bool.and_eq_true] at c
        cases h
        have o : okN 10 (.lst ys) = true := c.2
        exact .inr ⟨_, _, Dp.mono e _ _ (Rep.dp 9 _ _ c.1 rx), Dp.mono e _ _ (by have := Rep.dp 10 _ _ o ry; simpa [toPy] using this), ok_shaped (by decide) c.1, by have := ok_shaped (by decide) o; simpa [toPy] using this, any_eqv c.1 ys c.2⟩
      · cases h
  · cases h
theorem o_in : Op2 K mg (rInB K) dIn := by
  intro F H x y dx dy dz Q e rx ry hf q
  unfold dIn at hf
  obtain ⟨b, hb, rfl⟩ := Option.map_eq_some_iff.mp hf
  have fin := q (.bl b) F H (.refl e) (.bl b)
  rcases in_cases e rx ry hb with ⟨p, xs, e1, e2, e3, e4, e5⟩ | ⟨d, ds, e1, e2, e3, e4, e5⟩
  · exact .inl ⟨p, xs, e1, e2, e3, e4, by rw [e5]; exact fin⟩
  · exact .inr ⟨d, ds, e1, e2, e3, e4, by rw [e5]; exact fin⟩
theorem o_notin : Op2 K mg (rNotInB K) dNotIn := by
  intro F H x y dx dy dz Q e rx ry hf q
  unfold dNotIn at hf
  obtain ⟨b, hb, rfl⟩ := Option.map_eq_some_iff.mp hf
  have fin := q (.bl (!b)) F H (.refl e) (.bl (!b))
  rcases in_cases e rx ry hb with ⟨p, xs, e1, e2, e3, e4, e5⟩ | ⟨d, ds, e1, e2, e3, e4, e5⟩
  · exact .inl ⟨p, xs, e1, e2, e3, e4, by rw [e5]; exact fin⟩
  · exact .inr ⟨d, ds, e1, e2, e3, e4, by rw [e5]; exact fin⟩

/-! ### subscripts -/
theorem atI_rep {F : Hp} {xs : List V} {ds : List D} {i : Int} {d : D} (r : RepAll K mg F xs ds) (h : atI ds i = some d) : ∃ v, atI xs i = some v ∧ Rep K mg F v d := by
  unfold atI at h ⊢
  rw [r.length]
  obtain ⟨j, hj, e⟩ := Option.bind_eq_some_iff.mp h
  obtain ⟨v, e2, rv⟩ := r.get e
  exact ⟨v, by rw [hj]; exact e2, rv⟩
theorem atI_map {ns : List Int} {i : Int} {n : Int} (h : atI ns i = some n) : atI (ns.map V.int) i = some (.int n) := by
  unfold atI at h ⊢
  obtain ⟨j, hj, e⟩ := Option.bind_eq_some_iff.mp h
  rw [List.length_map, hj]
  show (ns.map V.int)[j]? = _
  rw [List.getElem?_map, e]; rfl
abbrev rIxB (K : PySem.W.Frag) : R2 := fun x y H Q => rIxL K x y H Q ∨ rIxT K x y H Q
theorem ix_B : IxR X (rIxB X.K) := ix_list.or ix_tup
theorem o_ix : Op2 K mg (rIxB K) dIx := by
  intro F H x y dx dy dz Q e rx ry hf q
  unfold dIx at hf
  split at hf
  · cases ry
    cases rx with
    | tup h1 r1 =>
      obtain ⟨v, e2, rv⟩ := atI_rep r1 hf
      exact .inr ⟨_, _, _, v, rfl, rfl, e.sqT h1, e2, q v F H (.refl e) rv⟩
  · cases ry
    cases rx with
    | lst h1 r1 =>
      obtain ⟨v, e2, rv⟩ := atI_rep r1 hf
      exact .inl ⟨_, _, _, v, rfl, rfl, e.sqL (.inl (.inl h1)), e2, q v F H (.refl e) rv⟩
  · obtain ⟨n, hn, rfl⟩ := Option.map_eq_some_iff.mp hf
    cases ry
    cases rx with
    | scr h1 => exact .inl ⟨_, _, _, _, rfl, rfl, e.sqL h1, atI_map hn, q _ F H (.refl e) (.int n)⟩
  · cases hf

/-! ### calls -/
abbrev rLenB (K : PySem.W.Frag) : List V → Hp → VK → Prop := fun xs H Q => (∃ p ys, xs = [.ref p] ∧ (SqL K H p ys ∨ SqT K H p ys) ∧ Q (.int ys.length) H) ∨ (∃ z, xs = [.str z] ∧ z.length ≤ sizeLine ∧ Q (.int z.length) H)
theorem cr_len : CallR X (.builtin "len") (rLenB X.K) := call_len_seq.or call_len_str
theorem RepAll.one {F : Hp} {xs : List V} {d : D} (h : RepAll K mg F xs [d]) : ∃ v, xs = [v] ∧ Rep K mg F v d := by
  cases h with | cons h1 h2 => cases h2; exact ⟨_, rfl, h1⟩
theorem RepAll.two {F : Hp} {xs : List V} {d c : D} (h : RepAll K mg F xs [d, c]) : ∃ v u, xs = [v, u] ∧ Rep K mg F v d ∧ Rep K mg F u c := by
  cases h with
  | cons h1 h2 =>
    obtain ⟨u, rfl, h3⟩ := h2.one
    exact ⟨_, u, rfl, h1, h3⟩
theorem c_len : CallN K mg (rLenB K) dLen := by
  intro F H xs ds dz Q e rs hf q
  unfold dLen at hf
  split at hf
  · cases hf
    obtain ⟨v, rfl, r⟩ := rs.one
    cases r with
    | tup h1 r1 => exact .inl ⟨_, _, rfl, .inr (e.sqT h1), by rw [r1.length]; exact q _ F H (.refl e) (.int _)⟩
  · cases hf
    obtain ⟨v, rfl, r⟩ := rs.one
    cases r with
    | lst h1 r1 => exact .inl ⟨_, _, rfl, .inl (e.sqL (.inl (.inl h1))), by rw [r1.length]; exact q _ F H (.refl e) (.int _)⟩
  · cases hf
    obtain ⟨v, rfl, r⟩ := rs.one
    cases r with
    | scr h1 => exact .inl ⟨_, _, rfl, .inl (e.sqL h1), by rw [List.length_map]; exact q _ F H (.refl e) (.int _)⟩
  · split at hf
    · rename_i hl
      cases hf
      obtain ⟨v, rfl, r⟩ := rs.one
      cases r
      exact .inr ⟨_, rfl, okLen_line hl, q _ F H (.refl e) (.int _)⟩
    · cases hf
  · cases hf
theorem c_max2 : CallN K mg (fun xs H Q => ∃ i j, xs = [.int i, .int j] ∧ Q (.int (if j > i then j else i)) H) dMax2 := by
  intro F H xs ds dz Q e rs hf q
  unfold dMax2 at hf
  split at hf
  · cases hf
    obtain ⟨v, u, rfl, r1, r2⟩ := rs.two
    cases r1; cases r2
    exact ⟨_, _, rfl, q _ F H (.refl e) (.int _)⟩
  · cases hf
theorem c_min2 : CallN K mg (fun xs H Q => ∃ i j, xs = [.int i, .int j] ∧ Q (.int (if j < i then j else i)) H) dMin2 := by
  intro F H xs ds dz Q e rs hf q
  unfold dMin2 at hf
  split at hf
  · cases hf
    obtain ⟨v, u, rfl, r1, r2⟩ := rs.two
    cases r1; cases r2
    exact ⟨_, _, rfl, q _ F H (.refl e) (.int _)⟩
  · cases hf
theorem c_abs : CallN K mg (fun xs H Q => ∃ i, xs = [.int i] ∧ Q (.int (if i < 0 then -i else i)) H) dAbs := by
  intro F H xs ds dz Q e rs hf q
  unfold dAbs at hf
  split at hf
  · cases hf
    obtain ⟨v, rfl, r⟩ := rs.one
    cases r
    exact ⟨_, rfl, q _ F H (.refl e) (.int _)⟩
  · cases hf
theorem bls_rep {F : Hp} : ∀ {ds : List D} {xs : List V} {bs : List Bool}, RepAll K mg F xs ds → blsOf ds = some bs → xs = bs.map V.bl
  | [], _, _, h, e => by cases h; cases e; rfl
  | d :: ds, _, _, h, e => by
    cases h with
    | cons h1 h2 =>
      cases d <;> first | (simp [blsOf] at e; done) | skip
      simp only [blsOf] at e
      obtain ⟨bs, e1, rfl⟩ := Option.map_eq_some_iff.mp e
      cases h1
      rw [bls_rep h2 e1]; rfl
theorem c_all : CallN K mg (rAll K) dAll := by
  intro F H xs ds dz Q e rs hf q
  unfold dAll at hf
  split at hf
  · obtain ⟨bs, eb, rfl⟩ := Option.map_eq_some_iff.mp hf
    obtain ⟨v, rfl, r⟩ := rs.one
    cases r with
    | lst h1 r1 => exact ⟨_, bs, rfl, e.sqL (.inl (.inl (by rw [← bls_rep r1 eb]; exact h1))), q _ F H (.refl e) (.bl _)⟩
  · cases hf
theorem c_any : CallN K mg (rAny K) dAny := by
  intro F H xs ds dz Q e rs hf q
  unfold dAny at hf
  split at hf
  · obtain ⟨bs, eb, rfl⟩ := Option.map_eq_some_iff.mp hf
    obtain ⟨v, rfl, r⟩ := rs.one
    cases r with
    | lst h1 r1 => exact ⟨_, bs, rfl, e.sqL (.inl (.inl (by rw [← bls_rep r1 eb]; exact h1))), q _ F H (.refl e) (.bl _)⟩
  · cases hf
theorem c_tupleOf : CallN K mg (fun xs H Q => ∃ p ys, xs = [.ref p] ∧ ((SqL K H p ys ∧ ∀ l, H l = none → Q (.ref l) (upd H l (.tup ys))) ∨ (SqT K H p ys ∧ Q (.ref p) H))) dTupleOf := by
  intro F H xs ds dz Q e rs hf q
  unfold dTupleOf at hf
  split at hf
  · cases hf
    obtain ⟨v, rfl, r⟩ := rs.one
    cases r with
    | lst h1 r1 => exact ⟨_, _, rfl, .inl ⟨e.sqL (.inl (.inl h1)), fun l hl => q _ _ _ (.both e hl) (.tup (.inl (.inl upd_same)) (r1.mo (.new (e.none hl))))⟩⟩
  · cases hf
    obtain ⟨v, rfl, r⟩ := rs.one
    cases r with
    | tup h1 r1 => exact ⟨_, _, rfl, .inr ⟨e.sqT h1, q _ F H (.refl e) (.tup h1 r1)⟩⟩
  · cases hf
end
end Dl
/-! Dl5: isinstance, chains, and / or / not, tests, calls of the program's own defs. -/
namespace Dl
open PySem L2
section
variable {X : Cx} {W : WX} {pos : Pos} {a b c : Expr} {sa sb sc : Sx}

/-! ### isinstance(x, T) -/
def tyInt : D → Option Bool
  | .int _ => some true
  | .bl _ => some true
  | .scr _ => none
  | .fn _ => none
  | .exn _ => none
  | .tpl _ => none
  | .dlx _ _ => none
  | _ => some false
def tyBool : D → Option Bool
  | .bl _ => some true
  | .scr _ => none
  | .fn _ => none
  | .exn _ => none
  | .tpl _ => none
  | .dlx _ _ => none
  | _ => some false
def tyStr : D → Option Bool
  | .str _ => some true
  | .scr _ => none
  | .fn _ => none
  | .exn _ => none
  | .tpl _ => none
  | .dlx _ _ => none
  | _ => some false
def tyTuple : D → Option Bool
  | .tup _ => some true
  | .scr _ => none
  | .fn _ => none
  | .exn _ => none
  | .tpl _ => none
  | .dlx _ _ => none
  | _ => some false
def tyList : D → Option Bool
  | .lst _ => some true
  | .scr _ => none
  | .fn _ => none
  | .exn _ => none
  | .tpl _ => none
  | .dlx _ _ => none
  | _ => some false
def dTy (g : D → Option Bool) : D → Option D := fun d => (g d).map D.bl
def TyIs (T : String) (g : D → Option Bool) : Prop := ∀ d b, g d = some b → ∃ t, tyName d = some t ∧ kitB t T = some b
theorem ty_int : TyIs "int" tyInt := by
  intro d b h
  cases d <;> simp only [tyInt, Option.some.injEq, reduceCtorEq] at h <;> subst h <;> exact ⟨_, rfl, by decide +kernel⟩
theorem ty_bool : TyIs "bool" tyBool := by
  intro d b h
  cases d <;> simp only [tyBool, Option.some.injEq, reduceCtorEq] at h <;> subst h <;> exact ⟨_, rfl, by decide +kernel⟩
theorem ty_str : TyIs "str" tyStr := by
  intro d b h
  cases d <;> simp only [tyStr, Option.some.injEq, reduceCtorEq] at h <;> subst h <;> exact ⟨_, rfl, by decide +kernel⟩
theorem ty_tuple : TyIs "tuple" tyTuple := by
  intro d b h
  cases d <;> simp only [tyTuple, Option.some.injEq, reduceCtorEq] at h <;> subst h <;> exact ⟨_, rfl, by decide +kernel⟩
theorem ty_list : TyIs "list" tyList := by
  intro d b h
  cases d <;> simp only [tyList, Option.some.injEq, reduceCtorEq] at h <;> subst h <;> exact ⟨_, rfl, by decide +kernel⟩
theorem ty_rep {K : PySem.W.Frag} {mg : Str → Option Value} {F H : Hp} {x : V} {d : D} {t : String} (e : Ex F H) (r : Rep K mg F x d) (h : tyName d = some t) : TyX K H x (.type t) := by
  cases r <;> simp only [tyName, Option.some.injEq, reduceCtorEq] at h
  · subst h; exact .base .non
  · subst h; exact .base (.bl _)
  · subst h; exact .base (.int _)
  · subst h; exact .base (.str _)
  · rename_i hs _
    subst h
    rcases e.sqT hs with (h | ⟨o, h⟩) | ⟨o, its, n, h1, h2, _⟩
    · exact .base (.tup h)
    · exact .fTuple h
    · exact .kTuple h1 h2
  · rename_i hs _
    subst h
    exact .base (.lst (e.k _ _ hs rfl))
  · rename_i hs _
    subst h
    exact .base (.dK (e.k _ _ hs rfl))
theorem d_isi {T : String} {x : Str} {g : D → Option Bool} {p p2 : Pos} (hT : TyIs T g) (hm : X.mg "isinstance" = none) (hmT : X.mg x = none) (hv : bootBuiltins x = some (.type T)) (ha : PE X a (tS X.K X.mg W sa)) (hg : Gl X "isinstance" := by rfl) (hgT : Gl X x := by rfl)
    (hb : bootBuiltins "isinstance" = some (.builtin "isinstance") := by decide +kernel) (hn : x ≠ "__name__" := by decide) (hd : (x == ("__debug__" : Str)) = false := by decide)
    (h1 : starEach [a, .Name x p2] X.env = (false, eval a X.env) :: starEach [.Name x p2] X.env := by rfl) (h2 : starEach [.Name x p2] X.env = (false, eval (.Name x p2) X.env) :: starEach [] X.env := by rfl)
    (hpl : (backTo pos (starEach [.Name x p2] X.env)).any (·.1) = false := by rfl) :
    PE X (.Call (.Name "isinstance" p) [a, .Name x p2] [] pos) (tS X.K X.mg W (sUn (dTy g) sa)) := by
  refine pe_imp (pe_callB call_isi hg hm hb (pa_cons ha (pa_cons (pe_bltn (v := .ty T) hgT hmT hv rfl hn hd) pa_nil h2) h1) (by decide) (by decide) h1 hpl) fun σ H Q ⟨ρ, F, z, v, e, fin⟩ => ?_
  refine part v e fin fun dx x F1 H1 _ e g v1 rx fin1 => ?_
  obtain ⟨dz, e', rfl⟩ := lift_some e
  unfold dTy at e'
  obtain ⟨b, eb, rfl⟩ := Option.map_eq_some_iff.mp e'
  obtain ⟨t, et, ek⟩ := hT _ _ eb
  exact ⟨x, .ty T, .type t, .type T, b, rfl, .ty T, ty_rep v1.e rx et, kit_ty ek, fin1 _ F1 H1 (.refl v1.e) (.bl b)⟩

/-! ### a < b < c -/
def sChain (f g : D → D → Option D) (a b c : Sx) : Sx := fun ρ => bd (a ρ) fun x => bd (b ρ) fun y => bd (lift (f x y)) fun z =>
  match z with
  | .bl true => bd (c ρ) fun w => lift (g y w)
  | .bl false => some (.ok (.bl false))
  | _ => none
theorem chain_reads {f g : D → D → Option D} {r r' : R2} (hf : Op2 X.K X.mg r f) (hg : Op2 X.K X.mg r' g) {σ : St} {H : Hp} {Q : VK} (h : tS X.K X.mg W (sChain f g sa sb sc) σ H Q) :
    tChain r r' (tS X.K X.mg W sa) (tS X.K X.mg W sb) (tS X.K X.mg W sc) σ H Q := by
  obtain ⟨ρ, F, z, v, e, fin⟩ := h
  refine part v e fin fun dx x F1 H1 _ e g1 v1 rx fin1 => ?_
  refine part v1 e fin1 fun dy y F2 H2 _ e g2 v2 ry fin2 => ?_
  rcases bd_some e with ⟨dz, ez, e⟩ | ⟨c, ez, _⟩
  · obtain ⟨dz', ez', e3⟩ := lift_some ez
    cases e3
    refine hf F2 H2 x y dx dy dz _ v2.e (rx.mo g2.f) ry ez' fun u F3 H3 g3 ru => ?_
    split at e
    · cases ru
      refine ⟨true, rfl, ?_⟩
      rw [if_pos rfl]
      refine part (v2.mo g3) e (fin2.mo g3) fun dw w F4 H4 _ e g4 v4 rw' fin4 => ?_
      obtain ⟨dq, eq, rfl⟩ := lift_some e
      exact hg F4 H4 y w dy dw dq Q v4.e ((ry.mo g3.f).mo g4.f) rw' eq fin4
    · cases ru
      cases e
      refine ⟨false, rfl, ?_⟩
      rw [if_neg Bool.false_ne_true]
      exact fin2 _ F3 H3 g3 (.bl false)
    · cases e
  · obtain ⟨_, _, e3⟩ := lift_some ez
    cases e3
theorem d_chain {op op' : CmpOp} {f g : D → D → Option D} {r r' : R2} (ho : OpR X (compareOp op) r) (hf : Op2 X.K X.mg r f) (ho' : OpR X (compareOp op') r') (hg : Op2 X.K X.mg r' g) (ha : PE X a (tS X.K X.mg W sa)) (hb : PE X b (tS X.K X.mg W sb)) (hc : PE X c (tS X.K X.mg W sc))
    (hm : lastMarks [op, op'] [b, c] = false := by with_unfolding_all rfl) : PE X (.Compare a [op, op'] [b, c] pos) (tS X.K X.mg W (sChain f g sa sb sc)) :=
  pe_imp (pe_chain ho ho' ha hb hc hm) fun _ _ _ h => chain_reads hf hg h

/-! ### and, or, not as values; a if t else b -/
def sAnd (a b : Sx) : Sx := fun ρ => bd (a ρ) fun x =>
  match x with
  | .bl true => b ρ
  | .bl false => some (.ok (.bl false))
  | _ => none
def sOr (a b : Sx) : Sx := fun ρ => bd (a ρ) fun x =>
  match x with
  | .bl true => some (.ok (.bl true))
  | .bl false => b ρ
  | _ => none
def dNot : D → Option D
  | .bl b => some (.bl (!b))
  | _ => none
variable {rest : List Expr}
theorem d_one {op} (h : PE X a (tS X.K X.mg W sa)) : PE X (.BoolOp op [a] pos) (tS X.K X.mg W sa) := pe_one h
theorem d_and (ha : PE X a (tS X.K X.mg W sa)) (hb : PE X (.BoolOp .And (b :: rest) pos) (tS X.K X.mg W sb)) : PE X (.BoolOp .And (a :: b :: rest) pos) (tS X.K X.mg W (sAnd sa sb)) := by
  refine pe_imp (pe_and ha hb) fun σ H Q ⟨ρ, F, z, v, e, fin⟩ => ?_
  refine part v e fin fun dx x F1 H1 _ e g1 v1 rx fin1 => ?_
  split at e
  · cases rx
    refine ⟨true, rfl, ?_⟩
    rw [if_pos rfl]
    exact whole v1 e fin1
  · cases rx; cases e
    refine ⟨false, rfl, ?_⟩
    rw [if_neg Bool.false_ne_true]
    exact fin1 _ F1 H1 (.refl v1.e) (.bl false)
  · cases e
theorem d_or (ha : PE X a (tS X.K X.mg W sa)) (hb : PE X (.BoolOp .Or (b :: rest) pos) (tS X.K X.mg W sb)) : PE X (.BoolOp .Or (a :: b :: rest) pos) (tS X.K X.mg W (sOr sa sb)) := by
  refine pe_imp (pe_or ha hb) fun σ H Q ⟨ρ, F, z, v, e, fin⟩ => ?_
  refine part v e fin fun dx x F1 H1 _ e g1 v1 rx fin1 => ?_
  split at e
  · cases rx; cases e
    refine ⟨true, rfl, ?_⟩
    rw [if_pos rfl]
    exact fin1 _ F1 H1 (.refl v1.e) (.bl true)
  · cases rx
    refine ⟨false, rfl, ?_⟩
    rw [if_neg Bool.false_ne_true]
    exact whole v1 e fin1
  · cases e
theorem d_not (ha : PE X a (tS X.K X.mg W sa)) : PE X (.UnaryOp .Not a pos) (tS X.K X.mg W (sUn dNot sa)) := by
  refine pe_imp (pe_not ha) fun σ H Q ⟨ρ, F, z, v, e, fin⟩ => ?_
  refine part v e fin fun dx x F1 H1 _ e g1 v1 rx fin1 => ?_
  obtain ⟨dz, e', rfl⟩ := lift_some e
  unfold dNot at e'
  split at e'
  · cases rx; cases e'
    exact ⟨_, rfl, fin1 _ F1 H1 (.refl v1.e) (.bl _)⟩
  · cases e'
def sIfE (t : Sb) (a b : Sx) : Sx := fun ρ => bd (t ρ) fun c => if c then a ρ else b ρ
theorem d_ifE {st : Sb} (hc : PT X c (tT X.K X.mg W st)) (ha : PE X a (tS X.K X.mg W sa)) (hb : PE X b (tS X.K X.mg W sb)) : PE X (.IfExp c a b pos) (tS X.K X.mg W (sIfE st sa sb)) := by
  refine pe_imp (pe_ifExp hc ha hb) fun σ H Q ⟨ρ, F, z, v, e, fin⟩ => ?_
  refine part v e fin fun t t' F1 H1 _ e g1 v1 rt fin1 => ?_
  cases rt
  cases t with
  | true => exact whole v1 e fin1
  | false => exact whole v1 e fin1

/-! ### tests -/
def toB (s : Sx) : Sb := fun ρ => bd (s ρ) fun d =>
  match d with
  | .bl b => some (.ok b)
  | _ => none
theorem toB_reads {σ : St} {H : Hp} {Q : Bool → Hp → Prop} (h : tT X.K X.mg W (toB sa) σ H Q) : tS X.K X.mg W sa σ H (fun x H1 => ∃ k, x = .bl k ∧ Q k H1) := by
  obtain ⟨ρ, F, z, v, e, fin⟩ := h
  refine part v e fin fun dx x F1 H1 _ e g1 v1 rx fin1 => ?_
  split at e
  · cases rx; cases e
    exact ⟨_, rfl, fin1 _ F1 H1 (.refl v1.e) rfl⟩
  · cases e
theorem t_val (h : PE X a (tS X.K X.mg W sa)) (he : ∀ whole, isTrue a X.env whole = (do let v ← whole; standAt a.pos; holding [v] (truthy v)) := by intro _; rfl) : PT X a (tT X.K X.mg W (toB sa)) :=
  pt_imp (pt_val h he) fun _ _ _ h => toB_reads h
theorem t_cmp {op : CmpOp} {r : R2} {f : D → D → Option D} (ho : OpR X (compareOp op) r) (hf : Op2 X.K X.mg r f) (ha : PE X a (tS X.K X.mg W sa)) (hb : PE X b (tS X.K X.mg W sb)) (hm : behindInMarks op b = false := by first | exact nomark _ | rfl) : PT X (.Compare a [op] [b] pos) (tT X.K X.mg W (toB (sOp f sa sb))) :=
  pt_imp (pt_cmpR ho ha hb hm) fun _ _ _ h => op_reads hf (toB_reads h)
theorem t_chain {op op' : CmpOp} {f g : D → D → Option D} {r r' : R2} (ho : OpR X (compareOp op) r) (hf : Op2 X.K X.mg r f) (ho' : OpR X (compareOp op') r') (hg : Op2 X.K X.mg r' g) (ha : PE X a (tS X.K X.mg W sa)) (hb : PE X b (tS X.K X.mg W sb)) (hc : PE X c (tS X.K X.mg W sc))
    (hm : lastMarks [op, op'] [b, c] = false := by with_unfolding_all rfl) : PT X (.Compare a [op, op'] [b, c] pos) (tT X.K X.mg W (toB (sChain f g sa sb sc))) :=
  pt_imp (pt_chain ho ho' ha hb hc hm) fun _ _ _ h => chain_reads hf hg (toB_reads h)
def bAnd (a b : Sb) : Sb := fun ρ => bd (a ρ) fun x => if x then b ρ else some (.ok false)
def bOr (a b : Sb) : Sb := fun ρ => bd (a ρ) fun x => if x then some (.ok true) else b ρ
def bNot (a : Sb) : Sb := fun ρ => bd (a ρ) fun x => some (.ok (!x))
variable {ba bb : Sb}
theorem w_and1 (ha : PT X a (tT X.K X.mg W ba)) : PW X (.BoolOp .And [a] pos) (tT X.K X.mg W ba) := pw_and1 ha
theorem w_or1 (ha : PT X a (tT X.K X.mg W ba)) : PW X (.BoolOp .Or [a] pos) (tT X.K X.mg W ba) := pw_or1 ha
theorem w_and (ha : PT X a (tT X.K X.mg W ba)) (hb : PW X (.BoolOp .And (b :: rest) pos) (tT X.K X.mg W bb)) : PW X (.BoolOp .And (a :: b :: rest) pos) (tT X.K X.mg W (bAnd ba bb)) := by
  refine pw_imp (pw_and ha hb) fun σ H Q ⟨ρ, F, z, v, e, fin⟩ => ?_
  refine part v e fin fun t t' F1 H1 _ e g1 v1 rt fin1 => ?_
  cases rt
  cases t with
  | true => exact whole v1 e fin1
  | false => cases e; exact fin1 _ F1 H1 (.refl v1.e) rfl
theorem w_or (ha : PT X a (tT X.K X.mg W ba)) (hb : PW X (.BoolOp .Or (b :: rest) pos) (tT X.K X.mg W bb)) : PW X (.BoolOp .Or (a :: b :: rest) pos) (tT X.K X.mg W (bOr ba bb)) := by
  refine pw_imp (pw_or ha hb) fun σ H Q ⟨ρ, F, z, v, e, fin⟩ => ?_
  refine part v e fin fun t t' F1 H1 _ e g1 v1 rt fin1 => ?_
  cases rt
  cases t with
  | true => cases e; exact fin1 _ F1 H1 (.refl v1.e) rfl
  | false => exact whole v1 e fin1
theorem t_w (h : PW X a (tT X.K X.mg W ba)) : PT X a (tT X.K X.mg W ba) := h.pt
theorem t_not (ha : PT X a (tT X.K X.mg W ba)) : PT X (.UnaryOp .Not a pos) (tT X.K X.mg W (bNot ba)) := by
  refine pt_imp (pt_not ha) fun σ H Q ⟨ρ, F, z, v, e, fin⟩ => ?_
  refine part v e fin fun t t' F1 H1 _ e g1 v1 rt fin1 => ?_
  cases rt
  cases e
  exact fin1 _ F1 H1 (.refl v1.e) rfl
end

/-! ### the program's own defs -/
def spOf (K : PySem.W.Frag) (mg : Str → Option Value) (n : Nat) (f : List D → Oe D) : Sp := fun vs H Q E =>
  ∃ F ds r, Ex F H ∧ HT K mg H ∧ RepAll K mg F vs ds ∧ ds.length = n ∧ f ds = some r ∧
    match r with
    | .ok d => ∀ v F' H', Grow F H F' H' → Rep K mg F' v d → Q v H'
    | .error c => ∀ C F' H', Grow F H F' H' → mg c = some (.ref C) → E (.ref C) none H'
/-- the def x of n parameters computes f -/
structure FnD (P : Program) (w : World) (K : PySem.W.Frag) (mg : Str → Option Value) (base : Heap) (k : Nat) (x : Str) (n : Nat) (f : List D → Oe D) : Prop where
  ex : ∃ (a : Addr) (fd : FuncData) (ps : List Str), FnOk P w K mg base (L2.CX P w) k a fd ps (spOf K mg n f) ∧ mg x = some (.ref a) ∧ PySem.W.keepIn K (.ref a) = true ∧ Binds K fd ps []
def sFn (n : Nat) (f : List D → Oe D) (l : Sl) : Sx := fun ρ => bd (l ρ) fun ds => if ds.length = n then f ds else none
section
variable {X : Cx} {W : WX} {pos p : Pos} {a : Expr} {es : List Expr} {sl : Sl} {k n : Nat} {x : Str} {f : List D → Oe D}
theorem d_call (G : FnD X.prog X.w X.K X.mg X.base k x n f) (hr : Room k X.A) (tk : Takes X W) (ha : PA X (a :: es) (tA X.K X.mg W sl)) (hg : Gl X x := by rfl) (hdb : (x == ("__debug__" : Str)) = false := by decide)
    (he : starEach (a :: es) X.env = (false, eval a X.env) :: starEach es X.env := by rfl) (hpl : (backTo pos (starEach es X.env)).any (·.1) = false := by rfl) :
    PE X (.Call (.Name x p) (a :: es) [] pos) (tS X.K X.mg W (sFn n f sl)) := by
  obtain ⟨fa, fd, ps, hF, hm, hk, hb⟩ := G.ex
  refine pe_imp (pe_callS hF hr hg hm hk hb (fun σ => passAt tk σ) ha hdb he hpl) fun σ H Q ⟨ρ, F, z, v, e, fin⟩ => ?_
  refine part v e fin fun ds xs F1 H1 _ e g v1 rs fin1 => ?_
  split at e
  · rename_i hn
    refine ⟨F1, ds, z, v1.e, v1.t, rs, hn, e, ?_⟩
    cases z with
    | ok d => exact fun u F2 H2 g2 r2 => fin1 u F2 H2 g2 r2
    | error c => exact fun C F2 H2 g2 hc => fin1 C F2 H2 g2 hc
  · cases e
/-- a def without parameters, that raises nothing -/
def sFn0 (f : List D → Oe D) : Sx := fun _ =>
  match f [] with
  | some (.ok d) => some (.ok d)
  | _ => none
theorem d_call0 (G : FnD X.prog X.w X.K X.mg X.base k x 0 f) (hr : Room k X.A) (hg : Gl X x := by rfl) (hdb : (x == ("__debug__" : Str)) = false := by decide) :
    PE X (.Call (.Name x p) [] [] pos) (tS X.K X.mg W (sFn0 f)) := by
  obtain ⟨fa, fd, ps, hF, hm, hk, hb⟩ := G.ex
  refine pe_imp (pe_call0 hF hr hg hm hk hb .nil passL hdb) fun σ H Q ⟨ρ, F, z, v, e, fin⟩ => ?_
  unfold sFn0 at e
  split at e
  · rename_i d hd
    cases e
    exact ⟨F, [], .ok d, v.e, v.t, .nil, rfl, hd, fun u F2 H2 g2 r2 => fin u F2 H2 g2 r2⟩
  · cases e
end
end Dl
/-! Dl6: statements over slots; owned lists. -/
namespace Dl
open PySem L2

/-- a slot: not told, data that stands still, a list (a dict) that none but this slot holds -/
inductive SL where
  | no | dat (d : D) | own (d : D)
abbrev Sig := List SL
inductive Fl where
  | nx (ρ : Sig) | bk (ρ : Sig) | ct (ρ : Sig) | rt (d : D) | ex (c : Str) (ρ : Sig)
abbrev Ss := Sig → Option Fl

/-- what an owned object that is not shown lets see: a dict's address -/
def xo : D → Option D
  | .dlx a _ => some (.exn a)
  | _ => none
def expoF (ms : List Nat) : Nat → Sig → Rho
  | _, [] => []
  | i, s :: r => (match s with
      | .no => none
      | .dat d => some d
      | .own d => if ms.contains i then some d else xo d) :: expoF ms (i + 1) r
def expo (ms : List Nat) (ρ : Sig) : Rho := expoF ms 0 ρ
def frzF (ms : List Nat) : Nat → Sig → Sig
  | _, [] => []
  | i, s :: r => (match s with
      | .own d => if ms.contains i then .dat d else .own d
      | s => s) :: frzF ms (i + 1) r
def frz (ms : List Nat) (ρ : Sig) : Sig := frzF ms 0 ρ
theorem expoF_get (ms : List Nat) : ∀ (ρ : Sig) (k i : Nat), (expoF ms k ρ)[i]? = (ρ[i]?).map fun s => match s with
      | .no => none
      | .dat d => some d
      | .own d => if ms.contains (k + i) then some d else xo d
  | [], k, i => by simp [expoF]
  | s :: r, k, 0 => by simp [expoF]
  | s :: r, k, i + 1 => by
    have e : k + 1 + i = k + (i + 1) := by omega
    simp only [expoF, List.getElem?_cons_succ]
    rw [expoF_get ms r (k + 1) i, e]
theorem frzF_get (ms : List Nat) : ∀ (ρ : Sig) (k i : Nat), (frzF ms k ρ)[i]? = (ρ[i]?).map fun s => match s with
      | .own d => if ms.contains (k + i) then .dat d else .own d
      | s => s
  | [], k, i => by simp [frzF]
  | s :: r, k, 0 => by simp [frzF]
  | s :: r, k, i + 1 => by
    have e : k + 1 + i = k + (i + 1) := by omega
    simp only [frzF, List.getElem?_cons_succ]
    rw [frzF_get ms r (k + 1) i, e]
theorem expo_length (ms : List Nat) (ρ : Sig) : (expo ms ρ).length = ρ.length := by
  unfold expo
  have : ∀ (ρ : Sig) (k : Nat), (expoF ms k ρ).length = ρ.length := fun ρ => by
    induction ρ with
    | nil => intro k; rfl
    | cons s r ih => intro k; simp [expoF, ih]
  exact this ρ 0
theorem frz_length (ms : List Nat) (ρ : Sig) : (frz ms ρ).length = ρ.length := by
  unfold frz
  have : ∀ (ρ : Sig) (k : Nat), (frzF ms k ρ).length = ρ.length := fun ρ => by
    induction ρ with
    | nil => intro k; rfl
    | cons s r ih => intro k; simp [frzF, ih]
  exact this ρ 0

section
variable (K : PySem.W.Frag) (mg : Str → Option Value)
def OwnAt (F H : Hp) (p : Addr) : D → Prop
  | .lst ds => ∃ xs, H p = some (.lst xs) ∧ RepAll K mg F xs ds
  | .dic kvs => H p = some (.dK kvs) ∧ (kvs.all fun q => flatV q.2) = true
  | .dlx a kns => p = a ∧ ∃ kvs, H p = some (.dK kvs) ∧ KRep F kvs kns
  | _ => False
def SlotOk (H0 F H : Hp) (σ : St) (i : Nat) : SL → Prop
  | .no => True
  | .dat d => ∃ v, σ[i]? = some (some v) ∧ Rep K mg F v d
  | .own d => ∃ p, σ[i]? = some (some (.ref p)) ∧ H0 p = none ∧ F p = none ∧ OwnAt K mg F H p d
/-- the state behind the entry F0, H0 -/
structure StOk (F0 H0 F H : Hp) (σ : St) (ρ : Sig) : Prop where
  g : Grow F0 H0 F H
  s : ∀ (i : Nat) (s : SL), ρ[i]? = some s → SlotOk K mg H0 F H σ i s
  d : ∀ (i j : Nat) (d e : D) (p : Addr), i ≠ j → ρ[i]? = some (.own d) → ρ[j]? = some (.own e) → σ[i]? = some (some (.ref p)) → σ[j]? ≠ some (some (.ref p))
  len : ρ.length = σ.length
  t : HT K mg H0
end

section
variable {K : PySem.W.Frag} {mg : Str → Option Value} {F0 H0 F H F' H' : Hp} {σ : St} {ρ : Sig}
theorem OwnAt.mo {p : Addr} {d : D} (h : OwnAt K mg F H p d) (e : Ex F F') (e2 : Ex H H') : OwnAt K mg F' H' p d := by
  cases d <;> first
    | exact h.elim
    | (obtain ⟨xs, h1, h2⟩ := h; exact ⟨xs, e2.k _ _ h1 rfl, RepAll.mo h2 e⟩)
    | (obtain ⟨h0, kvs, h1, h2⟩ := h; exact ⟨h0, kvs, e2.k _ _ h1 rfl, KRep.mo e h2⟩)
    | exact ⟨e2.k _ _ h.1 rfl, h.2⟩
theorem OwnAt.there {p : Addr} {d : D} (h : OwnAt K mg F H p d) : ∃ o, H p = some o ∧ ∀ xs, o ≠ .tup xs := by
  cases d <;> first
    | exact h.elim
    | (obtain ⟨xs, h1, h2⟩ := h; exact ⟨_, h1, fun _ q => nomatch q⟩)
    | (obtain ⟨h0, kvs, h1, h2⟩ := h; exact ⟨_, h1, fun _ q => nomatch q⟩)
    | exact ⟨_, h.1, fun _ q => nomatch q⟩
theorem OwnAt.nofrz {p : Addr} {d : D} (h : OwnAt K mg F H p d) : (∀ xs, ¬ Rd H p (.tup xs)) := by
  intro xs r
  cases d with
  | lst ds =>
    obtain ⟨ys, h1, _⟩ := h
    rcases r with r | ⟨o, r⟩ <;> rw [h1] at r <;> cases r
  | dic kvs =>
    have h1 : H p = some (.dK kvs) := h.1
    rcases r with r | ⟨o, r⟩ <;> rw [h1] at r <;> cases r
  | dlx a kns =>
    obtain ⟨_, kvs, h1, _⟩ := h
    rcases r with r | ⟨o, r⟩ <;> rw [h1] at r <;> cases r
  | _ => exact h.elim
theorem OwnAt.plainly {p : Addr} {d : D} (h : OwnAt K mg F H p d) : ∃ u, H p = some u ∧ (∀ ps, u ≠ .tbl ps) ∧ ∀ c q, u ≠ LamX.CodeO c q := by
  cases d with
  | lst ds => obtain ⟨xs, h1, h2⟩ := h; exact ⟨_, h1, (fun _ q => nomatch q), fun c q z => by unfold LamX.CodeO at z; cases z⟩
  | dic kvs => exact ⟨_, h.1, (fun _ q => nomatch q), fun c q z => by unfold LamX.CodeO at z; cases z⟩
  | dlx a kns => obtain ⟨_, kvs, h1, h2⟩ := h; exact ⟨_, h1, (fun _ q => nomatch q), fun c q z => by unfold LamX.CodeO at z; cases z⟩
  | _ => exact h.elim
theorem OwnAt.tabs {p a : Addr} {d : D} {o : HO} {q : Str} (h : OwnAt K mg F H p d) (t : LamX.TabS H a q) : LamX.TabS (upd H p o) a q := by
  obtain ⟨u, hu, n1, n2⟩ := h.plainly
  obtain ⟨ps, h1, h2, h3⟩ := t
  refine ⟨ps, by rw [upd_ne (fun z => by rw [z, hu] at h1; exact n1 _ (Option.some.inj h1))]; exact h1, h2, fun pos cv hc => ?_⟩
  obtain ⟨c, e1, e2⟩ := h3 pos cv hc
  exact ⟨c, e1, by rw [upd_ne (fun z => by rw [z, hu] at e2; exact n2 _ _ (Option.some.inj e2))]; exact e2⟩
theorem OwnAt.rep {p : Addr} {d : D} {F2 : Hp} (h : OwnAt K mg F H p d) (e : Ex F F2) (e2 : F2 p = H p) : Rep K mg F2 (.ref p) d := by
  cases d with
  | lst ds =>
    obtain ⟨xs, h1, h2⟩ := h
    exact .lst (e2.trans h1) (h2.mo e)
  | dic kvs => exact .dic (e2.trans h.1) h.2
  | dlx a kns =>
    obtain ⟨rfl, kvs, h1, h2⟩ := h
    exact .dlx (e2.trans h1) (h2.mo e)
  | _ => exact h.elim
/-- the addresses of the owned that are shown -/
def ownAddr (ms : List Nat) (i : Nat) : Option SL → Option (Option V) → Option Addr
  | some (.own _), some (some (.ref p)) => if ms.contains i then some p else none
  | _, _ => none
def ownAddrs (ms : List Nat) (ρ : Sig) (σ : St) : List Addr := (List.range ρ.length).filterMap fun (i : Nat) => ownAddr ms i (ρ[i]?) (σ[i]?)
theorem mem_ownAddrs {ms : List Nat} {p : Addr} : p ∈ ownAddrs ms ρ σ ↔ ∃ (i : Nat) (d : D), ρ[i]? = some (.own d) ∧ σ[i]? = some (some (.ref p)) ∧ ms.contains i = true := by
  unfold ownAddrs
  rw [List.mem_filterMap]
  constructor
  · rintro ⟨i, _, h⟩
    unfold ownAddr at h
    split at h
    · rename_i d q h1 h2
      split at h
      · cases h
        exact ⟨i, d, h1, h2, by assumption⟩
      · cases h
    · cases h
  · rintro ⟨i, d, h1, h2, h3⟩
    refine ⟨i, List.mem_range.mpr (List.getElem?_eq_some_iff.mp h1).1, ?_⟩
    rw [h1, h2]
    simp only [ownAddr, h3, if_true]
def addH (F H : Hp) (ps : List Addr) : Hp := fun a => if a ∈ ps then H a else F a
def delH (F : Hp) (ps : List Addr) : Hp := fun a => if a ∈ ps then none else F a
theorem addH_in {ps : List Addr} {a : Addr} (h : a ∈ ps) : addH F H ps a = H a := if_pos h
theorem addH_out {ps : List Addr} {a : Addr} (h : a ∉ ps) : addH F H ps a = F a := if_neg h
theorem delH_in {ps : List Addr} {a : Addr} (h : a ∈ ps) : delH F ps a = none := if_pos h
theorem delH_out {ps : List Addr} {a : Addr} (h : a ∉ ps) : delH F ps a = F a := if_neg h

theorem StOk.own (S : StOk K mg F0 H0 F H σ ρ) {ms : List Nat} {p : Addr} (h : p ∈ ownAddrs ms ρ σ) : H0 p = none ∧ F p = none ∧ ∃ d, OwnAt K mg F H p d := by
  obtain ⟨i, d, h1, h2, _⟩ := mem_ownAddrs.mp h
  obtain ⟨q, e, a, b, c⟩ := S.s i _ h1
  rw [h2] at e; cases e
  exact ⟨a, b, d, c⟩
theorem StOk.exAdd (S : StOk K mg F0 H0 F H σ ρ) (ms : List Nat) : Ex F (addH F H (ownAddrs ms ρ σ)) := ⟨fun a o e t => by
  by_cases h : a ∈ ownAddrs ms ρ σ
  · rw [(S.own h).2.1] at e; cases e
  · rw [addH_out h]; exact e, fun a e => by
  by_cases h : a ∈ ownAddrs ms ρ σ
  · exact (S.own h).2.1
  · rw [addH_out h] at e; exact e⟩
theorem StOk.exAddH (S : StOk K mg F0 H0 F H σ ρ) (ms : List Nat) : Ex (addH F H (ownAddrs ms ρ σ)) H := ⟨fun a o e t => by
  by_cases h : a ∈ ownAddrs ms ρ σ
  · rw [addH_in h] at e; exact e
  · rw [addH_out h] at e; exact S.g.s.k a o e t, fun a e => by
  by_cases h : a ∈ ownAddrs ms ρ σ
  · rw [addH_in h]; exact e
  · rw [addH_out h]; exact S.g.s.n a e⟩
/-- what an expression sees -/
theorem StOk.view (S : StOk K mg F0 H0 F H σ ρ) (ms : List Nat) : View K mg (addH F H (ownAddrs ms ρ σ)) H σ (expo ms ρ) := by
  refine ⟨S.exAddH ms, fun i d e => ?_, by rw [expo_length, S.len]; exact Nat.le_refl _, S.t.keep S.g.t⟩
  unfold expo at e
  rw [expoF_get] at e
  obtain ⟨s, hs, e⟩ := Option.map_eq_some_iff.mp e
  cases s with
  | no => cases e
  | dat c =>
    cases e
    obtain ⟨v, e1, r⟩ := S.s i _ hs
    exact ⟨v, e1, r.mo (S.exAdd ms)⟩
  | own c =>
    have e : (if ms.contains (0 + i) = true then some c else xo c) = some d := e
    rw [Nat.zero_add] at e
    split at e
    · rename_i hm
      cases e
      obtain ⟨p, e1, _, _, o⟩ := S.s i _ hs
      exact ⟨.ref p, e1, o.rep (S.exAdd ms) (addH_in (mem_ownAddrs.mpr ⟨i, _, hs, e1, hm⟩))⟩
    · obtain ⟨p, e1, _, _, o⟩ := S.s i _ hs
      cases c <;> first | (cases e; done) | skip
      cases e
      obtain ⟨rfl, _⟩ := o
      exact ⟨_, e1, .exn _⟩
theorem StOk.notMem (S : StOk K mg F0 H0 F H σ ρ) {ms : List Nat} {i : Nat} {d : D} {p : Addr} (h : ρ[i]? = some (.own d)) (e : σ[i]? = some (some (.ref p))) (hm : ms.contains i = false) : p ∉ ownAddrs ms ρ σ := fun q => by
  obtain ⟨j, c, h1, h2, h3⟩ := mem_ownAddrs.mp q
  by_cases hij : i = j
  · subst hij; rw [hm] at h3; cases h3
  · exact S.d i j d c p hij h h1 e h2
theorem StOk.notNew (S : StOk K mg F0 H0 F H σ ρ) {ms : List Nat} (g : Grow (addH F H (ownAddrs ms ρ σ)) H F' H') {p : Addr} {d : D} (hF : F p = none) (o : OwnAt K mg F H p d) (n : p ∉ ownAddrs ms ρ σ) : F' p = none := by
  cases q : F' p with
  | none => rfl
  | some u =>
    rcases g.n p u q with z | z
    · rw [addH_out n, hF] at z; cases z
    · obtain ⟨w, hw, _⟩ := o.there
      rw [hw] at z; cases z
/-- behind an expression: what it saw is frozen -/
theorem StOk.frozen (S : StOk K mg F0 H0 F H σ ρ) {ms : List Nat} (g : Grow (addH F H (ownAddrs ms ρ σ)) H F' H') : StOk K mg F0 H0 F' H' σ (frz ms ρ) := by
  have eF : Ex F F' := (S.exAdd ms).trans g.f
  refine ⟨⟨S.g.f.trans eF, S.g.h.trans g.h, g.s, fun a o e => ?_, S.g.t.trans g.t⟩, fun i s e => ?_, fun i j d e p hij h1 h2 h3 => ?_, by rw [frz_length]; exact S.len, S.t⟩
  · rcases g.n a o e with z | z
    · by_cases h : a ∈ ownAddrs ms ρ σ
      · exact .inr (S.own h).1
      · rw [addH_out h] at z; exact S.g.n a o z
    · exact .inr (S.g.h.none z)
  · unfold frz at e
    rw [frzF_get] at e
    obtain ⟨t, ht, e⟩ := Option.map_eq_some_iff.mp e
    cases t with
    | no => cases e; trivial
    | dat c =>
      cases e
      obtain ⟨v, e1, r⟩ := S.s i _ ht
      exact ⟨v, e1, r.mo eF⟩
    | own c =>
      have e : (if ms.contains (0 + i) = true then SL.dat c else SL.own c) = s := e
      rw [Nat.zero_add] at e
      obtain ⟨p, e1, a, b, o⟩ := S.s i _ ht
      split at e
      · rename_i hm
        cases e
        exact ⟨.ref p, e1, (o.rep (S.exAdd ms) (addH_in (mem_ownAddrs.mpr ⟨i, c, ht, e1, hm⟩))).mo g.f⟩
      · rename_i hm
        cases e
        exact ⟨p, e1, a, S.notNew g b o (S.notMem ht e1 (by simpa using hm)), o.mo eF g.h⟩
  · unfold frz at h1 h2
    rw [frzF_get] at h1 h2
    obtain ⟨t, ht, e1⟩ := Option.map_eq_some_iff.mp h1
    obtain ⟨u, hu, e2⟩ := Option.map_eq_some_iff.mp h2
    cases t with
    | own c =>
      cases u with
      | own c' => exact S.d i j c c' p hij ht hu h3
      | dat c' => cases e2
      | no => cases e2
    | dat c => cases e1
    | no => cases e1
/-- .. where nothing of what it saw is kept -/
theorem StOk.seen (S : StOk K mg F0 H0 F H σ ρ) {ms : List Nat} (g : Grow (addH F H (ownAddrs ms ρ σ)) H F' H') : StOk K mg F0 H0 (delH F' (ownAddrs ms ρ σ)) H' σ ρ ∧ Ex F (delH F' (ownAddrs ms ρ σ)) ∧ Tups (K := K) F' (delH F' (ownAddrs ms ρ σ)) := by
  have eF : Ex F (delH F' (ownAddrs ms ρ σ)) := ⟨fun a o e t => by
    by_cases h : a ∈ ownAddrs ms ρ σ
    · rw [(S.own h).2.1] at e; cases e
    · rw [delH_out h]; exact g.f.k a o (by rw [addH_out h]; exact e) t, fun a e => by
    by_cases h : a ∈ ownAddrs ms ρ σ
    · exact (S.own h).2.1
    · rw [delH_out h] at e
      have := g.f.n a e
      rw [addH_out h] at this
      exact this⟩
  refine ⟨⟨⟨S.g.f.trans eF, S.g.h.trans g.h, ⟨fun a o e t => ?_, fun a e => ?_⟩, fun a o e => ?_, S.g.t.trans g.t⟩, fun i s e => ?_, S.d, S.len, S.t⟩, eF, fun a xs h => ?_⟩
  · by_cases h : a ∈ ownAddrs ms ρ σ
    · rw [delH_in h] at e; cases e
    · rw [delH_out h] at e; exact g.s.k a o e t
  · by_cases h : a ∈ ownAddrs ms ρ σ
    · exact delH_in h
    · rw [delH_out h]; exact g.s.n a e
  · by_cases h : a ∈ ownAddrs ms ρ σ
    · rw [delH_in h] at e; cases e
    · rw [delH_out h] at e
      rcases g.n a o e with z | z
      · rw [addH_out h] at z; exact S.g.n a o z
      · exact .inr (S.g.h.none z)
  · cases s with
    | no => trivial
    | dat c =>
      obtain ⟨v, e1, r⟩ := S.s i _ e
      exact ⟨v, e1, r.mo eF⟩
    | own c =>
      obtain ⟨p, e1, a, b, o⟩ := S.s i _ e
      refine ⟨p, e1, a, ?_, o.mo eF g.h⟩
      by_cases h : p ∈ ownAddrs ms ρ σ
      · exact delH_in h
      · rw [delH_out h]; exact S.notNew g b o h
  · have go : ∀ u, F' a = some u → (u = .tup xs ∨ ∃ o, u = .frz o (.tup xs)) → delH F' (ownAddrs ms ρ σ) a = some u := fun u q hu => by
      by_cases hm : a ∈ ownAddrs ms ρ σ
      · obtain ⟨_, _, d, o⟩ := S.own hm
        have q2 : H' a = some u := g.s.k a u q (by rcases hu with rfl | ⟨w, rfl⟩ <;> rfl)
        exact (((o.mo (Ex.refl F) g.h).nofrz xs) (by
          rcases hu with rfl | ⟨w, rfl⟩
          · exact .inl q2
          · exact .inr ⟨w, q2⟩)).elim
      · rw [delH_out hm]; exact q
    rcases h with (h | ⟨o, h⟩) | h
    · exact .inl (.inl (go _ h (.inl rfl)))
    · exact .inl (.inr ⟨o, go _ h (.inr ⟨o, rfl⟩)⟩)
    · exact .inr h
/-- a slot takes data -/
theorem StOk.set (S : StOk K mg F0 H0 F H σ ρ) {i : Nat} {v : V} {d : D} (r : Rep K mg F v d) : StOk K mg F0 H0 F H (σ.set i (some v)) (ρ.set i (.dat d)) := by
  refine ⟨S.g, fun j s e => ?_, fun j k c e p hjk h1 h2 h3 => ?_, by rw [List.length_set, List.length_set]; exact S.len, S.t⟩
  · by_cases hj : i = j
    · subst hj
      by_cases hi : i < ρ.length
      · rw [List.getElem?_set_self hi] at e
        cases e
        exact ⟨v, List.getElem?_set_self (by rw [← S.len]; exact hi), r⟩
      · rw [List.getElem?_eq_none (by rw [List.length_set]; omega)] at e; cases e
    · rw [List.getElem?_set_ne hj] at e
      have := S.s j s e
      cases s with
      | no => trivial
      | dat c => obtain ⟨u, e1, r1⟩ := this; exact ⟨u, by rw [List.getElem?_set_ne hj]; exact e1, r1⟩
      | own c => obtain ⟨p, e1, q⟩ := this; exact ⟨p, by rw [List.getElem?_set_ne hj]; exact e1, q⟩
  · by_cases hj : i = j
    · subst hj
      by_cases hi : i < ρ.length
      · rw [List.getElem?_set_self hi] at h1; cases h1
      · rw [List.getElem?_eq_none (by rw [List.length_set]; omega)] at h1; cases h1
    · by_cases hk : i = k
      · subst hk
        by_cases hi : i < ρ.length
        · rw [List.getElem?_set_self hi] at h2; cases h2
        · rw [List.getElem?_eq_none (by rw [List.length_set]; omega)] at h2; cases h2
      · rw [List.getElem?_set_ne hj] at h1 h3
        rw [List.getElem?_set_ne hk] at h2 ⊢
        exact S.d j k c e p hjk h1 h2 h3
/-- .. an owned new object -/
theorem StOk.setOwn (S : StOk K mg F0 H0 F H σ ρ) {i : Nat} {p : Addr} {d : D} (h0 : H0 p = none) (hF : F p = none) (o : OwnAt K mg F H p d) (new : ∀ (j : Nat) (e : D), j ≠ i → ρ[j]? = some (.own e) → σ[j]? ≠ some (some (.ref p))) : StOk K mg F0 H0 F H (σ.set i (some (.ref p))) (ρ.set i (.own d)) := by
  refine ⟨S.g, fun j s e => ?_, fun j k c e q hjk h1 h2 h3 => ?_, by rw [List.length_set, List.length_set]; exact S.len, S.t⟩
  · by_cases hj : i = j
    · subst hj
      by_cases hi : i < ρ.length
      · rw [List.getElem?_set_self hi] at e
        cases e
        exact ⟨p, List.getElem?_set_self (by rw [← S.len]; exact hi), h0, hF, o⟩
      · rw [List.getElem?_eq_none (by rw [List.length_set]; omega)] at e; cases e
    · rw [List.getElem?_set_ne hj] at e
      have := S.s j s e
      cases s with
      | no => trivial
      | dat c => obtain ⟨u, e1, r1⟩ := this; exact ⟨u, by rw [List.getElem?_set_ne hj]; exact e1, r1⟩
      | own c => obtain ⟨p, e1, q⟩ := this; exact ⟨p, by rw [List.getElem?_set_ne hj]; exact e1, q⟩
  · by_cases hj : i = j
    · subst hj
      by_cases hi : i < ρ.length
      · rw [List.getElem?_set_self (by rw [← S.len]; exact hi)] at h3
        cases h3
        rw [List.getElem?_set_ne hjk] at h2 ⊢
        exact new k e (Ne.symm hjk) h2
      · rw [List.getElem?_eq_none (by rw [List.length_set]; omega)] at h1; cases h1
    · by_cases hk : i = k
      · subst hk
        by_cases hi : i < ρ.length
        · rw [List.getElem?_set_self (by rw [← S.len]; exact hi)]
          rw [List.getElem?_set_ne hj] at h1 h3
          intro z
          cases z
          exact new j c (Ne.symm hj) h1 h3
        · rw [List.getElem?_eq_none (by rw [List.length_set]; omega)] at h2; cases h2
      · rw [List.getElem?_set_ne hj] at h1 h3
        rw [List.getElem?_set_ne hk] at h2 ⊢
        exact S.d j k c e q hjk h1 h2 h3
/-- an owned object is written -/
theorem StOk.write (S : StOk K mg F0 H0 F H σ ρ) {i : Nat} {p : Addr} {d c : D} {o : HO} (h : ρ[i]? = some (.own c)) (hp : σ[i]? = some (some (.ref p))) (n : OwnAt K mg F (upd H p o) p d) : StOk K mg F0 H0 F (upd H p o) σ (ρ.set i (.own d)) := by
  obtain ⟨q, e, a, b, oc⟩ := S.s i _ h
  rw [hp] at e; cases e
  have hi : i < ρ.length := (List.getElem?_eq_some_iff.mp h).1
  refine ⟨⟨S.g.f, ⟨fun x u z t => ?_, fun x z => ?_⟩, ⟨fun x u z t => ?_, fun x z => ?_⟩, S.g.n, fun a q e t => oc.tabs (S.g.t a q e t)⟩, fun j s e => ?_, fun j k c' e r hjk h1 h2 h3 => ?_, by rw [List.length_set]; exact S.len, S.t⟩
  · rw [upd_ne (fun w => by rw [w, a] at z; cases z)]; exact S.g.h.k x u z t
  · by_cases w : x = p
    · rw [w]; exact a
    · rw [upd_ne w] at z; exact S.g.h.n x z
  · rw [upd_ne (fun w => by rw [w, b] at z; cases z)]; exact S.g.s.k x u z t
  · by_cases w : x = p
    · rw [w]; exact b
    · rw [upd_ne w] at z; exact S.g.s.n x z
  · by_cases hj : i = j
    · subst hj
      rw [List.getElem?_set_self hi] at e
      cases e
      exact ⟨p, hp, a, b, n⟩
    · rw [List.getElem?_set_ne hj] at e
      have := S.s j s e
      cases s with
      | no => trivial
      | dat c => exact this
      | own c' =>
        obtain ⟨r, e1, q1, q2, q3⟩ := this
        refine ⟨r, e1, q1, q2, ?_⟩
        have ne : r ≠ p := fun w => by subst w; exact S.d i j c c' r hj h e hp e1
        cases c' with
        | lst ds => obtain ⟨xs, z1, z2⟩ := q3; exact ⟨xs, by rw [upd_ne ne]; exact z1, z2⟩
        | dic kvs => exact ⟨by rw [upd_ne ne]; exact q3.1, q3.2⟩
        | dlx b kns => obtain ⟨z0, kvs, z1, z2⟩ := q3; exact ⟨z0, kvs, by rw [upd_ne ne]; exact z1, z2⟩
        | _ => exact q3.elim
  · have key : ∀ (j : Nat) (x : D), (ρ.set i (.own d))[j]? = some (.own x) → ∃ y, ρ[j]? = some (.own y) := fun j x e => by
      by_cases hj : i = j
      · subst hj; exact ⟨c, h⟩
      · rw [List.getElem?_set_ne hj] at e; exact ⟨x, e⟩
    obtain ⟨y, h1'⟩ := key j _ h1
    obtain ⟨z, h2'⟩ := key k _ h2
    exact S.d j k y z r hjk h1' h2' h3
/-- a slot is forgotten -/
theorem StOk.drop (S : StOk K mg F0 H0 F H σ ρ) (i : Nat) : StOk K mg F0 H0 F H σ (ρ.set i .no) := by
  have key : ∀ (j : Nat) (s : SL), (ρ.set i .no)[j]? = some s → s = .no ∨ ρ[j]? = some s := fun j s e => by
    by_cases hj : i = j
    · subst hj
      by_cases hi : i < ρ.length
      · rw [List.getElem?_set_self hi] at e; cases e; exact .inl rfl
      · rw [List.getElem?_eq_none (by rw [List.length_set]; omega)] at e; cases e
    · rw [List.getElem?_set_ne hj] at e; exact .inr e
  refine ⟨S.g, fun j s e => ?_, fun j k c e p hjk h1 h2 h3 => ?_, by rw [List.length_set]; exact S.len, S.t⟩
  · rcases key j s e with rfl | q
    · trivial
    · exact S.s j s q
  · rcases key j _ h1 with z | q1
    · cases z
    · rcases key k _ h2 with z | q2
      · cases z
      · exact S.d j k c e p hjk q1 q2 h3
end
end Dl
/-! Dl7: statements. -/
namespace Dl
open PySem L2

section
variable (K : PySem.W.Frag) (mg : Str → Option Value) (W : WX)
def PostS (F0 H0 F : Hp) (fl : Fl) (D : Ends) : Prop :=
  match fl with
  | .nx ρ => ∀ σ F' H', StOk K mg F0 H0 F' H' σ ρ → Ex F F' → D.nx σ H'
  | .bk ρ => ∀ σ F' H', StOk K mg F0 H0 F' H' σ ρ → Ex F F' → D.bk σ H'
  | .ct ρ => ∀ σ F' H', StOk K mg F0 H0 F' H' σ ρ → Ex F F' → D.ct σ H'
  | .rt d => ∀ v F' H', Grow F0 H0 F' H' → Rep K mg F' v d → D.rt v H'
  | .ex c ρ => ∀ C σ F' H', StOk K mg F0 H0 F' H' σ ρ → Ex F F' → mg c = some (.ref C) → W (.ref C) none σ H'
def tP (s : Ss) : TS := fun D σ H => ∃ F0 H0 ρ F fl, StOk K mg F0 H0 F H σ ρ ∧ s ρ = some fl ∧ PostS K mg W F0 H0 F fl D
end

def stp {α : Type} (ms : List Nat) (e : Rho → Oe α) (ρ : Sig) (k : α → Option Fl) : Option Fl :=
  match e (expo ms ρ) with
  | some (.ok a) => k a
  | some (.error c) => some (.ex c ρ)
  | none => none
def sSeq (a b : Ss) : Ss := fun ρ => match a ρ with
  | some (.nx ρ') => b ρ'
  | o => o
def sNext : Ss := fun ρ => some (.nx ρ)
def sBreak : Ss := fun ρ => some (.bk ρ)
def sCont : Ss := fun ρ => some (.ct ρ)
def killS : List Nat → Sig → Sig
  | [], ρ => ρ
  | i :: is, ρ => killS is (ρ.set i .no)
/-- slots that are not read any more are forgotten -/
def sAft (is : List Nat) (s : Ss) : Ss := fun ρ => match s ρ with
  | some (.nx ρ') => some (.nx (killS is ρ'))
  | some (.ct ρ') => some (.ct (killS is ρ'))
  | some (.bk ρ') => some (.bk (killS is ρ'))
  | o => o
def sSet (ms : List Nat) (i : Nat) (e : Sx) : Ss := fun ρ => stp ms e ρ fun d => some (.nx ((if lf d then ρ else frz ms ρ).set i (.dat d)))
def sSetL (ms : List Nat) (i : Nat) (e : Sl) : Ss := fun ρ => stp ms e ρ fun ds => some (.nx ((if lfAll ds then ρ else frz ms ρ).set i (.own (.lst ds))))
def sRet (ms : List Nat) (e : Sx) : Ss := fun ρ => stp ms e ρ fun d => some (.rt d)
def sRetN : Ss := fun _ => some (.rt .non)
def sDrop (ms : List Nat) (e : Sx) : Ss := fun ρ => stp ms e ρ fun _ => some (.nx ρ)
def sIf (ms : List Nat) (c : Sb) (a b : Ss) : Ss := fun ρ => stp ms c ρ fun t => if t then a ρ else b ρ
def sRaise (c : Str) : Ss := fun ρ => some (.ex c ρ)
def setD : Sig → List Nat → List D → Sig
  | ρ, i :: is, d :: ds => setD (ρ.set i (.dat d)) is ds
  | ρ, _, _ => ρ
def setV : St → List Nat → List V → St
  | σ, i :: is, v :: vs => setV (σ.set i (some v)) is vs
  | σ, _, _ => σ
def sUnp (ms : List Nat) (is : List Nat) (e : Sx) : Ss := fun ρ => stp ms e ρ fun d =>
  match d with
  | .tup ds => if ds.length = is.length then some (.nx (setD (if lf d then ρ else frz ms ρ) is ds)) else none
  | _ => none
def sApp (ms : List Nat) (i : Nat) (e : Sx) : Ss := fun ρ =>
  match ρ[i]? with
  | some (.own (.lst ds)) => stp ms e ρ fun d => if okLen (ds.length + 1) && (lf d || !ms.contains i) then some (.nx ((if lf d then ρ else frz ms ρ).set i (.own (.lst (ds ++ [d]))))) else none
  | _ => none
def sExt (ms : List Nat) (i : Nat) (e : Sx) : Ss := fun ρ =>
  match ρ[i]? with
  | some (.own (.lst ds)) => stp ms e ρ fun d =>
    match d with
    | .lst es => if okLen (ds.length + es.length) && (lfAll es || !ms.contains i) then some (.nx ((if lfAll es then ρ else frz ms ρ).set i (.own (.lst (ds ++ es))))) else none
    | _ => none
  | _ => none
/-- own j, own i: x_i.append(x_j.pop(e)) -/
def sAppPop (ms : List Nat) (i j : Nat) (e : Sx) : Ss := fun ρ =>
  match ρ[i]?, ρ[j]? with
  | some (.own (.lst ds)), some (.own (.lst es)) => if i = j then none else stp ms e ρ fun d =>
    match d with
    | .int n => if decide (0 ≤ n) && okLen (ds.length + 1) && okLen es.length then
        match es[n.toNat]? with
        | some c => some (.nx ((ρ.set j (.own (.lst (es.eraseIdx n.toNat)))).set i (.own (.lst (ds ++ [c])))))
        | none => none
      else none
    | _ => none
  | _, _ => none
abbrev Tgt := D → Sig → Option Sig
def tgN (i : Nat) : Tgt := fun d ρ => some (ρ.set i (.dat d))
def tgT (is : List Nat) : Tgt := fun d ρ =>
  match d with
  | .tup ds => if ds.length = is.length then some (setD ρ is ds) else none
  | _ => none
def forS (t : Tgt) (body : Ss) : List D → Ss
  | [], ρ => some (.nx ρ)
  | d :: ds, ρ =>
    match t d ρ with
    | none => none
    | some ρ1 => match body ρ1 with
      | some (.nx ρ2) => forS t body ds ρ2
      | some (.ct ρ2) => forS t body ds ρ2
      | some (.bk ρ2) => some (.nx ρ2)
      | o => o
def sFor (ms : List Nat) (it : Sl) (t : Tgt) (body : Ss) : Ss := fun ρ =>
  match it (expo ms ρ) with
  | some (.ok ds) => forS t body ds (frz ms ρ)
  | some (.error c) => some (.ex c ρ)
  | none => none
def whileS (ms : List Nat) (c : Sb) (body : Ss) : Nat → Ss
  | 0, _ => none
  | n + 1, ρ => stp ms c ρ fun b => if b then (match body ρ with
      | some (.nx ρ2) => whileS ms c body n ρ2
      | some (.ct ρ2) => whileS ms c body n ρ2
      | some (.bk ρ2) => some (.nx ρ2)
      | o => o) else some (.nx ρ)

section
variable {K : PySem.W.Frag} {mg : Str → Option Value} {W : WX} {F0 H0 F H F' H' : Hp} {σ : St} {ρ : Sig} {Dn : Ends}
theorem PostS.mo {fl : Fl} (h : PostS K mg W F0 H0 F fl Dn) (e : Ex F F') : PostS K mg W F0 H0 F' fl Dn := by
  cases fl with
  | nx ρ => exact fun σ F2 H2 s x => h σ F2 H2 s (e.trans x)
  | bk ρ => exact fun σ F2 H2 s x => h σ F2 H2 s (e.trans x)
  | ct ρ => exact fun σ F2 H2 s x => h σ F2 H2 s (e.trans x)
  | rt d => exact h
  | ex c ρ => exact fun C σ F2 H2 s x => h C σ F2 H2 s (e.trans x)
/-- an expression at the state -/
theorem stK {α β : Type} {k : Kd β α} {s : Rho → Oe α} {ms : List Nat} {g : α → Option Fl} {fl : Fl} {Q : β → Hp → Prop} (S : StOk K mg F0 H0 F H σ ρ) (e : stp ms s ρ g = some fl) (post : PostS K mg W F0 H0 F fl Dn)
    (h : ∀ a b F2 H1, g a = some fl → Grow (addH F H (ownAddrs ms ρ σ)) H F2 H1 → k.rep H F2 H1 b a → Q b H1) : tK K mg W k s σ H Q := by
  unfold stp at e
  split at e
  · rename_i a ea
    exact ⟨_, _, _, S.view ms, ea, fun b F2 H1 gr r => h a b F2 H1 e gr r⟩
  · rename_i c ea
    cases e
    refine ⟨_, _, _, S.view ms, ea, fun C F2 H1 gr hc => ?_⟩
    obtain ⟨S', e', _⟩ := S.seen gr
    exact post C σ _ H1 S' e' hc
  · cases e
theorem Rep.seen {ms : List Nat} {v : V} {d : D} (S : StOk K mg F0 H0 F H σ ρ) (gr : Grow (addH F H (ownAddrs ms ρ σ)) H F' H') (r : Rep K mg F' v d) :
    ∃ F2, StOk K mg F0 H0 F2 H' σ (if Dl.lf d = true then ρ else frz ms ρ) ∧ Ex F F2 ∧ Rep K mg F2 v d := by
  by_cases hl : Dl.lf d = true
  · obtain ⟨S', e', t⟩ := S.seen gr
    rw [if_pos hl]
    exact ⟨_, S', e', Rep.lf t d v hl r⟩
  · rw [if_neg hl]
    exact ⟨_, S.frozen gr, (S.exAdd ms).trans gr.f, r⟩
theorem RepAll.seen {ms : List Nat} {v : List V} {d : List D} (S : StOk K mg F0 H0 F H σ ρ) (gr : Grow (addH F H (ownAddrs ms ρ σ)) H F' H') (r : RepAll K mg F' v d) :
    ∃ F2, StOk K mg F0 H0 F2 H' σ (if Dl.lfAll d = true then ρ else frz ms ρ) ∧ Ex F F2 ∧ RepAll K mg F2 v d ∧ (∀ p, F' p = none → F2 p = none) := by
  by_cases hl : Dl.lfAll d = true
  · obtain ⟨S', e', t⟩ := S.seen gr
    rw [if_pos hl]
    refine ⟨_, S', e', RepAll.lf t d v hl r, fun p h => ?_⟩
    by_cases q : p ∈ ownAddrs ms ρ σ
    · exact delH_in q
    · rw [delH_out q]; exact h
  · rw [if_neg hl]
    exact ⟨_, S.frozen gr, (S.exAdd ms).trans gr.f, r, fun _ h => h⟩
theorem StOk.grow (S : StOk K mg F0 H0 F H σ ρ) (g : Grow F H F' H') : StOk K mg F0 H0 F' H' σ ρ := by
  refine ⟨S.g.trans g, fun i s e => ?_, S.d, S.len, S.t⟩
  have := S.s i s e
  cases s with
  | no => trivial
  | dat c => obtain ⟨v, e1, r⟩ := this; exact ⟨v, e1, r.mo g.f⟩
  | own c =>
    obtain ⟨p, e1, a, b, o⟩ := this
    refine ⟨p, e1, a, ?_, o.mo g.f g.h⟩
    cases q : F' p with
    | none => rfl
    | some u =>
      rcases g.n p u q with z | z
      · rw [b] at z; cases z
      · obtain ⟨w, hw, _⟩ := o.there
        rw [hw] at z; cases z
theorem StOk.sets : ∀ (is : List Nat) {σ : St} {ρ : Sig} {vs : List V} {ds : List D}, StOk K mg F0 H0 F H σ ρ → RepAll K mg F vs ds → StOk K mg F0 H0 F H (setV σ is vs) (setD ρ is ds)
  | [], _, _, _, _, S, _ => by simpa only [setV, setD] using S
  | i :: is, σ, ρ, vs, ds, S, r => by
    cases r with
    | nil => simpa only [setV, setD] using S
    | cons r1 r2 => exact StOk.sets is (S.set r1) r2
theorem StOk.kill : ∀ (is : List Nat) {ρ : Sig}, StOk K mg F0 H0 F H σ ρ → StOk K mg F0 H0 F H σ (killS is ρ)
  | [], _, S => S
  | i :: is, _, S => StOk.kill is (S.drop i)
end

/-! ### the rules -/
section
variable {X : Cx} {W : WX} {pos : Pos} {e : Expr} {st : Stmt} {rest : List Stmt} {se : Sx} {sl : Sl} {a b : Ss}
theorem ss_nil : PSs X [] (tP X.K X.mg W sNext) := pss_imp pss_nil fun D σ H ⟨F0, H0, ρ, F, fl, S, e, post⟩ => by
  cases e
  exact post σ F H S (.refl F)
theorem seq_reads {D : Ends} {σ : St} {H : Hp} (h : tP X.K X.mg W (sSeq a b) D σ H) : tSeq (tP X.K X.mg W a) (tP X.K X.mg W b) D σ H := by
  obtain ⟨F0, H0, ρ, F, fl, S, e, post⟩ := h
  unfold sSeq at e
  show tP X.K X.mg W a { D with nx := tP X.K X.mg W b D } σ H
  split at e
  · rename_i ρ' ea
    exact ⟨F0, H0, ρ, F, _, S, ea, fun σ1 F1 H1 S1 e1 => ⟨F0, H0, ρ', F1, fl, S1, e, post.mo e1⟩⟩
  · rename_i o hn
    cases fl with
    | nx ρ' => exact absurd e (hn ρ')
    | _ => exact ⟨F0, H0, ρ, F, _, S, e, post⟩
theorem ss_cons (h1 : PS X st (tP X.K X.mg W a)) (h2 : PSs X rest (tP X.K X.mg W b)) : PSs X (st :: rest) (tP X.K X.mg W (sSeq a b)) := pss_imp (pss_cons h1 h2) fun _ _ _ h => seq_reads h
theorem ss_one (h1 : PS X st (tP X.K X.mg W a)) : PSs X [st] (tP X.K X.mg W a) := pss_one h1
theorem aft_reads {is : List Nat} {D : Ends} {σ : St} {H : Hp} (h : tP X.K X.mg W (sAft is a) D σ H) : tP X.K X.mg W a D σ H := by
  obtain ⟨F0, H0, ρ, F, fl, S, e, post⟩ := h
  unfold sAft at e
  split at e
  · rename_i ρ' ea; cases e; exact ⟨F0, H0, ρ, F, .nx ρ', S, ea, fun σ1 F1 H1 S1 e1 => post σ1 F1 H1 (S1.kill is) e1⟩
  · rename_i ρ' ea; cases e; exact ⟨F0, H0, ρ, F, .ct ρ', S, ea, fun σ1 F1 H1 S1 e1 => post σ1 F1 H1 (S1.kill is) e1⟩
  · rename_i ρ' ea; cases e; exact ⟨F0, H0, ρ, F, .bk ρ', S, ea, fun σ1 F1 H1 S1 e1 => post σ1 F1 H1 (S1.kill is) e1⟩
  · exact ⟨F0, H0, ρ, F, _, S, e, post⟩
theorem ss_aft (is : List Nat) (h : PSs X rest (tP X.K X.mg W a)) : PSs X rest (tP X.K X.mg W (sAft is a)) := pss_imp h fun _ _ _ h => aft_reads h
theorem s_aft (is : List Nat) (h : PS X st (tP X.K X.mg W a)) : PS X st (tP X.K X.mg W (sAft is a)) := ps_imp h fun _ _ _ h => aft_reads h
theorem s_pass : PS X (.Pass pos) (tP X.K X.mg W sNext) := ps_imp ps_pass fun D σ H ⟨F0, H0, ρ, F, fl, S, e, post⟩ => by cases e; exact post σ F H S (.refl F)
theorem s_break : PS X (.Break pos) (tP X.K X.mg W sBreak) := ps_imp ps_break fun D σ H ⟨F0, H0, ρ, F, fl, S, e, post⟩ => by cases e; exact post σ F H S (.refl F)
theorem s_cont : PS X (.Continue pos) (tP X.K X.mg W sCont) := ps_imp ps_continue fun D σ H ⟨F0, H0, ρ, F, fl, S, e, post⟩ => by cases e; exact post σ F H S (.refl F)
theorem s_retN : PS X (.Return none pos) (tP X.K X.mg W sRetN) := ps_imp ps_retN fun D σ H ⟨F0, H0, ρ, F, fl, S, e, post⟩ => by cases e; exact post .non F H S.g .non
theorem s_ret (ms : List Nat) (he : PE X e (tS X.K X.mg W se)) : PS X (.Return (some e) pos) (tP X.K X.mg W (sRet ms se)) := by
  refine ps_imp (ps_ret he) fun D σ H ⟨F0, H0, ρ, F, fl, S, e, post⟩ => ?_
  refine stK S e post fun d v F2 H1 e gr r => ?_
  cases e
  exact post v F2 H1 (S.frozen gr).g r
theorem s_drop (ms : List Nat) (he : PE X e (tS X.K X.mg W se)) (hs : swapsWith e none pos.line X.env = pure false := by rfl) : PS X (.Expr e pos) (tP X.K X.mg W (sDrop ms se)) := by
  refine ps_imp (ps_expr he hs) fun D σ H ⟨F0, H0, ρ, F, fl, S, e, post⟩ => ?_
  refine stK S e post fun d v F2 H1 e gr r => ?_
  cases e
  obtain ⟨S', e', _⟩ := S.seen gr
  exact post σ _ H1 S' e'
theorem s_if {c : Expr} {p q : List Stmt} {sc : Sb} (ms : List Nat) (hc : PT X c (tT X.K X.mg W sc)) (ha : PSs X p (tP X.K X.mg W a)) (hb : PSs X q (tP X.K X.mg W b)) : PS X (.If c p q pos) (tP X.K X.mg W (sIf ms sc a b)) := by
  refine ps_imp (ps_if hc ha hb) fun D σ H ⟨F0, H0, ρ, F, fl, S, e, post⟩ => ?_
  refine stK S e post fun t t' F2 H1 e gr r => ?_
  have r' : t' = t := r
  subst r'
  obtain ⟨S', e', _⟩ := S.seen gr
  cases t' with
  | true => exact ⟨F0, H0, ρ, _, fl, S', e, post.mo e'⟩
  | false => exact ⟨F0, H0, ρ, _, fl, S', e, post.mo e'⟩
/-- name = e, from what is under it -/
theorem asg_reads {i : Nat} {ms : List Nat} {D : Ends} {σ : St} {H : Hp} (h : tP X.K X.mg W (sSet ms i se) D σ H) : tAsg (tS X.K X.mg W se) (gName i) D σ H := by
  obtain ⟨F0, H0, ρ, F, fl, S, e, post⟩ := h
  refine stK S e post fun d v F2 H1 e gr r => ?_
  cases e
  obtain ⟨F3, S3, e3, r3⟩ := Rep.seen S gr r
  exact post _ F3 H1 (S3.set r3) e3
theorem asgL_reads {i : Nat} {ms : List Nat} {D : Ends} {σ : St} {H : Hp} (h : tP X.K X.mg W (sSetL ms i sl) D σ H) : tAsg (tL X.K X.mg W sl) (gName i) D σ H := by
  obtain ⟨F0, H0, ρ, F, fl, S, e, post⟩ := h
  refine stK S e post fun ds v F2 H1 e gr r => ?_
  cases e
  obtain ⟨p, xs, rfl, hp, hF, hH, rs⟩ := r
  obtain ⟨F3, S3, e3, r3, n3⟩ := RepAll.seen S gr rs
  refine post _ F3 H1 (S3.setOwn (S.g.h.none hp) (n3 p hF) ⟨xs, hH, r3⟩ fun j d _ hj z => ?_) e3
  have old : ∃ c, ρ[j]? = some (.own c) := by
    split at hj
    · exact ⟨d, hj⟩
    · unfold frz at hj
      rw [frzF_get] at hj
      obtain ⟨t, ht, q⟩ := Option.map_eq_some_iff.mp hj
      cases t with
      | own c => exact ⟨c, ht⟩
      | dat c => cases q
      | no => cases q
  obtain ⟨c, hc⟩ := old
  obtain ⟨q, e1, _, _, o⟩ := S.s j _ hc
  rw [z] at e1; cases e1
  obtain ⟨u, hu, _⟩ := o.there
  rw [hp] at hu; cases hu
theorem s_setR {i : Nat} (ms : List Nat) (h : PS X st (tAsg (tS X.K X.mg W se) (gName i))) : PS X st (tP X.K X.mg W (sSet ms i se)) := ps_imp h fun _ _ _ h => asg_reads h
theorem s_setLR {i : Nat} (ms : List Nat) (h : PS X st (tAsg (tL X.K X.mg W sl) (gName i))) : PS X st (tP X.K X.mg W (sSetL ms i sl)) := ps_imp h fun _ _ _ h => asgL_reads h
theorem s_set {i : Nat} {x : Str} {pos' : Pos} (ms : List Nat) (hN : X.N.Nodup) (he : PE X e (tS X.K X.mg W se)) (hi : X.N[i]? = some x := by rfl) (hx : Loc X.env.scope x := by first | exact Or.inl rfl | exact Or.inr rfl) (hs : swapsWith e (some (.Name x pos')) pos.line X.env = pure false := by rfl)
    (hf : X.fn x = true ∨ X.env.scope.names.lookup x = some .local := by first | exact .inl rfl | exact .inr rfl | assumption) : PS X (.Assign [.Name x pos'] e pos) (tP X.K X.mg W (sSet ms i se)) := s_setR ms (ps_set hN hi hx he hs hf)
theorem s_setL {i : Nat} {x : Str} {pos' : Pos} (ms : List Nat) (hN : X.N.Nodup) (he : PE X e (tL X.K X.mg W sl)) (hi : X.N[i]? = some x := by rfl) (hx : Loc X.env.scope x := by first | exact Or.inl rfl | exact Or.inr rfl) (hs : swapsWith e (some (.Name x pos')) pos.line X.env = pure false := by rfl)
    (hf : X.fn x = true ∨ X.env.scope.names.lookup x = some .local := by first | exact .inl rfl | exact .inr rfl | assumption) : PS X (.Assign [.Name x pos'] e pos) (tP X.K X.mg W (sSetL ms i sl)) := s_setLR ms (ps_set hN hi hx he hs hf)
/-- names in a row -/
def gNs : List Nat → TGs
  | [] => gNil
  | i :: is => gCons (gName i) (gNs is)
theorem gNs_reads : ∀ (is : List Nat) {vs : List V} {σ : St} {H : Hp} {Q : St → Hp → Prop}, vs.length = is.length → Q (setV σ is vs) H → gNs is vs σ H Q
  | [], vs, σ, H, Q, hl, q => by
    have : vs = [] := List.eq_nil_of_length_eq_zero hl
    subst this
    exact ⟨rfl, q⟩
  | i :: is, vs, σ, H, Q, hl, q => by
    cases vs with
    | nil => cases hl
    | cons v vs => exact ⟨v, vs, rfl, gNs_reads is (by simpa using hl) q⟩
theorem g_nil : PGs X [] (gNs []) := pgs_nil
theorem g_cons {i : Nat} {is : List Nat} {x : Str} {es : List Expr} (hN : X.N.Nodup) (h : PGs X es (gNs is)) (hi : X.N[i]? = some x := by rfl) (hx : Loc X.env.scope x := by first | exact Or.inl rfl | exact Or.inr rfl)
    (hf : X.fn x = true ∨ X.env.scope.names.lookup x = some .local := by first | exact .inl rfl | exact .inr rfl | assumption)
    (hs : (assignEach (.Name x pos :: es) X.env).map (·.2) = assign (.Name x pos) X.env :: (assignEach es X.env).map (·.2) := by rfl) : PGs X (.Name x pos :: es) (gNs (i :: is)) := pgs_cons (pg_name hN hi hx hf) h hs
theorem s_unp {is : List Nat} {es : List Expr} {kk : Nat} {tpos : Pos} (ms : List Nat) (hc : X.calm = true) (hg : PGs X es (gNs is)) (he : PE X e (tS X.K X.mg W se)) (hn : (assignEach es X.env).length = is.length := by rfl) (hst : (assignEach es X.env).findIdx? (·.1) = none := by rfl)
    (hs : swapsWithSole [.Tuple es kk tpos] e pos.line X.env = pure false := by rfl) (hw : swappedStores [.Tuple es kk tpos] e X.env = pure none := by rfl) (h1 : (assignEach [.Tuple es kk tpos] X.env).map (·.2) = [assign (.Tuple es kk tpos) X.env] := by rfl) :
    PS X (.Assign [.Tuple es kk tpos] e pos) (tP X.K X.mg W (sUnp ms is se)) := by
  refine ps_imp (ps_asg he (pg_tup hc hg hn hst) hs hw h1) fun D σ H ⟨F0, H0, ρ, F, fl, S, e, post⟩ => ?_
  refine stK S e post fun d v F2 H1 e gr r => ?_
  split at e
  · rename_i ds
    split at e
    · rename_i hl
      cases e
      obtain ⟨F3, S3, e3, r3⟩ := Rep.seen S gr r
      cases r3 with
      | tup h1 rs =>
        refine ⟨_, _, rfl, S3.g.s.sqT h1, by rw [rs.length]; exact hl, gNs_reads is (by rw [rs.length]; exact hl) ?_⟩
        exact post _ F3 H1 (StOk.sets is S3 rs) e3
    · cases e
  · cases e
/-- raise X('..') -/
theorem s_raise {x m : Str} {C : Addr} {bmB : List Value} {B newId initId : String} {j : Nat} {p p2 pos2 : Pos} (hc : X.calm = true) (tk : Takes X W) (Fc : ExcBaseFacts B newId initId bmB) (q : PySem.W.excIn X.K C bmB newId = true) (gC : X.mg x = some (.ref C)) (kC : PySem.W.keepIn X.K (.ref C) = true) (r : Raises X (.ref C))
    (hg : Gl X x := by rfl) (hdb : (x == ("__debug__" : Str)) = false := by decide) : PS X (.Raise (some (.Call (.Name x p) [.Constant (.str m) j p2] [] pos)) none pos2) (tP X.K X.mg W (sRaise x)) := by
  refine ps_imp (ps_raise hc tk (pmk_own Fc q gC kC r hg hdb)) fun D σ H ⟨F0, H0, ρ, F, fl, S, e, post⟩ => ?_
  cases e
  exact post C σ F H S (.refl F) gC
end
end Dl
/-! Dl8: methods of owned lists, loops, comprehensions. -/
namespace Dl
open PySem L2

section
variable {X : Cx} {W : WX} {pos apos p1 : Pos} {e : Expr} {se : Sx} {i j : Nat} {x y : Str}
theorem frz_own {ms : List Nat} {ρ : Sig} {i : Nat} {d : D} (h : ρ[i]? = some (.own d)) (hm : ms.contains i = false) : (frz ms ρ)[i]? = some (.own d) := by
  unfold frz
  rw [frzF_get, h]
  show some (if ms.contains (0 + i) = true then SL.dat d else SL.own d) = _
  rw [Nat.zero_add, hm, if_neg Bool.false_ne_true]
theorem slot_after {b : Bool} {ms : List Nat} {ρ : Sig} {i : Nat} {d : D} (h : ρ[i]? = some (.own d)) (hm : (b || !ms.contains i) = true) : (if b = true then ρ else frz ms ρ)[i]? = some (.own d) := by
  cases b with
  | true => exact h
  | false => exact frz_own h (by simpa using hm)
/-- x.append(e) -/
theorem s_app (ms : List Nat) (he : PE X e (tS X.K X.mg W se)) (hN : X.N[i]? = some x := by rfl) (hv : Vis X.env.scope x := by first | exact Or.inl rfl | exact Or.inr (Or.inl rfl) | exact Or.inr (Or.inr rfl)) (hd : (x == ("__debug__" : Str)) = false := by decide)
    (hcd : (x == ("__classdict__" : Str)) = false := by decide) (h1 : attributeBase (.Name x p1) "append" X.env (eval (.Name x p1) X.env) = eval (.Name x p1) X.env := by rfl)
    (h2 : ((backTo pos (starEach [e] X.env)).all (fun x => !x.1) && (backToKw pos (keywordEach [] X.env)).all (fun x => x.1.isSome) && decide ([e].length + ([] : List Keyword).length + (if ([] : List Keyword).isEmpty then 0 else 1) < 30)) = true := by rfl)
    (h3 : (apos.endLine == pos.line) = true := by rfl) (h4 : starEach [e] X.env = (false, eval e X.env) :: starEach [] X.env := by rfl) (h5 : (backTo pos (starEach [] X.env)).any (·.1) = false := by rfl) {spos : Pos}
    (hs : swapsWith (.Call (.Attribute (.Name x p1) "append" apos) [e] [] pos) none spos.line X.env = pure false := by rfl) :
    PS X (.Expr (.Call (.Attribute (.Name x p1) "append" apos) [e] [] pos) spos) (tP X.K X.mg W (sApp ms i se)) := by
  refine ps_imp (ps_expr (pe_bm PySem.F.plainAttrs_list PySem.F.slot_list_append PySem.F.type_list_append mt_append (pe_var (i := i) hN hv hd hcd) (pa_cons he pa_nil h4) h1 h2 h3 h4 h5) hs) fun D σ H ⟨F0, H0, ρ, F, fl, S, e, post⟩ => ?_
  unfold sApp at e
  split at e
  · rename_i ds hρ
    obtain ⟨p, hp, _, _, xs, hx, rx⟩ := S.s i _ hρ
    refine ⟨.ref p, hp, .inl ⟨rfl, xs, .inl (.inl hx)⟩, ?_⟩
    refine stK S e post fun d v F2 H1 e gr r => ?_
    split at e
    · rename_i c
      rw [Bool.and_eq_true] at c
      cases e
      obtain ⟨F3, S3, e3, r3⟩ := Rep.seen S gr r
      have hx1 : H1 p = some (.lst xs) := gr.h.k _ _ hx rfl
      refine ⟨p, xs, v, rfl, rfl, hx1, Nat.lt_of_lt_of_le (Nat.lt_succ_self _) (by rw [rx.length]; exact okLen_line c.1), ?_⟩
      exact post σ F3 _ (S3.write (slot_after hρ c.2) hp ⟨xs ++ [v], upd_same, (rx.mo e3).append (.cons r3 .nil)⟩) e3
    · cases e
  · cases e
/-- x.extend(e) -/
theorem s_ext (ms : List Nat) (he : PE X e (tS X.K X.mg W se)) (hN : X.N[i]? = some x := by rfl) (hv : Vis X.env.scope x := by first | exact Or.inl rfl | exact Or.inr (Or.inl rfl) | exact Or.inr (Or.inr rfl)) (hd : (x == ("__debug__" : Str)) = false := by decide)
    (hcd : (x == ("__classdict__" : Str)) = false := by decide) (h1 : attributeBase (.Name x p1) "extend" X.env (eval (.Name x p1) X.env) = eval (.Name x p1) X.env := by rfl)
    (h2 : ((backTo pos (starEach [e] X.env)).all (fun x => !x.1) && (backToKw pos (keywordEach [] X.env)).all (fun x => x.1.isSome) && decide ([e].length + ([] : List Keyword).length + (if ([] : List Keyword).isEmpty then 0 else 1) < 30)) = true := by rfl)
    (h3 : (apos.endLine == pos.line) = true := by rfl) (h4 : starEach [e] X.env = (false, eval e X.env) :: starEach [] X.env := by rfl) (h5 : (backTo pos (starEach [] X.env)).any (·.1) = false := by rfl) {spos : Pos}
    (hs : swapsWith (.Call (.Attribute (.Name x p1) "extend" apos) [e] [] pos) none spos.line X.env = pure false := by rfl) :
    PS X (.Expr (.Call (.Attribute (.Name x p1) "extend" apos) [e] [] pos) spos) (tP X.K X.mg W (sExt ms i se)) := by
  refine ps_imp (ps_expr (pe_bm PySem.F.plainAttrs_list PySem.F.slot_list_extend PySem.F.type_list_extend mt_extend (pe_var (i := i) hN hv hd hcd) (pa_cons he pa_nil h4) h1 h2 h3 h4 h5) hs) fun D σ H ⟨F0, H0, ρ, F, fl, S, e, post⟩ => ?_
  unfold sExt at e
  split at e
  · rename_i ds hρ
    obtain ⟨p, hp, _, _, xs, hx, rx⟩ := S.s i _ hρ
    refine ⟨.ref p, hp, .inl ⟨rfl, xs, .inl (.inl hx)⟩, ?_⟩
    refine stK S e post fun d v F2 H1 e gr r => ?_
    split at e
    · rename_i es
      split at e
      · rename_i c
        rw [Bool.and_eq_true] at c
        cases e
        cases r with
        | lst hb rb =>
          obtain ⟨F3, S3, e3, r3, _⟩ := RepAll.seen S gr rb
          have hx1 : H1 p = some (.lst xs) := gr.h.k _ _ hx rfl
          refine ⟨p, _, xs, _, rfl, rfl, hx1, gr.s.k _ _ hb rfl, by rw [rx.length, rb.length]; exact okLen_line c.1, ?_⟩
          exact post σ F3 _ (S3.write (slot_after hρ c.2) hp ⟨_, upd_same, (rx.mo e3).append r3⟩) e3
      · cases e
    · cases e
  · cases e
/-- x.append(y.pop(e)) -/
theorem s_appPop {q1 : Pos} {aq cq : Pos} (ms : List Nat) (he : PE X e (tS X.K X.mg W se)) (hN : X.N[i]? = some x := by rfl) (hv : Vis X.env.scope x := by first | exact Or.inl rfl | exact Or.inr (Or.inl rfl) | exact Or.inr (Or.inr rfl)) (hd : (x == ("__debug__" : Str)) = false := by decide)
    (hcd : (x == ("__classdict__" : Str)) = false := by decide) (hN' : X.N[j]? = some y := by rfl) (hv' : Vis X.env.scope y := by first | exact Or.inl rfl | exact Or.inr (Or.inl rfl) | exact Or.inr (Or.inr rfl)) (hd' : (y == ("__debug__" : Str)) = false := by decide)
    (hcd' : (y == ("__classdict__" : Str)) = false := by decide) (h1 : attributeBase (.Name x p1) "append" X.env (eval (.Name x p1) X.env) = eval (.Name x p1) X.env := by rfl)
    (h2 : ((backTo pos (starEach [.Call (.Attribute (.Name y q1) "pop" aq) [e] [] cq] X.env)).all (fun x => !x.1) && (backToKw pos (keywordEach [] X.env)).all (fun x => x.1.isSome) && decide ([Expr.Call (.Attribute (.Name y q1) "pop" aq) [e] [] cq].length + ([] : List Keyword).length + (if ([] : List Keyword).isEmpty then 0 else 1) < 30)) = true := by rfl)
    (h3 : (apos.endLine == pos.line) = true := by rfl) (h4 : starEach [.Call (.Attribute (.Name y q1) "pop" aq) [e] [] cq] X.env = (false, eval (.Call (.Attribute (.Name y q1) "pop" aq) [e] [] cq) X.env) :: starEach [] X.env := by rfl) (h5 : (backTo pos (starEach [] X.env)).any (·.1) = false := by rfl)
    (k1 : attributeBase (.Name y q1) "pop" X.env (eval (.Name y q1) X.env) = eval (.Name y q1) X.env := by rfl)
    (k2 : ((backTo cq (starEach [e] X.env)).all (fun x => !x.1) && (backToKw cq (keywordEach [] X.env)).all (fun x => x.1.isSome) && decide ([e].length + ([] : List Keyword).length + (if ([] : List Keyword).isEmpty then 0 else 1) < 30)) = true := by rfl)
    (k3 : (aq.endLine == cq.line) = true := by rfl) (k4 : starEach [e] X.env = (false, eval e X.env) :: starEach [] X.env := by rfl) (k5 : (backTo cq (starEach [] X.env)).any (·.1) = false := by rfl) {spos : Pos}
    (hs : swapsWith (.Call (.Attribute (.Name x p1) "append" apos) [.Call (.Attribute (.Name y q1) "pop" aq) [e] [] cq] [] pos) none spos.line X.env = pure false := by rfl) :
    PS X (.Expr (.Call (.Attribute (.Name x p1) "append" apos) [.Call (.Attribute (.Name y q1) "pop" aq) [e] [] cq] [] pos) spos) (tP X.K X.mg W (sAppPop ms i j se)) := by
  refine ps_imp (ps_expr (pe_bm PySem.F.plainAttrs_list PySem.F.slot_list_append PySem.F.type_list_append mt_append (pe_var (i := i) hN hv hd hcd)
    (pa_cons (pe_bm PySem.F.plainAttrs_list PySem.F.slot_list_pop PySem.F.type_list_pop mt_popAt (pe_var (i := j) hN' hv' hd' hcd') (pa_cons he pa_nil k4) k1 k2 k3 k4 k5) pa_nil h4) h1 h2 h3 h4 h5) hs) fun D σ H ⟨F0, H0, ρ, F, fl, S, e, post⟩ => ?_
  unfold sAppPop at e
  split at e
  · rename_i ds es hρ hρ'
    split at e
    · cases e
    · rename_i hij
      obtain ⟨p, hp, _, _, xs, hx, rx⟩ := S.s i _ hρ
      obtain ⟨q, hq, _, _, ys, hy, ry⟩ := S.s j _ hρ'
      refine ⟨.ref p, hp, .inl ⟨rfl, xs, .inl (.inl hx)⟩, ?_⟩
      refine ⟨.ref q, hq, .inl ⟨rfl, ys, .inl (.inl hy)⟩, ?_⟩
      refine stK S e post fun d v F2 H1 e gr r => ?_
      split at e
      · rename_i n
        split at e
        · rename_i c
          simp only [Bool.and_eq_true, decide_eq_true_eq] at c
          split at e
          · rename_i z hz
            cases e
            cases r
            obtain ⟨u, hu, ru⟩ := ry.get hz
            obtain ⟨S1, e1, _⟩ := S.seen gr
            have hpq : q ≠ p := fun w => by subst w; exact S.d i j _ _ q hij hρ hρ' hp hq
            have hx1 : H1 p = some (.lst xs) := gr.h.k _ _ hx rfl
            have hy1 : H1 q = some (.lst ys) := gr.h.k _ _ hy rfl
            have hlt : n.toNat < ys.length := (List.getElem?_eq_some_iff.mp hu).1
            have hle : es.length ≤ 1000000 := of_decide_eq_true c.2
            rw [← ry.length] at hle
            refine ⟨q, ys, n, n.toNat, u, rfl, rfl, hy1, by omega, by omega, ?_, hu, ?_⟩
            · exact (ixN_seq (n := ys.length) (i := n) (j := n.toNat) (by unfold ixN; rw [if_pos c.1.1, if_pos (by omega)])).1
            · refine ⟨p, xs, u, rfl, rfl, by rw [upd_ne (Ne.symm hpq)]; exact hx1, Nat.lt_of_lt_of_le (Nat.lt_succ_self _) (by rw [rx.length]; exact okLen_line c.1.2), ?_⟩
              have S2 := S1.write (o := .lst (ys.eraseIdx n.toNat)) (d := .lst (es.eraseIdx n.toNat)) hρ' hq ⟨_, upd_same, (ry.mo e1).eraseIdx _⟩
              refine post σ _ _ (S2.write (d := .lst (ds ++ [z])) (c := .lst ds) (i := i) (p := p) ?_ hp ⟨xs ++ [u], upd_same, (rx.mo e1).append (.cons (ru.mo e1) .nil)⟩) e1
              rw [List.getElem?_set_ne (Ne.symm hij)]; exact hρ
          · cases e
        · cases e
      · cases e
  · cases e
end

/-! ### what is walked -/
section
variable (K : PySem.W.Frag) (mg : Str → Option Value)
def Wk (J : It) (F : Hp) (ds : List D) : Prop := ∀ (i : Nat) (F' H : Hp), Ex F F' → Ex F' H →
  (∀ d, ds[i]? = some d → J.go i H ∧ ∀ x H', J.yld i H x H' → ∃ Fn, Grow F' H Fn H' ∧ Rep K mg Fn x d) ∧ (ds.length ≤ i → J.stop i H)
def kI : Kd It (List D) := ⟨fun _ F' _ J ds => Wk K mg J F' ds, fun _ h => h⟩
abbrev tI (W : WX) (s : Sl) : TI := tK K mg W (kI K mg) s
end
section
variable {K : PySem.W.Frag} {mg : Str → Option Value}
theorem wk_list {F : Hp} {a : Addr} {xs : List V} {ds : List D} (h : SqL K F a xs) (r : RepAll K mg F xs ds) : (∀ (i : Nat) (F' H : Hp), Ex F F' → Ex F' H → ds.length ≤ i → (Itl K a).stop i H) ∧ (∀ (i : Nat) (F' H : Hp) (d : D), Ex F F' → Ex F' H → ds[i]? = some d → ∃ v, xs[i]? = some v ∧ Rep K mg F v d ∧ SqL K H a xs) :=
  ⟨fun i F' H e e' hl => ⟨xs, (e.trans e').sqL h, by rw [r.length]; exact hl⟩, fun i F' H d e e' hd => by
    obtain ⟨v, hv, rv⟩ := r.get hd
    exact ⟨v, hv, rv, (e.trans e').sqL h⟩⟩
theorem Wk.list {F : Hp} {a : Addr} {xs : List V} {ds : List D} (h : SqL K F a xs) (r : RepAll K mg F xs ds) : Wk K mg (Itl K a) F ds := fun i F' H e e' =>
  ⟨fun d hd => by
    obtain ⟨v, hv, rv, hs⟩ := (wk_list h r).2 i F' H d e e' hd
    refine ⟨⟨xs, v, hs, hv⟩, fun x H' y => ?_⟩
    obtain ⟨rfl, y⟩ := y
    have := y xs hs
    rw [hv] at this; cases this
    exact ⟨F', .refl e', rv.mo e⟩, fun hl => (wk_list h r).1 i F' H e e' hl⟩
theorem Wk.tup {F : Hp} {a : Addr} {xs : List V} {ds : List D} (h : SqT K F a xs) (r : RepAll K mg F xs ds) : Wk K mg (Itt K a) F ds := fun i F' H e e' =>
  ⟨fun d hd => by
    obtain ⟨v, hv, rv⟩ := r.get hd
    refine ⟨⟨xs, v, (e.trans e').sqT h, hv⟩, fun x H' y => ?_⟩
    obtain ⟨rfl, y⟩ := y
    have := y xs ((e.trans e').sqT h)
    rw [hv] at this; cases this
    exact ⟨F', .refl e', rv.mo e⟩, fun hl => ⟨xs, (e.trans e').sqT h, by rw [r.length]; exact hl⟩⟩
def rgD (lo : Int) (n : Nat) : List D := (List.range n).map fun (i : Nat) => .int (lo + i)
theorem rgD_get {lo : Int} {n i : Nat} {d : D} (h : (rgD lo n)[i]? = some d) : i < n ∧ d = .int (lo + i) := by
  unfold rgD at h
  rw [List.getElem?_map] at h
  obtain ⟨j, hj, e⟩ := Option.map_eq_some_iff.mp h
  obtain ⟨hl, e2⟩ := List.getElem?_eq_some_iff.mp hj
  rw [List.length_range] at hl
  rw [List.getElem_range] at e2
  subst e2
  exact ⟨hl, e.symm⟩
theorem rgD_length (lo : Int) (n : Nat) : (rgD lo n).length = n := by unfold rgD; rw [List.length_map, List.length_range]
theorem Wk.range {F : Hp} (lo : Int) (n : Nat) : Wk K mg (Itr lo n) F (rgD lo n) := fun i F' H e e' =>
  ⟨fun d hd => by
    obtain ⟨hi, rfl⟩ := rgD_get hd
    refine ⟨hi, fun x H' y => ?_⟩
    obtain ⟨rfl, rfl⟩ := y
    exact ⟨F', .refl e', .int _⟩, fun hl => by rw [rgD_length] at hl; exact hl⟩
/-- enumerate(list) -/
def enD : Nat → List D → List D
  | _, [] => []
  | k, d :: ds => .tup [.int (k : Nat), d] :: enD (k + 1) ds
theorem enD_get : ∀ (ds : List D) (k i : Nat) (d : D), (enD k ds)[i]? = some d → ∃ c, ds[i]? = some c ∧ d = .tup [.int ((k + i : Nat) : Int), c]
  | [], k, i, d, h => by simp [enD] at h
  | c :: ds, k, 0, d, h => by simp [enD] at h; exact ⟨c, rfl, by rw [← h]; simp⟩
  | c :: ds, k, i + 1, d, h => by
    simp only [enD, List.getElem?_cons_succ] at h
    obtain ⟨b, h1, h2⟩ := enD_get ds (k + 1) i d h
    exact ⟨b, by simpa using h1, by rw [h2, show k + 1 + i = k + (i + 1) by omega]⟩
theorem enD_length : ∀ (ds : List D) (k : Nat), (enD k ds).length = ds.length
  | [], _ => rfl
  | _ :: ds, k => by simp [enD, enD_length ds]
theorem Wk.enum {F : Hp} {a : Addr} {xs : List V} {ds : List D} (h : SqL K F a xs) (r : RepAll K mg F xs ds) : Wk K mg (Ite K a) F (enD 0 ds) := fun i F' H e e' =>
  ⟨fun d hd => by
    obtain ⟨c, hc, rfl⟩ := enD_get ds 0 i d hd
    obtain ⟨v, hv, rv, hs⟩ := (wk_list h r).2 i F' H c e e' hc
    refine ⟨⟨xs, v, hs, hv⟩, fun x H' y => ?_⟩
    obtain ⟨T, z, rfl, hT, rfl, y⟩ := y
    have := y xs hs
    rw [hv] at this; cases this
    refine ⟨_, .both e' hT, .tup (.inl (.inl upd_same)) (.cons ?_ (.cons ((rv.mo e).mo (.new (e'.none hT))) .nil))⟩
    rw [Nat.zero_add]; exact .int _, fun hl => (wk_list h r).1 i F' H e e' (by rw [enD_length] at hl; exact hl)⟩
end
def sSeqItems (e : Sx) : Sl := fun ρ => bd (e ρ) fun d => lift (itemsOf d)
def sRange (l : Sl) : Sl := fun ρ => bd (l ρ) fun ds =>
  match ds with
  | [.int j] => if decide (-1000000 ≤ j) && decide (j ≤ 1000000) then some (.ok (rgD 0 j.toNat)) else none
  | [.int i, .int j] => if decide (-1000000 ≤ i) && decide (i ≤ 1000000) && decide (-1000000 ≤ j) && decide (j ≤ 1000000) then some (.ok (rgD i (j - i).toNat)) else none
  | _ => none
def sEnum (l : Sl) : Sl := fun ρ => bd (l ρ) fun ds =>
  match ds with
  | [.lst es] => some (.ok (enD 0 es))
  | _ => none
section
variable {X : Cx} {W : WX} {tg e e2 : Expr} {se : Sx} {sl : Sl} {pos p : Pos}
theorem i_seq (he : PE X e (tS X.K X.mg W se)) : PI X tg e (tI X.K X.mg W (sSeqItems se)) := by
  refine ⟨fun pins s σ H R I ⟨ρ, F, r, v, hq, fin⟩ => ?_⟩
  have key : ∀ d, se ρ = some (.ok d) → ∀ ds, itemsOf d = some ds → r = .ok ds → wpAny (model X.prog X.w) X.A (eval e X.env) (fun v s1 => wpAny (model X.prog X.w) X.A (pyIter v) (PIE X pins σ tg R) X.xe s1) X.xe s := by
    intro d ed ds hi hr
    subst hr
    cases d <;> first | (cases hi; done) | skip
    · cases hi
      refine (pi_tup he).run pins s σ H R I ?_
      refine ⟨ρ, F, .ok (.tup ds), v, ed, fun b F1 H1 g rb => ?_⟩
      cases rb with
      | tup h1 rs => exact ⟨_, rfl, ⟨_, g.s.sqT h1⟩, fin _ F1 H1 g (Wk.tup h1 rs)⟩
    · cases hi
      refine (pi_list he).run pins s σ H R I ?_
      refine ⟨ρ, F, .ok (.lst ds), v, ed, fun b F1 H1 g rb => ?_⟩
      cases rb with
      | lst h1 rs => exact ⟨_, rfl, ⟨_, .inl (.inl (g.s.k _ _ h1 rfl))⟩, fin _ F1 H1 g (Wk.list (.inl (.inl h1)) rs)⟩
  rcases bd_some hq with ⟨d, ed, e'⟩ | ⟨c, ed, rfl⟩
  · obtain ⟨ds, hi, hr⟩ := lift_some e'
    exact key d ed ds hi hr
  · refine (pi_list he).run pins s σ H R I ?_
    exact ⟨ρ, F, .error c, v, ed, fin⟩
theorem i_range1 (hm : X.mg "range" = none) (ha : PA X [e] (tA X.K X.mg W sl)) (hg : Gl X "range" := by rfl) (hs : starEach [e] X.env = [(false, eval e X.env)] := by rfl) (h1 : ∀ ρ ds, sl ρ = some (.ok ds) → ds.length = 1) : PI X tg (.Call (.Name "range" p) [e] [] pos) (tI X.K X.mg W (sRange sl)) := by
  refine ⟨fun pins s σ H R I ⟨ρ, F, r, v, e, fin⟩ => (pi_range1 hg hm ha hs).run pins s σ H R I ?_⟩
  refine part v e fin fun ds xs F1 H1 es e g v1 rs fin1 => ?_
  split at e
  · rename_i j
    split at e
    · rename_i c
      simp only [Bool.and_eq_true, decide_eq_true_eq] at c
      cases e
      obtain ⟨u, rfl, ru⟩ := rs.one
      cases ru
      exact ⟨j, rfl, by omega, by omega, fin1 _ F1 H1 (.refl v1.e) (Wk.range 0 _)⟩
    · cases e
  · have := h1 ρ _ es
    cases this
  · cases e
theorem i_range2 (hm : X.mg "range" = none) (ha : PA X [e, e2] (tA X.K X.mg W sl)) (hg : Gl X "range" := by rfl) (hs : starEach [e, e2] X.env = [(false, eval e X.env), (false, eval e2 X.env)] := by rfl) (hs2 : starEach [e2] X.env = [(false, eval e2 X.env)] := by rfl) (h1 : ∀ ρ ds, sl ρ = some (.ok ds) → ds.length = 2) : PI X tg (.Call (.Name "range" p) [e, e2] [] pos) (tI X.K X.mg W (sRange sl)) := by
  refine ⟨fun pins s σ H R I ⟨ρ, F, r, v, e, fin⟩ => (pi_range2 hg hm ha hs hs2).run pins s σ H R I ?_⟩
  refine part v e fin fun ds xs F1 H1 es e g v1 rs fin1 => ?_
  split at e
  · have := h1 ρ _ es
    cases this
  · rename_i i j
    split at e
    · rename_i c
      simp only [Bool.and_eq_true, decide_eq_true_eq] at c
      cases e
      obtain ⟨u, w, rfl, ru, rw'⟩ := rs.two
      cases ru; cases rw'
      exact ⟨i, j, rfl, ⟨by omega, by omega, by omega, by omega⟩, fin1 _ F1 H1 (.refl v1.e) (Wk.range i _)⟩
    · cases e
  · cases e
theorem len_cons1 {a : Sx} : ∀ ρ ds, sCons a sNil ρ = some (.ok ds) → ds.length = 1 := fun ρ ds h => by
  rcases bd_some h with ⟨x, _, h⟩ | ⟨c, _, h⟩
  · rcases bd_some h with ⟨xs, hx, h⟩ | ⟨c, _, h⟩
    · cases hx; cases h; rfl
    · cases h
  · cases h
theorem len_cons2 {a b : Sx} : ∀ ρ ds, sCons a (sCons b sNil) ρ = some (.ok ds) → ds.length = 2 := fun ρ ds h => by
  rcases bd_some h with ⟨x, _, h⟩ | ⟨c, _, h⟩
  · rcases bd_some h with ⟨xs, hx, h⟩ | ⟨c, _, h⟩
    · have := len_cons1 ρ xs hx
      cases h; simp [this]
    · cases h
  · cases h
theorem i_enum {elts : List Expr} {kk : Nat} {tpos : Pos} (hm : X.mg "enumerate" = none) (ha : PA X [e] (tA X.K X.mg W sl)) (hg : Gl X "enumerate" := by rfl) (hs : starEach [e] X.env = [(false, eval e X.env)] := by rfl) : PI X (.Tuple elts kk tpos) (.Call (.Name "enumerate" p) [e] [] pos) (tI X.K X.mg W (sEnum sl)) := by
  refine ⟨fun pins s σ H R I ⟨ρ, F, r, v, e, fin⟩ => (pi_enum hg hm ha hs).run pins s σ H R I ?_⟩
  refine part v e fin fun ds xs F1 H1 es e g v1 rs fin1 => ?_
  split at e
  · cases e
    obtain ⟨u, rfl, ru⟩ := rs.one
    cases ru with
    | lst h1 rl => exact ⟨_, _, rfl, .inl (.inl (v1.e.k _ _ h1 rfl)), fin1 _ F1 H1 (.refl v1.e) (Wk.enum (.inl (.inl h1)) rl)⟩
  · cases e
end
end Dl
/-! Dl9: for, while, list comprehensions, a def's body. -/
namespace Dl
open PySem L2

/-- a target takes an item -/
def GOk (K : PySem.W.Frag) (mg : Str → Option Value) (g : TG) (t : Tgt) : Prop :=
  ∀ F0 H0 F H σ ρ ρ' v d (Q : St → Hp → Prop), StOk K mg F0 H0 F H σ ρ → Rep K mg F v d → t d ρ = some ρ' → (∀ σ', StOk K mg F0 H0 F H σ' ρ' → Q σ' H) → g v σ H Q
section
variable {K : PySem.W.Frag} {mg : Str → Option Value} {W : WX}
theorem gok_name (i : Nat) : GOk K mg (gName i) (tgN i) := fun F0 H0 F H σ ρ ρ' v d Q S r e q => by
  cases e
  exact q _ (S.set r)
theorem gok_tup {n : Nat} (is : List Nat) (hn : n = is.length) : GOk K mg (gTup K n (gNs is)) (tgT is) := fun F0 H0 F H σ ρ ρ' v d Q S r e q => by
  unfold tgT at e
  split at e
  · split at e
    · rename_i ds hl
      cases e
      cases r with
      | tup h1 rs =>
        exact ⟨_, _, rfl, S.g.s.sqT h1, by rw [rs.length, hn]; exact hl, gNs_reads is (by rw [rs.length]; exact hl) (q _ (StOk.sets is S rs))⟩
    · cases e
  · cases e
theorem for_reads {ms : List Nat} {it : Sl} {t : Tgt} {body : Ss} {g : TG} (hg : GOk K mg g t) {D : Ends} {σ : St} {H : Hp} (h : tP K mg W (sFor ms it t body) D σ H) : tFor (tI K mg W it) g (tP K mg W body) D σ H := by
  obtain ⟨F0, H0, ρ, F, fl, S, e, post⟩ := h
  unfold sFor at e
  split at e
  · rename_i ds eds
    refine ⟨_, _, _, S.view ms, eds, fun J F1 H1 gr wk => ?_⟩
    have S1 := S.frozen gr
    have eF : Ex F F1 := (S.exAdd ms).trans gr.f
    refine ⟨fun i m σ H => m = ds.length - i ∧ i ≤ ds.length ∧ ∃ F' ρ', StOk K mg F0 H0 F' H σ ρ' ∧ Ex F1 F' ∧ forS t body (ds.drop i) ρ' = some fl, ⟨ds.length, by simp, Nat.zero_le _, F1, _, S1, .refl _, e⟩, ?_⟩
    rintro i m σ H ⟨rfl, hi, F', ρ', S', e', ef⟩
    have w := wk i F' H e' S'.g.s
    by_cases hlt : i < ds.length
    · have hd : ds[i]? = some ds[i] := List.getElem?_eq_getElem hlt
      obtain ⟨go, yl⟩ := w.1 _ hd
      refine .inr ⟨go, fun σ' H' => ds.length - (i + 1) < ds.length - i ∧ i + 1 ≤ ds.length ∧ ∃ F' ρ', StOk K mg F0 H0 F' H' σ' ρ' ∧ Ex F1 F' ∧ forS t body (ds.drop (i + 1)) ρ' = some fl, fun σ' H' ⟨q0, q1, q2⟩ => ⟨_, q0, rfl, q1, q2⟩, fun x H' y => ?_⟩
      obtain ⟨Fn, gn, rx⟩ := yl x H' y
      rw [List.drop_eq_getElem_cons hlt] at ef
      unfold forS at ef
      split at ef
      · cases ef
      · rename_i ρ1 et
        refine hg F0 H0 Fn H' σ ρ' ρ1 x ds[i] _ (S'.grow gn) rx et fun σ2 S2 => ?_
        have e2 : Ex F1 Fn := e'.trans gn.f
        have again : ∀ ρ2, forS t body (ds.drop (i + 1)) ρ2 = some fl → ∀ σ3 F3 H3, StOk K mg F0 H0 F3 H3 σ3 ρ2 → Ex Fn F3 → ds.length - (i + 1) < ds.length - i ∧ i + 1 ≤ ds.length ∧ ∃ F' ρ', StOk K mg F0 H0 F' H3 σ3 ρ' ∧ Ex F1 F' ∧ forS t body (ds.drop (i + 1)) ρ' = some fl :=
          fun ρ2 h2 σ3 F3 H3 S3 e3 => ⟨by omega, hlt, F3, ρ2, S3, e2.trans e3, h2⟩
        split at ef
        · rename_i ρ2 eb
          exact ⟨F0, H0, ρ1, Fn, .nx ρ2, S2, eb, fun σ3 F3 H3 S3 e3 => again ρ2 ef σ3 F3 H3 S3 e3⟩
        · rename_i ρ2 eb
          exact ⟨F0, H0, ρ1, Fn, .ct ρ2, S2, eb, fun σ3 F3 H3 S3 e3 => again ρ2 ef σ3 F3 H3 S3 e3⟩
        · rename_i ρ2 eb
          cases ef
          exact ⟨F0, H0, ρ1, Fn, .bk ρ2, S2, eb, fun σ3 F3 H3 S3 e3 => post σ3 F3 H3 S3 ((eF.trans e2).trans e3)⟩
        · rename_i o n1 n2 n3
          have p2 := post.mo (eF.trans e2)
          cases fl with
          | nx ρ2 => exact (n1 ρ2 ef).elim
          | ct ρ2 => exact (n2 ρ2 ef).elim
          | bk ρ2 => exact (n3 ρ2 ef).elim
          | rt d => exact ⟨F0, H0, ρ1, Fn, .rt d, S2, ef, p2⟩
          | ex c ρ2 => exact ⟨F0, H0, ρ1, Fn, .ex c ρ2, S2, ef, p2⟩
    · have hi2 : i = ds.length := by omega
      subst hi2
      rw [List.drop_length] at ef
      cases ef
      exact .inl ⟨w.2 (Nat.le_refl _), post σ F' H S' (eF.trans e')⟩
  · rename_i c ec
    cases e
    refine ⟨_, _, _, S.view ms, ec, fun C F2 H1 gr hc => ?_⟩
    obtain ⟨S', e', _⟩ := S.seen gr
    exact post C σ _ H1 S' e' hc
  · cases e
theorem while_reads {ms : List Nat} {c : Sb} {body : Ss} {n : Nat} {D : Ends} {σ : St} {H : Hp} (h : tP K mg W (whileS ms c body n) D σ H) : tWhile (tT K mg W c) (tP K mg W body) D σ H := by
  obtain ⟨F0, H0, ρ, F, fl, S, e, post⟩ := h
  refine ⟨fun m σ H => ∃ F' ρ', StOk K mg F0 H0 F' H σ ρ' ∧ Ex F F' ∧ whileS ms c body m ρ' = some fl, ⟨n, F, ρ, S, .refl _, e⟩, ?_⟩
  rintro m σ H ⟨F', ρ', S', e', ew⟩
  cases m with
  | zero => cases ew
  | succ m =>
    unfold whileS at ew
    refine stK S' ew (post.mo e') fun b b' F2 H1 eb gr r => ?_
    have r' : b' = b := r
    subst r'
    obtain ⟨S2, e2, _⟩ := S'.seen gr
    cases b' with
    | false =>
      cases eb
      rw [if_neg Bool.false_ne_true]
      exact post σ _ H1 S2 (e'.trans e2)
    | true =>
      rw [if_pos rfl] at eb ⊢
      refine ⟨fun σ' H' => ∃ F' ρ', StOk K mg F0 H0 F' H' σ' ρ' ∧ Ex F F' ∧ whileS ms c body m ρ' = some fl, fun σ' H' q => ⟨m, Nat.lt_succ_self m, q⟩, ?_⟩
      have e3 := e'.trans e2
      split at eb
      · rename_i ρ2 ebd
        exact ⟨F0, H0, ρ', _, .nx ρ2, S2, ebd, fun σ3 F3 H3 S3 e4 => ⟨F3, ρ2, S3, e3.trans e4, eb⟩⟩
      · rename_i ρ2 ebd
        exact ⟨F0, H0, ρ', _, .ct ρ2, S2, ebd, fun σ3 F3 H3 S3 e4 => ⟨F3, ρ2, S3, e3.trans e4, eb⟩⟩
      · rename_i ρ2 ebd
        cases eb
        exact ⟨F0, H0, ρ', _, .bk ρ2, S2, ebd, fun σ3 F3 H3 S3 e4 => post σ3 F3 H3 S3 (e3.trans e4)⟩
      · rename_i o n1 n2 n3
        have p2 := post.mo e3
        cases fl with
        | nx ρ2 => exact (n1 ρ2 eb).elim
        | ct ρ2 => exact (n2 ρ2 eb).elim
        | bk ρ2 => exact (n3 ρ2 eb).elim
        | rt d => exact ⟨F0, H0, ρ', _, .rt d, S2, eb, p2⟩
        | ex c ρ2 => exact ⟨F0, H0, ρ', _, .ex c ρ2, S2, eb, p2⟩
end
section
variable {X : Cx} {W : WX} {pos : Pos}
theorem s_for {tg iter : Expr} {body : List Stmt} {it : Sl} {t : Tgt} {g : TG} {b : Ss} (ms : List Nat) (hp : PassesOwn (model X.prog X.w) X.A X.env X.xe) (hc : X.calm = true) (hi : PI X tg iter (tI X.K X.mg W it)) (hg : PG X tg g) (ht : GOk X.K X.mg g t) (hb : PSs X body (tP X.K X.mg W b))
    (hs : ∀ x, foldedSetIterable iter X.env x = pure x := by intro _; rfl) : PS X (.For tg iter body [] pos) (tP X.K X.mg W (sFor ms it t b)) :=
  ps_imp (ps_for hp hc hi hg hb hs) fun _ _ _ h => for_reads ht h
theorem s_while {c : Expr} {body : List Stmt} {sc : Sb} {b : Ss} (ms : List Nat) (n : Nat) (hp : PassesOwn (model X.prog X.w) X.A X.env X.xe) (hc : PT X c (tT X.K X.mg W sc)) (hb : PSs X body (tP X.K X.mg W b)) : PS X (.While c body [] pos) (tP X.K X.mg W (whileS ms sc b n)) :=
  ps_imp (ps_while hp hc hb) fun _ _ _ h => while_reads h
theorem pg_names {is : List Nat} {es : List Expr} {kk : Nat} {tpos : Pos} (hc : X.calm = true) (h : PGs X es (gNs is)) (hn : (assignEach es X.env).length = is.length := by rfl) (hst : (assignEach es X.env).findIdx? (·.1) = none := by rfl) : PG X (.Tuple es kk tpos) (gTup X.K is.length (gNs is)) := pg_tup hc h hn hst
end

/-! ### comprehensions -/
abbrev TgtR := D → Rho → Option Rho
def tgRN (i : Nat) : TgtR := fun d ρ => some (ρ.set i (some d))
def setR : Rho → List Nat → List D → Rho
  | ρ, i :: is, d :: ds => setR (ρ.set i (some d)) is ds
  | ρ, _, _ => ρ
def tgRT (is : List Nat) : TgtR := fun d ρ =>
  match d with
  | .tup ds => if ds.length = is.length then some (setR ρ is ds) else none
  | _ => none
def wipeR : List Nat → Rho → Rho
  | [], ρ => ρ
  | i :: is, ρ => (wipeR is ρ).set i none
def bTrue : Sb := fun _ => some (.ok true)
def lcS (t : TgtR) (test : Sb) (elt : Sx) (ρ : Rho) : List D → Option (List D)
  | [] => some []
  | d :: ds =>
    match t d ρ with
    | none => none
    | some ρ2 => match test ρ2 with
      | some (.ok true) => match elt ρ2 with
        | some (.ok y) => (lcS t test elt ρ ds).map (y :: ·)
        | _ => none
      | some (.ok false) => lcS t test elt ρ ds
      | _ => none
def sLc (it : Sl) (vs : List Nat) (t : TgtR) (test : Sb) (elt : Sx) : Sl := fun ρ => bd (it ρ) fun ds => if okLen ds.length then lift (lcS t test elt (wipeR vs ρ) ds) else none
abbrev W0 : WX := fun _ _ _ _ => False
def GOkR (K : PySem.W.Frag) (mg : Str → Option Value) (vs : List Nat) (g : TG) (t : TgtR) : Prop :=
  ∀ F H σ ρ ρ' v d (Q : St → Hp → Prop), View K mg F H (wipe σ vs) ρ → Rep K mg F v d → t d ρ = some ρ' → (∀ σ', View K mg F H σ' ρ' → wipe σ' vs = wipe σ vs → Q σ' H) → g v (wipe σ vs) H Q
section
variable {K : PySem.W.Frag} {mg : Str → Option Value} {W : WX} {F H : Hp} {σ : St} {ρ : Rho}
theorem wipeR_length (ρ : Rho) : ∀ vs : List Nat, (wipeR vs ρ).length = ρ.length
  | [] => rfl
  | v :: vs => by unfold wipeR; rw [List.length_set, wipeR_length ρ vs]
theorem View.wipe (v : View K mg F H σ ρ) (vs : List Nat) : View K mg F H (L2.wipe σ vs) (wipeR vs ρ) := by
  refine ⟨v.e, fun i d e => ?_, by rw [wipeR_length, wipe_length]; exact v.l, v.t⟩
  have key : ∀ (vs : List Nat), (wipeR vs ρ)[i]? = some (some d) → ρ[i]? = some (some d) ∧ (L2.wipe σ vs)[i]? = σ[i]? := fun vs => by
    induction vs with
    | nil => exact fun h => ⟨h, rfl⟩
    | cons j vs ih =>
      intro h
      unfold wipeR at h
      by_cases hj : j = i
      · subst hj
        by_cases hl : j < (wipeR vs ρ).length
        · rw [List.getElem?_set_self hl] at h; cases h
        · rw [List.getElem?_eq_none (by rw [List.length_set]; omega)] at h; cases h
      · rw [List.getElem?_set_ne hj] at h
        obtain ⟨h1, h2⟩ := ih h
        exact ⟨h1, by rw [L2.wipe, List.getElem?_set_ne hj]; exact h2⟩
  obtain ⟨e1, e2⟩ := key vs e
  obtain ⟨u, e3, r⟩ := v.v i d e1
  exact ⟨u, by rw [e2]; exact e3, r⟩
theorem View.set {i : Nat} {u : V} {d : D} (v : View K mg F H σ ρ) (r : Rep K mg F u d) : View K mg F H (σ.set i (some u)) (ρ.set i (some d)) := by
  refine ⟨v.e, fun j c e => ?_, by rw [List.length_set, List.length_set]; exact v.l, v.t⟩
  by_cases hj : i = j
  · subst hj
    by_cases hi : i < ρ.length
    · rw [List.getElem?_set_self hi] at e
      cases e
      exact ⟨u, List.getElem?_set_self (Nat.lt_of_lt_of_le hi v.l), r⟩
    · rw [List.getElem?_eq_none (by rw [List.length_set]; omega)] at e; cases e
  · rw [List.getElem?_set_ne hj] at e
    obtain ⟨w, e1, r1⟩ := v.v j c e
    exact ⟨w, by rw [List.getElem?_set_ne hj]; exact e1, r1⟩
theorem View.sets : ∀ (is : List Nat) {σ : St} {ρ : Rho} {us : List V} {ds : List D}, View K mg F H σ ρ → RepAll K mg F us ds → View K mg F H (setV σ is us) (setR ρ is ds)
  | [], _, _, _, _, v, _ => by simpa only [setV, setR] using v
  | i :: is, σ, ρ, us, ds, v, r => by
    cases r with
    | nil => simpa only [setV, setR] using v
    | cons r1 r2 => exact View.sets is (v.set r1) r2
theorem wipe_in {σ : St} {j : Nat} : ∀ {vs : List Nat}, j ∈ vs → (L2.wipe σ vs)[j]? = if j < σ.length then some none else none
  | [], h => nomatch h
  | i :: vs, h => by
    by_cases hj : i = j
    · subst hj
      by_cases hl : i < σ.length
      · rw [L2.wipe, List.getElem?_set_self (by rw [wipe_length]; exact hl), if_pos hl]
      · rw [L2.wipe, List.getElem?_eq_none (by rw [List.length_set, wipe_length]; omega), if_neg hl]
    · rw [L2.wipe, List.getElem?_set_ne hj]
      exact wipe_in ((List.mem_cons.mp h).elim (fun q => absurd q.symm hj) id)
theorem wipe_set {vs : List Nat} {i : Nat} {σ : St} {u : Option V} (hi : i ∈ vs) : L2.wipe (σ.set i u) vs = L2.wipe σ vs := by
  refine List.ext_getElem? fun j => ?_
  by_cases hj : j ∈ vs
  · rw [wipe_in hj, wipe_in hj, List.length_set]
  · rw [wipe_out hj, wipe_out hj, List.getElem?_set_ne (fun q => hj (by rw [← q]; exact hi))]
theorem wipe_wipe {vs : List Nat} {σ : St} : L2.wipe (L2.wipe σ vs) vs = L2.wipe σ vs := by
  refine List.ext_getElem? fun j => ?_
  by_cases hj : j ∈ vs
  · rw [wipe_in hj, wipe_in hj, wipe_length]
  · rw [wipe_out hj]
theorem wipe_setV {vs : List Nat} : ∀ (is : List Nat) {σ : St} {us : List V}, (∀ i, i ∈ is → i ∈ vs) → L2.wipe (setV σ is us) vs = L2.wipe σ vs
  | [], _, _, _ => by simp only [setV]
  | i :: is, σ, us, h => by
    cases us with
    | nil => simp only [setV]
    | cons u us =>
      simp only [setV]
      rw [wipe_setV is fun j hj => h j (List.mem_cons_of_mem _ hj), wipe_set (h i List.mem_cons_self)]
theorem gokR_name {vs : List Nat} {i : Nat} (hi : i ∈ vs) : GOkR K mg vs (gName i) (tgRN i) := fun F H σ ρ ρ' v d Q vw r e q => by
  cases e
  exact q _ (vw.set r) (by rw [wipe_set hi, wipe_wipe])
theorem gokR_tup {vs : List Nat} {n : Nat} (is : List Nat) (hn : n = is.length) (hi : ∀ i, i ∈ is → i ∈ vs) : GOkR K mg vs (gTup K n (gNs is)) (tgRT is) := fun F H σ ρ ρ' v d Q vw r e q => by
  unfold tgRT at e
  split at e
  · split at e
    · rename_i ds hl
      cases e
      cases r with
      | tup h1 rs =>
        exact ⟨_, _, rfl, vw.e.sqT h1, by rw [rs.length, hn]; exact hl, gNs_reads is (by rw [rs.length]; exact hl) (q _ (View.sets is vw rs) (by rw [wipe_setV is hi, wipe_wipe]))⟩
    · cases e
  · cases e
theorem lc_reads {it : Sl} {vs : List Nat} {t : TgtR} {test : Sb} {elt : Sx} {g : TG} (hg : GOkR K mg vs g t) {Q : VK} (h : tL K mg W (sLc it vs t test elt) σ H Q) :
    tLc (tI K mg W it) g (tT K mg W0 test) (tS K mg W0 elt) vs σ H Q := by
  obtain ⟨ρ, F, r, v, e, fin⟩ := h
  refine part v e fin fun ds J F1 H1 _ e g1 v1 wk fin1 => ?_
  split at e
  · rename_i hok
    obtain ⟨out, eo, rfl⟩ := lift_some e
    intro D hD
    have hFD : F1 D = none := v1.e.none hD
    have vw := v1.wipe vs
    refine ⟨fun i m H => m = ds.length - i ∧ i ≤ ds.length ∧ ∃ F' acc dacc rest, Grow F1 H1 F' H ∧ F' D = none ∧ H D = some (.lst acc) ∧ RepAll K mg F' acc dacc ∧ dacc.length ≤ i ∧ lcS t test elt (wipeR vs ρ) (ds.drop i) = some rest ∧ dacc ++ rest = out,
      ⟨ds.length, by simp, Nat.zero_le _, F1, [], [], out, .only v1.e hD, hFD, upd_same, .nil, Nat.le_refl _, eo, rfl⟩, ?_⟩
    rintro i m H ⟨rfl, hi, F', acc, dacc, rest, gr, hF', hHD, ra, hla, el, eout⟩
    have w := wk i F' H gr.f gr.s
    by_cases hlt : i < ds.length
    · have hd : ds[i]? = some ds[i] := List.getElem?_eq_getElem hlt
      obtain ⟨go, yl⟩ := w.1 _ hd
      refine .inr ⟨go, fun H' => ds.length - (i + 1) < ds.length - i ∧ i + 1 ≤ ds.length ∧ ∃ F' acc dacc rest, Grow F1 H1 F' H' ∧ F' D = none ∧ H' D = some (.lst acc) ∧ RepAll K mg F' acc dacc ∧ dacc.length ≤ i + 1 ∧ lcS t test elt (wipeR vs ρ) (ds.drop (i + 1)) = some rest ∧ dacc ++ rest = out,
        fun H' ⟨q0, q1, q2⟩ => ⟨_, q0, rfl, q1, q2⟩, fun x H' y => ?_⟩
      obtain ⟨Fn, gn, rx⟩ := yl x H' y
      have still : ∀ {Fa Ha Fb Hb : Hp}, Grow Fa Ha Fb Hb → Fa D = none → (∃ o, Ha D = some o) → Fb D = none := fun {Fa Ha Fb Hb} gg h1 ⟨o, h2⟩ => by
        cases q : Fb D with
        | none => rfl
        | some u =>
          rcases gg.n D u q with z | z
          · rw [h1] at z; cases z
          · rw [h2] at z; cases z
      have hFn : Fn D = none := still gn hF' ⟨_, hHD⟩
      have hHn : H' D = some (.lst acc) := gn.h.k _ _ hHD rfl
      rw [List.drop_eq_getElem_cons hlt] at el
      unfold lcS at el
      split at el
      · cases el
      · rename_i ρ2 et
        refine hg Fn H' σ _ ρ2 x ds[i] _ ⟨gn.s, fun k c ek => ?_, vw.l, vw.t.keep (gr.t.trans gn.t)⟩ rx et fun σ2 v2 hw => ⟨hw, ?_⟩
        · obtain ⟨u, e1, ru⟩ := vw.v k c ek
          exact ⟨u, e1, (ru.mo gr.f).mo gn.f⟩
        · split at el
          · rename_i etst
            refine ⟨ρ2, Fn, .ok true, v2, etst, fun b F3 H3 g3 eb => ?_⟩
            have eb' : b = true := eb
            subst eb'
            refine iteT ?_
            have hF3 := still g3 hFn ⟨_, hHn⟩
            have hH3 : H3 D = some (.lst acc) := g3.h.k _ _ hHn rfl
            split at el
            · rename_i yd ey
              obtain ⟨rest', er, rfl⟩ := Option.map_eq_some_iff.mp el
              refine ⟨ρ2, F3, .ok yd, v2.mo g3, ey, fun yv F4 H4 g4 ry => ?_⟩
              have hF4 := still g4 hF3 ⟨_, hH3⟩
              have hH4 : H4 D = some (.lst acc) := g4.h.k _ _ hH3 rfl
              have gall : Grow F1 H1 F4 H4 := ((gr.trans gn).trans g3).trans g4
              have eall : Ex F' F4 := (gn.f.trans g3.f).trans g4.f
              refine ⟨acc, hH4, ?_, by omega, hlt, F4, acc ++ [yv], dacc ++ [yd], rest', gall.overL hD hF4 hH4, hF4, upd_same, (ra.mo eall).append (.cons ry .nil), by rw [List.length_append, List.length_singleton]; omega, er, by rw [List.append_assoc]; exact eout⟩
              · rw [ra.length]
                exact Nat.lt_of_le_of_lt hla (Nat.lt_of_lt_of_le hlt (okLen_line hok))
            · cases el
          · rename_i etst
            refine ⟨ρ2, Fn, .ok false, v2, etst, fun b F3 H3 g3 eb => ?_⟩
            have eb' : b = false := eb
            subst eb'
            refine iteF ?_
            have hF3 := still g3 hFn ⟨_, hHn⟩
            have hH3 : H3 D = some (.lst acc) := g3.h.k _ _ hHn rfl
            exact ⟨by omega, hlt, F3, acc, dacc, rest, (gr.trans gn).trans g3, hF3, hH3, ra.mo (gn.f.trans g3.f), by omega, el, eout⟩
          · cases el
    · have hi2 : i = ds.length := by omega
      subst hi2
      rw [List.drop_length] at el
      cases el
      rw [List.append_nil] at eout
      subst eout
      exact .inl ⟨w.2 (Nat.le_refl _), fin1 (.ref D) F' H gr ⟨D, acc, rfl, hD, hF', hHD, ra⟩⟩
  · cases e
end
section
variable {X : Cx} {W : WX} {pos : Pos} {elt tg iter : Expr} {ifs : List Expr} {scope : Scope} {own : List (Str × Nat)} {it : Sl} {t : TgtR} {test : Sb} {se : Sx} {g : TG}
theorem l_lc (hc : X.calm = true) (hN : X.N.Nodup) (hi : PI X tg iter (tI X.K X.mg W it)) (ok : BlkOk X.N X.env.scope scope own) (hgo : GOkR X.K X.mg (own.map (·.2)) g t)
    (hg : ∀ (s : Shared) (H : Hp) (C : Addr) (cl : List (Str × Addr)) (fp : List Addr), PG (X.blk s H scope (compEnvC scope cl C X.env) fp) tg g) (ht : ∀ (s : Shared) (H : Hp) (C : Addr) (cl : List (Str × Addr)) (fp : List Addr), PTs (X.blk s H scope (compEnvC scope cl C X.env) fp) ifs (tT X.K X.mg W0 test))
    (he : ∀ (s : Shared) (H : Hp) (C : Addr) (cl : List (Str × Addr)) (fp : List Addr), PE (X.blk s H scope (compEnvC scope cl C X.env) fp) elt (tS X.K X.mg W0 se)) (hs : ∀ x, foldedSetIterable iter X.env x = pure x := by intro _; rfl) :
    PE X (.ListComp elt [⟨tg, iter, ifs, 0⟩] scope pos) (tL X.K X.mg W (sLc it (own.map (·.2)) t test se)) :=
  pe_imp (pe_lc hc hN hi ok hg ht he hs) fun _ _ _ h => lc_reads hgo h
/-- name = [..], the name a local -/
theorem s_setLc {i : Nat} {y : Str} {py spos : Pos} (ms : List Nat) (hc : X.calm = true) (hN : X.N.Nodup) (hi : PI X tg iter (tI X.K X.mg W it)) (ok : BlkOk X.N X.env.scope scope own) (hgo : GOkR X.K X.mg (own.map (·.2)) g t)
    (hg : ∀ (s : Shared) (H : Hp) (C : Addr) (cl : List (Str × Addr)) (fp : List Addr), PG (X.blk s H scope (compEnvC scope cl C X.env) fp) tg g) (ht : ∀ (s : Shared) (H : Hp) (C : Addr) (cl : List (Str × Addr)) (fp : List Addr), PTs (X.blk s H scope (compEnvC scope cl C X.env) fp) ifs (tT X.K X.mg W0 test))
    (he : ∀ (s : Shared) (H : Hp) (C : Addr) (cl : List (Str × Addr)) (fp : List Addr), PE (X.blk s H scope (compEnvC scope cl C X.env) fp) elt (tS X.K X.mg W0 se)) (hy : X.N[i]? = some y := by rfl) (hyl : X.env.scope.names.lookup y = some .local := by rfl)
    (hsw : swapsWith (.ListComp elt [⟨tg, iter, ifs, 0⟩] scope pos) (some (.Name y py)) spos.line X.env = pure true := by exact sw_true rfl rfl rfl (by decide +kernel)) (hs : ∀ x, foldedSetIterable iter X.env x = pure x := by intro _; rfl) :
    PS X (.Assign [.Name y py] (.ListComp elt [⟨tg, iter, ifs, 0⟩] scope pos) spos) (tP X.K X.mg W (sSetL ms i (sLc it (own.map (·.2)) t test se))) :=
  ps_imp (ps_setLc hc hN hy hyl hsw hi ok hg ht he hs) fun D σ H h => lc_reads hgo (asgL_reads h)
theorem ts_nil : PTs X [] (tT X.K X.mg W bTrue) := pts_imp pts_nil fun σ H Q ⟨ρ, F, r, v, e, fin⟩ => by cases e; exact fin true F H (.refl v.e) rfl
theorem ts_one {c : Expr} (h : PT X c (tT X.K X.mg W test)) : PTs X [c] (tT X.K X.mg W test) := pts_one h
end

/-! ### a def -/
def runD (n : Nat) (body : Ss) : List D → Oe D := fun ds =>
  match body (ds.map SL.dat ++ List.replicate (n - ds.length) SL.no) with
  | some (.nx _) => some (.ok .non)
  | some (.rt d) => some (.ok d)
  | some (.ex c _) => some (.error c)
  | _ => none
theorem start_ok {K : PySem.W.Frag} {mg : Str → Option Value} {F H : Hp} {N : List Str} {vs : List V} {ds : List D} (e : Ex F H) (ht : HT K mg H) (r : RepAll K mg F vs ds) : StOk K mg F H F H (L2.start N vs) (ds.map SL.dat ++ List.replicate (N.length - ds.length) SL.no) := by
  have hl := r.length
  refine ⟨.refl e, fun i s hs => ?_, fun i j d c p _ h1 _ _ => ?_, by unfold L2.start; simp [hl], ht⟩
  · by_cases hi : i < ds.length
    · rw [List.getElem?_append_left (by rw [List.length_map]; exact hi), List.getElem?_map] at hs
      obtain ⟨d, hd, rfl⟩ := Option.map_eq_some_iff.mp hs
      obtain ⟨v, hv, rv⟩ := r.get hd
      refine ⟨v, ?_, rv⟩
      unfold L2.start
      rw [List.getElem?_append_left (by rw [List.length_map]; omega), List.getElem?_map, hv]; rfl
    · rw [List.getElem?_append_right (by rw [List.length_map]; omega), List.getElem?_replicate] at hs
      split at hs
      · cases hs; trivial
      · cases hs
  · exfalso
    by_cases hi : i < ds.length
    · rw [List.getElem?_append_left (by rw [List.length_map]; exact hi), List.getElem?_map] at h1
      obtain ⟨d, hd, q⟩ := Option.map_eq_some_iff.mp h1
      cases q
    · rw [List.getElem?_append_right (by rw [List.length_map]; omega), List.getElem?_replicate] at h1
      split at h1
      · cases h1
      · cases h1
theorem FnD.mkOk {P : Program} {w : World} {K : PySem.W.Frag} {mg : Str → Option Value} {base : Heap} {x qual : Str} {st : Stmt} {f : Addr} {fd : FuncData} {N ps : List Str} {k : Nat} {body : Ss} (Fu : Fun K x qual st f fd) (S : FnScope N ps (defScope st)) (hm : mg x = some (.ref f)) (hb : Binds K fd ps [])
    (hbody : ∀ (cdv : Value) (A : Around) (outer : List Env) (s : Shared) (H : Hp) (E : XK), Room k (A.deeper (PyProof.Rows.envOfC qual (defScope st) s.heap.objs.size f cdv)) →
      PSs (cxOf (L2.CX P w) P w K mg base N qual (defScope st) f cdv A outer s H E) (defBody st) (tP K mg (fun cls d _ H => E cls d H) body)) : FnOk P w K mg base (L2.CX P w) (k + 1) f fd ps (spOf K mg ps.length (runD N.length body)) := by
  refine Fu.okX S (fun vs H Q E h => ?_) (fun cdv A outer s H vs Q E hr h => ⟨_, hbody cdv A outer s H E hr, ?_⟩)
  · obtain ⟨F, ds, r, _, _, rs, hn, _⟩ := h
    rw [rs.length]; exact hn
  · obtain ⟨F, ds, r, e, ht, rs, hn, hf, post⟩ := h
    unfold runD at hf
    split at hf
    · rename_i ρ hb
      cases hf
      exact ⟨F, H, _, F, _, start_ok e ht rs, hb, fun σ' F' H' S' _ => post .non F' H' S'.g .non⟩
    · rename_i d hb
      cases hf
      exact ⟨F, H, _, F, _, start_ok e ht rs, hb, fun v F' H' g r => post v F' H' g r⟩
    · rename_i c ρ hb
      cases hf
      exact ⟨F, H, _, F, _, start_ok e ht rs, hb, fun C σ' F' H' S' _ hc => post C F' H' S'.g hc⟩
    · cases hf
theorem FnD.mk' {P : Program} {w : World} {K : PySem.W.Frag} {mg : Str → Option Value} {base : Heap} {x qual : Str} {st : Stmt} {f : Addr} {fd : FuncData} {N ps : List Str} {k : Nat} {body : Ss} (Fu : Fun K x qual st f fd) (S : FnScope N ps (defScope st)) (hm : mg x = some (.ref f)) (hb : Binds K fd ps [])
    (hbody : ∀ (cdv : Value) (A : Around) (outer : List Env) (s : Shared) (H : Hp) (E : XK), Room k (A.deeper (PyProof.Rows.envOfC qual (defScope st) s.heap.objs.size f cdv)) →
      PSs (cxOf (L2.CX P w) P w K mg base N qual (defScope st) f cdv A outer s H E) (defBody st) (tP K mg (fun cls d _ H => E cls d H) body)) : FnD P w K mg base (k + 1) x ps.length (runD N.length body) := ⟨f, fd, ps, FnD.mkOk Fu S hm hb hbody, hm, Fu.kp, hb⟩
end Dl
/-! Dl10: lists made of lists, slices, dicts of a few texts, several names at once. -/
namespace Dl
open PySem L2

section
variable {X : Cx} {W : WX} {pos : Pos} {a b : Expr} {sa sb : Sx}
/-! ### new lists -/
def asL : D → Option (List D)
  | .lst xs => some xs
  | _ => none
def sCat (a b : Sx) : Sl := fun ρ => bd (a ρ) fun x => bd (b ρ) fun y => lift
  (match x, y with
  | .lst xs, .lst ys => if okLen (xs.length + ys.length) then some (xs ++ ys) else none
  | _, _ => none)
theorem l_cat (ha : PE X a (tS X.K X.mg W sa)) (hb : PE X b (tS X.K X.mg W sb)) : PE X (.BinOp a .Add b pos) (tL X.K X.mg W (sCat sa sb)) := by
  refine pe_imp (pe_op op_cat ha hb) fun σ H Q ⟨ρ, F, z, v, e, fin⟩ => ?_
  refine part v e fin fun dx x F1 H1 _ e g v1 rx fin1 => ?_
  refine part v1 e fin1 fun dy y F2 H2 _ e g2 v2 ry fin2 => ?_
  obtain ⟨ds, e', rfl⟩ := lift_some e
  split at e'
  · split at e'
    · rename_i hl
      cases e'
      cases rx with
      | lst h1 r1 =>
        cases ry with
        | lst h2 r2 =>
          refine ⟨_, _, _, _, rfl, rfl, g2.h.k _ _ (v1.e.k _ _ h1 rfl) rfl, v2.e.k _ _ h2 rfl, by rw [r1.length, r2.length]; exact okLen_line hl, fun p hp => ?_⟩
          exact fin2 (.ref p) F2 _ (.only v2.e hp) ⟨p, _, rfl, hp, v2.e.none hp, upd_same, (r1.mo g2.f).append r2⟩
    · cases e'
  · cases e'
/-- xs * n -/
def sRepL (a b : Sx) : Sl := fun ρ => bd (a ρ) fun x => bd (b ρ) fun y => lift
  (match x, y with
  | .lst xs, .int k => if decide (0 ≤ k) && decide (k ≤ 1000) && okLen (xs.length * k.toNat) then some (List.replicate k.toNat xs).flatten else none
  | _, _ => none)
theorem l_rep (ha : PE X a (tS X.K X.mg W sa)) (hb : PE X b (tS X.K X.mg W sb)) : PE X (.BinOp a .Mult b pos) (tL X.K X.mg W (sRepL sa sb)) := by
  refine pe_imp (pe_op op_rep ha hb) fun σ H Q ⟨ρ, F, z, v, e, fin⟩ => ?_
  refine part v e fin fun dx x F1 H1 _ e g v1 rx fin1 => ?_
  refine part v1 e fin1 fun dy y F2 H2 _ e g2 v2 ry fin2 => ?_
  obtain ⟨ds, e', rfl⟩ := lift_some e
  split at e'
  · split at e'
    · rename_i hl
      simp only [Bool.and_eq_true, decide_eq_true_eq] at hl
      cases e'
      cases ry
      cases rx with
      | lst h1 r1 =>
        refine ⟨_, _, _, rfl, rfl, g2.h.k _ _ (v1.e.k _ _ h1 rfl) rfl, by omega, by omega, by rw [r1.length]; exact okLen_line hl.2, fun p hp => ?_⟩
        exact fin2 (.ref p) F2 _ (.only v2.e hp) ⟨p, _, rfl, hp, v2.e.none hp, upd_same, (r1.mo g2.f).rep _⟩
    · cases e'
  · cases e'
/-- list(xs) -/
def sListOf (a : Sx) : Sl := fun ρ => bd (a ρ) fun x => lift (itemsOf x)
theorem l_listOf {p : Pos} (hm : X.mg "list" = none) (ha : PE X a (tS X.K X.mg W sa)) (hg : Gl X "list" := by rfl) (hv : bootBuiltins "list" = some (.type "list") := by decide +kernel)
    (he : starEach [a] X.env = (false, eval a X.env) :: starEach [] X.env := by rfl) (hpl : (backTo pos (starEach [] X.env)).any (·.1) = false := by rfl) : PE X (.Call (.Name "list" p) [a] [] pos) (tL X.K X.mg W (sListOf sa)) := by
  refine pe_imp (pe_callTy call_list_of hg hm hv (pa_cons ha pa_nil he) (by decide) (by decide) he hpl) fun σ H Q ⟨ρ, F, z, v, e, fin⟩ => ?_
  refine part v e fin fun dx x F1 H1 _ e g v1 rx fin1 => ?_
  obtain ⟨ds, e', rfl⟩ := lift_some e
  cases dx <;> first | (cases e'; done) | skip
  · cases e'
    cases rx with
    | tup h1 r1 => exact ⟨_, _, rfl, .inr (v1.e.sqT h1), fun l hl => fin1 (.ref l) F1 _ (.only v1.e hl) ⟨l, _, rfl, hl, v1.e.none hl, upd_same, r1⟩⟩
  · cases e'
    cases rx with
    | lst h1 r1 => exact ⟨_, _, rfl, .inl (.inl (.inl (v1.e.k _ _ h1 rfl))), fun l hl => fin1 (.ref l) F1 _ (.only v1.e hl) ⟨l, _, rfl, hl, v1.e.none hl, upd_same, r1⟩⟩
/-- list(range(..)) -/
def sListRg (a b : Sx) : Sl := fun ρ => bd (a ρ) fun x => bd (b ρ) fun y => lift
  (match x, y with
  | .int i, .int j => if decide (-1000000 ≤ i) && decide (i ≤ 1000000) && decide (-1000000 ≤ j) && decide (j ≤ 1000000) then some (rgD i (j - i).toNat) else none
  | _, _ => none)
theorem rgV_rep {mg : Str → Option Value} {K : PySem.W.Frag} {F : Hp} (i j : Int) : RepAll K mg F (rgV i j) (rgD i (j - i).toNat) := by
  unfold rgV rgD
  have : ∀ l : List Nat, RepAll K mg F (l.map fun n => V.int (i + (n : Nat))) (l.map fun n => D.int (i + (n : Nat))) := fun l => by
    induction l with
    | nil => exact .nil
    | cons n l ih => exact .cons (.int _) ih
  exact this _
def sListRg1 (b : Sx) : Sl := fun ρ => bd (b ρ) fun y => lift
  (match y with
  | .int j => if decide (-1000000 ≤ j) && decide (j ≤ 1000000) then some (rgD 0 j.toNat) else none
  | _ => none)
theorem l_listRg1 {p p2 q : Pos} (hc : X.calm = true) (hm : X.mg "list" = none) (hm2 : X.mg "range" = none) (hb : PE X b (tS X.K X.mg W sb)) (hg : Gl X "list" := by rfl) (hg2 : Gl X "range" := by rfl)
    (na : starEach [b] X.env = (false, eval b X.env) :: starEach [] X.env := by rfl) (na2 : starEach [.Call (.Name "range" p2) [b] [] q] X.env = (false, eval (.Call (.Name "range" p2) [b] [] q) X.env) :: starEach [] X.env := by rfl) :
    PE X (.Call (.Name "list" p) [.Call (.Name "range" p2) [b] [] q] [] pos) (tL X.K X.mg W (sListRg1 sb)) := by
  refine pe_imp (pe_listRg hc hg hm (prg_1 hg2 hm2 hb na) na2) fun σ H Q ⟨ρ, F, z, v, e, fin⟩ => ?_
  refine part v e fin fun dy y F2 H2 _ e g2 v2 ry fin2 => ?_
  obtain ⟨ds, e', rfl⟩ := lift_some e
  split at e'
  · rename_i j es
    split at e'
    · rename_i c
      simp only [Bool.and_eq_true, decide_eq_true_eq] at c
      cases e'
      cases ry
      refine ⟨j, rfl, ⟨by omega, by omega, by omega, by omega, by omega⟩, fun l hl => fin2 (.ref l) F2 _ (.only v2.e hl) ⟨l, _, rfl, hl, v2.e.none hl, upd_same, ?_⟩⟩
      have := rgV_rep (mg := X.mg) (K := X.K) (F := F2) 0 j
      rw [Int.sub_zero] at this
      exact this
    · cases e'
  · cases e'
theorem l_listRg2 {p p2 q : Pos} (hc : X.calm = true) (hm : X.mg "list" = none) (hm2 : X.mg "range" = none) (ha : PE X a (tS X.K X.mg W sa)) (hb : PE X b (tS X.K X.mg W sb)) (hg : Gl X "list" := by rfl) (hg2 : Gl X "range" := by rfl)
    (na : starEach [a, b] X.env = (false, eval a X.env) :: starEach [b] X.env := by rfl) (na1 : starEach [b] X.env = (false, eval b X.env) :: starEach [] X.env := by rfl) (na2 : starEach [.Call (.Name "range" p2) [a, b] [] q] X.env = (false, eval (.Call (.Name "range" p2) [a, b] [] q) X.env) :: starEach [] X.env := by rfl) (hpl : (backTo q (starEach [b] X.env)).any (·.1) = false := by rfl) :
    PE X (.Call (.Name "list" p) [.Call (.Name "range" p2) [a, b] [] q] [] pos) (tL X.K X.mg W (sListRg sa sb)) := by
  refine pe_imp (pe_listRg hc hg hm (prg_2 hg2 hm2 ha hb na na1 hpl) na2) fun σ H Q ⟨ρ, F, z, v, e, fin⟩ => ?_
  refine part v e fin fun dx x F1 H1 _ e g v1 rx fin1 => ?_
  refine part v1 e fin1 fun dy y F2 H2 _ e g2 v2 ry fin2 => ?_
  obtain ⟨ds, e', rfl⟩ := lift_some e
  split at e'
  · split at e'
    · rename_i c
      simp only [Bool.and_eq_true, decide_eq_true_eq] at c
      cases e'
      cases rx
      cases ry
      exact ⟨_, _, rfl, rfl, ⟨by omega, by omega, by omega, by omega, by omega⟩, fun l hl => fin2 (.ref l) F2 _ (.only v2.e hl) ⟨l, _, rfl, hl, v2.e.none hl, upd_same, rgV_rep _ _⟩⟩
    · cases e'
  · cases e'

/-! ### slices -/
def sPart (a : Sx) : Rho → Oe (Option Int) := fun ρ => bd (a ρ) fun d =>
  match d with
  | .int i => some (.ok (some i))
  | _ => none
def sNoPart : Rho → Oe (Option Int) := fun _ => some (.ok none)
theorem p_none : PO X none (tK X.K X.mg W kO sNoPart) := po_imp po_none fun σ H Q ⟨ρ, F, z, v, e, fin⟩ => by cases e; exact fin none F H (.refl v.e) rfl
theorem p_some (ha : PE X a (tS X.K X.mg W sa)) : PO X (some a) (tK X.K X.mg W kO (sPart sa)) := by
  refine po_imp (po_some ha) fun σ H Q ⟨ρ, F, z, v, e, fin⟩ => ?_
  refine part v e fin fun dx x F1 H1 _ e g v1 rx fin1 => ?_
  split at e
  · cases rx; cases e
    exact ⟨_, rfl, fin1 _ F1 H1 (.refl v1.e) rfl⟩
  · cases e
def cutD (xs : List D) (lo hi : Option Int) : List D := (xs.drop (HT.sIx xs.length 0 lo)).take (HT.sIx xs.length xs.length hi - HT.sIx xs.length 0 lo)
theorem cut_rep {K : PySem.W.Frag} {mg : Str → Option Value} {F : Hp} {xs : List V} {ds : List D} (r : RepAll K mg F xs ds) (lo hi : Option Int) : RepAll K mg F (cutV xs lo hi) (cutD ds lo hi) := by
  unfold cutV cutD
  rw [r.length]
  exact (r.drop _).take _
theorem cutD_whole {xs : List D} {lo hi : Option Int} (h : HT.sIx xs.length 0 lo = 0 ∧ HT.sIx xs.length xs.length hi = xs.length) : cutD xs lo hi = xs := by
  unfold cutD
  rw [h.1, h.2]; simp
variable {lo hi : Option Expr} {sl sh : Rho → Oe (Option Int)} {p2 : Pos}
def sCutT (a : Sx) (l h : Rho → Oe (Option Int)) : Sx := fun ρ => bd (a ρ) fun x => bd (l ρ) fun i => bd (h ρ) fun j => lift
  (match x with
  | .tup xs => some (.tup (cutD xs i j))
  | _ => none)
theorem d_cutT (ha : PE X a (tS X.K X.mg W sa)) (hl : PO X lo (tK X.K X.mg W kO sl)) (hh : PO X hi (tK X.K X.mg W kO sh)) : PE X (.Subscript a (.Slice lo hi none p2) pos) (tS X.K X.mg W (sCutT sa sl sh)) := by
  refine pe_imp (pe_slice sl_tupA ha hl hh) fun σ H Q ⟨ρ, F, z, v, e, fin⟩ => ?_
  refine part v e fin fun dx x F1 H1 _ e g v1 rx fin1 => ?_
  refine part v1 e fin1 fun i i' F2 H2 _ e g2 v2 ri fin2 => ?_
  refine part v2 e fin2 fun j j' F3 H3 _ e g3 v3 rj fin3 => ?_
  cases ri; cases rj
  obtain ⟨dz, e', rfl⟩ := lift_some e
  split at e'
  · cases e'
    cases rx with
    | tup h1 r1 =>
      have h3 := (g2.f.trans g3.f).sqT h1
      have r3 := r1.mo (g2.f.trans g3.f)
      refine ⟨_, _, rfl, v3.e.sqT h3, fun hw => ?_, fun _ p hp => ?_⟩
      · rw [r3.length] at hw
        refine fin3 _ F3 H3 (.refl v3.e) ?_
        rw [cutD_whole hw]
        exact .tup h3 r3
      · exact fin3 _ _ _ (.both v3.e hp) (.tup (.inl (.inl upd_same)) ((cut_rep r3 _ _).mo (.new (v3.e.none hp))))
  · cases e'
def sCutL (a : Sx) (l h : Rho → Oe (Option Int)) : Sl := fun ρ => bd (a ρ) fun x => bd (l ρ) fun i => bd (h ρ) fun j => lift
  (match x with
  | .lst xs => some (cutD xs i j)
  | _ => none)
theorem l_cut (ha : PE X a (tS X.K X.mg W sa)) (hl : PO X lo (tK X.K X.mg W kO sl)) (hh : PO X hi (tK X.K X.mg W kO sh)) : PE X (.Subscript a (.Slice lo hi none p2) pos) (tL X.K X.mg W (sCutL sa sl sh)) := by
  refine pe_imp (pe_slice sl_list ha hl hh) fun σ H Q ⟨ρ, F, z, v, e, fin⟩ => ?_
  refine part v e fin fun dx x F1 H1 _ e g v1 rx fin1 => ?_
  refine part v1 e fin1 fun i i' F2 H2 _ e g2 v2 ri fin2 => ?_
  refine part v2 e fin2 fun j j' F3 H3 _ e g3 v3 rj fin3 => ?_
  cases ri; cases rj
  obtain ⟨dz, e', rfl⟩ := lift_some e
  split at e'
  · cases e'
    cases rx with
    | lst h1 r1 =>
      exact ⟨_, _, rfl, .inl (.inl ((g2.h.trans g3.h).k _ _ (v1.e.k _ _ h1 rfl) rfl)), fun p hp => fin3 (.ref p) F3 _ (.only v3.e hp) ⟨p, _, rfl, hp, v3.e.none hp, upd_same, cut_rep (r1.mo (g2.f.trans g3.f)) _ _⟩⟩
  · cases e'
end

/-! ### dicts of a few texts -/
def toV : D → Option V
  | .non => some .non
  | .bl b => some (.bl b)
  | .int i => some (.int i)
  | .str x => some (.str x)
  | _ => none
def ofV : V → D
  | .bl b => .bl b
  | .int i => .int i
  | .str x => .str x
  | _ => .non
section
variable {K : PySem.W.Frag} {mg : Str → Option Value} {F : Hp}
theorem toV_rep {d : D} {v u : V} (r : Rep K mg F v d) (h : toV d = some u) : v = u ∧ flatV u = true := by
  cases r <;> simp only [toV, Option.some.injEq, reduceCtorEq] at h <;> subst h <;> exact ⟨rfl, rfl⟩
theorem ofV_rep {v : V} (h : flatV v = true) : Rep K mg F v (ofV v) := by
  cases v <;> first | (simp [flatV] at h; done) | skip
  · exact .non
  · exact .bl _
  · exact .int _
  · exact .str _
end
def kD : Kd V (List (Key × V)) := ⟨fun H F' H' v kvs => ∃ p, v = .ref p ∧ H p = none ∧ F' p = none ∧ H' p = some (.dK kvs) ∧ (kvs.all fun q => flatV q.2) = true, fun e ⟨p, a, b, c⟩ => ⟨p, a, e.none b, c⟩⟩
def sPairs : List (Str × Sx) → Rho → Oe (List (Key × V))
  | [], _ => some (.ok [])
  | (k, s) :: r, ρ => bd (s ρ) fun d => bd (lift (toV d)) fun v => bd (sPairs r ρ) fun l => some (.ok ((Sum.inr k, v) :: l))
def sDisp (l : List (Str × Sx)) : Rho → Oe (List (Key × V)) := fun ρ =>
  match sPairs l ρ with
  | some (.ok kvs) => if decide (kvs.length ≤ 15) then some (.ok (mergeK [] kvs)) else none
  | _ => none
section
variable {X : Cx} {W : WX} {pos : Pos} {a b : Expr} {sa sb : Sx}
structure DPs (X : Cx) (W : WX) (pos : Pos) (keys : List (Option Expr)) (values : List Expr) (l : List (Str × Sx)) : Prop where
  ex : PPs X pos keys values (l.map fun p => (tC (.str p.1), tS X.K X.mg W p.2))
theorem dp_nil : DPs X W pos [] [] [] := ⟨pps_nil⟩
theorem dp_cons {k : Str} {j : Nat} {p2 : Pos} {ks : List (Option Expr)} {vs : List Expr} {l : List (Str × Sx)} (ha : PE X a (tS X.K X.mg W sa)) (hr : DPs X W pos ks vs l) : DPs X W pos (some (.Constant (.str k) j p2) :: ks) (a :: vs) ((k, sa) :: l) := ⟨pps_cons pe_str ha hr.ex⟩
theorem pairs_reads : ∀ (l : List (Str × Sx)) {ρ : Rho} {σ : St} {F H : Hp} {p : Addr} {kvs : List (Key × V)} {Q : List (V × V) → Hp → Prop}, View X.K X.mg F H σ ρ → F p = none → H p = some (.dK []) → sPairs l ρ = some (.ok kvs) →
    (∀ F' H', Grow F H F' H' → F' p = none → (kvs.all fun q => flatV q.2) = true → Q (kvs.map fun kv => (L2.kV kv.1, kv.2)) H') → tPairs (l.map fun p => (tC (.str p.1), tS X.K X.mg W p.2)) σ H Q
  | [], ρ, σ, F, H, p, kvs, Q, v, hF, hH, e, q => by
    cases e
    exact q F H (.refl v.e) hF rfl
  | (k, s) :: r, ρ, σ, F, H, p, kvs, Q, v, hF, hH, e, q => by
    show tS X.K X.mg W s σ H fun y H2 => tPairs (r.map fun p => (tC (.str p.1), tS X.K X.mg W p.2)) σ H2 fun ps H3 => Q ((V.str k, y) :: ps) H3
    rcases bd_some e with ⟨d, ed, e⟩ | ⟨c, _, h⟩
    · rcases bd_some e with ⟨u, eu, e⟩ | ⟨c, _, h⟩
      · rcases bd_some e with ⟨kvs', ek, e⟩ | ⟨c, _, h⟩
        · cases e
          obtain ⟨u', eu', hu⟩ := lift_some eu
          cases hu
          refine ⟨ρ, F, .ok d, v, ed, fun y F2 H2 g ry => ?_⟩
          obtain ⟨rfl, fu⟩ := toV_rep ry eu'
          have hF2 : F2 p = none := by
            cases z : F2 p with
            | none => rfl
            | some o =>
              rcases g.n p o z with w | w
              · rw [hF] at w; cases w
              · rw [hH] at w; cases w
          refine pairs_reads r (v.mo g) hF2 (g.h.k _ _ hH rfl) ek fun F3 H3 g3 hF3 fa => ?_
          exact q F3 H3 (g.trans g3) hF3 (by rw [List.all_cons, fu, fa]; rfl)
        · cases h
      · cases h
    · cases h
theorem putK_flat {kvs : List (Key × V)} {k : Key} {v : V} (h : (kvs.all fun q => flatV q.2) = true) (hv : flatV v = true) : ((putK kvs k v).all fun q => flatV q.2) = true := by
  unfold putK
  split
  · rw [List.all_map]
    rw [List.all_eq_true] at h ⊢
    intro x hx
    show flatV (if x.1 = k then (x.1, v) else x).2 = true
    split
    · exact hv
    · exact h x hx
  · rw [List.all_append, h]; simp [hv]
theorem mergeK_flat : ∀ (more : List (Key × V)) {kvs : List (Key × V)}, (kvs.all fun q => flatV q.2) = true → (more.all fun q => flatV q.2) = true → ((mergeK kvs more).all fun q => flatV q.2) = true
  | [], _, h, _ => h
  | p :: r, kvs, h, hm => by
    rw [List.all_cons, Bool.and_eq_true] at hm
    exact mergeK_flat r (kvs := putK kvs p.1 p.2) (putK_flat h hm.1) hm.2
theorem k_disp {keys : List (Option Expr)} {values : List Expr} {l : List (Str × Sx)} (h : DPs X W pos keys values l) (hall : keys.all (·.isSome) = true := by rfl) (hl : keys.length = values.length := by rfl) (h0 : keys ≠ [] := by exact fun z => by cases z)
    (h15 : keys.length ≤ 15 := by decide) : PE X (.Dict keys values pos) (tK X.K X.mg W kD (sDisp l)) := by
  refine pe_imp (pe_disp h.ex hall hl h0 h15) fun σ H Q ⟨ρ, F, z, v, e, fin⟩ => ?_
  unfold sDisp at e
  split at e
  · rename_i kvs ek
    split at e
    · rename_i hn
      cases e
      intro p hp
      have hFp := v.e.none hp
      have v1 : View X.K X.mg F (upd H p (.dK [])) σ ρ := ⟨v.e.trans (.new hp), v.v, v.l, v.t.keep (.new hp)⟩
      refine pairs_reads l v1 hFp upd_same ek fun F2 H2 g hF2 fa => ?_
      have hH2 : H2 p = some (.dK []) := g.h.k _ _ upd_same rfl
      refine ⟨hH2, kvs, rfl, of_decide_eq_true hn, ?_⟩
      exact fin (.ref p) F2 _ ((g.back hp).overD hp hF2 hH2) ⟨p, rfl, hp, hF2, upd_same, mergeK_flat kvs rfl fa⟩
    · cases e
  · cases e
def sSetD (ms : List Nat) (i : Nat) (e : Rho → Oe (List (Key × V))) : Ss := fun ρ => stp ms e ρ fun kvs => some (.nx (ρ.set i (.own (.dic kvs))))
theorem s_setD {i : Nat} {x : Str} {e : Expr} {se : Rho → Oe (List (Key × V))} {pos' : Pos} (ms : List Nat) (hN : X.N.Nodup) (he : PE X e (tK X.K X.mg W kD se)) (hi : X.N[i]? = some x := by rfl) (hx : Loc X.env.scope x := by first | exact Or.inl rfl | exact Or.inr rfl) (hs : swapsWith e (some (.Name x pos')) pos.line X.env = pure false := by rfl)
    (hf : X.fn x = true ∨ X.env.scope.names.lookup x = some .local := by first | exact .inl rfl | exact .inr rfl | assumption) : PS X (.Assign [.Name x pos'] e pos) (tP X.K X.mg W (sSetD ms i se)) := by
  refine ps_imp (ps_set hN hi hx he hs hf) fun D σ H ⟨F0, H0, ρ, F, fl, S, e, post⟩ => ?_
  refine stK S e post fun kvs v F2 H1 e gr r => ?_
  cases e
  obtain ⟨p, rfl, hp, hF, hH, fa⟩ := r
  obtain ⟨S', e', _⟩ := S.seen gr
  have hF3 : delH F2 (ownAddrs ms ρ σ) p = none := by
    by_cases q : p ∈ ownAddrs ms ρ σ
    · exact delH_in q
    · rw [delH_out q]; exact hF
  refine post _ _ H1 (S'.setOwn (S.g.h.none hp) hF3 ⟨hH, fa⟩ fun j d _ hj z => ?_) e'
  obtain ⟨q, e1, _, _, o⟩ := S.s j _ hj
  rw [z] at e1; cases e1
  obtain ⟨u, hu, _⟩ := o.there
  rw [hp] at hu; cases hu
/-- d[k] = e -/
def sPutD (ms : List Nat) (i : Nat) (k : Str) (e : Sx) : Ss := fun ρ =>
  match ρ[i]? with
  | some (.own (.dic kvs)) => stp ms e ρ fun d =>
    match toV d with
    | some v => if decide (kvs.length ≤ 15) then some (.nx (ρ.set i (.own (.dic (putK kvs (Sum.inr k) v))))) else none
    | none => none
  | _ => none
theorem s_putD {i : Nat} {x k : Str} {e : Expr} {se : Sx} {j : Nat} {p1 p2 pos' : Pos} (ms : List Nat) (hu : X.A.units + 1 < cLine) (he : PE X e (tS X.K X.mg W se)) (hN : X.N[i]? = some x := by rfl) (hv : Vis X.env.scope x := by first | exact Or.inl rfl | exact Or.inr (Or.inl rfl) | exact Or.inr (Or.inr rfl)) (hd : (x == ("__debug__" : Str)) = false := by decide)
    (hcd : (x == ("__classdict__" : Str)) = false := by decide) (hs : swapsWith e (some (.Subscript (.Name x p1) (.Constant (.str k) j p2) pos')) pos.line X.env = pure false := by rfl) :
    PS X (.Assign [.Subscript (.Name x p1) (.Constant (.str k) j p2) pos'] e pos) (tP X.K X.mg W (sPutD ms i k se)) := by
  refine ps_imp (ps_dput hu (pe_var (i := i) hN hv hd hcd) pe_str he hs) fun D σ H ⟨F0, H0, ρ, F, fl, S, e, post⟩ => ?_
  unfold sPutD at e
  split at e
  · rename_i kvs hρ
    obtain ⟨p, hp, _, _, hx, fa⟩ := S.s i _ hρ
    refine stK S e post fun d v F2 H1 e gr r => ?_
    split at e
    · rename_i u hu'
      split at e
      · rename_i hl
        cases e
        obtain ⟨rfl, fu⟩ := toV_rep r hu'
        obtain ⟨S', e', _⟩ := S.seen gr
        have hx1 : H1 p = some (.dK kvs) := gr.h.k _ _ hx rfl
        refine ⟨.ref p, hp, p, _, rfl, DPut.k (k := Sum.inr k) hx1 (Nat.lt_of_le_of_lt (of_decide_eq_true hl) (by decide)), ?_⟩
        exact post σ _ _ (S'.write hρ hp ⟨upd_same, putK_flat fa fu⟩) e'
      · cases e
    · cases e
  · cases e
/-- d[k] -/
def dGetK : D → D → Option D
  | .dic kvs, .str k => (valV kvs (Sum.inr k)).map ofV
  | _, _ => none
theorem valV_flat : ∀ {kvs : List (Key × V)} {k : Key} {v : V}, (kvs.all fun q => flatV q.2) = true → valV kvs k = some v → flatV v = true
  | [], _, _, _, h => by cases h
  | p :: r, k, v, h, e => by
    rw [List.all_cons, Bool.and_eq_true] at h
    by_cases hp : p.1 = k
    · rw [valV_pos hp] at e; cases e; exact h.1
    · rw [valV_neg hp] at e; exact valV_flat h.2 e
theorem d_getK (hu : X.A.units + 1 < cLine) (ha : PE X a (tS X.K X.mg W sa)) (hb : PE X b (tS X.K X.mg W sb)) (hs : NoSl b := by exact fun _ _ => rfl) : PE X (.Subscript a b pos) (tS X.K X.mg W (sOp dGetK sa sb)) := by
  refine pe_imp (pe_dget hu ha hb hs) fun σ H Q ⟨ρ, F, z, v, e, fin⟩ => ?_
  refine part v e fin fun dx x F1 H1 _ e g v1 rx fin1 => ?_
  refine part v1 e fin1 fun dy y F2 H2 _ e g2 v2 ry fin2 => ?_
  obtain ⟨dz, e', rfl⟩ := lift_some e
  unfold dGetK at e'
  split at e'
  · obtain ⟨u, hu', rfl⟩ := Option.map_eq_some_iff.mp e'
    cases ry
    cases rx with
    | dic h1 fa =>
      refine ⟨_, u, rfl, ?_, fin2 u F2 H2 (.refl v2.e) (ofV_rep (valV_flat fa hu'))⟩
      rw [← hu']
      exact DGet.k (k := Sum.inr _) (g2.h.k _ _ (v1.e.k _ _ h1 rfl) rfl)
  · cases e'
end
end Dl
/-! Dl11: a, b = x, y. -/
namespace Dl
open PySem L2

inductive MI where
  | s (e : Sx) | l (e : Sl)
inductive MR where
  | d (d : D) | l (ds : List D)
def sMix : List MI → Rho → Oe (List MR)
  | [], _ => some (.ok [])
  | .s e :: r, ρ => bd (e ρ) fun d => bd (sMix r ρ) fun l => some (.ok (.d d :: l))
  | .l e :: r, ρ => bd (e ρ) fun ds => bd (sMix r ρ) fun l => some (.ok (.l ds :: l))
section
variable (K : PySem.W.Frag) (mg : Str → Option Value) (H F' H' : Hp)
inductive MAll : List V → List MR → Prop
  | nil : MAll [] []
  | d {v : V} {d : D} {vs : List V} {rs : List MR} : Rep K mg F' v d → MAll vs rs → MAll (v :: vs) (.d d :: rs)
  | l {p : Addr} {xs : List V} {ds : List D} {vs : List V} {rs : List MR} : H p = none → F' p = none → H' p = some (.lst xs) → RepAll K mg F' xs ds → (∀ (i : Nat) (es : List D), rs[i]? = some (.l es) → vs[i]? ≠ some (.ref p)) → MAll vs rs → MAll (.ref p :: vs) (.l ds :: rs)
end
section
variable {K : PySem.W.Frag} {mg : Str → Option Value} {W : WX} {F H F' H' H1 F0 H0 : Hp} {σ : St} {ρ : Sig}
theorem MAll.mono {vs : List V} {rs : List MR} (e : Ex H H1) (h : MAll K mg H1 F' H' vs rs) : MAll K mg H F' H' vs rs := by
  induction h with
  | nil => exact .nil
  | d r _ ih => exact .d r ih
  | l a b c r n _ ih => exact .l (e.none a) b c r n ih
theorem MAll.length {vs : List V} {rs : List MR} (h : MAll K mg H F' H' vs rs) : vs.length = rs.length := by
  induction h with
  | nil => rfl
  | d r _ ih => simp [ih]
  | l a b c r n _ ih => simp [ih]
theorem MAll.fresh {vs : List V} {rs : List MR} (h : MAll K mg H F' H' vs rs) : ∀ (i : Nat) (es : List D) (p : Addr), rs[i]? = some (.l es) → vs[i]? = some (.ref p) → H p = none := by
  induction h with
  | nil => intro i es p h1 _; simp at h1
  | d r _ ih =>
    intro i es p h1 h2
    cases i with
    | zero => simp at h1
    | succ i => exact ih i es p (by simpa using h1) (by simpa using h2)
  | l a b c r n _ ih =>
    intro i es p h1 h2
    cases i with
    | zero => simp at h2; rw [← h2]; exact a
    | succ i => exact ih i es p (by simpa using h1) (by simpa using h2)
def kM (K : PySem.W.Frag) (mg : Str → Option Value) : Kd (List V) (List MR) := ⟨fun H F' H' vs rs => MAll K mg H F' H' vs rs, fun e h => h.mono e⟩
def mlf : MR → Bool
  | .d d => lf d
  | .l ds => lfAll ds
theorem MAll.seen {vs : List V} {rs : List MR} {F2 : Hp} (h : MAll K mg H F' H' vs rs) (t : Tups (K := K) F' F2) (n : ∀ p, F' p = none → F2 p = none) (hl : rs.all mlf = true) : MAll K mg H F2 H' vs rs := by
  induction h with
  | nil => exact .nil
  | d r _ ih =>
    rw [List.all_cons, Bool.and_eq_true] at hl
    exact .d (Rep.lf t _ _ hl.1 r) (ih hl.2)
  | l a b c r m _ ih =>
    rw [List.all_cons, Bool.and_eq_true] at hl
    exact .l a (n _ b) c (RepAll.lf t _ _ hl.1 r) m (ih hl.2)
def setM : Sig → List Nat → List MR → Sig
  | ρ, i :: is, .d d :: rs => setM (ρ.set i (.dat d)) is rs
  | ρ, i :: is, .l ds :: rs => setM (ρ.set i (.own (.lst ds))) is rs
  | ρ, _, _ => ρ
theorem StOk.setM : ∀ (is : List Nat) {σ : St} {ρ : Sig} {vs : List V} {rs : List MR}, StOk K mg F0 H0 F' H' σ ρ → MAll K mg H F' H' vs rs → Ex H0 H →
    (∀ (i : Nat) (es : List D) (p : Addr), rs[i]? = some (.l es) → vs[i]? = some (.ref p) → ∀ (j : Nat) (e : D), ρ[j]? = some (.own e) → σ[j]? ≠ some (some (.ref p))) → StOk K mg F0 H0 F' H' (setV σ is vs) (Dl.setM ρ is rs)
  | [], σ, ρ, vs, rs, S, _, _, _ => by
    cases rs <;> simpa only [setV, Dl.setM] using S
  | i :: is, σ, ρ, vs, rs, S, m, e0, fr => by
    cases m with
    | nil => simpa only [setV, Dl.setM] using S
    | d r ms =>
      refine StOk.setM is (S.set r) ms e0 fun k es p h1 h2 j e hj z => ?_
      by_cases hij : i = j
      · subst hij
        by_cases hi : i < ρ.length
        · rw [List.getElem?_set_self hi] at hj; cases hj
        · rw [List.getElem?_eq_none (by rw [List.length_set]; omega)] at hj; cases hj
      · rw [List.getElem?_set_ne hij] at hj z
        exact fr (k + 1) es p (by simpa using h1) (by simpa using h2) j e hj z
    | @l q xs ds vs rs a b c r n ms =>
      refine StOk.setM is (S.setOwn (e0.none a) b ⟨xs, c, r⟩ fun j e _ hj z => fr 0 ds q rfl rfl j e hj z) ms e0 fun k es p h1 h2 j e hj z => ?_
      by_cases hij : i = j
      · subst hij
        by_cases hi : i < ρ.length
        · rw [List.getElem?_set_self (by rw [← S.len]; exact hi)] at z
          cases z
          exact n k es h1 h2
        · rw [List.getElem?_eq_none (by rw [List.length_set]; omega)] at hj; cases hj
      · rw [List.getElem?_set_ne hij] at hj z
        exact fr (k + 1) es p (by simpa using h1) (by simpa using h2) j e hj z
/-- what the names hold behind -/
def parS (ms is : List Nat) (ρ : Sig) (rs : List MR) : Option Fl :=
  if rs.length = is.length then some (.nx (setM (if rs.all mlf then ρ else frz ms ρ) is rs)) else none
def sPar (ms is : List Nat) (l : List MI) : Ss := fun ρ => stp ms (sMix l) ρ (parS ms is ρ)
theorem par_after {ms is : List Nat} {rs : List MR} {vs : List V} {fl : Fl} {Dn : Ends} {F2 H1 : Hp} (S : StOk K mg F0 H0 F H σ ρ) (gr : Grow (addH F H (ownAddrs ms ρ σ)) H F2 H1) (m : MAll K mg H F2 H1 vs rs) (e : parS ms is ρ rs = some fl) (post : PostS K mg W F0 H0 F fl Dn) :
    vs.length = is.length ∧ ∀ H2, (∀ F3, Ex F3 H1 → Grow F3 H1 F3 H2) → Dn.nx (setV σ is vs) H2 := by
  unfold parS at e
  split at e
  · rename_i hl
    cases e
    refine ⟨by rw [m.length]; exact hl, fun H2 hg => ?_⟩
    have old : ∀ (i : Nat) (es : List D) (p : Addr), rs[i]? = some (.l es) → vs[i]? = some (.ref p) → ∀ (j : Nat) (e : D), ρ[j]? = some (.own e) → σ[j]? ≠ some (some (.ref p)) := fun i es p h1 h2 j e hj z => by
      have hp := m.fresh i es p h1 h2
      obtain ⟨q, e1, _, _, o⟩ := S.s j _ hj
      rw [z] at e1; cases e1
      obtain ⟨u, hu, _⟩ := o.there
      rw [hp] at hu; cases hu
    by_cases hlf : rs.all mlf = true
    · rw [if_pos hlf] at post
      obtain ⟨S', e', t⟩ := S.seen gr
      have m' := m.seen t (fun p h => by
        by_cases q : p ∈ ownAddrs ms ρ σ
        · exact delH_in q
        · rw [delH_out q]; exact h) hlf
      have S2 := StOk.setM is S' m' S.g.h old
      exact post _ _ H2 (S2.grow (hg _ S2.g.s)) e'
    · rw [if_neg hlf] at post
      have S' := S.frozen gr
      have S2 := StOk.setM is S' m S.g.h fun i es p h1 h2 j e hj z => by
        have : ∃ c, ρ[j]? = some (.own c) := by
          unfold frz at hj
          rw [frzF_get] at hj
          obtain ⟨t, ht, q⟩ := Option.map_eq_some_iff.mp hj
          cases t with
          | own c => exact ⟨c, ht⟩
          | dat c => cases q
          | no => cases q
        obtain ⟨c, hc⟩ := this
        exact old i es p h1 h2 j c hc z
      exact post _ _ H2 (S2.grow (hg _ S2.g.s)) ((S.exAdd ms).trans gr.f)
  · cases e
end
section
variable {X : Cx} {W : WX} {pos : Pos} {a b c : Expr} {es : List Expr} {sa : Sx} {sl : Sl} {r : List MI}
theorem dm_nil : PA X [] (tK X.K X.mg W (kM X.K X.mg) (sMix [])) := pa_imp pa_nil fun σ H Q ⟨ρ, F, z, v, e, fin⟩ => by cases e; exact fin [] F H (.refl v.e) .nil
theorem dm_s (ha : PE X a (tS X.K X.mg W sa)) (hr : PA X es (tK X.K X.mg W (kM X.K X.mg) (sMix r))) (hs : starEach (a :: es) X.env = (false, eval a X.env) :: starEach es X.env := by rfl) : PA X (a :: es) (tK X.K X.mg W (kM X.K X.mg) (sMix (.s sa :: r))) := by
  refine pa_imp (pa_cons ha hr hs) fun σ H Q ⟨ρ, F, z, v, e, fin⟩ => ?_
  refine part v e fin fun dx x F1 H1 _ e g v1 rx fin1 => ?_
  refine part v1 e fin1 fun rs vs F2 H2 _ e g2 v2 m fin2 => ?_
  cases e
  exact fin (x :: vs) F2 H2 (g.trans g2) (.d (rx.mo g2.f) (MAll.mono g.h m))
theorem dm_l (ha : PE X a (tL X.K X.mg W sl)) (hr : PA X es (tK X.K X.mg W (kM X.K X.mg) (sMix r))) (hs : starEach (a :: es) X.env = (false, eval a X.env) :: starEach es X.env := by rfl) : PA X (a :: es) (tK X.K X.mg W (kM X.K X.mg) (sMix (.l sl :: r))) := by
  refine pa_imp (pa_cons ha hr hs) fun σ H Q ⟨ρ, F, z, v, e, fin⟩ => ?_
  refine part v e fin fun ds x F1 H1 _ e g v1 rx fin1 => ?_
  refine part v1 e fin1 fun rs vs F2 H2 _ e g2 v2 m fin2 => ?_
  cases e
  obtain ⟨p, xs, rfl, hp, hF, hH, rr⟩ := rx
  have hF2 : F2 p = none := by
    cases q : F2 p with
    | none => rfl
    | some o =>
      rcases g2.n p o q with w | w
      · rw [hF] at w; cases w
      · rw [hH] at w; cases w
  refine fin (.ref p :: vs) F2 H2 (g.trans g2) (.l hp hF2 (g2.h.k _ _ hH rfl) (rr.mo g2.f) (fun i es h1 h2 => ?_) (MAll.mono g.h m))
  have := MAll.fresh m i es p h1 h2
  rw [hH] at this; cases this
theorem s_par2 {i j : Nat} {x y : Str} {px py pt : Pos} {kt k2 pt2} (ms : List Nat) (hc : X.calm = true) (hN : X.N.Nodup) (ha : PA X [a, b] (tK X.K X.mg W (kM X.K X.mg) (sMix r))) (hi : X.N[i]? = some x := by rfl) (hj : X.N[j]? = some y := by rfl) (hij : i ≠ j := by decide)
    (hx : X.env.scope.names.lookup x = some .local := by rfl) (hy : X.env.scope.names.lookup y = some .local := by rfl)
    (hw : swappedStores [.Tuple [.Name x px, .Name y py] kt pt] (.Tuple [a, b] k2 pt2) X.env = pure (some [x, y]) := by rfl)
    (hs : swapsWithSole [.Tuple [.Name x px, .Name y py] kt pt] (.Tuple [a, b] k2 pt2) pos.line X.env = pure false := by rfl) :
    PS X (.Assign [.Tuple [.Name x px, .Name y py] kt pt] (.Tuple [a, b] k2 pt2) pos) (tP X.K X.mg W (sPar ms [i, j] r)) := by
  refine ps_imp (ps_par hc hN hi hj hij hx hy ha hw hs) fun D σ H ⟨F0, H0, ρ, F, fl, S, e, post⟩ => ?_
  refine stK S e post fun rs vs F2 H1 e gr m => ?_
  obtain ⟨hl, fin⟩ := par_after S gr m e post
  match vs, hl with
  | [v, w], _ => exact ⟨v, w, rfl, fin H1 fun _ e => .refl e⟩
theorem s_par3 {i j l : Nat} {x y z : Str} {px py pz pt : Pos} {kt k2 pt2} (ms : List Nat) (hc : X.calm = true) (hN : X.N.Nodup) (ha : PA X [a, b, c] (tK X.K X.mg W (kM X.K X.mg) (sMix r))) (hi : X.N[i]? = some x := by rfl) (hj : X.N[j]? = some y := by rfl) (hk : X.N[l]? = some z := by rfl) (hij : i ≠ j := by decide) (hil : i ≠ l := by decide) (hjl : j ≠ l := by decide)
    (hx : X.env.scope.names.lookup x = some .local := by rfl) (hy : X.env.scope.names.lookup y = some .local := by rfl) (hz : X.env.scope.names.lookup z = some .local := by rfl)
    (hw : swappedStores [.Tuple [.Name x px, .Name y py, .Name z pz] kt pt] (.Tuple [a, b, c] k2 pt2) X.env = pure (some [x, y, z]) := by rfl)
    (hs : swapsWithSole [.Tuple [.Name x px, .Name y py, .Name z pz] kt pt] (.Tuple [a, b, c] k2 pt2) pos.line X.env = pure false := by rfl) :
    PS X (.Assign [.Tuple [.Name x px, .Name y py, .Name z pz] kt pt] (.Tuple [a, b, c] k2 pt2) pos) (tP X.K X.mg W (sPar ms [i, j, l] r)) := by
  refine ps_imp (ps_par3 hc hN hi hj hk hij hil hjl hx hy hz ha hw hs) fun D σ H ⟨F0, H0, ρ, F, fl, S, e, post⟩ => ?_
  refine stK S e post fun rs vs F2 H1 e gr m => ?_
  obtain ⟨hl, fin⟩ := par_after S gr m e post
  match vs, hl with
  | [u, v, w], _ => exact ⟨u, v, w, rfl, fin H1 fun _ e => .refl e⟩
theorem s_parT {is : List Nat} {tg : List Expr} {kk k2 : Nat} {tpos pt2 : Pos} (ms : List Nat) (hc : X.calm = true) (hg : PGs X tg (gNs is)) (ha : PA X es (tK X.K X.mg W (kM X.K X.mg) (sMix r))) (h1000 : is.length ≤ 1000 := by decide) (hn : (assignEach tg X.env).length = is.length := by rfl) (hst : (assignEach tg X.env).findIdx? (·.1) = none := by rfl)
    (hs : swapsWithSole [.Tuple tg kk tpos] (.Tuple es k2 pt2) pos.line X.env = pure false := by rfl) (hw : swappedStores [.Tuple tg kk tpos] (.Tuple es k2 pt2) X.env = pure none := by rfl) (h1 : (assignEach [.Tuple tg kk tpos] X.env).map (·.2) = [assign (.Tuple tg kk tpos) X.env] := by rfl) :
    PS X (.Assign [.Tuple tg kk tpos] (.Tuple es k2 pt2) pos) (tP X.K X.mg W (sPar ms is r)) := by
  refine ps_imp (ps_asg (pe_tup ha) (pg_tup hc hg hn hst) hs hw h1) fun D σ H ⟨F0, H0, ρ, F, fl, S, e, post⟩ => ?_
  refine stK S e post fun rs vs F2 H1 e gr m => ?_
  obtain ⟨hl, fin⟩ := par_after S gr m e post
  refine ⟨Nat.le_trans (by rw [hl]; exact h1000) (by decide), fun p hp => ?_⟩
  exact ⟨p, vs, rfl, .inl (.inl upd_same), hl, gNs_reads is hl (fin _ fun F3 e3 => .only e3 hp)⟩
end
end Dl
/-! DlSet: how many there are in a set of texts. -/
namespace DlS
open PySem PySem.Spec PyProof.Rows
/-- how many different ones stand among the first i -/
def dcnt (xs : List Str) : Nat → Nat
  | 0 => 0
  | i + 1 => if (xs.take i).any (· == xs.getD i Str.empty) then dcnt xs i else dcnt xs i + 1
theorem dcnt_le (xs : List Str) : ∀ i, dcnt xs i ≤ i
  | 0 => Nat.le_refl 0
  | i + 1 => by
    have := dcnt_le xs i
    unfold dcnt
    split <;> omega
theorem any_grows {xs : List Str} {i : Nat} (hi : i < xs.length) (k : Str) : ((xs.take i).any (· == k) || decide (k = xs.getD i Str.empty)) = (xs.take (i + 1)).any (· == k) := by
  have e : xs.getD i Str.empty = xs[i] := by rw [List.getD_eq_getElem?_getD, List.getElem?_eq_getElem hi]; rfl
  rw [List.take_add_one, List.getElem?_eq_getElem hi, List.any_append, e]
  congr 1
  show decide (k = xs[i]) = ((xs[i] == k) || false)
  rw [Bool.or_false]
  by_cases q : k = xs[i]
  · rw [← q]; simp
  · have q2 : (xs[i] == k) = false := beq_eq_false_iff_ne.mpr fun z => q z.symm
    rw [q2, decide_eq_false q]
section
variable {prog : Program} {w : World}
/-- the set at S holds the first i of the texts -/
abbrev Has (prog : Program) (w : World) (xs : List Str) (S : Addr) (i : Nat) (h : Heap) : Prop := h.SetOf (PySem.strKind prog w) S (fun k => (xs.take i).any (· == k)) (dcnt xs i)
theorem Has.kept {xs : List Str} {S : Addr} {i : Nat} {h h' : Heap} (x : Has prog w xs S i h) (k : ∀ o, h.get? S = some o → h'.get? S = some o) : Has prog w xs S i h' := by
  obtain ⟨o, es, ep, t, ho, more⟩ := x
  exact ⟨o, es, ep, t, k o ho, more⟩
theorem fill {A : Around} {R : Result → Shared → Prop} {I : Addr} {fp wr : List Addr} {G : Array GenState → Array GenState → Prop} {n : Nat} {Pv : Nat → Value → Prop} {St : Nat → Shared → Prop}
    (Wk : WalksS prog w A.in1 I fp wr G n Pv St) {S : Addr} (far : S ∉ fp) {xs : List Str} (len : xs.length = n) (few : n < 1000) (val : ∀ i v, Pv i v → ∃ t, v = .str (xs.getD i Str.empty) t) :
    ∀ (left i : Nat) (s : Shared), left + i = n → St i s → Has prog w xs S i s.heap → (∀ s', Moved (S :: wr) G s s' → Has prog w xs S n s'.heap → R (.ok (.ret .none)) s') →
      codeAny (model prog w) A (.builtin "set.update.loop" ⟨[.ref S, .ref I], []⟩) R s := by
  have out : S ∉ wr := fun q => far (Wk.sub _ q)
  have wider : ∀ b, b ∈ wr → b ∈ S :: wr := fun b q => List.mem_cons_of_mem _ q
  intro left
  induction left with
  | zero =>
    intro i s hl st has fin
    rw [Nat.zero_add] at hl
    subst hl
    refine codeAny_builtin PyProof.Rows.F.entry_set_update_loop ?_
    rw [Around.under_plainId PyProof.Rows.F.plain_set_update_loop _]
    refine wpAny_bind (m := pyNext (.ref I)) (Wk.done s _ _ st fun s1 mv => ?_)
    exact wpAny_pure (fin s1 (mv.mono wider) (has.kept fun o q => mv.heap S o out q))
  | succ left ih =>
    intro i s hl st has fin
    have hlt : i < n := by omega
    have hlx : i < xs.length := by omega
    refine codeAny_builtin PyProof.Rows.F.entry_set_update_loop ?_
    rw [Around.under_plainId PyProof.Rows.F.plain_set_update_loop _]
    refine wpAny_bind (m := pyNext (.ref I)) (Wk.item i s _ _ hlt st fun v s1 pv st1 mv => ?_)
    obtain ⟨t, rfl⟩ := val i v pv
    have has1 : Has prog w xs S i s1.heap := has.kept fun o q => mv.heap S o out q
    refine wpAny_bind (m := holding [Value.str (xs.getD i Str.empty) t] (setAdd S (.str (xs.getD i Str.empty) t))) (wpAny_holding ?_)
    unfold setAdd
    refine wpAny_holding (wpAny_bind ((PySem.strKind prog w).pyHash (k := xs.getD i Str.empty) (strKind_is _ _ _ _) ?_))
    have room : dcnt xs i + 1 < scanBound := by
      have := dcnt_le xs i
      unfold scanBound; omega
    refine wpAny_setAddHashed_of (knd := PySem.strKind prog w) (s := { s1 with toks := s1.toks + 1 }) (strKind_is _ _ _ _) rfl has1 room fun h2 but has2 => ?_
    have has3 : Has prog w xs S (i + 1) h2 := SetOf_congr has2 (fun k => any_grows hlx k) (by simp only [dcnt])
    refine wpAny_pure ⟨plainId_quiet PyProof.Rows.F.plain_set_update_loop _, ih (i + 1) _ (by omega) (Wk.frame _ s1 _ _ st1 (Nat.le_succ _) fun b hb o q => ?_) has3 fun s3 mv3 has4 => ?_⟩
    · rw [but.2 b fun z => far (z ▸ hb)]; exact q
    · refine fin s3 (Moved.trans Wk.gtrans ((mv.mono wider).then_heap (Nat.le_succ _) fun b o hb q => ?_) mv3) has4
      rw [but.2 b fun z => hb (by rw [z]; exact List.mem_cons_self)]; exact q
end
section
variable {prog : Program} {w : World} {A : Around} {E : Value → Shared → Prop} {s : Shared}
abbrev bareSet (led : Bool) : Obj := { cls := .type "set", dict := none, data := .set #[] 0 (.fresh 0 0 led) }
set_option maxHeartbeats 8000000 in
/-- set(t), t a tuple of texts -/
theorem set_tup {l : Addr} {items : Array Value} {xs : List Str} {Q : Value → Shared → Prop} (calm : A.handled = none) (tl : s.heap.IsTuple l items) (ix : StrsAre items.toList xs) (few : xs.length < 1000)
    (fin : ∀ (h' : Heap) (tk : Nat), Has prog w xs s.heap.objs.size xs.length h' → (∀ b o, b < s.heap.objs.size → s.heap.get? b = some o → h'.get? b = some o) → Q (.ref s.heap.objs.size) { s with heap := h', toks := tk }) :
    wpAny (model prog w) A (call (.type "set") [.ref l]) Q E s := by
  obtain ⟨c, rest, hmro⟩ := PySem.F.called_set.mro
  have a1 := PySem.F.called_set.made
  have a2 := PySem.F.called_set.sub
  refine wpAny_call (codeAny_of_tree ?_)
  show wpAny _ _ (callAny (.type "set") _) _ _ _
  refine wpAny_pure ⟨Code.quiet_builtin _ (by decide +kernel), codeAny_builtin PySem.F.entry_type_call ?_⟩
  rw [Around.under_plain (weight_type_call_type "set" [.ref l] []) rfl]
  have a3 := PySem.F.called_set.notType
  have a4 := PySem.F.called_set.canCreate
  have a5 := PySem.F.typeCall_set_1 (.ref l)
  repeat (any_goals (first | assumption | wp_step))
  refine codeAny_mono (code_set_new_1 (.ref l) (E := E) (Q₁ := fun obj s1 => ∃ led : Bool, obj = .ref s.heap.objs.size ∧ s1 = { s with heap := s.heap.push (bareSet led) }) fun led => ⟨led, rfl, rfl⟩) fun r s1 hr => ?_
  rcases r with e | fl
  · exact hr
  cases fl with
  | ret obj =>
    obtain ⟨led, rfl, rfl⟩ := hr
    have onS : (s.heap.push (bareSet led)).get? s.heap.objs.size = some (bareSet led) := Heap.get?_push_size _ rfl
    have tyS : Shared.TypeIs { s with heap := s.heap.push (bareSet led) } (.ref s.heap.objs.size) "set" := ⟨_, onS, rfl⟩
    have b1 := PySem.F.called_set.init.lookup
    have b2 := PySem.F.called_set.init.bind (.ref s.heap.objs.size)
    repeat (any_goals (first | assumption | wp_step))
    refine codeAny_mono (codeAny_call_builtin (R := wants (fun r s2 => r = .none ∧ ∃ h' tk, s2 = { s with heap := h', toks := tk } ∧ Has prog w xs s.heap.objs.size xs.length h' ∧
      (∀ b o, b < s.heap.objs.size → s.heap.get? b = some o → h'.get? b = some o)) E) PySem.F.called_set.init.plain PySem.F.entry_set_init (check_set_init_1 tyS ?_)) fun r2 s2 hr2 => ?_
    · obtain ⟨ol, hol, hcl, nl, hdl⟩ := tl
      obtain ⟨k1, k2, k3, k4⟩ := ol
      simp only at hcl hdl
      subst hcl
      subst hdl
      have onL : (s.heap.push (bareSet led)).get? l = some { cls := .type "tuple", dict := k2, data := .seq items nl, slots := k4 } := Heap.get?_push_of_some _ hol
      have c1 := PySem.F.sub_tuple_set
      have c2 := PySem.F.sub_tuple_frozenset
      have c3 : (Value.type "tuple" == Value.type "dict") = false := by decide
      have tl1 : (s.heap.push (bareSet led)).IsTuple l items := ⟨_, onL, rfl, nl, rfl⟩
      unfold Builtin.«set.__init__» noKeywords Builtin.Frozenset.updateFrom
      generalize hPI : pyIter = PI
      wp_walk
      subst hPI
      refine wpAny_pyIter_tuple tl1 (wpAny_bind (wpAny_runValue ?_))
      have ll : l < s.heap.objs.size := Heap.lt_size hol
      have sz1 : (s.heap.push (bareSet led)).objs.size = s.heap.objs.size + 1 := Heap.size_push _ _
      have d1 : l ≠ (s.heap.push (bareSet led)).objs.size := by rw [sz1]; exact Nat.ne_of_lt (Nat.lt_succ_of_lt ll)
      have d2 : s.heap.objs.size ∉ [(s.heap.push (bareSet led)).objs.size, l] := by
        rw [sz1]
        intro q
        rcases List.mem_cons.mp q with z | z
        · exact absurd z (Nat.ne_of_lt (Nat.lt_succ_self _))
        · exact absurd (List.mem_singleton.mp z) (Nat.ne_of_gt ll)
      have sz : xs.length = items.size := by rw [← StrsAre.len_eq ix, Array.length_toList]
      have val : ∀ (i : Nat) (v : Value), items[i]? = some v → ∃ t, v = .str (xs.getD i Str.empty) t := fun i v hv => SS.strs_at ix i v (by rw [Array.getElem?_toList]; exact hv)
      refine fill ((Walks.tuple (by simp [calm]) _ l d1 items).toS) d2 sz (by rw [← sz]; exact few) val items.size 0 _ (Nat.add_zero _) ⟨⟨_, Heap.get?_push_size _ rfl, rfl, rfl⟩, (tl1.push _)⟩ ?start ?stop
      case start =>
        exact SetOf_congr ((setObjOf_fresh (knd := PySem.strKind prog w) led).setOf (Heap.get?_push_of_some _ onS) (by unfold scanBound; omega)) (fun _ => rfl) rfl
      case stop =>
        intro s' mv has
        obtain ⟨h', g', d', tk', os'⟩ := s'
        have e1 : g' = s.gens := mv.gens
        have e2 : d' = s.drawn := mv.drawn
        have e3 : os' = s.os := mv.os
        subst e1
        subst e2
        subst e3
        show wpAny _ _ _ _ _ _
        refine wpAny_pure ?_
        show wpAny _ _ (ret Value.none) _ _ _
        rw [← sz] at has
        refine wpAny_pure ⟨rfl, h', tk', rfl, has, fun b o hb q => mv.heap b o (fun z => ?_) (Heap.get?_push_of_some _ (Heap.get?_push_of_some _ q))⟩
        rcases List.mem_cons.mp z with z | z
        · exact absurd z (Nat.ne_of_lt hb)
        · rw [sz1] at z
          exact absurd (List.mem_singleton.mp z) (Nat.ne_of_lt (Nat.lt_succ_of_lt hb))
    · rcases r2 with e | fl2
      · exact hr2
      cases fl2 with
      | ret r =>
        obtain ⟨rfl, h', tk, rfl, has, kk⟩ := hr2
        repeat (any_goals (first | assumption | wp_step))
        exact fin _ _ has kk
      | _ => exact hr2.elim
  | _ => exact hr.elim
end
end DlS

namespace Dl
open PySem L2 PyProof.Rows
def strsOf : List D → Option (List Str)
  | [] => some []
  | .str x :: ds => (strsOf ds).map (x :: ·)
  | _ => none
/-- len(set(t)) -/
def dLenSet : D → Option D
  | .tup ds => match strsOf ds with
    | some xs => if decide (xs.length < 1000) then some (.int (DlS.dcnt xs xs.length : Nat)) else none
    | none => none
  | _ => none
theorem strs_rep {K : PySem.W.Frag} {mg : Str → Option Value} {F : Hp} : ∀ {ds : List D} {vs : List V} {xs : List Str}, RepAll K mg F vs ds → strsOf ds = some xs → vs = xs.map V.str
  | [], _, _, h, e => by cases h; cases e; rfl
  | d :: ds, _, _, h, e => by
    cases h with
    | cons h1 h2 =>
      cases d <;> first | (simp [strsOf] at e; done) | skip
      simp only [strsOf] at e
      obtain ⟨xs, e1, rfl⟩ := Option.map_eq_some_iff.mp e
      cases h1
      rw [strs_rep h2 e1]; rfl
theorem d_lenSet {X : Cx} {W : WX} {a : Expr} {sa : Sx} {p p2 q pos : Pos} (hc : X.calm = true) (hm : X.mg "len" = none) (hm2 : X.mg "set" = none) (ha : PE X a (tS X.K X.mg W sa)) (hg : Gl X "len" := by rfl) (hg2 : Gl X "set" := by rfl)
    (na : starEach [a] X.env = (false, eval a X.env) :: starEach [] X.env := by rfl) : PE X (.Call (.Name "len" p) [.Call (.Name "set" p2) [a] [] q] [] pos) (tS X.K X.mg W (sUn dLenSet sa)) := by
  refine ⟨fun pins s σ H Q I ⟨ρ, F, r, v, e, fin⟩ => ?_⟩
  refine Call_ (ld_blt I hg hm boot_len ?_)
  refine PyProof.Rows.callWith_builtin1 (PyProof.Rows.args_cons ?_ rfl) rfl rfl
  refine Call_ (ld_blt I hg2 hm2 boot_set ?_)
  refine PyProof.Rows.callWith_type1 (PyProof.Rows.args_cons (ha.run pins s σ H (fun x H1 => ∃ (l : Addr) (xs : List Str), x = .ref l ∧ SqT X.K H1 l (xs.map V.str) ∧ xs.length < 1000 ∧ Q (.int (DlS.dcnt xs xs.length : Nat)) H1) I ?_ |> fun z => thn z fun u s1 ⟨x, H1, I1, r1, q1⟩ => PyProof.Rows.args_nil ?_) na) na rfl
  · refine part v e fin fun dx x F1 H1 _ e g v1 rx fin1 => ?_
    obtain ⟨dz, e', rfl⟩ := lift_some e
    unfold dLenSet at e'
    split at e'
    · split at e'
      · rename_i ds xs hx
        split at e'
        · rename_i hl
          cases e'
          cases rx with
          | tup h1 rs =>
            rw [strs_rep rs hx] at h1
            exact ⟨_, xs, rfl, v1.e.sqT h1, of_decide_eq_true hl, fin1 _ F1 H1 (.refl v1.e) (.int _)⟩
        · cases e'
      · cases e'
    · cases e'
  · obtain ⟨l, xs, rfl, hq, h1, q1⟩ := q1
    cases r1
    obtain ⟨its, rv, tl, hz⟩ := I1.tuple hq
    refine DlS.set_tup (I1.ok.hd hc) tl (by simpa using strsAre_of rv) h1 fun h' tk hS hk => ?_
    refine PyProof.Rows.args_nil ?_
    obtain ⟨o, es, ep, t, ho, hex, hd, _, _, _, hf, hn⟩ := hS
    have I2 : L2.Inv X pins σ H1 { s1 with heap := h', toks := tk } := I1.kept fun b o e => hk b o (Heap.lt_size e) e
    have hle := DlS.dcnt_le xs xs.length
    exact call_len_set ho hex hd hf (by rw [hn]; omega) ⟨.int (DlS.dcnt xs xs.length : Nat), H1, I2.tok _, ⟨_, by rw [hn]⟩, q1⟩
end Dl
/-! Dl12: two clauses in a comprehension, methods of lists, sorted, zip. -/
namespace Dl
open PySem L2
/-! ### [e for a in x if .. for b in y if ..] -/
def lcS2 (t1 : TgtR) (test1 : Sb) (it2 : Sl) (vs1 : List Nat) (t2 : TgtR) (test2 : Sb) (elt : Sx) (ρ : Rho) : List D → Option (List D)
  | [] => some []
  | d :: ds =>
    match t1 d ρ with
    | none => none
    | some ρ2 => match test1 ρ2 with
      | some (.ok true) => match it2 ρ2 with
        | some (.ok es) => match lcS t2 test2 elt (wipeR vs1 ρ2) es with
          | some ys => (lcS2 t1 test1 it2 vs1 t2 test2 elt ρ ds).map (ys ++ ·)
          | none => none
        | _ => none
      | some (.ok false) => lcS2 t1 test1 it2 vs1 t2 test2 elt ρ ds
      | _ => none
def sLc2 (it : Sl) (vs : List Nat) (t1 : TgtR) (test1 : Sb) (it2 : Sl) (vs1 : List Nat) (t2 : TgtR) (test2 : Sb) (elt : Sx) : Sl := fun ρ => bd (it ρ) fun ds =>
  match lcS2 t1 test1 it2 vs1 t2 test2 elt (wipeR vs ρ) ds with
  | some out => if okLen out.length then some (.ok out) else none
  | none => none
section
variable {K : PySem.W.Frag} {mg : Str → Option Value} {W : WX} {F H : Hp} {σ : St} {ρ : Rho}
theorem lc2_reads {it it2 : Sl} {vs vs1 : List Nat} {t1 t2 : TgtR} {test1 test2 : Sb} {elt : Sx} {g g1 : TG} (hg : GOkR K mg vs g t1) (hg1 : GOkR K mg vs1 g1 t2) {Q : VK} (h : tL K mg W (sLc2 it vs t1 test1 it2 vs1 t2 test2 elt) σ H Q) :
    tLc2 (tI K mg W it) g (tT K mg W0 test1) (tI K mg W0 it2) g1 (tT K mg W0 test2) (tS K mg W0 elt) vs vs1 σ H Q := by
  obtain ⟨ρ, F, r, v, e, fin⟩ := h
  refine part v e fin fun ds J F1 H1 _ e g1' v1 wk fin1 => ?_
  split at e
  · rename_i out eo
    split at e
    · rename_i hok
      cases e
      have hln := okLen_line hok
      intro D hD
      have hFD : F1 D = none := v1.e.none hD
      have vw := v1.wipe vs
      have still : ∀ {Fa Ha Fb Hb : Hp}, Grow Fa Ha Fb Hb → Fa D = none → (∃ o, Ha D = some o) → Fb D = none := fun {Fa Ha Fb Hb} gg h1 ⟨o, h2⟩ => by
        cases q : Fb D with
        | none => rfl
        | some u =>
          rcases gg.n D u q with z | z
          · rw [h1] at z; cases z
          · rw [h2] at z; cases z
      refine ⟨fun i m H => m = ds.length - i ∧ i ≤ ds.length ∧ ∃ F' acc dacc rest, Grow F1 H1 F' H ∧ F' D = none ∧ H D = some (.lst acc) ∧ RepAll K mg F' acc dacc ∧ lcS2 t1 test1 it2 vs1 t2 test2 elt (wipeR vs ρ) (ds.drop i) = some rest ∧ dacc ++ rest = out,
        ⟨ds.length, by simp, Nat.zero_le _, F1, [], [], out, .only v1.e hD, hFD, upd_same, .nil, eo, rfl⟩, ?_⟩
      rintro i m H ⟨rfl, hi, F', acc, dacc, rest, gr, hF', hHD, ra, el, eout⟩
      have w := wk i F' H gr.f gr.s
      by_cases hlt : i < ds.length
      · have hd : ds[i]? = some ds[i] := List.getElem?_eq_getElem hlt
        obtain ⟨go, yl⟩ := w.1 _ hd
        refine .inr ⟨go, fun H' => ds.length - (i + 1) < ds.length - i ∧ i + 1 ≤ ds.length ∧ ∃ F' acc dacc rest, Grow F1 H1 F' H' ∧ F' D = none ∧ H' D = some (.lst acc) ∧ RepAll K mg F' acc dacc ∧ lcS2 t1 test1 it2 vs1 t2 test2 elt (wipeR vs ρ) (ds.drop (i + 1)) = some rest ∧ dacc ++ rest = out,
          fun H' ⟨q0, q1, q2⟩ => ⟨_, q0, rfl, q1, q2⟩, fun x H' y => ?_⟩
        obtain ⟨Fn, gn, rx⟩ := yl x H' y
        have hFn : Fn D = none := still gn hF' ⟨_, hHD⟩
        have hHn : H' D = some (.lst acc) := gn.h.k _ _ hHD rfl
        rw [List.drop_eq_getElem_cons hlt] at el
        unfold lcS2 at el
        split at el
        · cases el
        · rename_i ρ2 et
          refine hg Fn H' σ _ ρ2 x ds[i] _ ⟨gn.s, fun k c ek => ?_, vw.l, vw.t.keep (gr.t.trans gn.t)⟩ rx et fun σ2 v2 hw => ⟨hw, ?_⟩
          · obtain ⟨u, e1, ru⟩ := vw.v k c ek
            exact ⟨u, e1, (ru.mo gr.f).mo gn.f⟩
          · split at el
            · rename_i etst
              refine ⟨ρ2, Fn, .ok true, v2, etst, fun b F3 H3 g3 eb => ?_⟩
              have eb' : b = true := eb
              subst eb'
              refine iteT ?_
              have hF3 := still g3 hFn ⟨_, hHn⟩
              have hH3 : H3 D = some (.lst acc) := g3.h.k _ _ hHn rfl
              split at el
              · rename_i es ees
                refine ⟨ρ2, F3, .ok es, v2.mo g3, ees, fun J1 F4 H4 g4 wk1 => ?_⟩
                have v4 := (v2.mo g3).mo g4
                have hF4 := still g4 hF3 ⟨_, hH3⟩
                have hH4 : H4 D = some (.lst acc) := g4.h.k _ _ hH3 rfl
                split at el
                · rename_i ys ey
                  obtain ⟨rest2, er2, rfl⟩ := Option.map_eq_some_iff.mp el
                  have vw2 := v4.wipe vs1
                  have gr4 : Grow F1 H1 F4 H4 := ((gr.trans gn).trans g3).trans g4
                  have keep : ∀ {F5 H5 : Hp}, Ex F4 F5 → Ex F5 H5 → KeepT H1 H5 → View K mg F5 H5 (L2.wipe σ2 vs1) (wipeR vs1 ρ2) := fun e5 e6 e7 => ⟨e6, fun k c ek => by
                    obtain ⟨u, e1, ru⟩ := vw2.v k c ek
                    exact ⟨u, e1, ru.mo e5⟩, vw2.l, vw.t.keep e7⟩
                  refine ⟨fun j k H => k = es.length - j ∧ j ≤ es.length ∧ ∃ F' acc dacc rest1, Grow F1 H1 F' H ∧ Ex F4 F' ∧ F' D = none ∧ H D = some (.lst acc) ∧ RepAll K mg F' acc dacc ∧ lcS t2 test2 elt (wipeR vs1 ρ2) (es.drop j) = some rest1 ∧ dacc ++ (rest1 ++ rest2) = out,
                    ⟨es.length, by simp, Nat.zero_le _, F4, acc, dacc, ys, gr4, .refl _, hF4, hH4, ra.mo ((gn.f.trans g3.f).trans g4.f), ey, eout⟩, ?_⟩
                  rintro j k H ⟨rfl, hj, F', acc, dacc, rest1, gr, eF, hF', hHD, ra, el, eout⟩
                  have w1 := wk1 j F' H eF gr.s
                  by_cases hltj : j < es.length
                  · have hdj : es[j]? = some es[j] := List.getElem?_eq_getElem hltj
                    obtain ⟨go1, yl1⟩ := w1.1 _ hdj
                    refine .inr ⟨go1, fun H' => es.length - (j + 1) < es.length - j ∧ j + 1 ≤ es.length ∧ ∃ F' acc dacc rest1, Grow F1 H1 F' H' ∧ Ex F4 F' ∧ F' D = none ∧ H' D = some (.lst acc) ∧ RepAll K mg F' acc dacc ∧ lcS t2 test2 elt (wipeR vs1 ρ2) (es.drop (j + 1)) = some rest1 ∧ dacc ++ (rest1 ++ rest2) = out,
                      fun H' ⟨q0, q1, q2⟩ => ⟨_, q0, rfl, q1, q2⟩, fun x H' y => ?_⟩
                    obtain ⟨Fn, gn, rx⟩ := yl1 x H' y
                    have hFn : Fn D = none := still gn hF' ⟨_, hHD⟩
                    have hHn : H' D = some (.lst acc) := gn.h.k _ _ hHD rfl
                    rw [List.drop_eq_getElem_cons hltj] at el
                    unfold lcS at el
                    split at el
                    · cases el
                    · rename_i ρ3 et2
                      refine hg1 Fn H' σ2 _ ρ3 x es[j] _ (keep (eF.trans gn.f) gn.s (gr.t.trans gn.t)) rx et2 fun σ3 v3 hw3 => ⟨hw3, ?_⟩
                      split at el
                      · rename_i etst2
                        refine ⟨ρ3, Fn, .ok true, v3, etst2, fun b F5 H5 g5 eb => ?_⟩
                        have eb' : b = true := eb
                        subst eb'
                        refine iteT ?_
                        have hF5 := still g5 hFn ⟨_, hHn⟩
                        have hH5 : H5 D = some (.lst acc) := g5.h.k _ _ hHn rfl
                        split at el
                        · rename_i yd eyd
                          obtain ⟨rest', er, rfl⟩ := Option.map_eq_some_iff.mp el
                          refine ⟨ρ3, F5, .ok yd, v3.mo g5, eyd, fun yv F6 H6 g6 ry => ?_⟩
                          have hF6 := still g6 hF5 ⟨_, hH5⟩
                          have hH6 : H6 D = some (.lst acc) := g6.h.k _ _ hH5 rfl
                          have gall : Grow F1 H1 F6 H6 := ((gr.trans gn).trans g5).trans g6
                          have eall : Ex F' F6 := (gn.f.trans g5.f).trans g6.f
                          refine ⟨acc, hH6, ?_, by omega, hltj, F6, acc ++ [yv], dacc ++ [yd], rest', gall.overL hD hF6 hH6, eF.trans eall, hF6, upd_same, (ra.mo eall).append (.cons ry .nil), er, by rw [List.append_assoc]; exact eout⟩
                          · rw [ra.length]
                            have : dacc.length + 1 ≤ out.length := by rw [← eout]; simp
                            omega
                        · cases el
                      · rename_i etst2
                        refine ⟨ρ3, Fn, .ok false, v3, etst2, fun b F5 H5 g5 eb => ?_⟩
                        have eb' : b = false := eb
                        subst eb'
                        refine iteF ?_
                        have hF5 := still g5 hFn ⟨_, hHn⟩
                        have hH5 : H5 D = some (.lst acc) := g5.h.k _ _ hHn rfl
                        exact ⟨by omega, hltj, F5, acc, dacc, rest1, (gr.trans gn).trans g5, eF.trans (gn.f.trans g5.f), hF5, hH5, ra.mo (gn.f.trans g5.f), el, eout⟩
                      · cases el
                  · have hj2 : j = es.length := by omega
                    subst hj2
                    rw [List.drop_length] at el
                    cases el
                    exact .inl ⟨w1.2 (Nat.le_refl _), by omega, hlt, F', acc, dacc, rest2, gr, hF', hHD, ra, er2, eout⟩
                · cases el
              · cases el
            · rename_i etst
              refine ⟨ρ2, Fn, .ok false, v2, etst, fun b F3 H3 g3 eb => ?_⟩
              have eb' : b = false := eb
              subst eb'
              refine iteF ?_
              have hF3 := still g3 hFn ⟨_, hHn⟩
              have hH3 : H3 D = some (.lst acc) := g3.h.k _ _ hHn rfl
              exact ⟨by omega, hlt, F3, acc, dacc, rest, (gr.trans gn).trans g3, hF3, hH3, ra.mo (gn.f.trans g3.f), el, eout⟩
            · cases el
      · have hi2 : i = ds.length := by omega
        subst hi2
        rw [List.drop_length] at el
        cases el
        rw [List.append_nil] at eout
        subst eout
        exact .inl ⟨w.2 (Nat.le_refl _), fin1 (.ref D) F' H gr ⟨D, acc, rfl, hD, hF', hHD, ra⟩⟩
    · cases e
  · cases e
end
section
variable {X : Cx} {W : WX} {pos : Pos} {elt tg iter tg1 iter1 : Expr} {ifs ifs1 : List Expr} {scope : Scope} {own : List (Str × Nat)} {it it1 : Sl} {t t1 : TgtR} {test test1 : Sb} {se : Sx} {g g1 : TG} {vs1 : List Nat}
theorem l_lc2 (hc : X.calm = true) (hN : X.N.Nodup) (hi : PI X tg iter (tI X.K X.mg W it)) (ok : BlkOk X.N X.env.scope scope own) (hv : ∀ i ∈ vs1, i ∈ own.map (·.2)) (hgo : GOkR X.K X.mg (own.map (·.2)) g t) (hgo1 : GOkR X.K X.mg vs1 g1 t1)
    (hg : ∀ (s : Shared) (H : Hp) (C : Addr) (cl : List (Str × Addr)) (fp : List Addr), PG (X.blk s H scope (compEnvC scope cl C X.env) fp) tg g) (ht : ∀ (s : Shared) (H : Hp) (C : Addr) (cl : List (Str × Addr)) (fp : List Addr), PTs (X.blk s H scope (compEnvC scope cl C X.env) fp) ifs (tT X.K X.mg W0 test))
    (hi1 : ∀ (s : Shared) (H : Hp) (C : Addr) (cl : List (Str × Addr)) (fp : List Addr), PI (X.blk s H scope (compEnvC scope cl C X.env) fp) tg1 iter1 (tI X.K X.mg W0 it1))
    (hg1 : ∀ (s : Shared) (H : Hp) (C : Addr) (cl : List (Str × Addr)) (fp : List Addr), PG (X.blk s H scope (compEnvC scope cl C X.env) fp) tg1 g1) (ht1 : ∀ (s : Shared) (H : Hp) (C : Addr) (cl : List (Str × Addr)) (fp : List Addr), PTs (X.blk s H scope (compEnvC scope cl C X.env) fp) ifs1 (tT X.K X.mg W0 test1))
    (he : ∀ (s : Shared) (H : Hp) (C : Addr) (cl : List (Str × Addr)) (fp : List Addr), PE (X.blk s H scope (compEnvC scope cl C X.env) fp) elt (tS X.K X.mg W0 se)) (hs : ∀ x, foldedSetIterable iter X.env x = pure x := by intro _; rfl) (hs1 : ∀ env x, foldedSetIterable iter1 env x = pure x := by intro _ _; rfl) :
    PE X (.ListComp elt [⟨tg, iter, ifs, 0⟩, ⟨tg1, iter1, ifs1, 0⟩] scope pos) (tL X.K X.mg W (sLc2 it (own.map (·.2)) t test it1 vs1 t1 test1 se)) :=
  pe_imp (pe_lc2 hc hN hi ok hv hg ht hi1 hg1 ht1 he hs hs1) fun _ _ _ h => lc2_reads hgo hgo1 h
theorem s_setLc2 {i : Nat} {y : Str} {py spos : Pos} (ms : List Nat) (hc : X.calm = true) (hN : X.N.Nodup) (hi : PI X tg iter (tI X.K X.mg W it)) (ok : BlkOk X.N X.env.scope scope own) (hv : ∀ i ∈ vs1, i ∈ own.map (·.2)) (hgo : GOkR X.K X.mg (own.map (·.2)) g t) (hgo1 : GOkR X.K X.mg vs1 g1 t1)
    (hg : ∀ (s : Shared) (H : Hp) (C : Addr) (cl : List (Str × Addr)) (fp : List Addr), PG (X.blk s H scope (compEnvC scope cl C X.env) fp) tg g) (ht : ∀ (s : Shared) (H : Hp) (C : Addr) (cl : List (Str × Addr)) (fp : List Addr), PTs (X.blk s H scope (compEnvC scope cl C X.env) fp) ifs (tT X.K X.mg W0 test))
    (hi1 : ∀ (s : Shared) (H : Hp) (C : Addr) (cl : List (Str × Addr)) (fp : List Addr), PI (X.blk s H scope (compEnvC scope cl C X.env) fp) tg1 iter1 (tI X.K X.mg W0 it1))
    (hg1 : ∀ (s : Shared) (H : Hp) (C : Addr) (cl : List (Str × Addr)) (fp : List Addr), PG (X.blk s H scope (compEnvC scope cl C X.env) fp) tg1 g1) (ht1 : ∀ (s : Shared) (H : Hp) (C : Addr) (cl : List (Str × Addr)) (fp : List Addr), PTs (X.blk s H scope (compEnvC scope cl C X.env) fp) ifs1 (tT X.K X.mg W0 test1))
    (he : ∀ (s : Shared) (H : Hp) (C : Addr) (cl : List (Str × Addr)) (fp : List Addr), PE (X.blk s H scope (compEnvC scope cl C X.env) fp) elt (tS X.K X.mg W0 se)) (hy : X.N[i]? = some y := by rfl) (hyl : X.env.scope.names.lookup y = some .local := by rfl)
    (hsw : swapsWith (.ListComp elt [⟨tg, iter, ifs, 0⟩, ⟨tg1, iter1, ifs1, 0⟩] scope pos) (some (.Name y py)) spos.line X.env = pure true := by exact sw_true rfl rfl rfl (by decide +kernel)) (hs : ∀ x, foldedSetIterable iter X.env x = pure x := by intro _; rfl) (hs1 : ∀ env x, foldedSetIterable iter1 env x = pure x := by intro _ _; rfl) :
    PS X (.Assign [.Name y py] (.ListComp elt [⟨tg, iter, ifs, 0⟩, ⟨tg1, iter1, ifs1, 0⟩] scope pos) spos) (tP X.K X.mg W (sSetL ms i (sLc2 it (own.map (·.2)) t test it1 vs1 t1 test1 se))) :=
  ps_imp (ps_setLc2 hc hN hy hyl hsw hi ok hv hg ht hi1 hg1 ht1 he hs hs1) fun D σ H h => lc2_reads hgo hgo1 (asgL_reads h)
end
end Dl
/-! Dl13: methods of lists, the greatest and the least, lists turned round, zip. -/
namespace Dl
open PySem L2
/-! ### l.count(x), texts -/
def eqS (k : Str) (v : Value) : Bool := match v with
  | .str n _ => n.cps.toList == k.cps.toList
  | _ => false
theorem eqS_gives {k : Str} {t : Tok} : ∀ {us : List Value} {ns : List Str}, PyProof.Rows.StrsAre us ns → ∀ y ∈ us, MeetsSeq.EqGives y (.str k t) (eqS k y)
  | _, _, .nil => fun y hy => by cases hy
  | _, _, .cons n t' h => fun y hy => by
    rcases List.mem_cons.mp hy with e | e
    · rw [e]
      exact SeqRoads2.EqGives.str n k t' t
    · exact eqS_gives h y e
theorem cps_eq (n k : Str) : (n.cps.toList == k.cps.toList) = (n == k) := by
  rw [Bool.eq_iff_iff, beq_iff_eq, beq_iff_eq]
  constructor
  · intro h
    cases n; cases k
    simp only [Str.mk.injEq]
    exact Array.toList_inj.mp h
  · intro h; rw [h]
theorem eqS_count {k : Str} : ∀ {us : List Value} {ns : List Str}, PyProof.Rows.StrsAre us ns → us.countP (eqS k) = ns.countP (· == k)
  | _, _, .nil => rfl
  | _, _, .cons n t h => by
    have ih := eqS_count (k := k) h
    rw [List.countP_cons, List.countP_cons, ih]
    show _ + (if (n.cps.toList == k.cps.toList) = true then 1 else 0) = _
    rw [cps_eq]
section
variable {X : Cx} {W : WX} {pos : Pos} {a b : Expr} {sa sb : Sx}
def rCntS (K : PySem.W.Frag) : V → List V → Hp → VK → Prop := fun x xs H Q => ∃ (p : Addr) (ns : List Str) (k : Str), x = .ref p ∧ xs = [.str k] ∧ SqL K H p (ns.map V.str) ∧ Q (.int (ns.countP (· == k) : Nat)) H
theorem mt_scount : MtR X "list.count" (rCntS X.K) := by
  intro pins s σ H x xs v us Q I rx rxs h
  obtain ⟨p, ns, k, rfl, rfl, hs, q⟩ := h
  cases rx
  obtain ⟨u, rfl, ru⟩ := rxs.one
  obtain ⟨t, rfl⟩ := ru
  obtain ⟨its, rv, ⟨⟨cls, dd, data, sl⟩, n, ho, hc, hdn, hd⟩, hlen⟩ := I.list hs
  simp only at hc hd
  subst hc hd
  have hi := rv.strs
  refine call_meets PySem.F.slot_list_count ⟨_, ho, rfl⟩ PySem.F.entry_list_count (PySem.F.args_list_count_2 _ _)
    (SeqAt.list_countAt p its.toArray n dd sl (.str k t) (eqS k)) ⟨ho, fun y hy => (eqS_gives hi y (by simpa using hy)).at _ _, ?_⟩
  have ec : its.toArray.toList.countP (eqS k) = ns.countP (· == k) := eqS_count hi
  refine ⟨.int (ns.countP (· == k) : Nat), H, I.tok _, ⟨s.toks, ?_⟩, q⟩
  show Value.int ((its.toArray.toList.countP (eqS k) : Nat) : Int) s.toks = Value.int ((ns.countP (· == k) : Nat) : Int) s.toks
  rw [ec]
def dCount : D → D → Option D
  | .lst ds, .str k => (strsOf ds).map fun xs => .int (xs.countP (· == k) : Nat)
  | _, _ => none
/-- o.m(e), o a list -/
def sLM (f : D → D → Option D) (a b : Sx) : Sx := fun ρ => bd (a ρ) fun x =>
  match x with
  | .lst ds => bd (b ρ) fun y => lift (f (.lst ds) y)
  | _ => none
theorem lm_reads {r : V → List V → Hp → VK → Prop} {f : D → D → Option D} (hf : ∀ F H x y dx dy dz (Q : VK), Ex F H → Rep X.K X.mg F x dx → Rep X.K X.mg F y dy → f dx dy = some dz → (∀ v F' H', Grow F H F' H' → Rep X.K X.mg F' v dz → Q v H') → r x [y] H Q)
    {σ : St} {H : Hp} {Q : VK} (h : tS X.K X.mg W (sLM f sa sb) σ H Q) : tBM X.K "list" r (tS X.K X.mg W sa) (tCons (tS X.K X.mg W sb) tNil) σ H Q := by
  obtain ⟨ρ, F, z, v, e, fin⟩ := h
  refine part v e fin fun dx x F1 H1 _ e g v1 rx fin1 => ?_
  split at e
  · rename_i ds
    refine ⟨?_, ?_⟩
    · cases rx with
      | lst h1 r1 => exact .inl ⟨rfl, _, .inl (.inl (v1.e.k _ _ h1 rfl))⟩
    · show tS X.K X.mg W sb σ H1 fun y H2 => r x [y] H2 Q
      refine part v1 e fin1 fun dy y F2 H2 _ e g2 v2 ry fin2 => ?_
      obtain ⟨dz, e', rfl⟩ := lift_some e
      exact hf F2 H2 x y _ dy dz Q v2.e (rx.mo g2.f) ry e' fin2
  · cases e
theorem d_count {apos cpos : Pos} (ha : PE X a (tS X.K X.mg W sa)) (hb : PE X b (tS X.K X.mg W sb)) (hbase : attributeBase a "count" X.env (eval a X.env) = eval a X.env := by rfl)
    (hfew : ((backTo cpos (starEach [b] X.env)).all (fun x => !x.1) && (backToKw cpos (keywordEach [] X.env)).all (fun x => x.1.isSome)
      && decide (([b] : List Expr).length + ([] : List Keyword).length + (if ([] : List Keyword).isEmpty then 0 else 1) < 30)) = true := by rfl)
    (hline : (apos.endLine == cpos.line) = true := by rfl) (hs : starEach [b] X.env = (false, eval b X.env) :: starEach [] X.env := by rfl) (hplain : (backTo cpos (starEach [] X.env)).any (·.1) = false := by rfl) :
    PE X (.Call (.Attribute a "count" apos) [b] [] cpos) (tS X.K X.mg W (sLM dCount sa sb)) := by
  refine pe_imp (pe_bm PySem.F.plainAttrs_list PySem.F.slot_list_count PySem.F.type_list_count mt_scount ha (pa_cons hb pa_nil hs) hbase hfew hline hs hplain) fun σ H Q h => lm_reads (fun F H x y dx dy dz Q e rx ry hf q => ?_) h
  unfold dCount at hf
  split at hf
  · rename_i ds k
    obtain ⟨xs, hx, rfl⟩ := Option.map_eq_some_iff.mp hf
    cases ry
    cases rx with
    | lst h1 r1 =>
      rw [strs_rep r1 hx] at h1
      exact ⟨_, xs, k, rfl, rfl, .inl (.inl (e.k _ _ h1 rfl)), q _ F H (.refl e) (.int _)⟩
  · cases hf
/-- the place of the first that is equal -/
def dIndex : D → D → Option D
  | .lst ds, x => if okN 9 x && ds.all (okN 9) then (ds.findIdx? fun y => eqN 9 y x).map fun i => .int (i : Nat) else none
  | _, _ => none
end
end Dl
/-! Dl14: texts sorted, lists and tuples turned round, zip, the greatest. -/
namespace DlO
open PySem PySem.Spec PyProof.Rows
section
variable {prog : Program} {w : World} {A : Around} {E : Value → Shared → Prop} {s : Shared}
/-- the items of a tuple or a list, laid into a new list: where they stand then -/
theorem items_of {l : Addr} {T : String} {o : Obj} {items : Array Value} {n : Nat} {Q : List Value → Shared → Prop} (hT : T = "list" ∨ T = "tuple") (ho : s.heap.get? l = some o) (hc : o.cls = .type T) (hd : o.data = .seq items n) (hL : items.size ≤ sizeLine)
    (h : Q items.toList { s with heap := (s.heap.push (seqObj "list" #[] 0)).update s.heap.objs.size (Obj.mapSeq (· ++ items)) }) : wpAny (model prog w) A (collect (.ref l)) Q E s := by
  unfold collect
  refine wpAny_bind (wpAny_runValue (codeAny_builtin entry_proto_collect' (?_ : wpAny _ _ (do again (.builtin "list.__iadd__" ⟨[← newList [], .ref l], []⟩)) _ _ s)))
  refine wpAny_bind (wpAny_newList (wpAny_pure ⟨Code.quiet_builtin _ (by decide +kernel), codeAny_builtin entry_list_iadd' (?_ : wpAny _ _ (Builtin.List.listExtendWith (.ref s.heap.objs.size) (.ref l) (.ref s.heap.objs.size)) _ _ { s with heap := s.heap.push (seqObj "list" #[] 0) })⟩))
  have old : (s.heap.push (seqObj "list" #[] 0)).get? l = some o := Heap.get?_push_of_some _ ho
  have new : (s.heap.push (seqObj "list" #[] 0)).get? s.heap.objs.size = some (seqObj "list" #[] 0) := Heap.get?_push_size _ rfl
  unfold Builtin.List.listExtendWith
  refine wpAny_bind (wpAny_typeOf (T := T) ⟨o, old, hc⟩ ?_)
  have isSeq : (Value.type T == Value.type "list" || Value.type T == Value.type "tuple") = true := by rcases hT with e | e <;> subst e <;> rfl
  rw [if_pos (by rcases hT with e | e <;> simp [e])]
  refine wpAny_bind (listItems_at old hd (wpAny_bind (listItems_at (xs := #[]) (n := 0) new rfl ?_)))
  rw [if_neg (by simp)]
  have fits : (#[] ++ items).size ≤ sizeLine + 1 := by
    simp only [Array.size_append, List.size_toArray, List.length_nil]
    omega
  refine wpAny_bind (listUpdate_at (xs := #[]) (n := 0) new rfl (wpAny_pure ?_) (Nat.zero_le _) fits)
  refine wpAny_bind (wpAny_load (get?_update_seq new _) (?_ : wpAny _ _ (pure ((#[] : Array Value) ++ items).toList) Q E _))
  rw [show ((#[] : Array Value) ++ items).toList = items.toList by simp]
  exact wpAny_pure h
/-- sorted(x), x a tuple or a list of texts -/
theorem sorted_txt {l : Addr} {T : String} {o : Obj} {items : Array Value} {n : Nat} {ss : List Str} {Q : Value → Shared → Prop} (hT : T = "list" ∨ T = "tuple") (ho : s.heap.get? l = some o) (hc : o.cls = .type T) (hd : o.data = .seq items n) (hS : StrsAre items.toList ss) (hL : items.size ≤ sizeLine)
    (h : ∀ (h' : Heap) (p : Addr) (out : Array Value) (ss' : List Str) (e : Nat), StrsAre out.toList ss' → ss'.Perm ss → sortedS ss' = true → s.heap.objs.size ≤ p → (∀ b o', s.heap.get? b = some o' → h'.get? b = some o') → h'.get? p = some (seqObj "list" out e) → Q (.ref p) { s with heap := h' }) :
    wpAny (model prog w) A (call (.builtin "sorted") [.ref l]) Q E s := by
  refine Calls.call_function_entry kind_sorted plain_sorted entry_sorted (args_sorted1 _) ?_
  unfold Builtin.«sorted»
  refine wpAny_bind (m := checkCount "sorted" 1 1 _) (wpAny_pure (wpAny_bind (items_of hT ho hc hd hL (wpAny_bind (wpAny_newList ?_)))))
  have sz : ((s.heap.push (seqObj "list" #[] 0)).update s.heap.objs.size (Obj.mapSeq (· ++ items))).objs.size = s.heap.objs.size + 1 := by rw [Heap.size_update, size_push']
  have hk : ∀ b o', s.heap.get? b = some o' → ((s.heap.push (seqObj "list" #[] 0)).update s.heap.objs.size (Obj.mapSeq (· ++ items))).get? b = some o' := fun b o' hb => by
    rw [Heap.get?_update_ne _ _ _ _ (Nat.ne_of_lt (Heap.lt_size hb))]
    exact Heap.get?_push_of_some _ hb
  generalize ((s.heap.push (seqObj "list" #[] 0)).update s.heap.objs.size (Obj.mapSeq (· ++ items))) = h1 at sz hk
  have hoL : (h1.push (seqObj "list" items.toList.toArray 0)).get? h1.objs.size = some (seqObj "list" items.toList.toArray 0) := Heap.get?_push_size _ rfl
  have hlen : items.toList.length ≤ sizeLine := by rw [Array.length_toList]; exact hL
  show wpAny _ _ _ _ _ { s with heap := h1.push (seqObj "list" items.toList.toArray 0) }
  refine wpAny_bind (wpAny_holding (wpAny_call_entry slot_list_sort ⟨_, hoL, rfl⟩ entry_list_sort (list_sort_treeKAny strKind_oneLt hoL hS.keysOf (fun v₁ v₂ rest e => keyKind_strs (by rw [← e]; exact hS)) hlen fun st' a1 a2 => ⟨_, rfl, ?_⟩) (args_list_sort _)))
  obtain ⟨ss', h1', h2', h3'⟩ := sorted_out_str hS a1 a2
  obtain ⟨e, he⟩ := sortedHeap_at (out := (arrOf st').map (·.2)) hoL
  refine wpAny_pure ⟨_, rfl, h _ _ _ ss' e h1' h2' h3' (show s.heap.objs.size ≤ h1.objs.size by omega) (fun b o' hb => ?_) he⟩
  have hb1 := hk b o' hb
  have hlt : b < h1.objs.size := Heap.lt_size hb1
  rw [sortedHeap_old (Nat.ne_of_lt hlt) (by rw [size_push']; exact Nat.lt_succ_of_lt hlt), Heap.get?_push_ne _ _ _ (Nat.ne_of_lt hlt)]
  exact hb1
end
/-! the order of texts -/
theorem ltc_irr : ∀ a : List Nat, ltCps a a = false
  | [] => rfl
  | x :: a => by
    have := ltc_irr a
    simp [ltCps, this]
theorem ltc_anti : ∀ a b : List Nat, ltCps a b = false → ltCps b a = false → a = b
  | [], [], _, _ => rfl
  | [], _ :: _, h, _ => by simp [ltCps] at h
  | _ :: _, [], _, h => by simp [ltCps] at h
  | x :: a, y :: b, h, h2 => by
    simp only [ltCps, Bool.or_eq_false_iff, decide_eq_false_iff_not, Bool.and_eq_false_imp, beq_iff_eq] at h h2
    have e : x = y := by omega
    subst e
    rw [ltc_anti a b (h.2 rfl) (h2.2 rfl)]
theorem ltc_trans : ∀ a b c : List Nat, ltCps b a = false → ltCps c b = false → ltCps c a = false
  | [], _, [], _, _ => rfl
  | [], [], _ :: _, _, _ => rfl
  | [], _ :: _, _ :: _, _, _ => rfl
  | _ :: _, [], _, h, _ => by simp [ltCps] at h
  | _ :: _, _ :: _, [], _, h => by simp [ltCps] at h
  | x :: a, y :: b, z :: c, h, h2 => by
    simp only [ltCps, Bool.or_eq_false_iff, decide_eq_false_iff_not, Bool.and_eq_false_imp, beq_iff_eq] at h h2 ⊢
    refine ⟨by omega, fun e => ?_⟩
    have e1 : y = x := by omega
    have e2 : z = y := by omega
    exact ltc_trans a b c (h.2 e1) (h2.2 e2)
def leS (a b : Str) : Prop := ltCps b.cps.toList a.cps.toList = false
theorem leS_anti {a b : Str} (h : leS a b) (h2 : leS b a) : a = b := by
  have := ltc_anti _ _ h2 h
  cases a; cases b
  simp only [Str.mk.injEq]
  exact Array.toList_inj.mp this
theorem leS_total (a b : Str) : leS a b ∨ leS b a := by
  unfold leS
  generalize a.cps.toList = x
  generalize b.cps.toList = y
  have : ∀ x y : List Nat, ltCps y x = false ∨ ltCps x y = false := fun x => by
    induction x with
    | nil => intro y; cases y <;> simp [ltCps]
    | cons a x ih =>
      intro y
      cases y with
      | nil => simp [ltCps]
      | cons b y =>
        rcases ih y with q | q
        · by_cases h : b < a
          · right; simp [ltCps]; exact ⟨by omega, fun e => by omega⟩
          · left; simp [ltCps, q]; omega
        · by_cases h : a < b
          · left; simp [ltCps]; exact ⟨by omega, fun e => by omega⟩
          · right; simp [ltCps, q]; omega
  exact this x y
theorem rising_pw : ∀ (r : List Str) (p : Str), risingS p r = true → (p :: r).Pairwise leS
  | [], p, _ => by simp
  | x :: r, p, h => by
    have h' : (!ltCps x.cps.toList p.cps.toList && risingS x r) = true := h
    rw [Bool.and_eq_true, Bool.not_eq_true'] at h'
    have ih := rising_pw r x h'.2
    refine List.pairwise_cons.mpr ⟨fun y hy => ?_, ih⟩
    rcases List.mem_cons.mp hy with rfl | hy
    · exact h'.1
    · exact ltc_trans _ _ _ h'.1 ((List.pairwise_cons.mp ih).1 y hy)
theorem sortedS_pw {l : List Str} (h : sortedS l = true) : l.Pairwise leS := by
  cases l with
  | nil => exact .nil
  | cons x r => exact rising_pw r x h
/-- put in its place -/
def insS (x : Str) : List Str → List Str
  | [] => [x]
  | y :: l => if ltCps y.cps.toList x.cps.toList then y :: insS x l else x :: y :: l
def isortS (l : List Str) : List Str := l.foldr insS []
theorem insS_perm (x : Str) : ∀ l, (insS x l).Perm (x :: l)
  | [] => .refl _
  | y :: l => by
    unfold insS
    split
    · exact (List.Perm.cons y (insS_perm x l)).trans (List.Perm.swap _ _ _)
    · exact .refl _
theorem isortS_perm : ∀ l, (isortS l).Perm l
  | [] => .refl _
  | x :: l => (insS_perm x (isortS l)).trans (.cons x (isortS_perm l))
theorem insS_pw (x : Str) : ∀ l, l.Pairwise leS → (insS x l).Pairwise leS
  | [], _ => by simp [insS]
  | y :: l, h => by
    have h' := List.pairwise_cons.mp h
    unfold insS
    split
    · rename_i q
      refine List.pairwise_cons.mpr ⟨fun z hz => ?_, insS_pw x l h'.2⟩
      rcases List.mem_cons.mp ((insS_perm x l).mem_iff.mp hz) with rfl | hz
      · rcases leS_total y z with w | w
        · exact w
        · exact absurd (show ltCps y.cps.toList z.cps.toList = false from w) (by rw [q]; simp)
      · exact h'.1 z hz
    · rename_i q
      have q : leS x y := by simpa [leS] using q
      refine List.pairwise_cons.mpr ⟨fun z hz => ?_, h⟩
      rcases List.mem_cons.mp hz with rfl | hz
      · exact q
      · exact ltc_trans _ _ _ q (h'.1 z hz)
theorem isortS_pw : ∀ l, (isortS l).Pairwise leS
  | [] => .nil
  | x :: l => insS_pw x _ (isortS_pw l)
theorem sorted_unique {l l' : List Str} (h : l'.Perm l) (hs : sortedS l' = true) : l' = isortS l :=
  List.Perm.eq_of_pairwise (fun a b _ _ h1 h2 => leS_anti h1 h2) (sortedS_pw hs) (isortS_pw l) (h.trans (isortS_perm l).symm)
end DlO
namespace Dl
open PySem L2
section
variable {X : Cx} {W : WX} {pos : Pos} {a b : Expr} {sa sb : Sx}
def rSortT (K : PySem.W.Frag) : List V → Hp → VK → Prop := fun vs H Q => ∃ (a : Addr) (xs : List Str), vs = [V.ref a] ∧ (SqL K H a (xs.map V.str) ∨ SqT K H a (xs.map V.str)) ∧
  ∀ (p : Addr), H p = none → Q (.ref p) (upd H p (.lst ((DlO.isortS xs).map V.str)))
theorem cr_sortT2 : CallR X (.builtin "sorted") (rSortT X.K) := by
  intro pins s σ H vs us Q I r h
  obtain ⟨a, xs, rfl, hs, q⟩ := h
  rw [Vals.ref1 r]
  have go : ∀ {T : String} {o : Obj} {its : List Value} {n : Nat}, (T = "list" ∨ T = "tuple") → s.heap.get? a = some o → o.cls = .type T → o.data = .seq its.toArray n → its.length ≤ sizeLine → PyProof.Rows.StrsAre its xs → wpAny (model X.prog X.w) X.A (call (.builtin "sorted") [.ref a]) (EP X pins σ Q) X.xe s := fun {T o its n} hT ho hc hd hz hS => by
    refine DlO.sorted_txt hT ho hc hd (by simpa using hS) (by rw [List.size_toArray]; exact hz) fun h' p out ss' e h1 h2 h3 hp hk hat => ?_
    have e1 := DlO.sorted_unique h2 h3
    subst e1
    have hlen : ((DlO.isortS xs).map V.str).length ≤ sizeLine := by rw [List.length_map, h2.length_eq, ← PyProof.Rows.StrsAre.len_eq hS]; exact hz
    exact ⟨.ref p, upd H p (.lst ((DlO.isortS xs).map V.str)), I.laid (t' := s.toks) (fun b o e => hk b o e) hp ⟨hlen, out.toList, e, vals_of_strs h1, hat⟩, rfl, q p (I.hok.fresh hp)⟩
  rcases hs with hs | hs
  · obtain ⟨its, rv, ⟨o, n, ho, hc, hdn, hd⟩, hl⟩ := I.list hs
    exact go (.inl rfl) ho hc hd (by have := rv.length; rw [List.length_map] at this; rw [← this]; simpa using hl) rv.strs
  · obtain ⟨its, rv, tl, hl⟩ := I.tuple hs
    obtain ⟨o, ho, hc, n, hd⟩ := tl
    exact go (.inr rfl) ho hc hd (by have := rv.length; rw [List.length_map] at this; rw [← this]; simpa using hl) rv.strs
def dSorted : D → Option (List D)
  | .lst ds => (strsOf ds).map fun xs => (DlO.isortS xs).map D.str
  | .tup ds => (strsOf ds).map fun xs => (DlO.isortS xs).map D.str
  | _ => none
def sSorted (a : Sx) : Sl := fun ρ => bd (a ρ) fun x => lift (dSorted x)
theorem strs_all {K : PySem.W.Frag} {mg : Str → Option Value} {F : Hp} : ∀ xs : List Str, RepAll K mg F (xs.map V.str) (xs.map D.str)
  | [] => .nil
  | x :: xs => .cons (.str x) (strs_all xs)
theorem l_sorted {p : Pos} (hm : X.mg "sorted" = none) (ha : PE X a (tS X.K X.mg W sa)) (hg : Gl X "sorted" := by rfl) (hv : bootBuiltins "sorted" = some (.builtin "sorted") := by decide +kernel)
    (he : starEach [a] X.env = (false, eval a X.env) :: starEach [] X.env := by rfl) (hpl : (backTo pos (starEach [] X.env)).any (·.1) = false := by rfl) : PE X (.Call (.Name "sorted" p) [a] [] pos) (tL X.K X.mg W (sSorted sa)) := by
  refine pe_imp (pe_callB cr_sortT2 hg hm hv (pa_cons ha pa_nil he) (by decide) (by decide) he hpl) fun σ H Q ⟨ρ, F, z, v, e, fin⟩ => ?_
  refine part v e fin fun dx x F1 H1 _ e g v1 rx fin1 => ?_
  obtain ⟨ds, e', rfl⟩ := lift_some e
  unfold dSorted at e'
  split at e'
  · obtain ⟨xs, hx, rfl⟩ := Option.map_eq_some_iff.mp e'
    cases rx with
    | lst h1 r1 =>
      rw [strs_rep r1 hx] at h1
      exact ⟨_, xs, rfl, .inl (.inl (.inl (v1.e.k _ _ h1 rfl))), fun p hp => fin1 (.ref p) F1 _ (.only v1.e hp) ⟨p, _, rfl, hp, v1.e.none hp, upd_same, strs_all _⟩⟩
  · obtain ⟨xs, hx, rfl⟩ := Option.map_eq_some_iff.mp e'
    cases rx with
    | tup h1 r1 =>
      rw [strs_rep r1 hx] at h1
      exact ⟨_, xs, rfl, .inr (v1.e.sqT h1), fun p hp => fin1 (.ref p) F1 _ (.only v1.e hp) ⟨p, _, rfl, hp, v1.e.none hp, upd_same, strs_all _⟩⟩
  · cases e'
end
end Dl
/-! Dl15: pairs and lists turned round, a dict that is read at once. -/
namespace DlV
open PySem PySem.Spec PyProof.Rows HT
section
variable {prog : Program} {w : World} {A : Around} {E : Value → Shared → Prop} {s : Shared}
theorem rev_parts {sl : Addr} {vs : Value} {Q : Int × Int × Nat → Shared → Prop} (hs : s.heap.IsSliceOf sl .none .none vs) (ps : IsPart vs (some (-1))) (h : Q (1, -1, 2) s) : wpAny (model prog w) A (Builtin.Slice.sliceApplied (.ref sl) (pure (2 : Int))) Q E s := by
  obtain ⟨os, hos, hcs, hds⟩ := id hs
  unfold Builtin.Slice.sliceApplied Builtin.Slice.sliceFields
  refine wpAny_bind (wpAny_bind (wpAny_field hos hds (x := .none) rfl (wpAny_bind (wpAny_field hos hds (x := .none) rfl (wpAny_bind (wpAny_field hos hds (x := vs) rfl (wpAny_pure ?_)))))))
  refine wpAny_bind (slicePart_ ps (?_ : wpAny _ _ (if ((-1 : Int) == 0) = true then _ else _) _ _ s))
  rw [if_neg (by decide)]
  exact wpAny_bind (slicePart_ .none (wpAny_bind (slicePart_ .none (wpAny_bind (wpAny_pure (wpAny_pure h))))))
/-- (x, y)[::-1] -/
theorem item_rev2 {t sl : Addr} {x y vs : Value} {Q : Value → Shared → Prop} (ht : IsTup s.heap t #[x, y]) (hs : s.heap.IsSliceOf sl .none .none vs) (ps : IsPart vs (some (-1)))
    (h : Q (.ref s.heap.objs.size) { s with heap := s.heap.push { cls := .type "tuple", data := .seq #[y, x] } }) : wpAny (model prog w) A (getItem (.ref t) (.ref sl)) Q E s := by
  have fits : sizeOk (.seq #[y, x]) := show (2 : Nat) ≤ sizeLine from by decide
  obtain ⟨os, hos, hcs, hds⟩ := id hs
  unfold getItem
  try with_reducible refine wpAny_holding ?_
  first | refine wpAny_bind (wpAny_pure ?_) | skip
  refine wpAny_bind (wpAny_sequenceKey ht.typeIs (by decide) (wpAny_bind (wpAny_callSpecial?_slot (name := Str.ofString "__getitem__") ht.typeIs PyProof.Rows.slot_tuple_getitem
    (wpAny_call_entry PyProof.Rows.slot_tuple_getitem ht.typeIs entry_tuple_getitem (?_ : wpAny _ _ (Builtin.Tuple.tupleItemsOf (.ref t) >>= _) _ _ s) (args_tuple_getitem _ _)))))
  refine wpAny_bind (tupleItemsOf_ ht (wpAny_bind (wpAny_typeOf ⟨os, hos, hcs⟩ ?_)))
  rw [if_pos (by decide)]
  refine wpAny_bind (rev_parts hs ps (?_ : wpAny _ _ (if ((1 : Int) == 0 && (-1 : Int) == 1 && (2 : Nat) == (#[x, y] : Array Value).size) = true then _ else _) _ _ s))
  rw [if_neg (show ¬ (((1 : Int) == 0 && (-1 : Int) == 1 && (2 : Nat) == (#[x, y] : Array Value).size) = true) from fun q => Bool.false_ne_true q)]
  have pick : ((List.range 2).filterMap fun (m : Nat) => (#[x, y] : Array Value)[((1 : Int) + (m : Int) * (-1)).toNat]?).toArray = #[y, x] := rfl
  rw [pick]
  first
    | exact wpAny_bind (m := Builtin.Tuple.tupleExact _) (wpAny_newObj_type (wpAny_pure ⟨_, rfl, wpAny_pure h⟩) fits)
    | exact wpAny_bind (m := Builtin.Tuple.tupleExact _) (wpAny_newObj_type (wpAny_bind (wpAny_pure (wpAny_pure ⟨_, rfl, wpAny_pure h⟩))) fits)
    | exact wpAny_bind (wpAny_bind (m := Builtin.Tuple.tupleExact _) (wpAny_newObj_type (wpAny_pure (wpAny_pure ⟨_, rfl, wpAny_pure h⟩)) fits))
    | exact wpAny_bind (wpAny_bind (m := Builtin.Tuple.tupleExact _) (wpAny_newObj_type (wpAny_pure ⟨_, rfl, wpAny_pure h⟩) fits))
end
end DlV
namespace Dl
open PySem L2 PyProof.Rows
section
variable {X : Cx} {W : WX} {pos : Pos} {a b : Expr} {sa sb : Sx}
def tRev2 (K : PySem.W.Frag) (te : TE) : TE := fun σ H Q => te σ H fun x H1 => ∃ a u v, x = .ref a ∧ SqT K H1 a [u, v] ∧ ∀ p, H1 p = none → Q (.ref p) (upd H1 p (.tup [v, u]))
theorem pe_rev2 {e : Expr} {te : TE} {k : Nat} {p1 p2 p3 pos : Pos} (he : PE X e te) : PE X (.Subscript e (.Slice none none (some (.UnaryOp .USub (.Constant (.int 1) k p1) p2)) p3) pos) (tRev2 X.K te) := by
  refine ⟨fun pins s σ H Q I h => Subscript_ (thn (he.run pins s σ H _ I h) fun v s1 ⟨x, H1, I1, r1, q1⟩ => ?_)⟩
  obtain ⟨a, u, v', ex, hx, q⟩ := q1
  subst ex
  cases r1
  have st : PO X (some (.UnaryOp .USub (.Constant (.int 1) k p1) p2)) (tPart (tUn (rU fun i => .int (-i)) (tC (.int 1)))) := po_some (pe_un un_neg pe_int)
  refine wpAny_Slice (thn (po_none.run pins s1 σ H1 (fun o H2 => o = none ∧ H2 = H1) I1 ⟨rfl, rfl⟩) fun vl s2 ⟨l, H2, I2, pl, el, e2⟩ => ?_)
  subst el e2
  refine thn (po_none.run pins s2 σ H2 (fun o H3 => o = none ∧ H3 = H2) I2 ⟨rfl, rfl⟩) fun vu s3 ⟨u', H3, I3, pu, eu, e3⟩ => thn (st.run pins s3 σ H3 (fun o H4 => o = some (-1) ∧ H4 = H3) I3 ⟨1, rfl, -1, rfl, rfl, rfl⟩) fun vs s4 ⟨o, H4, I4, ps, eo, e4⟩ => ?_
  subst eu e3 eo e4
  have l0 : vl = .none := by cases pl; rfl
  have u0 : vu = .none := by cases pu; rfl
  subst l0 u0
  have I5 : L2.Inv X pins σ H4 { s4 with heap := s4.heap.push { cls := .type "slice", data := .fields #[.none, .none, vs] } } := I4.kept (t' := s4.toks) fun b ob q => Heap.get?_push_of_some _ q
  obtain ⟨its, r, ht, hz⟩ := I5.tuple hx
  cases r with
  | @cons _ w1 _ r' ru rr =>
    cases rr with
    | @cons _ w2 _ r'' rv rr2 =>
      cases rr2
      show wpAny (model X.prog X.w) X.A (subscriptTail e (.Slice none none (some (.UnaryOp .USub (.Constant (.int 1) k p1) p2)) p3) (.ref a) (.ref s4.heap.objs.size)) (EP X pins σ Q) X.xe { s4 with heap := s4.heap.push { cls := .type "slice", data := .fields #[.none, .none, vs] } }
      refine tail_any (ops := [.ref a, .ref s4.heap.objs.size]) ht.typeIs (PyProof.Rows.slot_tuple_getitem.lookup) ?_ (by with_unfolding_all rfl)
      refine DlV.item_rev2 ht (Heap.IsSliceOf.new _ .none .none vs) ps ?_
      refine ⟨.ref _, _, I5.laid (t' := s4.toks) (o := .tup [v', u]) (fun b ob q => Heap.get?_push_of_some _ q) (Nat.le_refl _) ?_, rfl, q _ (I5.hok.fresh (Nat.le_refl _))⟩
      exact ⟨show (2 : Nat) ≤ sizeLine from by decide, [w2, w1], .cons rv (.cons ru .nil), ⟨_, Heap.get?_push_size _ rfl, rfl, _, rfl⟩⟩
def dRev2 : D → Option D
  | .tup [x, y] => some (.tup [y, x])
  | _ => none
theorem d_rev2 {k : Nat} {p1 p2 p3 : Pos} (ha : PE X a (tS X.K X.mg W sa)) : PE X (.Subscript a (.Slice none none (some (.UnaryOp .USub (.Constant (.int 1) k p1) p2)) p3) pos) (tS X.K X.mg W (sUn dRev2 sa)) := by
  refine pe_imp (pe_rev2 ha) fun σ H Q ⟨ρ, F, z, v, e, fin⟩ => ?_
  refine part v e fin fun dx x F1 H1 _ e g v1 rx fin1 => ?_
  obtain ⟨ds, e', rfl⟩ := lift_some e
  unfold dRev2 at e'
  split at e'
  · cases e'
    cases rx with
    | tup h1 r1 =>
      cases r1 with
      | cons r2 r3 =>
        cases r3 with
        | cons r4 r5 =>
          cases r5
          exact ⟨_, _, _, rfl, v1.e.sqT h1, fun p hp => fin1 (.ref p) _ _ (.both v1.e hp) (.tup (.inl (.inl upd_same)) (.cons (r4.mo (.new (v1.e.none hp))) (.cons (r2.mo (.new (v1.e.none hp))) .nil)))⟩
  · cases e'
/-- xs[::-1] -/
def sRevL (a : Sx) : Sl := fun ρ => bd (a ρ) fun x => lift (match x with
  | .lst xs => some xs.reverse
  | _ => none)
theorem l_rev {k : Nat} {p1 p2 p3 : Pos} (ha : PE X a (tS X.K X.mg W sa)) : PE X (.Subscript a (.Slice none none (some (.UnaryOp .USub (.Constant (.int 1) k p1) p2)) p3) pos) (tL X.K X.mg W (sRevL sa)) := by
  refine pe_imp (pe_revL ha) fun σ H Q ⟨ρ, F, z, v, e, fin⟩ => ?_
  refine part v e fin fun dx x F1 H1 _ e g v1 rx fin1 => ?_
  obtain ⟨ds, e', rfl⟩ := lift_some e
  split at e'
  · cases e'
    cases rx with
    | lst h1 r1 => exact ⟨_, _, rfl, .inl (.inl (v1.e.k _ _ h1 rfl)), fun p hp => fin1 (.ref p) F1 _ (.only v1.e hp) ⟨p, _, rfl, hp, v1.e.none hp, upd_same, r1.reverse⟩⟩
  · cases e'
/-- a new dict, frozen as it is -/
def sOfD (g : Rho → Oe (List (Key × V))) : Sx := fun ρ => bd (g ρ) fun kvs => some (.ok (.dic kvs))
theorem d_ofD {e : Expr} {g : Rho → Oe (List (Key × V))} (h : PE X e (tK X.K X.mg W kD g)) : PE X e (tS X.K X.mg W (sOfD g)) := by
  refine pe_imp h fun σ H Q ⟨ρ, F, z, v, e, fin⟩ => ?_
  rcases bd_some e with ⟨kvs, ea, e⟩ | ⟨c, ea, rfl⟩
  · cases e
    refine ⟨ρ, F, .ok kvs, v, ea, fun b F1 H1 g ⟨p, eb, hp, f1, h1, fa⟩ => ?_⟩
    subst eb
    exact fin (.ref p) _ H1 (g.freeze hp f1 h1) (.dic upd_same fa)
  · exact ⟨ρ, F, .error c, v, ea, fin⟩
end
end Dl
/-! Dl16: defs called by value, try with one except clause, isinstance of what was caught, l.index. -/
namespace Dl
open PySem L2
abbrev Tb := List (Str × Nat × (List D → Oe D))
section
variable {X : Cx} {W : WX} {pos p : Pos} {a e : Expr} {es : List Expr} {sa : Sx} {sl : Sl} {k : Nat}
def TbOk (X : Cx) (k : Nat) (tb : Tb) : Prop := ∀ q, q ∈ tb → ∃ j, j ≤ k ∧ FnD X.prog X.w X.K X.mg X.base j q.1 q.2.1 q.2.2
theorem tb_nil : TbOk X k [] := fun _ h => nomatch h
theorem tb_cons {x : Str} {n j : Nat} {f : List D → Oe D} {tb : Tb} (G : FnD X.prog X.w X.K X.mg X.base j x n f) (hj : j ≤ k) (h : TbOk X k tb) : TbOk X k ((x, n, f) :: tb) := fun q hq => by
  rcases List.mem_cons.mp hq with rfl | hq
  · exact ⟨j, hj, G⟩
  · exact h q hq
theorem d_fnV {x : Str} {n j : Nat} {f : List D → Oe D} (G : FnD X.prog X.w X.K X.mg X.base j x n f) (hg : Gl X x := by rfl) (hd : (x == ("__debug__" : Str)) = false := by decide) : PE X (.Name x pos) (tS X.K X.mg W (sC (.fn x))) := by
  obtain ⟨fa, fd, ps, _, hm, _⟩ := G.ex
  exact d_fn hm hg hd
def callT (tb : Tb) (nm : Str) (sl : Sl) : Sx := fun ρ =>
  match tb.find? fun q => decide (q.1 = nm) with
  | some q => bd (sl ρ) fun ds => if ds.length = q.2.1 then q.2.2 ds else none
  | none => none
/-- f(..), f the value of an expression -/
def sCallV (tb : Tb) (a : Sx) (sl : Sl) : Sx := fun ρ => bd (a ρ) fun d =>
  match d with
  | .fn nm => callT tb nm sl ρ
  | _ => none
theorem d_callV {tb : Tb} (ht : TbOk X k tb) (hr : Room k X.A) (tk : Takes X W) (hf : PE X a (tS X.K X.mg W sa)) (ha : PA X (e :: es) (tA X.K X.mg W sl))
    (hc : eval (.Call a (e :: es) [] pos) X.env = (do callWith pos (← eval a X.env) [] (backTo pos (starEach (e :: es) X.env)) (backToKw pos (keywordEach [] X.env))) := by rfl)
    (he : starEach (e :: es) X.env = (false, eval e X.env) :: starEach es X.env := by rfl) (hpl : (backTo pos (starEach es X.env)).any (·.1) = false := by rfl) :
    PE X (.Call a (e :: es) [] pos) (tS X.K X.mg W (sCallV tb sa sl)) := by
  refine ⟨fun pins s σ H Q I ⟨ρ, F, z, v, ez, fin⟩ => ?_⟩
  refine PyProof.Rows.Call_ (thn (hf.run pins s σ H (fun x H1 => ∃ (F1 : Hp) (nm : Str), View X.K X.mg F1 H1 σ ρ ∧ Rep X.K X.mg F1 x (.fn nm) ∧ callT tb nm sl ρ = some z ∧ Fin X.mg W (kV X.K X.mg) F1 H1 σ z Q) I ?_) fun u s1 ⟨x, H1, I1, r1, F1, nm, v1, rx, ez, fin1⟩ => ?_) hc
  · refine part v ez fin fun df x F1 H1 _ e g v1 rx fin1 => ?_
    split at e
    · exact ⟨F1, _, v1, rx, e, fin1⟩
    · cases e
  · unfold callT at ez
    split at ez
    · rename_i q hq
      have hmem := List.mem_of_find?_eq_some hq
      have hnm : q.1 = nm := of_decide_eq_true (by simpa using List.find?_some hq)
      obtain ⟨j, hj, G⟩ := ht q hmem
      obtain ⟨fa, fd, ps, hF, hm, hk, hb⟩ := G.ex
      cases rx with
      | fn hm2 =>
        rw [hnm] at hm
        rw [hm] at hm2
        cases hm2
        cases r1
        refine PySem.W.callWith_K (h₀ := X.base) I1.ok.mod.kin hk (thn (ha.run pos pins s1 σ H1 (fun vs H2 => spOf X.K X.mg q.2.1 q.2.2 vs H2 Q (fun cls d H => W cls d σ H)) I1 ?_) fun us s2 ⟨vs, H2, I2, r, qq⟩ => ⟨I2.kIn, run_fnS hF (hr.mono hj) hb (passAt tk σ) I2 r qq⟩) he hpl
        refine part v1 ez fin1 fun ds xs F2 H2 _ e g v2 rs fin2 => ?_
        split at e
        · rename_i hn
          refine ⟨F2, ds, z, v2.e, v2.t, rs, hn, e, ?_⟩
          cases z with
          | ok d => exact fun u F3 H3 g2 r2 => fin2 u F3 H3 g2 r2
          | error c => exact fun C F3 H3 g2 hc => fin2 C F3 H3 g2 hc
        · cases e
    · cases ez
/-! ### try: body, except x as n: suite that hands back -/
def sTry (N : Nat) (b : Ss) (res : Str → Option D) : Ss := fun ρ => match b ρ with
  | some (.ex c ρ') => if ρ'.length = N then (res c).map Fl.rt else none
  | o => o
/-- what the module tells of an own exception c and the class x: an except clause for x takes c or not -/
structure Caught (K : PySem.W.Frag) (mg : Str → Option Value) (c x : Str) : Prop where
  ex : ∃ C P : Addr, mg c = some (.ref C) ∧ mg x = some (.ref P) ∧ PySem.W.exmOne K (.ref C) (.ref P) = some true
theorem s_try {i N : Nat} {n x : Str} {body suite : List Stmt} {b₀ : Stmt} {np pos' : Pos} {sb : Ss} {h : Str → Addr → Ss} {res : Str → Option D} (hN : X.N.Nodup) (tk : Takes X W) (hs : X.stack = X.env :: X.outer) (hf : X.env.frame = some X.env.locals)
    (hb : ∀ (W : WX) (pn : List (Addr × Obj)) (xe : Value → Shared → Prop), Takes (X.tr pn xe) W → PassesOwn (model X.prog X.w) X.A X.env xe → PSs (X.tr pn xe) body (tP X.K X.mg W sb))
    (hsu : ∀ (c : Str) (d : D), res c = some d → ∀ (a : Addr) (oe : Obj) (cls : Value) (pn : List (Addr × Obj)), X.mg c = some cls → Zc cls none oe → (∃ vs, oe.data = .fields vs) → PSs (X.suite a ((a, oe) :: pn)) (b₀ :: suite) (tP X.K X.mg W (h c a)))
    (hres : ∀ (c : Str) (d : D), res c = some d → ∀ (a : Addr) (ρ : Sig), ρ.length = N → h c a (ρ.set i (.dat (.exn a))) = some (.rt d))
    (hct : ∀ (c : Str) (d : D), res c = some d → Caught X.K X.mg c x) (hx : ∃ P : Addr, X.mg x = some (.ref P)) (hgx : Gl X x := by rfl) (hdx : (x == ("__debug__" : Str)) = false := by decide) (hi : X.N[i]? = some n := by rfl) (hln : X.env.kindOf n = some .local := by rfl) :
    PS X (.Try body [.ExceptHandler (some (.Name x np)) (some n) (b₀ :: suite) pos'] [] [] pos) (tP X.K X.mg W (sTry N sb res)) := by
  obtain ⟨P, hP⟩ := hx
  refine ps_imp (ps_try_as (c := .ref P) (i := i) (ts := fun a cls d D σ H => ∃ c d', res c = some d' ∧ X.mg c = some cls ∧ d = none ∧ tP X.K X.mg W (h c a) D σ H) (Wout := W) hs hf hN hi hln ⟨hgx, hdx, .inl hP⟩ tk hb ?_) fun D σ H hh => ?_
  · intro a oe cls d pn hz hv
    refine ⟨fun pins s σ H D I q => ?_⟩
    obtain ⟨c, d', hr, hm, rfl, q⟩ := q
    exact (hsu c d' hr a oe cls pn hm hz hv).run pins s σ H D I q
  · obtain ⟨F0, H0, ρ, F, fl, S, e, post⟩ := hh
    unfold sTry at e
    split at e
    · rename_i c ρ' eb
      split at e
      case isFalse => cases e
      rename_i hlen
      obtain ⟨d, hr, rfl⟩ := Option.map_eq_some_iff.mp e
      refine ⟨F0, H0, ρ, F, .ex c ρ', S, eb, fun C σ' F' H' S' eF hC => ?_⟩
      obtain ⟨C', P', hC', hP', hex⟩ := (hct c d hr).ex
      rw [hC] at hC'; cases hC'
      rw [hP] at hP'; cases hP'
      refine ⟨true, hex, fun _ a ha => ?_, fun z => nomatch z⟩
      refine ⟨c, d, hr, hC, rfl, F0, H0, ρ'.set i (.dat (.exn a)), F', .rt d, S'.set (.exn a), hres c d hr a ρ' hlen, fun v F2 H2 g r => post v F2 H2 g r⟩
    · rename_i hne
      refine ⟨F0, H0, ρ, F, fl, S, e, ?_⟩
      cases fl with
      | nx ρ' => exact post
      | bk ρ' => exact post
      | ct ρ' => exact post
      | rt d => exact post
      | ex c ρ' => exact (hne c ρ' e).elim
/-! ### isinstance(e, C), e what the clause holds -/
/-- is an error of the class c one of the class x? -/
structure IsE (K : PySem.W.Frag) (mg : Str → Option Value) (c x : Str) (b : Bool) : Prop where
  ex : ∃ C P : Addr, mg c = some (.ref C) ∧ mg x = some (.ref P) ∧ ExcC K C ∧ PySem.W.kitOne K (.ref C) (.ref P) = some b
def sIsE (i : Nat) (a : Addr) (b : Bool) : Sx := fun ρ => match (ρ[i]?).bind id with
  | some (.exn a') => if a' = a then some (.ok (.bl b)) else none
  | _ => none
theorem d_isE {i : Nat} {n x c : Str} {b : Bool} {av : Addr} {oe : Obj} {cls : Value} {pn : List (Addr × Obj)} {p1 p2 p3 : Pos} (h : IsE X.K X.mg c x b) (hm : X.mg c = some cls) (hz : Zc cls none oe) (hv : ∃ vs, oe.data = .fields vs) (hi' : X.mg "isinstance" = none) (hN : X.N[i]? = some n := by rfl)
    (hvis : Vis X.env.scope n := by first | exact Or.inl rfl | exact Or.inr (Or.inl rfl) | exact Or.inr (Or.inr rfl)) (hg : Gl X "isinstance" := by rfl) (hgx : Gl X x := by rfl) (hd : (n == ("__debug__" : Str)) = false := by decide) (hcd : (n == ("__classdict__" : Str)) = false := by decide) (hdx : (x == ("__debug__" : Str)) = false := by decide)
    (hb : bootBuiltins "isinstance" = some (.builtin "isinstance") := by decide +kernel)
    (h1 : starEach [.Name n p2, .Name x p3] X.env = (false, eval (.Name n p2) X.env) :: starEach [.Name x p3] X.env := by rfl) (h2 : starEach [.Name x p3] X.env = (false, eval (.Name x p3) X.env) :: starEach [] X.env := by rfl)
    (hpl : (backTo pos (starEach [.Name x p3] X.env)).any (·.1) = false := by rfl) :
    PE (X.suite av ((av, oe) :: pn)) (.Call (.Name "isinstance" p1) [.Name n p2, .Name x p3] [] pos) (tS X.K X.mg W (sIsE i av b)) := by
  obtain ⟨C, P, hC, hP, hE, hk⟩ := h.ex
  rw [hm] at hC
  cases hC
  have hgx' : PE (X.suite av ((av, oe) :: pn)) (.Name x p3) (tC (.ref P)) := pe_glob (v := .ref P) hgx hP rfl hdx
  refine pe_imp (pe_callB (call_isE hE hz hv) hg hi' hb (pa_cons (pe_var (i := i) hN hvis hd hcd) (pa_cons hgx' pa_nil h2) h1) (by decide) (by decide) h1 hpl) fun σ H Q ⟨ρ, F, z, v, e, fin⟩ => ?_
  unfold sIsE at e
  split at e
  · rename_i a' ha
    split at e
    · rename_i haa
      subst haa
      cases e
      have e2 : ρ[i]? = some (some (.exn a')) := by
        cases q : ρ[i]? with
        | none => rw [q] at ha; cases ha
        | some o => rw [q] at ha; exact congrArg some ha
      obtain ⟨u, e3, rp⟩ := v.v i _ e2
      cases rp
      exact ⟨.ref a', e3, .ref P, .ref P, b, rfl, fun u hu => hu, hk, fin (.bl b) F H (.refl v.e) (.bl b)⟩
    · cases e
  · cases e
end
/-! ### l.index(x) -/
section
variable {X : Cx} {W : WX} {pos : Pos} {a b : Expr} {sa sb : Sx}
theorem toPys_get : ∀ (ds : List D) (i : Nat), (toPys ds)[i]? = (ds[i]?).map toPy
  | [], i => by simp [toPys]
  | d :: ds, 0 => by simp [toPys]
  | d :: ds, i + 1 => by simp [toPys, toPys_get ds i]
theorem d_index {apos cpos : Pos} (hu : X.A.units + 65 < cLine) (ha : PE X a (tS X.K X.mg W sa)) (hb : PE X b (tS X.K X.mg W sb)) (hbase : attributeBase a "index" X.env (eval a X.env) = eval a X.env := by rfl)
    (hfew : ((backTo cpos (starEach [b] X.env)).all (fun x => !x.1) && (backToKw cpos (keywordEach [] X.env)).all (fun x => x.1.isSome)
      && decide (([b] : List Expr).length + ([] : List Keyword).length + (if ([] : List Keyword).isEmpty then 0 else 1) < 30)) = true := by rfl)
    (hline : (apos.endLine == cpos.line) = true := by rfl) (hs : starEach [b] X.env = (false, eval b X.env) :: starEach [] X.env := by rfl) (hplain : (backTo cpos (starEach [] X.env)).any (·.1) = false := by rfl) :
    PE X (.Call (.Attribute a "index" apos) [b] [] cpos) (tS X.K X.mg W (sLM dIndex sa sb)) := by
  refine pe_imp (pe_bm PySem.F.plainAttrs_list PySem.F.slot_list_index PySem.F.type_list_index (mt_indexD hu) ha (pa_cons hb pa_nil hs) hbase hfew hline hs hplain) fun σ H Q h => lm_reads (fun F H x y dx dy dz Q e rx ry hf q => ?_) h
  unfold dIndex at hf
  split at hf
  · rename_i ds
    split at hf
    · rename_i hok
      rw [Bool.and_eq_true] at hok
      obtain ⟨i, hi, rfl⟩ := Option.map_eq_some_iff.mp hf
      have okl : okN 10 (.lst ds) = true := hok.2
      cases rx with
      | @lst la lxs _ h1 r1 =>
        obtain ⟨hi1, hi2, hi3⟩ := List.findIdx?_eq_some_iff_getElem.mp hi
        have d1 : Dp X.K H (.ref la) (.list (toPys ds)) := Dp.mono e _ _ (Rep.dp 10 (.lst ds) _ okl (.lst h1 r1))
        have d2 : Dp X.K H y (toPy dy) := Dp.mono e _ _ (Rep.dp 9 dy _ hok.1 ry)
        have oka : ∀ d, d ∈ ds → okN 9 d = true := List.all_eq_true.mp hok.2
        refine ⟨la, y, toPy dy, toPys ds, i, toPy ds[i], rfl, rfl, d1, d2, ok_shaped (d := .lst ds) (n := 10) (by decide) okl, ok_shaped (n := 9) (by decide) hok.1, ?_, ?_, fun m z' hm hz => ?_, q _ F H (.refl e) (.int _)⟩
        · rw [toPys_get, List.getElem?_eq_getElem hi1]; rfl
        · rw [eqv_eqN 9 _ _ (oka _ (List.getElem_mem _)) hok.1]; exact hi2
        · rw [toPys_get] at hz
          obtain ⟨d', hd', rfl⟩ := Option.map_eq_some_iff.mp hz
          obtain ⟨hm1, hm2⟩ := List.getElem?_eq_some_iff.mp hd'
          rw [eqv_eqN 9 _ _ (oka _ (by rw [← hm2]; exact List.getElem_mem _)) hok.1]
          have := hi3 m hm
          rw [hm2] at this
          simpa using this
    · cases hf
  · cases hf
end
end Dl
/-! Dl17: min of a list of data, max of a list of numbers. -/
namespace DlM
open PySem PySem.W PySem.SeqAt
section
variable {prog : Program} {w : World} {A : Around} {E : Value → Shared → Prop} {s : Shared}
/-- min of a list of alike data: the item's place -/
theorem min_list_at {l : Addr} {vs : Array Value} {x : PyData} {xs : List PyData} {as : List Addr} {Q : Value → Shared → Prop} (hh : A.handled = none) (hl : s.heap.IsList l vs) (hr : ReadsAll s.heap vs.toList (x :: xs) as) (ha : AlikeAll (x :: xs)) (hu : A.units + 1 + PyData.depthAll (x :: xs) < cLine)
    (h : ∀ v h' tk, vs[argBest (fun i j => dataLt ((x :: xs).getD i .none) ((x :: xs).getD j .none)) xs.length]? = some v → (∀ b o, s.heap.get? b = some o → h'.get? b = some o) → Q v { s with heap := h', toks := tk }) :
    wpAny (model prog w) A (call (.builtin "min") [.ref l]) Q E s := by
  have hn : vs.size = xs.length + 1 := readsAll_len hr
  refine call_min_walkH (iter_listW (A := A.in1) hh hl fun s₂ e W st hfp hw hk => ?_)
  refine ⟨_, _, _, _, _, _, _, s.heap, _, rfl, W, st, hfp, by omega, hw, hk, cmpIn_lt (A := A.in1) hr ha (by show A.units + 1 + _ < _; exact hu), fun v s' hP m => ?_⟩
  obtain ⟨h', tk, rfl, hk'⟩ := moved_old e rfl m
  have e1 : vs.size - 1 = xs.length := by omega
  rw [e1] at hP
  exact h v h' tk hP hk'
end
end DlM
namespace Dl
open PySem L2
def ltD (a b : D) : Bool := PySem.W.dataLt (toPy a) (toPy b)
def alikeL (l : List D) : Bool := l.all (okN 9) && l.all (fun x => l.all fun y => PySem.W.alike (toPy x) (toPy y)) && l.all (fun x => !isN x)
def minL (d : D) (ds : List D) : D := ds.foldl (fun a y => if ltD y a then y else a) d
def dMinL : List D → Option D
  | [.lst (d :: ds)] => if alikeL (d :: ds) then some (minL d ds) else none
  | _ => none
theorem toPys_getD : ∀ (ds : List D) (i : Nat), (toPys ds).getD i .none = toPy (ds.getD i .non)
  | [], i => by simp [toPys, toPy]
  | d :: ds, 0 => by simp [toPys]
  | d :: ds, i + 1 => by simpa [toPys] using toPys_getD ds i
theorem mem_toPys : ∀ {ds : List D} {p : PyData}, p ∈ toPys ds → ∃ d, d ∈ ds ∧ p = toPy d
  | [], p, h => by simp [toPys] at h
  | d :: ds, p, h => by
    simp only [toPys, List.mem_cons] at h
    rcases h with rfl | h
    · exact ⟨d, List.mem_cons_self, rfl⟩
    · obtain ⟨e, h1, h2⟩ := mem_toPys h
      exact ⟨e, List.mem_cons_of_mem _ h1, h2⟩
theorem toPys_len : ∀ ds : List D, (toPys ds).length = ds.length
  | [] => rfl
  | d :: ds => by simp [toPys, toPys_len ds]
theorem toPy_none {d : D} (h : toPy d = .none) (o : okN 9 d = true) : isN d = true := by
  cases d <;> simp_all [toPy, isN, okN]
theorem depthAll_le {n : Nat} : ∀ {ds : List D}, ds.all (okN n) = true → PyData.depthAll (toPys ds) ≤ n
  | [], _ => by simp [toPys, PyData.depthAll]
  | d :: ds, h => by
    rw [List.all_cons, Bool.and_eq_true] at h
    have h1 := (ok_lay n d h.1).2
    have h2 := depthAll_le h.2
    simp only [toPys, PyData.depthAll]; omega
section
variable {X : Cx}
def rMinDt (K : PySem.W.Frag) : List V → Hp → VK → Prop := fun vs H Q => ∃ (a : Addr) (xs : List V) (p : PyData) (ps : List PyData), vs = [V.ref a] ∧ SqL K H a xs ∧ DpAll K H xs (p :: ps) ∧ PySem.W.AlikeAll (p :: ps) ∧ PyData.depthAll (p :: ps) ≤ 60 ∧
  ∀ v, xs[PySem.argBest (fun i j => PySem.W.dataLt ((p :: ps).getD i .none) ((p :: ps).getD j .none)) ps.length]? = some v → Q v H
theorem cr_minDt (hc : X.calm = true) (hu : X.A.units + 65 < cLine) : CallR X (.builtin "min") (rMinDt X.K) := by
  intro pins s σ H vs us Q I r h
  obtain ⟨a, xs, p, ps, rfl, hs, hd, ha, hz, q⟩ := h
  obtain ⟨its, rv, hl, _⟩ := I.list hs
  obtain ⟨as, hr⟩ := Dp.readsAll I _ _ its hd rv
  rw [Vals.ref1 r]
  refine DlM.min_list_at (I.ok.hd hc) hl.isList (by simpa using hr) ha (by omega) fun v h' tk hv hk => ?_
  have hv' : its[PySem.argBest (fun i j => PySem.W.dataLt ((p :: ps).getD i .none) ((p :: ps).getD j .none)) ps.length]? = some v := by simpa using hv
  have hlt : PySem.argBest (fun i j => PySem.W.dataLt ((p :: ps).getD i .none) ((p :: ps).getD j .none)) ps.length < xs.length := by
    rw [rv.length]; exact (List.getElem?_eq_some_iff.mp hv').1
  obtain ⟨u, hu1, hu2⟩ := rv.get (List.getElem?_eq_getElem hlt)
  rw [hv'] at hu1; cases hu1
  exact ⟨_, H, I.kept hk, hu2, q _ (List.getElem?_eq_getElem hlt)⟩
theorem c_minL {K : PySem.W.Frag} {mg : Str → Option Value} : CallN K mg (rMinDt K) dMinL := by
  intro F H xs ds dz Q e rs hf q
  unfold dMinL at hf
  split at hf
  · rename_i d l
    split at hf
    · rename_i hok
      cases hf
      unfold alikeL at hok
      simp only [Bool.and_eq_true] at hok
      obtain ⟨⟨h1, h2⟩, h3⟩ := hok
      obtain ⟨v, rfl, r⟩ := rs.one
      cases r with
      | @lst a ys _ hy ry =>
        refine ⟨a, ys, toPy d, toPys l, rfl, .inl (.inl (e.k _ _ hy rfl)), DpAll.mono e _ _ (RepAll.dp 9 (d :: l) _ (List.all_eq_true.mp h1) ry), ⟨fun x hx y hy => ?_, fun x hx => ?_⟩, ?_, fun v hv => ?_⟩
        · obtain ⟨x', hx1, rfl⟩ := mem_toPys (ds := d :: l) hx
          obtain ⟨y', hy1, rfl⟩ := mem_toPys (ds := d :: l) hy
          exact List.all_eq_true.mp (List.all_eq_true.mp h2 _ hx1) _ hy1
        · obtain ⟨x', hx1, rfl⟩ := mem_toPys (ds := d :: l) hx
          intro z
          have := toPy_none z (List.all_eq_true.mp h1 _ hx1)
          have h4 := List.all_eq_true.mp h3 _ hx1
          rw [this] at h4; cases h4
        · have := depthAll_le (ds := d :: l) h1
          exact Nat.le_trans this (by decide)
        · have key : (fun i j => PySem.W.dataLt ((toPy d :: toPys l).getD i .none) ((toPy d :: toPys l).getD j .none)) = fun i j => ltD ((d :: l).getD i .non) ((d :: l).getD j .non) := by
            funext i j
            have h1 := toPys_getD (d :: l) i
            have h2 := toPys_getD (d :: l) j
            simp only [toPys] at h1 h2
            rw [h1, h2]; rfl
          rw [key, toPys_len] at hv
          obtain ⟨_, e2⟩ := PySem.W.argBest_fold ltD D.non d l l.length (Nat.le_refl _)
          rw [List.take_length] at e2
          obtain ⟨d', hd', rd⟩ := ry.get' hv
          have : d' = minL d l := by
            unfold minL
            rw [← e2, List.getD_eq_getElem?_getD, hd']; rfl
          subst this
          exact q v F H (.refl e) rd
    · cases hf
  · cases hf
/-- the list's items, all whole numbers -/
def intsOf : List D → Option (List Int)
  | [] => some []
  | .int i :: ds => (intsOf ds).map (i :: ·)
  | _ => none
theorem ints_rep {K : PySem.W.Frag} {mg : Str → Option Value} {F : Hp} : ∀ {ds : List D} {xs : List V} {ns : List Int}, RepAll K mg F xs ds → intsOf ds = some ns → xs = ns.map V.int
  | [], xs, ns, r, h => by cases r; cases h; rfl
  | d :: ds, xs, ns, r, h => by
    cases r with
    | cons r1 r2 =>
      cases d <;> simp only [intsOf, reduceCtorEq, Option.map_eq_some_iff] at h
      obtain ⟨ms, h1, rfl⟩ := h
      cases r1
      rw [ints_rep r2 h1]; rfl
def dMaxL : List D → Option D
  | [.lst ds] => match intsOf ds with
    | some (n :: ns) => some (.int (ns.foldl max n))
    | _ => none
  | _ => none
theorem foldl_max_mem : ∀ (ns : List Int) (n : Int), ns.foldl max n ∈ n :: ns ∧ ∀ y, y ∈ n :: ns → y ≤ ns.foldl max n
  | [], n => by simp
  | m :: ns, n => by
    obtain ⟨h1, h2⟩ := foldl_max_mem ns (max n m)
    rw [List.foldl_cons]
    refine ⟨?_, fun y hy => ?_⟩
    · rcases List.mem_cons.mp h1 with e | e
      · rw [e]
        by_cases h : n ≤ m
        · rw [Int.max_eq_right h]; simp
        · rw [Int.max_eq_left (by omega)]; simp
      · simp [e]
    · have := h2 (max n m) List.mem_cons_self
      rcases List.mem_cons.mp hy with rfl | hy
      · omega
      · rcases List.mem_cons.mp hy with rfl | hy
        · omega
        · exact h2 y (List.mem_cons_of_mem _ hy)
theorem c_maxL {K : PySem.W.Frag} {mg : Str → Option Value} : CallN K mg (rMax K) dMaxL := by
  intro F H xs ds dz Q e rs hf q
  unfold dMaxL at hf
  split at hf
  · rename_i l
    split at hf
    · rename_i n ns hn
      cases hf
      obtain ⟨v, rfl, r⟩ := rs.one
      cases r with
      | @lst a ys _ hy ry =>
        rw [ints_rep ry hn] at hy
        refine ⟨a, n :: ns, rfl, .inl (.inl (e.k _ _ hy rfl)), Nat.succ_pos _, fun m h1 h2 => ?_⟩
        obtain ⟨g1, g2⟩ := foldl_max_mem ns n
        have : m = ns.foldl max n := Int.le_antisymm (g2 m h1) (h2 _ g1)
        subst this
        exact q _ F H (.refl e) (.int _)
    · cases hf
  · cases hf
end
end Dl
/-! Dl18: l.count(x) of data. -/
namespace Dl
open PySem L2
section
variable {X : Cx} {W : WX} {pos : Pos} {a b : Expr} {sa sb : Sx}
def rCntD (K : PySem.W.Frag) : V → List V → Hp → VK → Prop := fun x xs H Q => ∃ (a : Addr) (y : V) (d : PyData) (ds : List PyData), x = V.ref a ∧ xs = [y] ∧ Dp K H (V.ref a) (.list ds) ∧ Dp K H y d ∧
  SeqAt.shaped (.list ds) = true ∧ SeqAt.shaped d = true ∧ Q (.int (ds.countP fun z => PyData.eqv z d : Nat)) H
theorem mt_countD (hu : X.A.units + 65 < cLine) : MtR X "list.count" (rCntD X.K) := by
  intro pins s σ H x xs v us Q I rx rxs h
  obtain ⟨a, y, d, ds, rfl, rfl, hl, hy, sl, sd, q⟩ := h
  cases rx
  cases rxs with
  | cons ry rt =>
    rename_i uy ut
    cases rt
    obtain ⟨bs, r1⟩ := Dp.reads I d y uy hy ry
    have hxs : PyData.canLayAll0 ds = true := SeqAt.canLay_of_shaped sl
    have hroom : X.A.units + 1 + min (PyData.depthAll ds) d.depth < cLine := PyProof.Rows.room_in_shaped sd hu
    cases hl with
    | lst hs ha =>
      obtain ⟨its, rv, ⟨⟨cls, dd, data, sls⟩, n, ho, hc, hdn, hdt⟩, hlen⟩ := I.list hs
      simp only at hc hdt
      subst hc hdt
      obtain ⟨as, h4⟩ := Dp.readsAll I ds _ its ha rv
      have hmap : its.map (SeqAt.readOf s.heap) = ds := SeqAt.readsAll_map ds its as hxs h4
      refine call_meets PySem.F.slot_list_count ⟨_, ho, rfl⟩ PySem.F.entry_list_count (PySem.F.args_list_count_2 _ _)
        (SeqAt.list_countAt a its.toArray n dd sls uy (fun u => PyData.eqv (SeqAt.readOf s.heap u) d)) ⟨ho, SeqAt.items_eqAt (vs := its.toArray) (show ReadsAll s.heap its.toArray.toList ds as from h4) r1 hxs (SeqAt.canLay_of_shaped sd) hroom, ?_⟩
      have ec : its.toArray.toList.countP (fun u => PyData.eqv (SeqAt.readOf s.heap u) d) = ds.countP fun z => PyData.eqv z d := by
        rw [← hmap, List.countP_map]; rfl
      refine ⟨.int (ds.countP fun z => PyData.eqv z d : Nat), H, I.tok _, ⟨s.toks, ?_⟩, q⟩
      show Value.int ((its.toArray.toList.countP _ : Nat) : Int) s.toks = _
      rw [ec]
def dCountN : D → D → Option D
  | .lst ds, x => if okN 9 x && ds.all (okN 9) then some (.int (ds.countP fun y => eqN 9 y x : Nat)) else none
  | _, _ => none
theorem countP_toPys {x : D} (hx : okN 9 x = true) : ∀ ds : List D, ds.all (okN 9) = true → (toPys ds).countP (fun z => PyData.eqv z (toPy x)) = ds.countP fun y => eqN 9 y x
  | [], _ => rfl
  | d :: ds, h => by
    rw [List.all_cons, Bool.and_eq_true] at h
    simp only [toPys, List.countP_cons]
    rw [countP_toPys hx ds h.2, eqv_eqN 9 d x h.1 hx]
theorem d_countN {apos cpos : Pos} (hu : X.A.units + 65 < cLine) (ha : PE X a (tS X.K X.mg W sa)) (hb : PE X b (tS X.K X.mg W sb)) (hbase : attributeBase a "count" X.env (eval a X.env) = eval a X.env := by rfl)
    (hfew : ((backTo cpos (starEach [b] X.env)).all (fun x => !x.1) && (backToKw cpos (keywordEach [] X.env)).all (fun x => x.1.isSome)
      && decide (([b] : List Expr).length + ([] : List Keyword).length + (if ([] : List Keyword).isEmpty then 0 else 1) < 30)) = true := by rfl)
    (hline : (apos.endLine == cpos.line) = true := by rfl) (hs : starEach [b] X.env = (false, eval b X.env) :: starEach [] X.env := by rfl) (hplain : (backTo cpos (starEach [] X.env)).any (·.1) = false := by rfl) :
    PE X (.Call (.Attribute a "count" apos) [b] [] cpos) (tS X.K X.mg W (sLM dCountN sa sb)) := by
  refine pe_imp (pe_bm PySem.F.plainAttrs_list PySem.F.slot_list_count PySem.F.type_list_count (mt_countD hu) ha (pa_cons hb pa_nil hs) hbase hfew hline hs hplain) fun σ H Q h => lm_reads (fun F H x y dx dy dz Q e rx ry hf q => ?_) h
  unfold dCountN at hf
  split at hf
  · rename_i ds
    split at hf
    · rename_i hok
      rw [Bool.and_eq_true] at hok
      cases hf
      have okl : okN 10 (.lst ds) = true := hok.2
      cases rx with
      | @lst la lxs _ h1 r1 =>
        have d1 : Dp X.K H (.ref la) (.list (toPys ds)) := Dp.mono e _ _ (Rep.dp 10 (.lst ds) _ okl (.lst h1 r1))
        have d2 : Dp X.K H y (toPy dy) := Dp.mono e _ _ (Rep.dp 9 dy _ hok.1 ry)
        refine ⟨la, y, toPy dy, toPys ds, rfl, rfl, d1, d2, ok_shaped (d := .lst ds) (n := 10) (by decide) okl, ok_shaped (n := 9) (by decide) hok.1, ?_⟩
        rw [countP_toPys hok.1 ds hok.2]
        exact q _ F H (.refl e) (.int _)
    · cases hf
  · cases hf
end
end Dl
/-! Dl19: sorted of a list or a tuple of numbers or texts. -/
namespace DlO
open PySem PySem.Spec PyProof.Rows
section
variable {prog : Program} {w : World} {A : Around} {E : Value → Shared → Prop} {s : Shared}
/-- sorted(x), x a tuple or a list of numbers -/
theorem sorted_int {l : Addr} {T : String} {o : Obj} {items : Array Value} {n : Nat} {ns : List Int} {Q : Value → Shared → Prop} (hT : T = "list" ∨ T = "tuple") (ho : s.heap.get? l = some o) (hc : o.cls = .type T) (hd : o.data = .seq items n) (hS : IntsAre items.toList ns) (hL : items.size ≤ sizeLine)
    (h : ∀ (h' : Heap) (p : Addr) (out : Array Value) (ns' : List Int) (e : Nat), IntsAre out.toList ns' → ns'.Perm ns → ns'.Pairwise (· ≤ ·) → s.heap.objs.size ≤ p → (∀ b o', s.heap.get? b = some o' → h'.get? b = some o') → h'.get? p = some (seqObj "list" out e) → Q (.ref p) { s with heap := h' }) :
    wpAny (model prog w) A (call (.builtin "sorted") [.ref l]) Q E s := by
  refine Calls.call_function_entry kind_sorted plain_sorted entry_sorted (args_sorted1 _) ?_
  unfold Builtin.«sorted»
  refine wpAny_bind (m := checkCount "sorted" 1 1 _) (wpAny_pure (wpAny_bind (items_of hT ho hc hd hL (wpAny_bind (wpAny_newList ?_)))))
  have sz : ((s.heap.push (seqObj "list" #[] 0)).update s.heap.objs.size (Obj.mapSeq (· ++ items))).objs.size = s.heap.objs.size + 1 := by rw [Heap.size_update, size_push']
  have hk : ∀ b o', s.heap.get? b = some o' → ((s.heap.push (seqObj "list" #[] 0)).update s.heap.objs.size (Obj.mapSeq (· ++ items))).get? b = some o' := fun b o' hb => by
    rw [Heap.get?_update_ne _ _ _ _ (Nat.ne_of_lt (Heap.lt_size hb))]
    exact Heap.get?_push_of_some _ hb
  generalize ((s.heap.push (seqObj "list" #[] 0)).update s.heap.objs.size (Obj.mapSeq (· ++ items))) = h1 at sz hk
  have hoL : (h1.push (seqObj "list" items.toList.toArray 0)).get? h1.objs.size = some (seqObj "list" items.toList.toArray 0) := Heap.get?_push_size _ rfl
  have hlen : items.toList.length ≤ sizeLine := by rw [Array.length_toList]; exact hL
  show wpAny _ _ _ _ _ { s with heap := h1.push (seqObj "list" items.toList.toArray 0) }
  refine wpAny_bind (wpAny_holding (wpAny_call_entry slot_list_sort ⟨_, hoL, rfl⟩ entry_list_sort (list_sort_treeKAny intKind_oneLt hoL hS.keysOfInt (fun v₁ v₂ rest e => keyKind_ints (by rw [← e]; exact hS)) hlen fun st' a1 a2 => ⟨_, rfl, ?_⟩) (args_list_sort _)))
  obtain ⟨ns', h1', h2', h3'⟩ := sorted_out hS a1 (sortedTo_of_int a2)
  obtain ⟨e, he⟩ := sortedHeap_at (out := (arrOf st').map (·.2)) hoL
  refine wpAny_pure ⟨_, rfl, h _ _ _ ns' e h1' h2' h3' (show s.heap.objs.size ≤ h1.objs.size by omega) (fun b o' hb => ?_) he⟩
  have hb1 := hk b o' hb
  have hlt : b < h1.objs.size := Heap.lt_size hb1
  rw [sortedHeap_old (Nat.ne_of_lt hlt) (by rw [size_push']; exact Nat.lt_succ_of_lt hlt), Heap.get?_push_ne _ _ _ (Nat.ne_of_lt hlt)]
  exact hb1
end
def insI (x : Int) : List Int → List Int
  | [] => [x]
  | y :: l => if y < x then y :: insI x l else x :: y :: l
def isortI (l : List Int) : List Int := l.foldr insI []
theorem insI_perm (x : Int) : ∀ l, (insI x l).Perm (x :: l)
  | [] => .refl _
  | y :: l => by
    unfold insI
    split
    · exact (List.Perm.cons y (insI_perm x l)).trans (List.Perm.swap _ _ _)
    · exact .refl _
theorem isortI_perm : ∀ l, (isortI l).Perm l
  | [] => .refl _
  | x :: l => (insI_perm x (isortI l)).trans (.cons x (isortI_perm l))
theorem insI_pw (x : Int) : ∀ l : List Int, l.Pairwise (· ≤ ·) → (insI x l).Pairwise (· ≤ ·)
  | [], _ => by simp [insI]
  | y :: l, h => by
    have h' := List.pairwise_cons.mp h
    unfold insI
    split
    · rename_i q
      refine List.pairwise_cons.mpr ⟨fun z hz => ?_, insI_pw x l h'.2⟩
      rcases List.mem_cons.mp ((insI_perm x l).mem_iff.mp hz) with rfl | hz
      · omega
      · exact h'.1 z hz
    · rename_i q
      refine List.pairwise_cons.mpr ⟨fun z hz => ?_, h⟩
      rcases List.mem_cons.mp hz with rfl | hz
      · omega
      · have := h'.1 z hz
        omega
theorem isortI_pw : ∀ l : List Int, (isortI l).Pairwise (· ≤ ·)
  | [] => .nil
  | x :: l => insI_pw x _ (isortI_pw l)
theorem sortedI_unique {l l' : List Int} (h : l'.Perm l) (hs : l'.Pairwise (· ≤ ·)) : l' = isortI l :=
  List.Perm.eq_of_pairwise (fun a b _ _ h1 h2 => Int.le_antisymm h1 h2) hs (isortI_pw l) (h.trans (isortI_perm l).symm)
end DlO
namespace Dl
open PySem L2
section
variable {X : Cx} {W : WX} {pos : Pos} {a b : Expr} {sa sb : Sx}
def rSortI (K : PySem.W.Frag) : List V → Hp → VK → Prop := fun vs H Q => ∃ (a : Addr) (xs : List Int), vs = [V.ref a] ∧ (SqL K H a (xs.map V.int) ∨ SqT K H a (xs.map V.int)) ∧
  ∀ (p : Addr), H p = none → Q (.ref p) (upd H p (.lst ((DlO.isortI xs).map V.int)))
theorem vals_of_ints : ∀ {us : List Value} {ns : List Int}, PyProof.Rows.IntsAre us ns → Vals (ns.map V.int) us
  | _, _, .nil => .nil
  | _, _, .cons n t h => .cons ⟨t, rfl⟩ (vals_of_ints h)
theorem cr_sortI : CallR X (.builtin "sorted") (rSortI X.K) := by
  intro pins s σ H vs us Q I r h
  obtain ⟨a, xs, rfl, hs, q⟩ := h
  rw [Vals.ref1 r]
  have go : ∀ {T : String} {o : Obj} {its : List Value} {n : Nat}, (T = "list" ∨ T = "tuple") → s.heap.get? a = some o → o.cls = .type T → o.data = .seq its.toArray n → its.length ≤ sizeLine → PyProof.Rows.IntsAre its xs → wpAny (model X.prog X.w) X.A (call (.builtin "sorted") [.ref a]) (EP X pins σ Q) X.xe s := fun {T o its n} hT ho hc hd hz hS => by
    refine DlO.sorted_int hT ho hc hd (by simpa using hS) (by rw [List.size_toArray]; exact hz) fun h' p out ss' e h1 h2 h3 hp hk hat => ?_
    have e1 := DlO.sortedI_unique h2 h3
    subst e1
    have hxl : xs.length = its.length := (vals_of_ints hS).length ▸ (List.length_map _).symm
    have hlen : ((DlO.isortI xs).map V.int).length ≤ sizeLine := by rw [List.length_map, h2.length_eq, hxl]; exact hz
    exact ⟨.ref p, upd H p (.lst ((DlO.isortI xs).map V.int)), I.laid (t' := s.toks) (fun b o e => hk b o e) hp ⟨hlen, out.toList, e, vals_of_ints h1, hat⟩, rfl, q p (I.hok.fresh hp)⟩
  rcases hs with hs | hs
  · obtain ⟨its, rv, ⟨o, n, ho, hc, hdn, hd⟩, hl⟩ := I.list hs
    exact go (.inl rfl) ho hc hd (by have := rv.length; rw [List.length_map] at this; rw [← this]; simpa using hl) rv.ints
  · obtain ⟨its, rv, tl, hl⟩ := I.tuple hs
    obtain ⟨o, ho, hc, n, hd⟩ := tl
    exact go (.inr rfl) ho hc hd (by have := rv.length; rw [List.length_map] at this; rw [← this]; simpa using hl) rv.ints
theorem CallR.or {f : Value} {r r' : List V → Hp → VK → Prop} (h : CallR X f r) (h' : CallR X f r') : CallR X f (fun vs H Q => r vs H Q ∨ r' vs H Q) := fun pins s σ H vs us Q I rv q => by
  rcases q with q | q
  · exact h pins s σ H vs us Q I rv q
  · exact h' pins s σ H vs us Q I rv q
def sort2 (ds : List D) : Option (List D) := match strsOf ds with
  | some xs => some ((DlO.isortS xs).map D.str)
  | none => (intsOf ds).map fun xs => (DlO.isortI xs).map D.int
def dSorted2 : D → Option (List D)
  | .lst ds => sort2 ds
  | .tup ds => sort2 ds
  | _ => none
def sSorted2 (a : Sx) : Sl := fun ρ => bd (a ρ) fun x => lift (dSorted2 x)
theorem l_sorted2 {p : Pos} (hm : X.mg "sorted" = none) (ha : PE X a (tS X.K X.mg W sa)) (hg : Gl X "sorted" := by rfl) (hv : bootBuiltins "sorted" = some (.builtin "sorted") := by decide +kernel)
    (he : starEach [a] X.env = (false, eval a X.env) :: starEach [] X.env := by rfl) (hpl : (backTo pos (starEach [] X.env)).any (·.1) = false := by rfl) : PE X (.Call (.Name "sorted" p) [a] [] pos) (tL X.K X.mg W (sSorted2 sa)) := by
  refine pe_imp (pe_callB (cr_sortT2.or cr_sortI) hg hm hv (pa_cons ha pa_nil he) (by decide) (by decide) he hpl) fun σ H Q ⟨ρ, F, z, v, e, fin⟩ => ?_
  refine part v e fin fun dx x F1 H1 _ e g v1 rx fin1 => ?_
  obtain ⟨ds, e', rfl⟩ := lift_some e
  have key : ∀ (a1 : Addr) (ys : List V) (es : List D), RepAll X.K X.mg F1 ys es → sort2 es = some ds → (SqL X.K H1 a1 ys ∨ SqT X.K H1 a1 ys) → rSortT X.K [V.ref a1] H1 Q ∨ rSortI X.K [V.ref a1] H1 Q := fun a1 ys es r1 e1 hs => by
    unfold sort2 at e1
    split at e1
    · rename_i xs hx
      cases e1
      rw [strs_rep r1 hx] at hs
      exact .inl ⟨_, xs, rfl, hs, fun p hp => fin1 (.ref p) F1 _ (.only v1.e hp) ⟨p, _, rfl, hp, v1.e.none hp, upd_same, strs_all _⟩⟩
    · obtain ⟨xs, hx, rfl⟩ := Option.map_eq_some_iff.mp e1
      rw [ints_rep r1 hx] at hs
      exact .inr ⟨_, xs, rfl, hs, fun p hp => fin1 (.ref p) F1 _ (.only v1.e hp) ⟨p, _, rfl, hp, v1.e.none hp, upd_same, RepAll.ints _⟩⟩
  unfold dSorted2 at e'
  split at e'
  · cases rx with
    | lst h1 r1 => exact key _ _ _ r1 e' (.inl (.inl (.inl (v1.e.k _ _ h1 rfl))))
  · cases rx with
    | tup h1 r1 => exact key _ _ _ r1 e' (.inr (v1.e.sqT h1))
  · cases e'
end
end Dl
/-! Dl20: zip of three lists of one length. -/
namespace DlZ
open PySem PySem.Spec PyProof.Rows
theorem typeCall_zip_3 (a b c : Value) : checkTypeCall "zip" ⟨[a, b, c], []⟩ = pure () := by kernel_rfl
theorem newCall_zip_3 (a b c : Value) : checkBuiltinCall "zip.__new__" ⟨[.type "zip", a, b, c], []⟩ = pure () := by kernel_rfl
theorem args_object_init_4 (a b c d : Value) : argsOk "object.__init__" ⟨[a, b, c, d], []⟩ := by
  unfold argsOk; rw [signature?_of (id := "object.__init__") (n := ['_', '_', 't', 'i', 'n', 'i', '_', '_']) (o := ['t', 'c', 'e', 'j', 'b', 'o']) (by kernel_rfl) F.owner_object]; kernel_rfl
abbrev IsTri (h : Heap) (T : Addr) (a b c : Value) : Prop := h.get? T = some { cls := .type "tuple", data := .seq #[a, b, c] }
structure Ap3 (z TI TO i1 i2 i3 l1 l2 l3 : Addr) : Prop where
  TIz : TI ≠ z
  TOz : TO ≠ z
  i1z : i1 ≠ z
  i2z : i2 ≠ z
  i3z : i3 ≠ z
  TITO : TI ≠ TO
  TIi1 : TI ≠ i1
  TIi2 : TI ≠ i2
  TIi3 : TI ≠ i3
  TOi1 : TO ≠ i1
  TOi2 : TO ≠ i2
  TOi3 : TO ≠ i3
  i12 : i1 ≠ i2
  i13 : i1 ≠ i3
  i23 : i2 ≠ i3
  l1 : ∀ c, c ∈ [z, TO, i1, i2, i3] → l1 ≠ c
  l2 : ∀ c, c ∈ [z, TO, i1, i2, i3] → l2 ≠ c
  l3 : ∀ c, c ∈ [z, TO, i1, i2, i3] → l3 ≠ c
section
variable {prog : Program} {w : World} {A : Around} {E : Value → Shared → Prop} {s : Shared}
theorem wpAny_updateSeq_tri {T : Addr} {a b c x : Value} {k : Nat} {Q : Unit → Shared → Prop} (hT : IsTri s.heap T a b c)
    (h : ∀ h', h'.get? T = some { cls := .type "tuple", data := .seq ((#[a, b, c] : Array Value).setIfInBounds k x) } → Heap.SameBut T s.heap h' → Q () { s with heap := h' }) :
    wpAny (model prog w) A (updateSeq T (·.setIfInBounds k x)) Q E s := by
  refine wpAny_updateSeq hT rfl (h _ ?_ (Heap.SameBut.update ..))
  rw [Heap.get?_update_self _ hT rfl]
  simp [Obj.mapSeq]
/-- what stands at an address that no step touches -/
theorem zip3_item {z TI TO i1 i2 i3 l1 l2 l3 : Addr} {k : Nat} {xs ys ws : Array Value} {x y w1 a b c : Value} {Q : Value → Shared → Prop} (D : Ap3 z TI TO i1 i2 i3 l1 l2 l3)
    (hz : IsZip s.heap z TI TO .none) (hTI : IsTri s.heap TI (.ref i1) (.ref i2) (.ref i3)) (hTO : IsTri s.heap TO a b c)
    (h1 : s.heap.IsListIter i1 l1 k) (h2 : s.heap.IsListIter i2 l2 k) (h3 : s.heap.IsListIter i3 l3 k) (hl1 : s.heap.IsList l1 xs) (hl2 : s.heap.IsList l2 ys) (hl3 : s.heap.IsList l3 ws) (hx : xs[k]? = some x) (hy : ys[k]? = some y) (hw : ws[k]? = some w1)
    (hQ : ∀ h', IsZip h' z TI TO (rawInt s.heap.objs.size) → IsTri h' TO x y w1 → h'.IsListIter i1 l1 (k + 1) → h'.IsListIter i2 l2 (k + 1) → h'.IsListIter i3 l3 (k + 1) → IsTri h' s.heap.objs.size x y w1 → h'.objs.size = s.heap.objs.size + 1 →
      (∀ c o, c ≠ z → c ≠ TO → c ≠ i1 → c ≠ i2 → c ≠ i3 → s.heap.get? c = some o → h'.get? c = some o) → Q (.ref s.heap.objs.size) { s with heap := h' }) :
    wpAny (model prog w) A (Builtin.«zip.__next__» ⟨[.ref z], []⟩) (fun fin s' => ∃ v, fin = .done (.ret v) ∧ Q v s') E s := by
  show wpAny _ _ (field (.ref z) 2 >>= _) _ _ _
  refine wpAny_bind (wpAny_field hz rfl (x := .bool false) rfl ?_)
  show wpAny _ _ (field (.ref z) 3 >>= _) _ _ _
  refine wpAny_bind (wpAny_field hz rfl (x := .ref TI) rfl ?_)
  refine wpAny_bind (wpAny_seqItems hTI rfl ?_)
  show wpAny _ _ (Builtin.SmallTypes.ownedTupleIsFree (.ref z) >>= _) _ _ _
  refine wpAny_bind ?_
  unfold Builtin.SmallTypes.ownedTupleIsFree
  refine wpAny_bind (wpAny_field hz rfl (x := .none) rfl (wpAny_pure ?_))
  simp only [if_true]
  refine wpAny_bind (wpAny_rule ?_)
  refine wpAny_bind (wpAny_field hz rfl (x := .ref TO) rfl ?_)
  refine wpAny_bind (wpAny_setField_rec hz (by simp) fun h₁ hz₁ hs₁ => ?_)
  replace hz₁ : IsZip h₁ z TI TO .ellipsis := hz₁
  refine wpAny_bind ?_
  simp only [List.zipIdx_cons, List.zipIdx_nil, List.forIn_cons, List.forIn_nil]
  have nz : ∀ {c o}, c ≠ z → s.heap.get? c = some o → h₁.get? c = some o := fun n e => hs₁.extBut _ _ n e

  refine wpAny_bind (wpAny_bind (wpAny_onRaise ?_))
  show wpAny _ _ (Builtin.SmallTypes.nextOf (.ref i1) >>= _) _ _ _
  refine wpAny_bind (wpAny_nextOf_list_item (h1.at fun o e => nz D.i1z e) (hl1.at fun o e => nz (D.l1 z (by simp)) e) hx fun h₂ h1₂ hs₂ => wpAny_pure ?_)
  have n2 : ∀ {c o}, c ≠ z → c ≠ i1 → s.heap.get? c = some o → h₂.get? c = some o := fun n m e => hs₂.extBut _ _ m (nz n e)
  have hTO₂ : IsTri h₂ TO a b c := n2 D.TOz D.TOi1 hTO
  refine wpAny_bind (wpAny_seqItems hTO₂ rfl ?_)
  refine wpAny_bind (wpAny_updateSeq_tri hTO₂ fun h₃ hTO₃ hs₃ => ?_)
  replace hTO₃ : IsTri h₃ TO x b c := hTO₃
  have n3 : ∀ {c o}, c ≠ z → c ≠ i1 → c ≠ TO → s.heap.get? c = some o → h₃.get? c = some o := fun n m q e => hs₃.extBut _ _ q (n2 n m e)
  refine wpAny_bind (wpAny_letGo (wpAny_pure ?_))

  refine wpAny_bind (wpAny_bind (wpAny_onRaise ?_))
  show wpAny _ _ (Builtin.SmallTypes.nextOf (.ref i2) >>= _) _ _ _
  refine wpAny_bind (wpAny_nextOf_list_item (h2.at fun o e => n3 D.i2z D.i12.symm D.TOi2.symm e) (hl2.at fun o e => n3 (D.l2 z (by simp)) (D.l2 i1 (by simp)) (D.l2 TO (by simp)) e) hy fun h₄ h2₄ hs₄ => wpAny_pure ?_)
  have n4 : ∀ {c o}, c ≠ z → c ≠ i1 → c ≠ TO → c ≠ i2 → s.heap.get? c = some o → h₄.get? c = some o := fun n m q r e => hs₄.extBut _ _ r (n3 n m q e)
  have hTO₄ : IsTri h₄ TO x b c := hs₄.extBut _ _ D.TOi2 hTO₃
  refine wpAny_bind (wpAny_seqItems hTO₄ rfl ?_)
  refine wpAny_bind (wpAny_updateSeq_tri hTO₄ fun h₅ hTO₅ hs₅ => ?_)
  replace hTO₅ : IsTri h₅ TO x y c := hTO₅
  have n5 : ∀ {c o}, c ≠ z → c ≠ i1 → c ≠ TO → c ≠ i2 → s.heap.get? c = some o → h₅.get? c = some o := fun n m q r e => hs₅.extBut _ _ q (n4 n m q r e)
  refine wpAny_bind (wpAny_letGo (wpAny_pure ?_))

  refine wpAny_bind (wpAny_bind (wpAny_onRaise ?_))
  show wpAny _ _ (Builtin.SmallTypes.nextOf (.ref i3) >>= _) _ _ _
  refine wpAny_bind (wpAny_nextOf_list_item (h3.at fun o e => n5 D.i3z D.i13.symm D.TOi3.symm D.i23.symm e) (hl3.at fun o e => n5 (D.l3 z (by simp)) (D.l3 i1 (by simp)) (D.l3 TO (by simp)) (D.l3 i2 (by simp)) e) hw fun h₆ h3₆ hs₆ => wpAny_pure ?_)
  have hTO₆ : IsTri h₆ TO x y c := hs₆.extBut _ _ D.TOi3 hTO₅
  refine wpAny_bind (wpAny_seqItems hTO₆ rfl ?_)
  refine wpAny_bind (wpAny_updateSeq_tri hTO₆ fun h₇ hTO₇ hs₇ => ?_)
  replace hTO₇ : IsTri h₇ TO x y w1 := hTO₇
  refine wpAny_bind (wpAny_letGo (wpAny_pure (wpAny_pure ?_)))

  refine wpAny_bind (wpAny_seqItems hTO₇ rfl ?_)
  refine wpAny_bind (wpAny_newTuple ?_)
  have hsz : h₇.objs.size = s.heap.objs.size := by rw [hs₇.1, hs₆.1, hs₅.1, hs₄.1, hs₃.1, hs₂.1, hs₁.1]
  have hz₇ : IsZip h₇ z TI TO .ellipsis := hs₇.extBut _ _ D.TOz.symm (hs₆.extBut _ _ D.i3z.symm (hs₅.extBut _ _ D.TOz.symm (hs₄.extBut _ _ D.i2z.symm (hs₃.extBut _ _ D.TOz.symm (hs₂.extBut _ _ D.i1z.symm hz₁)))))
  have hk₇ : ∀ c o, c ≠ z → c ≠ TO → c ≠ i1 → c ≠ i2 → c ≠ i3 → s.heap.get? c = some o → h₇.get? c = some o := fun c o c1 c2 c3 c4 c5 e =>
    hs₇.extBut _ _ c2 (hs₆.extBut _ _ c5 (n5 c1 c3 c2 c4 e))
  have h1₇ : h₇.IsListIter i1 l1 (k + 1) := h1₂.at fun o e => hs₇.extBut _ _ D.TOi1.symm (hs₆.extBut _ _ D.i13 (hs₅.extBut _ _ D.TOi1.symm (hs₄.extBut _ _ D.i12 (hs₃.extBut _ _ D.TOi1.symm e))))
  have h2₇ : h₇.IsListIter i2 l2 (k + 1) := h2₄.at fun o e => hs₇.extBut _ _ D.TOi2.symm (hs₆.extBut _ _ D.i23 (hs₅.extBut _ _ D.TOi2.symm e))
  have h3₇ : h₇.IsListIter i3 l3 (k + 1) := h3₆.at fun o e => hs₇.extBut _ _ D.TOi3.symm e
  have hzlt : z < h₇.objs.size := Heap.lt_size hz₇
  show wpAny _ _ (Builtin.SmallTypes.ownedTupleHandOut (.ref z) (.ref h₇.objs.size) >>= _) _ _ _
  refine wpAny_bind ?_
  unfold Builtin.SmallTypes.ownedTupleHandOut
  have hz₈ : IsZip (h₇.push { cls := .type "tuple", data := .seq #[x, y, w1] }) z TI TO .ellipsis := Heap.get?_push_of_some _ hz₇
  refine wpAny_bind (wpAny_setField_rec hz₈ (by simp) fun h₉ hz₉ hs₉ => ?_)
  replace hz₉ : IsZip h₉ z TI TO (rawInt h₇.objs.size) := hz₉
  refine wpAny_setField_rec hz₉ (by simp) fun h₁₀ hz₁₀ hs₁₀ => ?_
  replace hz₁₀ : IsZip h₁₀ z TI TO (rawInt h₇.objs.size) := hz₁₀
  have up : ∀ c o, c ≠ z → h₇.get? c = some o → h₁₀.get? c = some o := fun c o c1 e => hs₁₀.extBut _ _ c1 (hs₉.extBut _ _ c1 (Heap.get?_push_of_some _ e))
  have hT₈ : IsTri h₁₀ h₇.objs.size x y w1 := hs₁₀.extBut _ _ (Nat.ne_of_gt hzlt) (hs₉.extBut _ _ (Nat.ne_of_gt hzlt) (Heap.get?_push_size _ rfl))
  have hz8 : h₁₀.objs.size = h₇.objs.size + 1 := by rw [hs₁₀.1, hs₉.1, Heap.size_push]
  rw [hsz] at hz₁₀ hT₈ hz8
  refine wpAny_pure ⟨_, rfl, ?_⟩
  show Q (.ref h₇.objs.size) _
  rw [hsz]
  exact hQ h₁₀ hz₁₀ (up _ _ D.TOz hTO₇) (h1₇.at fun o e => up _ o D.i1z e) (h2₇.at fun o e => up _ o D.i2z e) (h3₇.at fun o e => up _ o D.i3z e) hT₈ hz8 fun c o c1 c2 c3 c4 c5 e => up c o c1 (hk₇ c o c1 c2 c3 c4 c5 e)
theorem zip3_end {z TI TO i1 i2 i3 l1 l2 l3 : Addr} {k : Nat} {xs : Array Value} {a b c : Value} {Q : Fin → Shared → Prop} (hh : A.handled = none) (D : Ap3 z TI TO i1 i2 i3 l1 l2 l3)
    (hz : IsZip s.heap z TI TO .none) (hTI : IsTri s.heap TI (.ref i1) (.ref i2) (.ref i3)) (hTO : IsTri s.heap TO a b c)
    (h1 : s.heap.IsListIter i1 l1 k) (hl1 : s.heap.IsList l1 xs) (hx : xs[k]? = none)
    (hE : ∀ h' e, (∀ c o, c ≠ z → c ≠ i1 → s.heap.get? c = some o → h'.get? c = some o) → (∃ o, h'.get? e = some o ∧ o.cls = .type "StopIteration") → E (.ref e) { s with heap := h' }) :
    wpAny (model prog w) A (Builtin.«zip.__next__» ⟨[.ref z], []⟩) Q E s := by
  show wpAny _ _ (field (.ref z) 2 >>= _) _ _ _
  refine wpAny_bind (wpAny_field hz rfl (x := .bool false) rfl ?_)
  show wpAny _ _ (field (.ref z) 3 >>= _) _ _ _
  refine wpAny_bind (wpAny_field hz rfl (x := .ref TI) rfl ?_)
  refine wpAny_bind (wpAny_seqItems hTI rfl ?_)
  show wpAny _ _ (Builtin.SmallTypes.ownedTupleIsFree (.ref z) >>= _) _ _ _
  refine wpAny_bind ?_
  unfold Builtin.SmallTypes.ownedTupleIsFree
  refine wpAny_bind (wpAny_field hz rfl (x := .none) rfl (wpAny_pure ?_))
  simp only [if_true]
  refine wpAny_bind (wpAny_rule ?_)
  refine wpAny_bind (wpAny_field hz rfl (x := .ref TO) rfl ?_)
  refine wpAny_bind (wpAny_setField_rec hz (by simp) fun h₁ hz₁ hs₁ => ?_)
  replace hz₁ : IsZip h₁ z TI TO .ellipsis := hz₁
  refine wpAny_bind ?_
  simp only [List.zipIdx_cons, List.zipIdx_nil, List.forIn_cons, List.forIn_nil]
  refine wpAny_bind (wpAny_bind (wpAny_onRaise ?_))
  show wpAny _ _ (Builtin.SmallTypes.nextOf (.ref i1) >>= _) _ _ _
  refine wpAny_bind (wpAny_nextOf_list_end hh (h1.at fun o e => hs₁.extBut _ _ D.i1z e) (hl1.at fun o e => hs₁.extBut _ _ (D.l1 z (by simp)) e) hx fun h₂ e hs₂ he => ?_)
  obtain ⟨oe, hoe, hce⟩ := he
  have hz₂ : IsZip h₂ z TI TO .ellipsis := hs₂ _ _ D.i1z.symm hz₁
  have hez : e ≠ z := fun x => by subst x; rw [hz₂] at hoe; cases hoe; simp at hce
  refine wpAny_setField_rec hz₂ (by simp) fun h₃ _ hs₃ => hE h₃ e (fun c o c1 c3 x => hs₃.extBut _ _ c1 (hs₂ _ _ c3 (hs₁.extBut _ _ c1 x))) ⟨oe, hs₃.extBut _ _ hez hoe, hce⟩
theorem pyNext_zip3_item {z TI TO i1 i2 i3 l1 l2 l3 : Addr} {k : Nat} {xs ys ws : Array Value} {x y w1 a b c : Value} {Q : Option Value → Shared → Prop} (D : Ap3 z TI TO i1 i2 i3 l1 l2 l3)
    (hz : IsZip s.heap z TI TO .none) (hTI : IsTri s.heap TI (.ref i1) (.ref i2) (.ref i3)) (hTO : IsTri s.heap TO a b c)
    (h1 : s.heap.IsListIter i1 l1 k) (h2 : s.heap.IsListIter i2 l2 k) (h3 : s.heap.IsListIter i3 l3 k) (hl1 : s.heap.IsList l1 xs) (hl2 : s.heap.IsList l2 ys) (hl3 : s.heap.IsList l3 ws) (hx : xs[k]? = some x) (hy : ys[k]? = some y) (hw : ws[k]? = some w1)
    (hQ : ∀ h', IsZip h' z TI TO (rawInt s.heap.objs.size) → IsTri h' TO x y w1 → h'.IsListIter i1 l1 (k + 1) → h'.IsListIter i2 l2 (k + 1) → h'.IsListIter i3 l3 (k + 1) → IsTri h' s.heap.objs.size x y w1 → h'.objs.size = s.heap.objs.size + 1 →
      (∀ c o, c ≠ z → c ≠ TO → c ≠ i1 → c ≠ i2 → c ≠ i3 → s.heap.get? c = some o → h'.get? c = some o) → Q (some (.ref s.heap.objs.size)) { s with heap := h' }) :
    wpAny (model prog w) A (pyNext (.ref z)) Q E s := by
  have hT : s.TypeIs (.ref z) "zip" := ⟨_, hz, rfl⟩
  unfold pyNext
  exact wpAny_bind (wpAny_attempt (wpAny_callSpecial?_slot (name := Str.ofString "__next__") hT F.slot_zip_next
    (wpAny_call_entry F.slot_zip_next hT F.entry_zip_next
      (zip3_item D hz hTI hTO h1 h2 h3 hl1 hl2 hl3 hx hy hw fun h' a1 a2 a3 a4 a5 a6 a7 a8 => wpAny_pure (hQ h' a1 a2 a3 a4 a5 a6 a7 a8)) (F.args_zip_next_1 _))))
theorem pyNext_zip3_end {z TI TO i1 i2 i3 l1 l2 l3 : Addr} {k : Nat} {xs : Array Value} {a b c : Value} {Q : Option Value → Shared → Prop} (hh : A.handled = none) (D : Ap3 z TI TO i1 i2 i3 l1 l2 l3)
    (hz : IsZip s.heap z TI TO .none) (hTI : IsTri s.heap TI (.ref i1) (.ref i2) (.ref i3)) (hTO : IsTri s.heap TO a b c)
    (h1 : s.heap.IsListIter i1 l1 k) (hl1 : s.heap.IsList l1 xs) (hx : xs[k]? = none)
    (hQ : ∀ h', (∀ c o, c ≠ z → c ≠ i1 → s.heap.get? c = some o → h'.get? c = some o) → Q none { s with heap := h' }) : wpAny (model prog w) A (pyNext (.ref z)) Q E s := by
  have hT : s.TypeIs (.ref z) "zip" := ⟨_, hz, rfl⟩
  unfold pyNext
  refine wpAny_bind (wpAny_attempt (wpAny_callSpecial?_slot (name := Str.ofString "__next__") hT F.slot_zip_next
    (wpAny_call_entry F.slot_zip_next hT F.entry_zip_next (zip3_end hh D hz hTI hTO h1 hl1 hx fun h' e hk he => ?_) (F.args_zip_next_1 _))))
  obtain ⟨o, ho, hc⟩ := he
  refine wpAny_bind (wpAny_isInstance (T := "StopIteration") (b := true) ⟨o, ho, hc⟩ isSubtype_stop ?_)
  exact wpAny_pure (hQ _ hk)
end
abbrev zA (h : Heap) (l1 : Addr) : Heap := h.push { cls := .type "list_iterator", data := .fields #[.ref l1, .int 0 0] }
abbrev zB (h : Heap) (l1 l2 : Addr) : Heap := (zA h l1).push { cls := .type "list_iterator", data := .fields #[.ref l2, .int 0 0] }
abbrev zC (h : Heap) (l1 l2 l3 : Addr) : Heap := (zB h l1 l2).push { cls := .type "list_iterator", data := .fields #[.ref l3, .int 0 0] }
abbrev zD (h : Heap) (l1 l2 l3 : Addr) : Heap := (zC h l1 l2 l3).push { cls := .type "tuple", data := .seq #[.ref h.objs.size, .ref (zA h l1).objs.size, .ref (zB h l1 l2).objs.size] }
abbrev zE (h : Heap) (l1 l2 l3 : Addr) : Heap := (zD h l1 l2 l3).push { cls := .type "tuple", data := .seq #[.none, .none, .none] }
abbrev zF (h : Heap) (l1 l2 l3 : Addr) : Heap := (zE h l1 l2 l3).push { cls := .type "zip", data := .fields #[.none, .bool false, .bool false, .ref (zC h l1 l2 l3).objs.size, .ref (zD h l1 l2 l3).objs.size] }
theorem meets_zip3_new (l1 l2 l3 : Addr) (xs ys ws : Array Value) :
    Meets (Builtin.«zip.__new__» ⟨[.type "zip", .ref l1, .ref l2, .ref l3], []⟩) (fun _ R s => s.heap.IsList l1 xs ∧ s.heap.IsList l2 ys ∧ s.heap.IsList l3 ws ∧
      R (.ok (.ret (.ref (zE s.heap l1 l2 l3).objs.size))) { s with heap := zF s.heap l1 l2 l3 }) :=
  .of_wp fun prog w A R s h => by
    obtain ⟨hp, g, d, tk, os⟩ := s; obtain ⟨hl1, hl2, hl3, h⟩ := h
    have hsub := sub_zip
    have hL1 : Heap.IsList (Shared.heap ⟨hp, g, d, tk, os⟩) l1 xs := hl1
    have hL2 : Heap.IsList (Shared.heap ⟨hp.push { cls := .type "list_iterator", data := .fields #[.ref l1, .int 0 0] }, g, d, tk, os⟩) l2 ys := Heap.IsList.push hl2 _
    have hL3 : Heap.IsList (Shared.heap ⟨(hp.push { cls := .type "list_iterator", data := .fields #[.ref l1, .int 0 0] }).push { cls := .type "list_iterator", data := .fields #[.ref l2, .int 0 0] }, g, d, tk, os⟩) l3 ws := Heap.IsList.push (Heap.IsList.push hl3 _) _
    wp_walk using wpAny_pyIter_list hL1, wpAny_pyIter_list hL2, wpAny_pyIter_list hL3
    exact ⟨_, rfl, h⟩
section
variable {prog : Program} {w : World} {A : Around} {E : Value → Shared → Prop} {s : Shared}
theorem call_zip_3 {l1 l2 l3 : Addr} {xs ys ws : Array Value} {Q : Value → Shared → Prop} (hl1 : s.heap.IsList l1 xs) (hl2 : s.heap.IsList l2 ys) (hl3 : s.heap.IsList l3 ws)
    (h : ∀ h', IsZip h' (s.heap.objs.size + 5) (s.heap.objs.size + 3) (s.heap.objs.size + 4) .none → IsTri h' (s.heap.objs.size + 3) (.ref s.heap.objs.size) (.ref (s.heap.objs.size + 1)) (.ref (s.heap.objs.size + 2)) →
      IsTri h' (s.heap.objs.size + 4) .none .none .none → h'.IsListIter s.heap.objs.size l1 0 → h'.IsListIter (s.heap.objs.size + 1) l2 0 → h'.IsListIter (s.heap.objs.size + 2) l3 0 → 
      (∀ c o, s.heap.get? c = some o → h'.get? c = some o) → Q (.ref (s.heap.objs.size + 5)) { s with heap := h' }) :
    wpAny (model prog w) A (call (.type "zip") [.ref l1, .ref l2, .ref l3]) Q E s := by
  refine callType_new F.called_zip (by decide) (typeCall_zip_3 _ _ _) (newCall_zip_3 _ _ _) (fun obj => args_object_init_4 obj _ _ _) F.entry_zip_new
    (meets_zip3_new l1 l2 l3 xs ys ws) ⟨hl1, hl2, hl3, ?_⟩
  have z1 : (zA s.heap l1).objs.size = s.heap.objs.size + 1 := Heap.size_push ..
  have z2 : (zB s.heap l1 l2).objs.size = s.heap.objs.size + 2 := by rw [Heap.size_push, z1]
  have z3 : (zC s.heap l1 l2 l3).objs.size = s.heap.objs.size + 3 := by rw [Heap.size_push, z2]
  have z4 : (zD s.heap l1 l2 l3).objs.size = s.heap.objs.size + 4 := by rw [Heap.size_push, z3]
  have z5 : (zE s.heap l1 l2 l3).objs.size = s.heap.objs.size + 5 := by rw [Heap.size_push, z4]
  have up1 : ∀ {c o}, (zE s.heap l1 l2 l3).get? c = some o → (zF s.heap l1 l2 l3).get? c = some o := fun e => Heap.get?_push_of_some _ e
  have up2 : ∀ {c o}, (zD s.heap l1 l2 l3).get? c = some o → (zF s.heap l1 l2 l3).get? c = some o := fun e => up1 (Heap.get?_push_of_some _ e)
  have up3 : ∀ {c o}, (zC s.heap l1 l2 l3).get? c = some o → (zF s.heap l1 l2 l3).get? c = some o := fun e => up2 (Heap.get?_push_of_some _ e)
  have up4 : ∀ {c o}, (zB s.heap l1 l2).get? c = some o → (zF s.heap l1 l2 l3).get? c = some o := fun e => up3 (Heap.get?_push_of_some _ e)
  have up5 : ∀ {c o}, (zA s.heap l1).get? c = some o → (zF s.heap l1 l2 l3).get? c = some o := fun e => up4 (Heap.get?_push_of_some _ e)
  have g6 : (zF s.heap l1 l2 l3).get? (zE s.heap l1 l2 l3).objs.size = some _ := Heap.get?_push_size _ rfl
  have g5 : (zF s.heap l1 l2 l3).get? (zD s.heap l1 l2 l3).objs.size = some _ := up1 (Heap.get?_push_size _ rfl)
  have g4 : (zF s.heap l1 l2 l3).get? (zC s.heap l1 l2 l3).objs.size = some _ := up2 (Heap.get?_push_size _ rfl)
  have g3 : (zF s.heap l1 l2 l3).get? (zB s.heap l1 l2).objs.size = some _ := up3 (Heap.get?_push_size _ rfl)
  have g2 : (zF s.heap l1 l2 l3).get? (zA s.heap l1).objs.size = some _ := up4 (Heap.get?_push_size _ rfl)
  have g1 : (zF s.heap l1 l2 l3).get? s.heap.objs.size = some _ := up5 (Heap.get?_push_size _ rfl)
  show _ ∧ _
  rw [z3, z4, z5] at g6
  rw [z4] at g5
  rw [z1, z2, z3] at g4
  rw [z2] at g3
  rw [z1] at g2
  rw [z5]
  exact ⟨⟨_, g6, rfl⟩, h _ g6 g4 g5 ⟨_, g1, rfl, rfl⟩ ⟨_, g2, rfl, rfl⟩ ⟨_, g3, rfl, rfl⟩ fun c o x => up5 (Heap.get?_push_of_some _ x)⟩
end
theorem nN {a b : Nat} (h : a < b ∨ b < a) : @Ne Addr a b := fun e => by
  have e : (a : Nat) = b := e
  omega
theorem ap3_new (I l1 l2 l3 : Nat) (h1 : l1 < I) (h2 : l2 < I) (h3 : l3 < I) : Ap3 (I + 5) (I + 3) (I + 4) I (I + 1) (I + 2) l1 l2 l3 := by
  have far : ∀ {l : Nat}, l < I → ∀ c : Nat, c ∈ ([I + 5, I + 4, I, I + 1, I + 2] : List Nat) → l < c ∨ c < l := fun hl c hc => by
    simp only [List.mem_cons, List.not_mem_nil, or_false] at hc
    omega
  exact ⟨nN (by omega), nN (by omega), nN (by omega), nN (by omega), nN (by omega), nN (by omega), nN (by omega), nN (by omega), nN (by omega), nN (by omega), nN (by omega), nN (by omega), nN (by omega), nN (by omega), nN (by omega), fun c hc => nN (far h1 c hc), fun c hc => nN (far h2 c hc), fun c hc => nN (far h3 c hc)⟩
end DlZ
namespace Dl
open PySem L2 PySem.Spec PyProof.Rows DlZ
/-- three lists as they stand at each turn, the items in new tuples -/
def Itz3 (K : PySem.W.Frag) (a b c : Addr) : It :=
  ⟨fun i H => ∃ (xs ys ws : List V) (x y w : V), SqL K H a xs ∧ SqL K H b ys ∧ SqL K H c ws ∧ xs[i]? = some x ∧ ys[i]? = some y ∧ ws[i]? = some w,
    fun i H v H' => ∃ T x y w, v = .ref T ∧ H T = none ∧ H' = upd H T (.tup [x, y, w]) ∧ (∀ xs, SqL K H a xs → xs[i]? = some x) ∧ (∀ ys, SqL K H b ys → ys[i]? = some y) ∧ ∀ ws, SqL K H c ws → ws[i]? = some w,
    fun i H => ∃ xs : List V, SqL K H a xs ∧ xs.length ≤ i⟩
theorem turn_zip3 {P : Program} {w : World} {K : PySem.W.Frag} {elts : List Expr} {kk : Nat} {tpos : Pos} {a b c z TI TO i1 i2 i3 : Addr} (D : Ap3 z TI TO i1 i2 i3 a b c) :
    Turn P w K (.Tuple elts kk tpos) (Itz3 K a b c) [z, TI, TO, i1, i2, i3] z (fun i h => IsZip h z TI TO .none ∧ IsTri h TI (.ref i1) (.ref i2) (.ref i3) ∧ (∃ x y w, IsTri h TO x y w) ∧ h.IsListIter i1 a i ∧ h.IsListIter i2 b i ∧ h.IsListIter i3 c i) where
  mem := by simp
  obj := fun i h st q hq => by
    obtain ⟨hz, hTI, ⟨x, y, w, hTO⟩, ⟨o1, e1, _, d1⟩, ⟨o2, e2, _, d2⟩, ⟨o3, e3, _, d3⟩⟩ := st
    have e' : q = z ∨ q = TI ∨ q = TO ∨ q = i1 ∨ q = i2 ∨ q = i3 := by simpa using hq
    rcases e' with q | q | q | q | q | q
    · rw [q]; exact ⟨_, hz, fun v q => nomatch q⟩
    · rw [q]; exact ⟨_, hTI, fun v q => nomatch q⟩
    · rw [q]; exact ⟨_, hTO, fun v q => nomatch q⟩
    · rw [q]; exact ⟨o1, e1, fun v q => by rw [d1] at q; cases q⟩
    · rw [q]; exact ⟨o2, e2, fun v q => by rw [d2] at q; cases q⟩
    · rw [q]; exact ⟨o3, e3, fun v q => by rw [d3] at q; cases q⟩
  keep := fun i h h' st k => by
    obtain ⟨hz, hTI, ⟨x, y, w, hTO⟩, h1, h2, h3⟩ := st
    exact ⟨k z (by simp) _ hz, k TI (by simp) _ hTI, ⟨x, y, w, k TO (by simp) _ hTO⟩, h1.at fun o q => k i1 (by simp) o q, h2.at fun o q => k i2 (by simp) o q, h3.at fun o q => k i3 (by simp) o q⟩
  item := by
    intro X hP hw hK hc i pins s σ H E I hf st hg
    subst hP hw hK
    obtain ⟨hz, hTI, ⟨x0, y0, w0, hTO⟩, h1, h2, h3⟩ := st
    obtain ⟨xs, ys, ws, x, y, w, hqx, hqy, hqw, hx, hy, hw⟩ := hg
    obtain ⟨its, rv, p, _⟩ := I.list hqx
    obtain ⟨its2, rv2, p2, _⟩ := I.list hqy
    obtain ⟨its3, rv3, p3, _⟩ := I.list hqw
    obtain ⟨u, hu, ru⟩ := rv.get hx
    obtain ⟨u2, hu2, ru2⟩ := rv2.get hy
    obtain ⟨u3, hu3, ru3⟩ := rv3.get hw
    have hzl : z < s.heap.objs.size := Heap.lt_size hz
    refine pyNext_zip3_item D hz hTI hTO h1 h2 h3 p.isList p2.isList p3.isList (x := u) (y := u2) (w1 := u3) (by simpa using hu) (by simpa using hu2) (by simpa using hu3) fun h' z' TO' h1' h2' h3' hT hsz hk => ?_
    refine ⟨_, rfl, wpAny_letOwnedTupleGo_zip (s := { s with heap := h' }) z' fun h'' z'' sb => ?_⟩
    have hT2 : h''.get? s.heap.objs.size = some { cls := .type "tuple", data := .seq #[u, u2, u3] } := (sb.2 _ (Nat.ne_of_gt hzl)).trans hT
    have new : ObjOk X.prog X.w (upd H s.heap.objs.size (.tup [x, y, w])) h'' s.heap.objs.size (.tup [x, y, w]) :=
      ⟨by show 3 ≤ sizeLine; decide, [u, u2, u3], .cons ru (.cons ru2 (.cons ru3 .nil)), ⟨_, hT2, rfl, _, rfl⟩⟩
    have I1 : Inv X pins σ (upd H s.heap.objs.size (.tup [x, y, w])) { s with heap := h'' } :=
      I.turnedNew (t' := s.toks) (ch := [z, TI, TO, i1, i2, i3]) (fun c o hb q => (sb.2 c (fun q' => hb (by simp [q']))).trans (hk c o (fun q' => hb (by simp [q'])) (fun q' => hb (by simp [q'])) (fun q' => hb (by simp [q'])) (fun q' => hb (by simp [q'])) (fun q' => hb (by simp [q'])) q)) hf (Nat.le_refl _) new
    refine ⟨.ref s.heap.objs.size, _, I1, rfl, ⟨_, x, y, w, rfl, I.hok.fresh (Nat.le_refl _), rfl, fun l hl => by rw [I.list_inj hl hqx]; exact hx, fun l hl => by rw [I.list_inj hl hqy]; exact hy, fun l hl => by rw [I.list_inj hl hqw]; exact hw⟩, ⟨z'', ?_, ⟨u, u2, u3, ?_⟩, ?_, ?_, ?_⟩, fun q hqm => ?_⟩
    · exact (sb.2 _ D.TIz).trans (hk _ _ D.TIz D.TITO D.TIi1 D.TIi2 D.TIi3 hTI)
    · exact (sb.2 _ D.TOz).trans TO'
    · exact h1'.at fun o q => (sb.2 _ D.i1z).trans q
    · exact h2'.at fun o q => (sb.2 _ D.i2z).trans q
    · exact h3'.at fun o q => (sb.2 _ D.i3z).trans q
    · have hlt : q < s.heap.objs.size := by
        have e' : q = z ∨ q = TI ∨ q = TO ∨ q = i1 ∨ q = i2 ∨ q = i3 := by simpa using hqm
        rcases e' with q | q | q | q | q | q
        · rw [q]; exact hzl
        · rw [q]; exact Heap.lt_size hTI
        · rw [q]; exact Heap.lt_size hTO
        · rw [q]; obtain ⟨_, e1, _⟩ := h1; exact Heap.lt_size e1
        · rw [q]; obtain ⟨_, e2, _⟩ := h2; exact Heap.lt_size e2
        · rw [q]; obtain ⟨_, e3, _⟩ := h3; exact Heap.lt_size e3
      rw [upd_ne (Nat.ne_of_lt hlt)]
      exact (hf q hqm).1
  done := by
    intro X hP hw hK hc i pins s σ H E I hf st hg
    subst hP hw hK
    obtain ⟨hz, hTI, ⟨x0, y0, w0, hTO⟩, h1, h2, h3⟩ := st
    obtain ⟨xs, hqx, hend⟩ := hg
    obtain ⟨its, rv, p, _⟩ := I.list hqx
    have l1 := rv.length
    exact pyNext_zip3_end (I.ok.hd hc) D hz hTI hTO h1 p.isList (by simp; omega) fun h' hk => ⟨rfl, I.turnedL (t' := s.toks) (ch := [z, TI, TO, i1, i2, i3]) (fun c o hb q =>
      hk c o (fun q' => hb (by simp [q'])) (fun q' => hb (by simp [q'])) q) hf⟩
  self := fun A i s Q E st h => wpAny_pyIter_zip st.1 h
def iZip3 (K : PySem.W.Frag) (ta : TA) : TI := fun σ H R => ta σ H fun vs H1 => ∃ a b c xs ys ws, vs = [.ref a, .ref b, .ref c] ∧ SqL K H1 a xs ∧ SqL K H1 b ys ∧ SqL K H1 c ws ∧ R (Itz3 K a b c) H1
theorem pi_zip3 {X : Cx} {e e2 e3 : Expr} {ta : TA} {p pos tpos : Pos} {elts : List Expr} {kk : Nat} (hg : Gl X "zip") (hm : X.mg "zip" = none) (ha : PA X [e, e2, e3] ta)
    (hs : starEach [e, e2, e3] X.env = (false, eval e X.env) :: starEach [e2, e3] X.env := by rfl) (hpl : (backTo pos (starEach [e2, e3] X.env)).any (·.1) = false := by rfl) :
    PI X (.Tuple elts kk tpos) (.Call (.Name "zip" p) [e, e2, e3] [] pos) (iZip3 X.K ta) := by
  refine ⟨fun pins s σ H R I h => ?_⟩
  refine Call_ (ld_blt I hg hm PyProof.Rows.boot_zip (PyProof.Rows.callWith_type1 (thn (ha.run pos pins s σ H _ I h) fun us s1 ⟨vs, H1, I1, r1, q1⟩ => ?_) hs hpl))
  obtain ⟨a, b, c, xs, ys, ws, ex, hqx, hqy, hqw, q⟩ := q1
  subst ex
  cases r1 with
  | cons r rr =>
    cases rr with
    | cons r' rr =>
      cases rr with
      | cons r'' rr =>
        cases rr
        cases r
        cases r'
        cases r''
        obtain ⟨its, rv, p1, _⟩ := I1.list hqx
        obtain ⟨its2, rv2, p2, _⟩ := I1.list hqy
        obtain ⟨its3, rv3, p3, _⟩ := I1.list hqw
        refine call_zip_3 p1.isList p2.isList p3.isList fun h' hz hTI hTO h1 h2 h3 hk => wpAny_pyIter_zip hz ?_
        have I2 : Inv X pins σ H1 { s1 with heap := h' } := I1.kept (t' := s1.toks) hk
        refine ⟨s1.heap.objs.size + 5, [s1.heap.objs.size + 5, s1.heap.objs.size + 3, s1.heap.objs.size + 4, s1.heap.objs.size, s1.heap.objs.size + 1, s1.heap.objs.size + 2], _, _, H1, rfl, I2, turn_zip3 (ap3_new s1.heap.objs.size a b c p1.lt p2.lt p3.lt), ⟨hz, hTI, ⟨_, _, _, hTO⟩, h1, h2, h3⟩, fun c hcm => ?_, q⟩
        have e' : c = s1.heap.objs.size + 5 ∨ c = s1.heap.objs.size + 3 ∨ c = s1.heap.objs.size + 4 ∨ c = s1.heap.objs.size ∨ c = s1.heap.objs.size + 1 ∨ c = s1.heap.objs.size + 2 := by simpa using hcm
        have hle : s1.heap.objs.size ≤ c := by
          rcases e' with z | z | z | z | z | z
          · rw [z]; exact Nat.le_add_right _ _
          · rw [z]; exact Nat.le_add_right _ _
          · rw [z]; exact Nat.le_add_right _ _
          · rw [z]; exact Nat.le_refl _
          · rw [z]; exact Nat.le_add_right _ _
          · rw [z]; exact Nat.le_add_right _ _
        exact I1.fpOk hle (I1.hok.fresh hle)
/-- what zip of three yields -/
def zip3D : List D → List D → List D → List D
  | x :: xs, y :: ys, w :: ws => .tup [x, y, w] :: zip3D xs ys ws
  | _, _, _ => []
theorem zip3D_get : ∀ (xs ys ws : List D) (i : Nat) (d : D), (zip3D xs ys ws)[i]? = some d → ∃ x y w, xs[i]? = some x ∧ ys[i]? = some y ∧ ws[i]? = some w ∧ d = .tup [x, y, w]
  | x :: xs, y :: ys, w :: ws, 0, d, h => ⟨x, y, w, rfl, rfl, rfl, by simpa [zip3D] using h.symm⟩
  | x :: xs, y :: ys, w :: ws, i + 1, d, h => by
    obtain ⟨a, b, c, h1, h2, h3, h4⟩ := zip3D_get xs ys ws i d (by simpa [zip3D] using h)
    exact ⟨a, b, c, by simpa using h1, by simpa using h2, by simpa using h3, h4⟩
  | [], _, _, _, _, h => by simp [zip3D] at h
  | _ :: _, [], _, _, _, h => by simp [zip3D] at h
  | _ :: _, _ :: _, [], _, _, h => by simp [zip3D] at h
theorem zip3D_len : ∀ (xs ys ws : List D), ys.length = xs.length → ws.length = xs.length → (zip3D xs ys ws).length = xs.length
  | [], _, _, _, _ => by simp [zip3D]
  | x :: xs, y :: ys, w :: ws, h, h' => by
    simp only [zip3D, List.length_cons]
    rw [zip3D_len xs ys ws (by simpa using h) (by simpa using h')]
  | x :: xs, [], _, h, _ => by simp at h
  | x :: xs, y :: ys, [], _, h => by simp at h
theorem Wk.zip3 {K : PySem.W.Frag} {mg : Str → Option Value} {F : Hp} {a b c : Addr} {xs ys ws : List V} {ds es fs : List D} (h : SqL K F a xs) (r : RepAll K mg F xs ds) (h' : SqL K F b ys) (r' : RepAll K mg F ys es) (h'' : SqL K F c ws) (r'' : RepAll K mg F ws fs)
    (l1 : es.length = ds.length) (l2 : fs.length = ds.length) : Wk K mg (Itz3 K a b c) F (zip3D ds es fs) := fun i F' H e e' =>
  ⟨fun d hd => by
    obtain ⟨x, y, w, h1, h2, h3, rfl⟩ := zip3D_get ds es fs i d hd
    obtain ⟨v, hv, rv, hs⟩ := (wk_list h r).2 i F' H x e e' h1
    obtain ⟨v', hv', rv', hs'⟩ := (wk_list h' r').2 i F' H y e e' h2
    obtain ⟨v'', hv'', rv'', hs''⟩ := (wk_list h'' r'').2 i F' H w e e' h3
    refine ⟨⟨xs, ys, ws, v, v', v'', hs, hs', hs'', hv, hv', hv''⟩, fun x H' y => ?_⟩
    obtain ⟨T, z, z', z'', rfl, hT, rfl, y1, y2, y3⟩ := y
    have q1 := y1 xs hs
    rw [hv] at q1; cases q1
    have q2 := y2 ys hs'
    rw [hv'] at q2; cases q2
    have q3 := y3 ws hs''
    rw [hv''] at q3; cases q3
    have n := Ex.new (o := .tup [v, v', v'']) (e'.none hT)
    exact ⟨_, .both e' hT, .tup (.inl (.inl upd_same)) (.cons ((rv.mo e).mo n) (.cons ((rv'.mo e).mo n) (.cons ((rv''.mo e).mo n) .nil)))⟩, fun hl => by
    rw [zip3D_len ds es fs l1 l2] at hl
    exact (wk_list h r).1 i F' H e e' hl⟩
def sZip3 (l : Sl) : Sl := fun ρ => bd (l ρ) fun ds =>
  match ds with
  | [.lst xs, .lst ys, .lst ws] => if decide (ys.length = xs.length) && decide (ws.length = xs.length) then some (.ok (zip3D xs ys ws)) else none
  | _ => none
section
variable {X : Cx} {W : WX} {tg e e2 e3 : Expr} {sl : Sl} {pos p : Pos}
theorem i_zip3 {elts : List Expr} {kk : Nat} {tpos : Pos} (hm : X.mg "zip" = none) (ha : PA X [e, e2, e3] (tA X.K X.mg W sl)) (hg : Gl X "zip" := by rfl)
    (hs : starEach [e, e2, e3] X.env = (false, eval e X.env) :: starEach [e2, e3] X.env := by rfl) (hpl : (backTo pos (starEach [e2, e3] X.env)).any (·.1) = false := by rfl) : PI X (.Tuple elts kk tpos) (.Call (.Name "zip" p) [e, e2, e3] [] pos) (tI X.K X.mg W (sZip3 sl)) := by
  refine ⟨fun pins s σ H R I ⟨ρ, F, r, v, e, fin⟩ => (pi_zip3 hg hm ha hs hpl).run pins s σ H R I ?_⟩
  refine part v e fin fun ds xs F1 H1 es e g v1 rs fin1 => ?_
  split at e
  · split at e
    · rename_i c
      rw [Bool.and_eq_true, decide_eq_true_eq, decide_eq_true_eq] at c
      cases e
      cases rs with
      | cons r1 rs =>
        cases rs with
        | cons r2 rs =>
          cases rs with
          | cons r3 rs =>
            cases rs
            cases r1 with
            | lst h1 q1 =>
              cases r2 with
              | lst h2 q2 =>
                cases r3 with
                | lst h3 q3 =>
                  exact ⟨_, _, _, _, _, _, rfl, .inl (.inl (v1.e.k _ _ h1 rfl)), .inl (.inl (v1.e.k _ _ h2 rfl)), .inl (.inl (v1.e.k _ _ h3 rfl)), fin1 _ F1 H1 (.refl v1.e) (Wk.zip3 (.inl (.inl h1)) q1 (.inl (.inl h2)) q2 (.inl (.inl h3)) q3 c.1 c.2)⟩
    · cases e
  · cases e
end
end Dl
/-! Dl21: tuples that are known to have no dict: tuple(list), t.index(x). -/
namespace Dl
open PySem L2 PySem.Spec PyProof.Rows
mutual
/-- forget what is known of tuples -/
def fg : D → D
  | .tpl ds => .tup (fgs ds)
  | .tup ds => .tup (fgs ds)
  | .non => .non
  | .bl b => .bl b
  | .int i => .int i
  | .str x => .str x
  | .lst ds => .lst ds
  | .dic kvs => .dic kvs
  | .scr ns => .scr ns
  | .fn nm => .fn nm
  | .exn a => .exn a
  | .dlx a k => .dlx a k
def fgs : List D → List D
  | [] => []
  | d :: ds => fg d :: fgs ds
end
section
variable {K : PySem.W.Frag} {mg : Str → Option Value} {F : Hp}
mutual
theorem Rep.fg : ∀ (d : D) (v : V), Rep K mg F v d → Rep K mg F v (Dl.fg d)
  | .tpl ds, _, h => by cases h with | tpl hs ha => obtain ⟨o, h1, _⟩ := hs; exact .tup (.inl (.inr ⟨o, h1⟩)) (RepAll.fg ds _ ha)
  | .tup ds, _, h => by cases h with | tup hs ha => exact .tup hs (RepAll.fg ds _ ha)
  | .non, _, h => h
  | .bl _, _, h => h
  | .int _, _, h => h
  | .str _, _, h => h
  | .lst _, _, h => h
  | .dic _, _, h => h
  | .scr _, _, h => h
  | .fn _, _, h => h
  | .exn _, _, h => h
  | .dlx _ _, _, h => h
theorem RepAll.fg : ∀ (ds : List D) (vs : List V), RepAll K mg F vs ds → RepAll K mg F vs (fgs ds)
  | [], _, h => h
  | d :: ds, _, h => by cases h with | cons h1 h2 => exact .cons (Rep.fg d _ h1) (RepAll.fg ds _ h2)
end
end
def sFg (a : Sx) : Sx := fun ρ => bd (a ρ) fun d => some (.ok (fg d))
section
variable {X : Cx} {W : WX} {pos : Pos} {a b : Expr} {sa sb : Sx}
theorem d_fg (ha : PE X a (tS X.K X.mg W sa)) : PE X a (tS X.K X.mg W (sFg sa)) := by
  refine pe_imp ha fun σ H Q ⟨ρ, F, z, v, e, fin⟩ => ?_
  rcases bd_some e with ⟨d, ea, e⟩ | ⟨c, ea, rfl⟩
  · cases e
    exact ⟨ρ, F, .ok d, v, ea, fun u F1 H1 g r => fin u F1 H1 g (Rep.fg d _ r)⟩
  · exact ⟨ρ, F, .error c, v, ea, fin⟩
/-- tuple(list), its object told -/
def rTuplP (K : PySem.W.Frag) : List V → Hp → VK → Prop := fun xs H Q => ∃ p ys, xs = [V.ref p] ∧ SqL K H p ys ∧ ∀ (l : Addr) (o : Obj), H l = none → o.cls = .type "tuple" → o.dict = none → Q (.ref l) (upd H l (.frz o (.tup ys)))
theorem call_tuplP : CallR X (.type "tuple") (rTuplP X.K) := by
  intro pins s σ H xs us Q I r h
  obtain ⟨p, ys, rfl, hq, q⟩ := h
  obtain ⟨u, rfl, rx⟩ := vals1 r
  cases rx
  obtain ⟨its, r', pl, hz⟩ := I.list hq
  have hlen := r'.length
  refine call_tuple_list pl.isList (fun h' kp => ?_) (by simp only [List.size_toArray] <;> omega)
  have I1 : Inv X pins σ H { s with heap := h' } := I.kept (t' := s.toks) kp
  have I2 : Inv X pins σ (upd H h'.objs.size (.frz { cls := .type "tuple", data := .seq its.toArray } (.tup ys))) { s with heap := h'.push { cls := .type "tuple", data := .seq its.toArray } } :=
    I1.laid (t' := s.toks) (fun b o e => Heap.get?_push_of_some _ e) (Nat.le_refl _) (show ObjOk X.prog X.w _ _ _ (.frz _ (.tup ys)) from ⟨Heap.get?_push_size _ rfl, hz, its, r', IsTup.new _ _⟩)
  exact ⟨.ref h'.objs.size, _, I2, rfl, q _ _ (I1.hok.fresh (Nat.le_refl _)) rfl rfl⟩
def dTuplP : List D → Option D
  | [.lst xs] => some (.tpl xs)
  | _ => none
theorem c_tuplP {K : PySem.W.Frag} {mg : Str → Option Value} : CallN K mg (rTuplP K) dTuplP := by
  intro F H xs ds dz Q e rs hf q
  unfold dTuplP at hf
  split at hf
  · cases hf
    obtain ⟨v, rfl, r⟩ := rs.one
    cases r with
    | lst h1 r1 => exact ⟨_, _, rfl, .inl (.inl (e.k _ _ h1 rfl)), fun p o hp hc hd => q _ _ _ (.both e hp) (.tpl ⟨o, upd_same, hc, hd⟩ (r1.mo (.new (e.none hp))))⟩
  · cases hf
/-! ### t.m(e), t such a tuple -/
def tyP (x : V) (H : Hp) : Prop := ∃ (p : Addr) (o : Obj) (xs : List V), x = .ref p ∧ H p = some (.frz o (.tup xs)) ∧ o.cls = .type "tuple" ∧ o.dict = none
def tBMP (r : V → List V → Hp → VK → Prop) (to : TE) (t : TA) : TE := fun σ H Q => to σ H fun x H1 => tyP x H1 ∧ t σ H1 fun xs H2 => r x xs H2 Q
variable {o e : Expr} {es : List Expr} {to : TE} {t : TA} {name : Str} {apos cpos : Pos} {id : String} {r : V → List V → Hp → VK → Prop}
theorem pe_bmP (pa : PlainAttrs "tuple") (slot : Slot "tuple" name id) (hty : typeOf (.builtin id) = pure (.type "method_descriptor")) (hm : MtR X id r) (ho : PE X o to) (ha : PA X (e :: es) t)
    (hbase : attributeBase o name X.env (eval o X.env) = eval o X.env := by rfl)
    (hfew : ((backTo cpos (starEach (e :: es) X.env)).all (fun x => !x.1) && (backToKw cpos (keywordEach [] X.env)).all (fun x => x.1.isSome)
      && decide ((e :: es).length + ([] : List Keyword).length + (if ([] : List Keyword).isEmpty then 0 else 1) < 30)) = true := by rfl)
    (hline : (apos.endLine == cpos.line) = true := by rfl) (hs : starEach (e :: es) X.env = (false, eval e X.env) :: starEach es X.env := by rfl) (hplain : (backTo cpos (starEach es X.env)).any (·.1) = false := by rfl) :
    PE X (.Call (.Attribute o name apos) (e :: es) [] cpos) (tBMP r to t) := by
  refine ⟨fun pins s σ H Q I h => ?_⟩
  refine wpAny_Call_method_late hbase hfew hline rfl (thn (ho.run pins s σ H _ I h) fun v s1 ⟨x, H1, I1, r1, ty, q1⟩ => ?_)
  obtain ⟨p, ob, xs, rfl, hp, hc, hd⟩ := ty
  cases r1
  have hg : s1.heap.get? p = some ob := (I1.hok p _ hp).1
  refine ⟨"tuple", id, pa, slot, hty, ⟨ob, hg, hc⟩, fun a e2 => (by cases e2; exact ⟨ob, hg, hd⟩), ?_⟩
  have hA := ha.run cpos pins s1 σ H1 _ I1 q1
  rw [hs] at hA ⊢
  refine Calls.callWith_builtin (by show (false || (backTo cpos (starEach es X.env)).any (·.1)) = false; rw [hplain] <;> rfl) (Calls.evalArgs_plain ?_)
  exact thn hA fun us s2 ⟨vs, H2, I2, r2, q2⟩ => hm pins s2 σ H2 (.ref p) vs _ us Q I2 rfl r2 q2
/-- t.index(x), texts -/
def dTIndex : D → D → Option D
  | .tpl ds, .str z => match strsOf ds with
    | some ys => (ys.findIdx? fun y => y == z).map fun i => .int (i : Nat)
    | none => none
  | _, _ => none
def sTIndex (a b : Sx) : Sx := fun ρ => bd (a ρ) fun x =>
  match x with
  | .tpl ds => bd (b ρ) fun y => lift (dTIndex (.tpl ds) y)
  | _ => none
theorem d_tindex (ha : PE X a (tS X.K X.mg W sa)) (hb : PE X b (tS X.K X.mg W sb)) (hbase : attributeBase a "index" X.env (eval a X.env) = eval a X.env := by rfl)
    (hfew : ((backTo cpos (starEach [b] X.env)).all (fun x => !x.1) && (backToKw cpos (keywordEach [] X.env)).all (fun x => x.1.isSome)
      && decide (([b] : List Expr).length + ([] : List Keyword).length + (if ([] : List Keyword).isEmpty then 0 else 1) < 30)) = true := by rfl)
    (hline : (apos.endLine == cpos.line) = true := by rfl) (hs : starEach [b] X.env = (false, eval b X.env) :: starEach [] X.env := by rfl) (hplain : (backTo cpos (starEach [] X.env)).any (·.1) = false := by rfl) :
    PE X (.Call (.Attribute a "index" apos) [b] [] cpos) (tS X.K X.mg W (sTIndex sa sb)) := by
  refine pe_imp (pe_bmP PySem.F.plainAttrs_tuple PySem.F.slot_tuple_index PySem.F.type_tuple_index mt_tup_index ha (pa_cons hb pa_nil hs) hbase hfew hline hs hplain) fun σ H Q ⟨ρ, F, z, v, e, fin⟩ => ?_
  refine part v e fin fun dx x F1 H1 _ e g v1 rx fin1 => ?_
  split at e
  · rename_i ds
    cases rx with
    | @tpl p xs _ hp rr =>
      obtain ⟨ob, h1, h2, h3⟩ := hp
      refine ⟨⟨p, ob, xs, rfl, v1.e.k _ _ h1 rfl, h2, h3⟩, ?_⟩
      show tS X.K X.mg W sb σ H1 fun y H2 => _
      refine part v1 e fin1 fun dy y F2 H2 _ e g2 v2 ry fin2 => ?_
      obtain ⟨dz, e', rfl⟩ := lift_some e
      cases ry <;> simp only [dTIndex, reduceCtorEq] at e'
      rename_i zz _
      split at e'
      · rename_i ys hys
        obtain ⟨i, hi, rfl⟩ := Option.map_eq_some_iff.mp e'
        have hx := strs_rep rr hys
        subst hx
        obtain ⟨hi1, hi2, hi3⟩ := List.findIdx?_eq_some_iff_getElem.mp hi
        have hz : ys[i] = zz := by simpa using hi2
        refine ⟨p, ys, zz, i, rfl, rfl, .inl (.inr ⟨ob, g2.h.k _ _ (v1.e.k _ _ h1 rfl) rfl⟩), by rw [List.getElem?_eq_getElem hi1, hz], fun m hm hq => ?_, fin2 _ F2 H2 (.refl v2.e) (.int _)⟩
        obtain ⟨hm1, hm2⟩ := List.getElem?_eq_some_iff.mp hq
        have := hi3 m hm
        rw [hm2] at this
        simp at this
      · cases e'
  · cases e
end
end Dl
/-! Dl22: texts: str(n), int(text), join, split, a sign in a text, its signs walked, cut, taken by place. -/
namespace Dl
open PySem L2
def numS (i : Int) : Str := Str.ofString (toString i)
/-- one sign -/
def sgn (c : Nat) : Str := ⟨#[c]⟩
def dStrI : List D → Option D
  | [.int i] => if decide (0 ≤ i) && decide (i < 1000000) then some (.str (numS i)) else none
  | _ => none
abbrev rStrI : List V → Hp → VK → Prop := fun xs H Q => ∃ i : Int, xs = [.int i] ∧ i.natAbs.log2 < 1920 ∧ Q (.str (toString i)) H
theorem c_strI {K : PySem.W.Frag} {mg : Str → Option Value} : CallN K mg rStrI dStrI := by
  intro F H xs ds dz Q e rs hf q
  unfold dStrI at hf
  split at hf
  · rename_i i
    split at hf
    · rename_i c
      rw [Bool.and_eq_true, decide_eq_true_eq, decide_eq_true_eq] at c
      cases hf
      obtain ⟨v, rfl, r⟩ := rs.one
      cases r
      refine ⟨i, rfl, ?_, q _ F H (.refl e) (.str _)⟩
      have h1 : i.natAbs < 2 ^ 1920 := Nat.lt_of_lt_of_le (show i.natAbs < 2 ^ 20 by omega) (Nat.pow_le_pow_right (by decide) (by decide))
      by_cases h0 : i.natAbs = 0
      · rw [h0]; decide
      · exact (Nat.log2_lt h0).mpr h1
    · cases hf
  · cases hf
def dIntT : List D → Option D
  | [.str a] => if decide (a.length ≤ 640) then (PySem.intText? a).map D.int else none
  | _ => none
abbrev rIntT : List V → Hp → VK → Prop := fun xs H Q => ∃ a n, xs = [.str a] ∧ PySem.intText? a = some n ∧ a.length ≤ 640 ∧ Q (.int n) H
theorem c_intT {K : PySem.W.Frag} {mg : Str → Option Value} : CallN K mg rIntT dIntT := by
  intro F H xs ds dz Q e rs hf q
  unfold dIntT at hf
  split at hf
  · split at hf
    · rename_i c
      obtain ⟨n, hn, rfl⟩ := Option.map_eq_some_iff.mp hf
      obtain ⟨v, rfl, r⟩ := rs.one
      cases r
      exact ⟨_, n, rfl, hn, of_decide_eq_true c, q _ F H (.refl e) (.int _)⟩
    · cases hf
  · cases hf
/-- is the sign in the text? -/
def dInT : D → D → Option D
  | .str x, .str z => match x.cps.toList with
    | [c] => some (.bl (decide (c ∈ z.cps.toList)))
    | _ => none
  | _, _ => none
abbrev rInT : R2 := fun x y H Q => ∃ (c : Nat) (z : Str), x = .str ⟨#[c]⟩ ∧ y = .str z ∧ Q (.bl (decide (c ∈ z.cps.toList))) H
theorem op_inT {X : Cx} : OpR X (compareOp .In) rInT := op_in_sign
theorem o_inT {K : PySem.W.Frag} {mg : Str → Option Value} : Op2 K mg rInT dInT := by
  intro F H x y dx dy dz Q e rx ry hf q
  unfold dInT at hf
  split at hf
  · rename_i x z
    split at hf
    · rename_i c hc
      cases hf
      cases rx; cases ry
      have : x = ⟨#[c]⟩ := by
        cases x
        simp only [Str.mk.injEq]
        exact Array.toList_inj.mp hc
      subst this
      exact ⟨c, z, rfl, rfl, q _ F H (.refl e) (.bl _)⟩
    · cases hf
  · cases hf
/-- text[i] -/
def dIxT : D → D → Option D
  | .str z, .int i => if okLen z.length then (atI z.cps.toList i).map fun c => .str (sgn c) else none
  | _, _ => none
theorem o_ixT {K : PySem.W.Frag} {mg : Str → Option Value} : Op2 K mg rIxS dIxT := by
  intro F H x y dx dy dz Q e rx ry hf q
  unfold dIxT at hf
  split at hf
  · split at hf
    · rename_i z i ho
      obtain ⟨c, hc, rfl⟩ := Option.map_eq_some_iff.mp hf
      cases rx; cases ry
      exact ⟨z, i, c, rfl, rfl, okLen_line ho, hc, q _ F H (.refl e) (.str _)⟩
    · cases hf
  · cases hf
section
variable {X : Cx} {W : WX} {pos p2 : Pos} {a b : Expr} {sa sb : Sx} {lo hi : Option Expr} {sl sh : Rho → Oe (Option Int)}
/-- text[lo:hi] -/
def sCutS (a : Sx) (l h : Rho → Oe (Option Int)) : Sx := fun ρ => bd (a ρ) fun x => bd (l ρ) fun i => bd (h ρ) fun j => lift
  (match x with
  | .str z => if okLen z.length then some (.str (cutS z i j)) else none
  | _ => none)
theorem d_cutS (ha : PE X a (tS X.K X.mg W sa)) (hl : PO X lo (tK X.K X.mg W kO sl)) (hh : PO X hi (tK X.K X.mg W kO sh)) : PE X (.Subscript a (.Slice lo hi none p2) pos) (tS X.K X.mg W (sCutS sa sl sh)) := by
  refine pe_imp (pe_slice sl_str ha hl hh) fun σ H Q ⟨ρ, F, z, v, e, fin⟩ => ?_
  refine part v e fin fun dx x F1 H1 _ e g v1 rx fin1 => ?_
  refine part v1 e fin1 fun i i' F2 H2 _ e g2 v2 ri fin2 => ?_
  refine part v2 e fin2 fun j j' F3 H3 _ e g3 v3 rj fin3 => ?_
  cases ri; cases rj
  obtain ⟨dz, e', rfl⟩ := lift_some e
  split at e'
  · split at e'
    · rename_i ho
      cases e'
      cases rx
      exact ⟨_, rfl, okLen_line ho, fin3 _ F3 H3 (.refl v3.e) (.str _)⟩
    · cases e'
  · cases e'
/-- sep.join(texts) -/
def joinOk (a : Str) (ys : List Str) : Bool := decide ((ys.map (·.length)).sum + ys.length * a.length ≤ 1000000)
def dJoin : D → D → Option D
  | .str a, .lst ds => match strsOf ds with
    | some ys => if joinOk a ys then some (.str (Txt.join a ys)) else none
    | none => none
  | .str a, .tup ds => match strsOf ds with
    | some ys => if joinOk a ys then some (.str (Txt.join a ys)) else none
    | none => none
  | _, _ => none
def sJoin (a b : Sx) : Sx := fun ρ => bd (a ρ) fun x =>
  match x with
  | .str s => bd (b ρ) fun y => lift (dJoin (.str s) y)
  | _ => none
theorem d_join {apos : Pos} (ha : PE X a (tS X.K X.mg W sa)) (hb : PE X b (tS X.K X.mg W sb)) (hs : starEach [b] X.env = [(false, eval b X.env)] := by rfl) (hbase : attributeBase a "join" X.env (eval a X.env) = eval a X.env := by rfl) (hline : (apos.endLine == pos.line) = true := by rfl) :
    PE X (.Call (.Attribute a "join" apos) [b] [] pos) (tS X.K X.mg W (sJoin sa sb)) := by
  refine pe_imp (pe_join ha hb hs hbase hline) fun σ H Q ⟨ρ, F, z, v, e, fin⟩ => ?_
  refine part v e fin fun dx x F1 H1 _ e g v1 rx fin1 => ?_
  split at e
  · rename_i s _
    cases rx
    refine ⟨⟨s, rfl⟩, ?_⟩
    refine part v1 e fin1 fun dy y F2 H2 _ e g2 v2 ry fin2 => ?_
    obtain ⟨dz, e', rfl⟩ := lift_some e
    have ok : ∀ ys : List Str, joinOk s ys = true → (ys.map (·.length)).sum + ys.length * s.length ≤ 16777216 := fun ys h => Nat.le_trans (of_decide_eq_true h) (by decide)
    cases ry <;> simp only [dJoin, reduceCtorEq] at e'
    · rename_i h1 r1 _
      split at e'
      · rename_i ys hys
        split at e'
        · rename_i hok
          cases e'
          rw [strs_rep r1 hys] at h1
          exact ⟨s, _, ys, rfl, rfl, .inr (v2.e.sqT h1), ok ys hok, fin2 _ F2 H2 (.refl v2.e) (.str _)⟩
        · cases e'
      · cases e'
    · rename_i h1 r1 _
      split at e'
      · rename_i ys hys
        split at e'
        · rename_i hok
          cases e'
          rw [strs_rep r1 hys] at h1
          exact ⟨s, _, ys, rfl, rfl, .inl (.inl (.inl (v2.e.k _ _ h1 rfl))), ok ys hok, fin2 _ F2 H2 (.refl v2.e) (.str _)⟩
        · cases e'
      · cases e'
  · cases e
/-- text.split(sep) -/
def dSplit : D → D → Option (List D)
  | .str a, .str b => if !(b.length == 0) && okLen a.length then some ((Txt.split a b).map D.str) else none
  | _, _ => none
def sSplit (a b : Sx) : Sl := fun ρ => bd (a ρ) fun x =>
  match x with
  | .str s => bd (b ρ) fun y => lift (dSplit (.str s) y)
  | _ => none
theorem l_split {apos : Pos} (ha : PE X a (tS X.K X.mg W sa)) (hb : PE X b (tS X.K X.mg W sb)) (hs : starEach [b] X.env = [(false, eval b X.env)] := by rfl) (hbase : attributeBase a "split" X.env (eval a X.env) = eval a X.env := by rfl) (hline : (apos.endLine == pos.line) = true := by rfl) :
    PE X (.Call (.Attribute a "split" apos) [b] [] pos) (tL X.K X.mg W (sSplit sa sb)) := by
  refine pe_imp (pe_split ha hb hs hbase hline) fun σ H Q ⟨ρ, F, z, v, e, fin⟩ => ?_
  refine part v e fin fun dx x F1 H1 _ e g v1 rx fin1 => ?_
  split at e
  · rename_i s _
    cases rx
    refine ⟨⟨s, rfl⟩, ?_⟩
    refine part v1 e fin1 fun dy y F2 H2 _ e g2 v2 ry fin2 => ?_
    obtain ⟨ds, e', rfl⟩ := lift_some e
    cases ry <;> simp only [dSplit, reduceCtorEq] at e'
    split at e'
    · rename_i c
      rw [Bool.and_eq_true, Bool.not_eq_true'] at c
      cases e'
      refine ⟨s, _, rfl, rfl, c.1, ?_, fun p hp => fin2 (.ref p) F2 _ (.only v2.e hp) ⟨p, _, rfl, hp, v2.e.none hp, upd_same, strs_all _⟩⟩
      have h1 : s.length ≤ 1000000 := of_decide_eq_true c.2
      have h2 : (1000002 : Nat) ≤ sizeLine := by decide
      omega
    · cases e'
  · cases e
/-- the signs of a text -/
def sgns (x : Str) : List D := x.cps.toList.map fun c => .str (sgn c)
theorem Wk.text {K : PySem.W.Frag} {mg : Str → Option Value} {F : Hp} (x : Str) : Wk K mg (Its x) F (sgns x) := fun i F' H e e' =>
  ⟨fun d hd => by
    unfold sgns at hd
    rw [List.getElem?_map] at hd
    obtain ⟨c, hc, rfl⟩ := Option.map_eq_some_iff.mp hd
    have hc' : x.cps[i]? = some c := by simpa using hc
    refine ⟨by
      obtain ⟨h1, _⟩ := Array.getElem?_eq_some_iff.mp hc'
      exact h1, fun v H' y => ?_⟩
    obtain ⟨rfl, c', h1, rfl⟩ := y
    rw [hc'] at h1
    cases h1
    exact ⟨F', .refl e', .str _⟩, fun hl => by
    unfold sgns at hl
    rw [List.length_map, Array.length_toList] at hl
    exact hl⟩
def sTextItems (e : Sx) : Sl := fun ρ => bd (e ρ) fun d =>
  match d with
  | .str x => some (.ok (sgns x))
  | _ => none
theorem i_text {tg : Expr} (he : PE X a (tS X.K X.mg W sa)) : PI X tg a (tI X.K X.mg W (sTextItems sa)) := by
  refine ⟨fun pins s σ H R I ⟨ρ, F, r, v, e, fin⟩ => (pi_str he).run pins s σ H R I ?_⟩
  refine part v e fin fun d x F1 H1 es e g v1 rx fin1 => ?_
  split at e
  · cases e
    cases rx
    exact ⟨_, rfl, fin1 _ F1 H1 (.refl v1.e) (Wk.text _)⟩
  · cases e
end
end Dl
/-! Dl23: dicts with int keys and lists of ints as values, known by their address: made, read through another name, written, asked. -/
namespace Dl
open PySem L2
def lookX (kns : List (Int × List Int)) (k : Int) : Option (List Int) := (kns.find? fun p => decide (p.1 = k)).map (·.2)
def putX (kns : List (Int × List Int)) (k : Int) (ns : List Int) : List (Int × List Int) :=
  if (kns.any fun p => decide (p.1 = k)) = true then kns.map (fun p => if p.1 = k then (p.1, ns) else p) else kns ++ [(k, ns)]
theorem inl_iff (i k : Int) : ((Sum.inl i : Key) = Sum.inl k) ↔ i = k := ⟨fun h => Sum.inl.inj h, fun h => by rw [h]⟩
theorem KRep.look {F : Hp} {k : Int} : ∀ {kvs : List (Key × V)} {kns : List (Int × List Int)}, KRep F kvs kns →
    (valV kvs (Sum.inl k) = none ∧ lookX kns k = none) ∨ ∃ b ns, valV kvs (Sum.inl k) = some (.ref b) ∧ F b = some (.lst (ns.map V.int)) ∧ lookX kns k = some ns
  | [], [], _ => .inl ⟨rfl, rfl⟩
  | p :: r, q :: s, h => by
    obtain ⟨h1, ⟨b, h2, h3⟩, h4⟩ := h
    by_cases e : q.1 = k
    · have ep : p.1 = Sum.inl k := by rw [h1, e]
      refine .inr ⟨b, q.2, by rw [valV_pos ep, h2], h3, ?_⟩
      simp [lookX, List.find?_cons, e]
    · have ep : ¬ p.1 = Sum.inl k := fun z => e ((inl_iff _ _).mp (h1.symm.trans z))
      have el : lookX (q :: s) k = lookX s k := by simp [lookX, List.find?_cons, e]
      rw [valV_neg ep, el]
      exact KRep.look h4
  | [], _ :: _, h => h.elim
  | _ :: _, [], h => h.elim
theorem KRep.any {F : Hp} {k : Int} : ∀ {kvs : List (Key × V)} {kns : List (Int × List Int)}, KRep F kvs kns → (kvs.any fun kv => decide (kv.1 = Sum.inl k)) = kns.any fun p => decide (p.1 = k)
  | [], [], _ => rfl
  | p :: r, q :: s, h => by
    obtain ⟨h1, _, h4⟩ := h
    rw [List.any_cons, List.any_cons, KRep.any h4, h1]
    congr 1
    exact decide_eq_decide.mpr (inl_iff _ _)
  | [], _ :: _, h => h.elim
  | _ :: _, [], h => h.elim
theorem KRep.map {F : Hp} {k : Int} {b : Addr} {ns : List Int} (hb : F b = some (.lst (ns.map V.int))) : ∀ {kvs : List (Key × V)} {kns : List (Int × List Int)}, KRep F kvs kns →
    KRep F (kvs.map fun kv => if kv.1 = Sum.inl k then (kv.1, .ref b) else kv) (kns.map fun p => if p.1 = k then (p.1, ns) else p)
  | [], [], _ => trivial
  | p :: r, q :: s, h => by
    obtain ⟨h1, h2, h4⟩ := h
    rw [List.map_cons, List.map_cons]
    by_cases e : q.1 = k
    · have ep : p.1 = Sum.inl k := by rw [h1, e]
      rw [if_pos ep, if_pos e]
      exact ⟨h1, ⟨b, rfl, hb⟩, KRep.map hb h4⟩
    · have ep : ¬ p.1 = Sum.inl k := fun z => e ((inl_iff _ _).mp (h1.symm.trans z))
      rw [if_neg ep, if_neg e]
      exact ⟨h1, h2, KRep.map hb h4⟩
  | [], _ :: _, h => h.elim
  | _ :: _, [], h => h.elim
theorem KRep.snoc {F : Hp} {k : Int} {b : Addr} {ns : List Int} (hb : F b = some (.lst (ns.map V.int))) : ∀ {kvs : List (Key × V)} {kns : List (Int × List Int)}, KRep F kvs kns → KRep F (kvs ++ [(Sum.inl k, .ref b)]) (kns ++ [(k, ns)])
  | [], [], _ => ⟨rfl, ⟨b, rfl, hb⟩, trivial⟩
  | p :: r, q :: s, h => ⟨h.1, h.2.1, KRep.snoc hb h.2.2⟩
  | [], _ :: _, h => h.elim
  | _ :: _, [], h => h.elim
theorem KRep.put {F : Hp} {k : Int} {b : Addr} {ns : List Int} (hb : F b = some (.lst (ns.map V.int))) {kvs : List (Key × V)} {kns : List (Int × List Int)} (h : KRep F kvs kns) : KRep F (putK kvs (Sum.inl k) (.ref b)) (putX kns k ns) := by
  unfold putK putX
  rw [h.any]
  split
  · exact h.map hb
  · exact h.snoc hb
theorem KRep.length {F : Hp} : ∀ {kvs : List (Key × V)} {kns : List (Int × List Int)}, KRep F kvs kns → kvs.length = kns.length
  | [], [], _ => rfl
  | p :: r, q :: s, h => by rw [List.length_cons, List.length_cons, KRep.length h.2.2]
  | [], _ :: _, h => h.elim
  | _ :: _, [], h => h.elim
def intL : List D → Option (List Int)
  | [] => some []
  | .int i :: r => (intL r).map (i :: ·)
  | _ => none
theorem intL_map : ∀ ns : List Int, intL (ns.map D.int) = some ns
  | [] => rfl
  | n :: r => by rw [List.map_cons, intL, intL_map r]; rfl
theorem intL_rep {K : PySem.W.Frag} {mg : Str → Option Value} {F : Hp} : ∀ {ds : List D} {xs : List V} {ns : List Int}, RepAll K mg F xs ds → intL ds = some ns → xs = ns.map V.int
  | [], _, _, h, e => by cases h; cases e; rfl
  | d :: ds, _, _, h, e => by
    cases h with
    | cons h1 h2 =>
      cases d <;> first | (simp [intL] at e; done) | skip
      simp only [intL] at e
      obtain ⟨ns, e1, rfl⟩ := Option.map_eq_some_iff.mp e
      cases h1
      rw [intL_rep h2 e1]
      rfl
theorem intsR {K : PySem.W.Frag} {mg : Str → Option Value} {F : Hp} : ∀ ns : List Int, RepAll K mg F (ns.map V.int) (ns.map D.int)
  | [] => .nil
  | n :: r => .cons (.int n) (intsR r)
section
variable {X : Cx} {W : WX} {pos : Pos} {a b c : Expr} {sa sb : Sx}
/-- the dict, by its address alone -/
def sRefX (s : Sx) : Sx := fun ρ => bd (s ρ) fun d =>
  match d with
  | .dlx p _ => some (.ok (.exn p))
  | _ => none
theorem d_refX (ha : PE X a (tS X.K X.mg W sa)) : PE X a (tS X.K X.mg W (sRefX sa)) := by
  refine pe_imp ha fun σ H Q ⟨ρ, F, z, v, e, fin⟩ => ?_
  refine part v e fin fun dx x F1 H1 _ e g v1 rx fin1 => ?_
  split at e
  · cases e
    cases rx
    exact fin1 _ F1 H1 (.refl v1.e) (.exn _)
  · cases e
/-- the dict behind an address -/
def findX (ρ : Rho) (p : Addr) : Option D := ρ.findSome? fun o => match o with
  | some (.dlx q k) => if q = p then some (.dlx q k) else none
  | _ => none
def sAls (s : Sx) : Sx := fun ρ => bd (s ρ) fun d =>
  match d with
  | .exn p => lift (findX ρ p)
  | .dlx p k => some (.ok (.dlx p k))
  | _ => none
theorem d_als (ha : PE X a (tS X.K X.mg W sa)) : PE X a (tS X.K X.mg W (sAls sa)) := by
  refine pe_imp ha fun σ H Q ⟨ρ, F, z, v, e, fin⟩ => ?_
  refine part v e fin fun dx x F1 H1 _ e g v1 rx fin1 => ?_
  split at e
  · rename_i p
    obtain ⟨dz, e', rfl⟩ := lift_some e
    unfold findX at e'
    obtain ⟨o, ho, e''⟩ := List.exists_of_findSome?_eq_some e'
    obtain ⟨i, hi, hio⟩ := List.getElem_of_mem ho
    have hi' : ρ[i]? = some o := by rw [List.getElem?_eq_getElem hi, hio]
    split at e''
    · rename_i q k
      split at e''
      · rename_i hq
        cases e''
        subst hq
        obtain ⟨u, _, r⟩ := v1.v i _ hi'
        cases rx
        cases r with
        | dlx h1 h2 => exact fin1 _ F1 H1 (.refl v1.e) (.dlx h1 h2)
      · cases e''
    · cases e''
  · cases e
    exact fin1 _ F1 H1 (.refl v1.e) rx
  · cases e
/-- d.get(k, []) -/
def sGetX (a b : Sx) : Sx := fun ρ => bd (a ρ) fun x =>
  match x with
  | .dlx _ kns => bd (b ρ) fun y =>
    match y with
    | .int k => some (.ok (.lst (((lookX kns k).getD []).map D.int)))
    | _ => none
  | _ => none
theorem d_getX {apos : Pos} (hu : X.A.units + 1 < cLine) (ha : PE X a (tS X.K X.mg W sa)) (hb : PE X b (tS X.K X.mg W sb)) (hc : PE X c (tS X.K X.mg W (sOfL (sLst sNil)))) (m : M2 X a "get" apos b c pos := by exact ⟨rfl, rfl, rfl, rfl⟩) :
    PE X (.Call (.Attribute a "get" apos) [b, c] [] pos) (tS X.K X.mg W (sGetX sa sb)) := by
  refine pe_imp (pe_dget2 hu ha hb hc m) fun σ H Q ⟨ρ, F, z, v, e, fin⟩ => ?_
  refine part v e fin fun dx x F1 H1 _ e g v1 rx fin1 => ?_
  split at e
  · rename_i p kns _
    cases rx with
    | @dlx _ kvs _ h1 h2 =>
    refine ⟨p, rfl, .inl ⟨kvs, .inl (v1.e.k _ _ h1 rfl)⟩, ?_⟩
    refine part v1 e fin1 fun dy y F2 H2 _ e g2 v2 ry fin2 => ?_
    split at e
    · rename_i k _
      cases e
      cases ry
      refine ⟨_, _, _, v2, rfl, fun w F3 H3 g3 rw' => ?_⟩
      have hH : H3 p = some (.dK kvs) := g3.s.k _ _ (g3.f.k _ _ (g2.f.k _ _ h1 rfl) rfl) rfl
      have h2' : KRep F3 kvs kns := (h2.mo g2.f).mo g3.f
      refine ⟨_, DGet.k (k := Sum.inl k) hH, ?_⟩
      rcases h2'.look (k := k) with ⟨q1, q2⟩ | ⟨b, ns, q1, q2, q3⟩
      · rw [q1]
        refine fin2 w F3 H3 g3 ?_
        rw [q2]
        exact rw'
      · rw [q1]
        refine fin2 (.ref b) F3 H3 g3 ?_
        rw [q3]
        exact .lst q2 (intsR ns)
    · cases e
  · cases e
/-- which of the slots holds the dict -/
def ownIx (ms : List Nat) (p : Addr) (ρ : Sig) : Option Nat := ms.find? fun i => match ρ[i]? with
  | some (.own (.dlx q _)) => decide (q = p)
  | _ => false
def allX (ms : List Nat) (ρ : Sig) : Bool := ms.all fun i => match ρ[i]? with
  | some (.own (.dlx _ _)) => true
  | _ => false
/-- t[k] = e: t a name of a dict that one of the slots ms holds -/
def sPutX (ms : List Nat) (t kk : Nat) (e : Sx) : Ss := fun ρ =>
  match ρ[t]?, ρ[kk]? with
  | some (.dat (.exn p)), some (.dat (.int k)) =>
    match ownIx ms p ρ with
    | some i => match ρ[i]? with
      | some (.own (.dlx q kns)) => if q = p then stp ms e ρ fun d =>
          match d with
          | .lst ds => match intL ds with
            | some ns => if allX ms ρ && decide (kns.length ≤ 1000) then some (.nx (ρ.set i (.own (.dlx q (putX kns k ns))))) else none
            | none => none
          | _ => none
        else none
      | _ => none
    | none => none
  | _, _ => none
theorem s_putX {t kk : Nat} {x y : Str} {e : Expr} {se : Sx} {p1 p2 pos' : Pos} (ms : List Nat) (hu : X.A.units + 1 < cLine) (he : PE X e (tS X.K X.mg W se)) (hN : X.N[t]? = some x := by rfl) (hN2 : X.N[kk]? = some y := by rfl)
    (hv : Vis X.env.scope x := by first | exact Or.inl rfl | exact Or.inr (Or.inl rfl) | exact Or.inr (Or.inr rfl)) (hd : (x == ("__debug__" : Str)) = false := by decide) (hcd : (x == ("__classdict__" : Str)) = false := by decide)
    (hv2 : Vis X.env.scope y := by first | exact Or.inl rfl | exact Or.inr (Or.inl rfl) | exact Or.inr (Or.inr rfl)) (hd2 : (y == ("__debug__" : Str)) = false := by decide) (hcd2 : (y == ("__classdict__" : Str)) = false := by decide)
    (hs : swapsWith e (some (.Subscript (.Name x p1) (.Name y p2) pos')) pos.line X.env = pure false := by rfl) :
    PS X (.Assign [.Subscript (.Name x p1) (.Name y p2) pos'] e pos) (tP X.K X.mg W (sPutX ms t kk se)) := by
  refine ps_imp (ps_dput hu (pe_var (i := t) hN hv hd hcd) (pe_var (i := kk) hN2 hv2 hd2 hcd2) he hs) fun D σ H ⟨F0, H0, ρ, F, fl, S, e, post⟩ => ?_
  unfold sPutX at e
  split at e
  · rename_i p k ht hk
    obtain ⟨vt, ht', rt⟩ := S.s t _ ht
    obtain ⟨vk, hk', rk⟩ := S.s kk _ hk
    cases rt
    cases rk
    split at e
    · rename_i i hi
      split at e
      · rename_i q kns hρ
        split at e
        · rename_i hq
          subst hq
          obtain ⟨p', hp, _, _, hz, kvs, hx, hk2⟩ := S.s i _ hρ
          subst hz
          refine stK S e post fun d v F2 H1 e gr r => ?_
          split at e
          · rename_i ds
            split at e
            · rename_i ns hns
              split at e
              · rename_i hl
                rw [Bool.and_eq_true] at hl
                cases e
                cases r with
                | @lst qa xs _ h1 h2 =>
                have hxs := intL_rep h2 hns
                subst hxs
                have hno : qa ∉ ownAddrs ms ρ σ := fun hm => by
                  obtain ⟨j, dj, hj1, hj2, hj3⟩ := mem_ownAddrs.mp hm
                  have hall := List.all_eq_true.mp hl.1 j (by simpa using hj3)
                  rw [hj1] at hall
                  have hmem := addH_in (F := F) (H := H) hm
                  obtain ⟨p2, e2, _, _, o2⟩ := S.s j _ hj1
                  rw [hj2] at e2
                  cases e2
                  cases dj <;> first | (simp at hall; done) | skip
                  obtain ⟨_, kvs2, z1, _⟩ := o2
                  have := gr.f.k _ _ (hmem.trans z1) rfl
                  rw [h1] at this
                  cases this
                obtain ⟨S', e', _⟩ := S.seen gr
                have hF : delH F2 (ownAddrs ms ρ σ) qa = some (.lst (ns.map V.int)) := by rw [delH_out hno]; exact h1
                have hx1 : H1 p' = some (.dK kvs) := gr.h.k _ _ hx rfl
                have hlen : kvs.length < sizeLine := by
                  rw [hk2.length]
                  exact Nat.lt_of_le_of_lt (of_decide_eq_true hl.2) (by decide)
                refine ⟨.ref p', ht', .int k, hk', p', _, rfl, DPut.k (k := Sum.inl k) hx1 hlen, ?_⟩
                exact post σ _ _ (S'.write hρ hp ⟨rfl, _, upd_same, ((hk2.mo e').put hF)⟩) e'
              · cases e
            · cases e
          · cases e
        · cases e
      · cases e
    · cases e
  · cases e
/-- for all two addresses -/
noncomputable def allA (g : Addr → Addr → Option Fl) : Option Fl := by
  classical exact if h : ∃ o, ∀ a b, a ≠ b → g a b = some o then some h.choose else none
theorem allA_some {g : Addr → Addr → Option Fl} {fl : Fl} (h : allA g = some fl) : ∀ a b, a ≠ b → g a b = some fl := by
  unfold allA at h
  split at h
  · rename_i hx
    cases h
    exact hx.choose_spec
  · cases h
theorem allA_of {g : Addr → Addr → Option Fl} {fl : Fl} (h : ∀ a b, a ≠ b → g a b = some fl) : allA g = some fl := by
  have hx : ∃ o, ∀ a b, a ≠ b → g a b = some o := ⟨fl, h⟩
  unfold allA
  rw [dif_pos hx]
  have h1 := hx.choose_spec 0 1 (by decide)
  rw [h 0 1 (by decide)] at h1
  exact h1.symm
/-- x, y, z = c, {}, {}, and what comes behind -/
noncomputable def sNew3 (i j l : Nat) (c : Sx) (rest : Ss) : Ss := fun ρ =>
  match c (expo [] ρ) with
  | some (.ok d) => if lf d then allA (fun p q => rest (((ρ.set i (.dat d)).set j (.own (.dlx p []))).set l (.own (.dlx q [])))) else none
  | _ => none
theorem own_ne {F0 H0 F H H1 : Hp} {σ : St} {ρ : Sig} (S : StOk X.K X.mg F0 H0 F H σ ρ) {p : Addr} (hp : H p = none) {j : Nat} {e : D} (h : ρ[j]? = some (.own e)) : σ[j]? ≠ some (some (.ref p)) := fun z => by
  obtain ⟨q, e1, _, _, o⟩ := S.s j _ h
  rw [z] at e1
  cases e1
  obtain ⟨u, hu, _⟩ := o.there
  rw [hp] at hu
  cases hu
theorem qs_new3 {i j l : Nat} {x y z : Str} {sc : Sx} {rest : List Stmt} {r : Ss} {px py pz pt p4 p5 : Pos} {kt k2 pt2} (hc : X.calm = true) (hN : X.N.Nodup) (ha : PE X a (tS X.K X.mg W sc)) (hr : PSs X rest (tP X.K X.mg W r))
    (hi : X.N[i]? = some x := by rfl) (hj : X.N[j]? = some y := by rfl) (hk : X.N[l]? = some z := by rfl) (hij : i ≠ j := by decide) (hil : i ≠ l := by decide) (hjl : j ≠ l := by decide)
    (hx : X.env.scope.names.lookup x = some .local := by rfl) (hy : X.env.scope.names.lookup y = some .local := by rfl) (hz : X.env.scope.names.lookup z = some .local := by rfl)
    (hw : swappedStores [.Tuple [.Name x px, .Name y py, .Name z pz] kt pt] (.Tuple [a, .Dict [] [] p4, .Dict [] [] p5] k2 pt2) X.env = pure (some [x, y, z]) := by rfl)
    (hs : swapsWithSole [.Tuple [.Name x px, .Name y py, .Name z pz] kt pt] (.Tuple [a, .Dict [] [] p4, .Dict [] [] p5] k2 pt2) pos.line X.env = pure false := by rfl)
    (hs1 : starEach [a, .Dict [] [] p4, .Dict [] [] p5] X.env = (false, eval a X.env) :: starEach [.Dict [] [] p4, .Dict [] [] p5] X.env := by rfl)
    (hs2 : starEach [.Dict [] [] p4, .Dict [] [] p5] X.env = (false, eval (.Dict [] [] p4) X.env) :: starEach [.Dict [] [] p5] X.env := by rfl)
    (hs3 : starEach [.Dict [] [] p5] X.env = (false, eval (.Dict [] [] p5) X.env) :: starEach [] X.env := by rfl) :
    PSs X (.Assign [.Tuple [.Name x px, .Name y py, .Name z pz] kt pt] (.Tuple [a, .Dict [] [] p4, .Dict [] [] p5] k2 pt2) pos :: rest) (tP X.K X.mg W (sNew3 i j l sc r)) := by
  refine pss_imp (pss_cons (ps_par3 hc hN hi hj hk hij hil hjl hx hy hz (pa_cons ha (pa_cons pe_dnewK (pa_cons pe_dnewK pa_nil hs3) hs2) hs1) hw hs) hr) fun D σ H ⟨F0, H0, ρ, F, fl, S, e, post⟩ => ?_
  unfold sNew3 at e
  split at e
  · rename_i d ed
    split at e
    · rename_i hl
      have al := allA_some e
      refine ⟨_, _, _, S.view [], ed, fun b F1 H1 gr rb p hp q hq => ?_⟩
      obtain ⟨S1, e1, tp⟩ := S.seen gr
      have hpq : q ≠ p := fun w => by rw [w, upd_same] at hq; cases hq
      have hq1 : H1 q = none := by rw [upd_ne hpq] at hq; exact hq
      have g2 : Grow (delH F1 (ownAddrs [] ρ σ)) H1 (delH F1 (ownAddrs [] ρ σ)) (upd (upd H1 p (.dK [])) q (.dK [])) := (Grow.only S1.g.s hp).trans (Grow.only (S1.g.s.trans (.new hp)) hq)
      have S2 := S1.grow g2
      have S3 := S2.set (i := i) (Rep.lf tp _ _ hl rb)
      have S4 := S3.setOwn (i := j) (p := p) (d := .dlx p []) (S1.g.h.none hp) (S1.g.s.none hp) ⟨rfl, [], by rw [upd_ne (Ne.symm hpq), upd_same], trivial⟩ fun j' e' _ h' z => by
        by_cases w : i = j'
        · subst w
          by_cases hi' : i < ρ.length
          · rw [List.getElem?_set_self hi'] at h'; cases h'
          · rw [List.getElem?_eq_none (by rw [List.length_set]; omega)] at h'; cases h'
        · rw [List.getElem?_set_ne w] at h' z
          exact own_ne (H1 := H1) S1 hp h' z
      have S5 := S4.setOwn (i := l) (p := q) (d := .dlx q []) (S1.g.h.none hq1) (S1.g.s.none hq1) ⟨rfl, [], upd_same, trivial⟩ fun j' e' _ h' z => by
        by_cases w2 : j = j'
        · subst w2
          by_cases hj' : j < ρ.length
          · rw [List.getElem?_set_self (by rw [List.length_set, ← S1.len]; exact hj')] at z
            cases z
            exact hpq rfl
          · rw [List.getElem?_eq_none (by rw [List.length_set, List.length_set]; omega)] at h'; cases h'
        · rw [List.getElem?_set_ne w2] at h' z
          by_cases w : i = j'
          · subst w
            by_cases hi' : i < ρ.length
            · rw [List.getElem?_set_self hi'] at h'; cases h'
            · rw [List.getElem?_eq_none (by rw [List.length_set]; omega)] at h'; cases h'
          · rw [List.getElem?_set_ne w] at h' z
            exact own_ne (H1 := H1) S1 hq1 h' z
      exact ⟨b, .ref p, .ref q, rfl, F0, H0, _, _, fl, S5, al p q (Ne.symm hpq), post.mo e1⟩
    · cases e
  · cases e
end
end Dl
/-! LamOne: a lambda of one parameter p that captures one name x of its maker. -/
namespace LamO
open PySem PySem.Spec PyProof.Rows L2 LamX
/-- its scope: p its own, x captured, no cell -/
structure LamS1 (sc scope : Scope) (p x : Str) : Prop where
  kind : scope.kind = .function
  co : scope.isCoroutine = false
  gen : scope.isGenerator = false
  cells : ∀ y ∈ scope.names, y.2 ≠ .cell
  loc : scope.names.lookup p = some .local
  cap : scope.names.lookup x = some .free
  free : ∀ y ∈ scope.names, y.2 = .free → sc.names.lookup y.1 = some .cell ∨ sc.names.lookup y.1 = some .free
theorem LamS1.has {X : Cx} {scope : Scope} {p x : Str} (L : LamS1 X.env.scope scope p x) (ok : X.Ok) : ∀ y ∈ scope.names, y.2 = .free → ∃ c, X.env.cells.lookup y.1 = some c := fun y hy e => by
  rcases L.free y hy e with k | k
  · exact ok.has _ (.inl k)
  · exact ok.has _ (.inr k)
/-- the context of its body -/
def lam1Cx (X : Cx) (A : Around) (outer : List Env) (s : Shared) (H : Hp) (E : XK) (scope : Scope) (f c' : Addr) (p x : Str) : Cx := { lamCx X A outer s H E scope f c' with N := [p, x] }
section
variable {X : Cx} {pins : List (Addr × Obj)} {σ : L2.St} {H HZ : Hp} {s s1 : Shared}
theorem lam1_start {A : Around} {outer : List Env} {E : XK} {scope : Scope} {f c' : Addr} {h₁ : Heap} {tk i : Nat} {p x : Str} {u : Value} {vp vx : V} (I : Inv X pins σ H s) (L : LamS1 X.env.scope scope p x) (e0 : Env0 X.prog X.w X.K X.mg X.base A outer s1 HZ) (hd : A.handled = none)
    (un : Un (frs X.stack) [] H HZ s.heap s1.heap) (hns : h₁.Ns s1.heap.objs.size fun y => ([(p, u)] : List (Str × Value)).reverse.lookup y) (kp : ∀ b o, s1.heap.get? b = some o → h₁.get? b = some o)
    (hu : RelV vp u) (hN : X.N[i]? = some x) (hx : σ[i]? = some (some vx)) :
    Inv (lam1Cx X A outer s1 HZ E scope f c' p x) [] [some vp, some vx] HZ { s1 with heap := h₁, toks := tk } := by
  have hfree := L.has I.ok
  have cm : ∀ {y c}, (cloFrom X.env.cells scope.names []).lookup y = some c → X.env.cells.lookup y = some c := fun {y c} e => by
    rcases cloFrom_mem (PySem.mem_of_lookup e) with hm | ⟨h1, h2⟩
    · cases hm
    · obtain ⟨c1, hc⟩ := hfree _ h1 rfl
      have hc : X.env.cells.lookup y = some c1 := hc
      have e2 : c = c1 := by
        rw [h2, hc] <;> rfl
      rw [e2]
      exact hc
  have look : ∀ {y}, scope.names.lookup y = some .free → ∃ c, (cloFrom X.env.cells scope.names []).lookup y = some c := fun {y} hl => by
    have hy : (y, NameKind.free) ∈ scope.names := PySem.mem_of_lookup hl
    exact mem_lookup (cloFrom_has (cells := X.env.cells) (acc := []) hy)
  have cellK : ∀ {c : Addr} {v : Option Value}, H c = none → s.heap.IsCell c v → h₁.IsCell c v := fun {c v} n ⟨o, ho, hd⟩ => by
    obtain ⟨sl, q⟩ := un.any ho n (by simp)
    exact ⟨_, kp _ _ q, hd⟩
  have noA : ∀ b : Addr, b ∉ (lam1Cx X A outer s1 HZ E scope f c' p x).ex := fun b z => absurd (show b ∈ ([] : List Addr) from z) (by simp)
  refine ⟨⟨e0.mod, L.kind, rfl, rfl, Nat.le_refl _, fun y z c e1 e2 => I.ok.inj y z c (cm e1) (cm e2), fun y hy => ?_, fun y c z _ => ?_, fun _ => hd, Around.frames_deeper e0.frames, .inr ⟨rfl, rfl⟩, fun b z => absurd z (noA b), e0.bs, e0.bsz, fun b _ _ => noA b,
      fun b z => absurd z (noA b), e0.funs, e0.frf⟩,
    rfl, e0.bare, Un.kept kp, ⟨_, hns, fun j y v e1 e2 e3 => ?_⟩, fun y c e => ?_, e0.hok.fresh (Nat.le_refl _), fun y c e => ?_, fun q hq => absurd (show q ∈ ([] : List (Addr × Obj)) ++ [] from hq) (by simp), e0.hok.kept kp, rfl⟩
  · have hy : scope.names.lookup y = some .cell ∨ scope.names.lookup y = some .free := hy
    rcases hy with hy | hy
    · exact absurd rfl (L.cells _ (PySem.mem_of_lookup hy))
    · exact look hy
  · have z : false = true := z
    cases z
  · have e1 : ([p, x] : List Str)[j]? = some y := e1
    match j with
    | 0 =>
      cases e1
      cases e2
      exact ⟨u, hu, .inl ⟨L.loc, by simp⟩⟩
    | 1 =>
      cases e1
      cases e2
      obtain ⟨m, hn, hl⟩ := I.loc
      have hvis : Vis X.env.scope x := (L.free _ (PySem.mem_of_lookup L.cap) rfl).elim (fun k => .inr (.inl k)) (fun k => .inr (.inr k))
      obtain ⟨w', r, q⟩ := hl i x vx hN hx hvis
      obtain ⟨c2, h2⟩ := look L.cap
      refine ⟨w', r, .inr ⟨.inr L.cap, c2, h2, ?_⟩⟩
      have c1 := cm h2
      rcases q with ⟨k', _⟩ | ⟨_, c3, e', z⟩
      · have k' : X.env.scope.names.lookup x = some .local := k'
        rcases L.free _ (PySem.mem_of_lookup L.cap) rfl with k2 | k2 <;> rw [show X.env.scope.names.lookup x = _ from k2] at k' <;> cases k'
      · rw [c1] at e'
        cases e'
        exact cellK (I.freeC x _ c1) z
    | j + 2 => cases e1
  · obtain ⟨w', z⟩ := I.cell y c (cm e)
    exact ⟨w', cellK (I.freeC y c (cm e)) z⟩
  · obtain ⟨v, o, ho, hd⟩ := I.cell y c (cm e)
    exact un.free c o ho (I.freeC y c (cm e)) (by simp)
/-- what the making of a lambda does to the tracked heap: nothing, or its table takes a new code object -/
def LamStep (H H1 : Hp) (P : Addr) (q : Str) : Prop := H1 = H ∨ ∃ (ps ps1 : Array Value) (c' : Addr), H P = some (.tbl ps) ∧ H c' = none ∧ H1 = upd (upd H P (.tbl ps1)) c' (CodeO c' q)
/-- the lambda is made, and no more is changed than its table -/
theorem lam_make3 {c P : Addr} {params : Arguments} {body : Expr} {scope : Scope} {pos : Pos} {E : Value → Shared → Prop} {Q : Value → Shared → Prop} (I : Inv X pins σ H s) (TB : TabB X.base X.mg c P) (hcode : X.env.code = .ref c)
    (hT : TabS H P (X.env.qual ++ "<lambda>")) (hdef : defaultsOf params X.env = ([], [])) (hfree : ∀ y ∈ scope.names, y.2 = .free → ∃ c, X.env.cells.lookup y.1 = some c)
    (h : ∀ (f c' : Addr) (pm ctv : Value) (H1 : Hp) (s' : Shared), Inv X pins σ H1 s' → LamStep H H1 P (X.env.qual ++ "<lambda>") → TabS H1 P (X.env.qual ++ "<lambda>") →
      s'.heap.get? f = some (PySem.W.kla_obj "<lambda>" (X.env.qual ++ "<lambda>") params body scope (cloFrom X.env.cells scope.names []) pm c' ctv) → H1 c' = some (CodeO c' (X.env.qual ++ "<lambda>")) → Q (.ref f) s') :
    wpAny (model X.prog X.w) X.A (eval (.Lambda params body scope pos) X.env) Q E s := by
  obtain ⟨ps, hP, ht, hall⟩ := hT
  have tabBuiltins : s.heap.BuiltinsAt X.mg P := TB.bm.keeps I.bk
  have tabHere : s.heap.get? P = some { cls := .none, data := .fields ps } := I.hok P _ hP
  refine PySem.W.kla_eval hdef ?_
  cases known : codeAmong pos ps.toList with
  | some cv =>
    obtain ⟨c', rfl, hco⟩ := hall pos cv known
    refine PySem.W.kla_makeFunctionHit (mg := X.mg) (c := c) (P := P) (ps := ps) (closure_ok hfree) I.ok.glob (I.mod.glob.keeps I.bk) hcode (TB.code.keeps I.bk) tabHere ht known tabBuiltins fun ctv h' tk hx hsz => ?_
    exact h _ c' _ ctv H _ (I.kept fun b o e => Heap.get?_push_of_some _ (hx b o e)) (.inl rfl) ⟨ps, hP, ht, hall⟩ (Heap.get?_push_size _ rfl) hco
  | none =>
    refine PySem.W.kla_makeFunction (mg := X.mg) (c := c) (P := P) (ps := ps) (closure_ok hfree) I.ok.glob (I.mod.glob.keeps I.bk) hcode (TB.code.keeps I.bk) tabHere ht known TB.gP tabBuiltins fun c' ctv h' tk hx hge hlt hrec htb => ?_
    obtain ⟨c2, oc, vs, t, e2, hoc, hd, hv⟩ := hrec
    cases e2
    have fresh : H c' = none := I.hok.fresh hge
    have stay : ∀ b o, H b = some o → (∀ qs, o ≠ .tbl qs) → upd (upd H P (.tbl (ps ++ #[rawInt pos.line, rawInt pos.col, .ref c']))) c' (CodeO c' (X.env.qual ++ "<lambda>")) b = some o := fun b o e n => by
      have h1 : b ≠ c' := fun z => by rw [z, fresh] at e; cases e
      have h2 : b ≠ P := fun z => by rw [z, hP] at e; exact n ps (Option.some.inj e).symm
      rw [upd_ne h1, upd_ne h2]
      exact e
    refine h _ c' _ ctv _ _ (inv_table (t' := tk) (more := #[rawInt pos.line, rawInt pos.col, .ref c']) (q := X.env.qual ++ "<lambda>") I hP (fun b o hb e => Heap.get?_push_of_some _ (hx b o hb e)) (Heap.get?_push_of_some _ htb) hge ⟨oc, vs, t, Heap.get?_push_of_some _ hoc, hd, hv⟩)
      (.inr ⟨ps, _, c', hP, fresh, rfl⟩) ?_ (Heap.get?_push_size _ rfl) upd_same
    have hne : P ≠ c' := fun z => by rw [← z, hP] at fresh; cases fresh
    refine ⟨_, by rw [upd_ne hne, upd_same], by rw [Array.toList_append]; exact PySem.TriplesOk_snoc _ _ _ _ ht, fun p' cv hcv => ?_⟩
    rw [Array.toList_append] at hcv
    rcases among_app _ ht hcv with z | z
    · obtain ⟨c0, e1, e3⟩ := hall p' cv z
      exact ⟨c0, e1, stay _ _ e3 codeO_ne⟩
    · exact ⟨c', z, upd_same⟩
/-- a name read, the very state kept -/
theorem ld_slot {Y : Cx} {E : Value → Shared → Prop} {i : Nat} {x : Str} {v : V} {pos : Pos} {σ : L2.St} (I : Inv Y pins σ H s) (hN : Y.N[i]? = some x) (e : σ[i]? = some (some v)) (hv : Vis Y.env.scope x) (hd : (x == ("__debug__" : Str)) = false := by decide) (hcd : (x == ("__classdict__" : Str)) = false := by decide) :
    ∃ u, RelV v u ∧ ∀ {Q : Value → Shared → Prop}, Q u s → wpAny (model Y.prog Y.w) Y.A (eval (.Name x pos) Y.env) Q E s := by
  obtain ⟨m, hn, hl⟩ := I.loc
  obtain ⟨u, r, l⟩ := hl i x v hN e hv
  refine ⟨u, r, fun {Q} fin => ?_⟩
  rcases l with ⟨hk, hm⟩ | ⟨hk, c, hc, hcell⟩
  · exact wpAny_Name (wpAny_loadName_local I.ok.kind hk hn hm fin) hd
  · rcases hk with hk | hk
    · exact wpAny_Name (wpAny_loadName_cell I.ok.kind hk hc hcell fin) hd
    · exact wpAny_Name (wpAny_loadName_free I.ok.kind hk hc hcell fin hcd) hd
/-- abs(p - x), the heap kept -/
theorem abs_body {Y : Cx} {E : Value → Shared → Prop} {i j : Nat} {p x : Str} {a b : Int} {σ : L2.St} {p1 p2 p3 p4 p5 : Pos} {Q : Value → Shared → Prop} (I : Inv Y pins σ H s) (hNp : Y.N[i]? = some p) (hNx : Y.N[j]? = some x) (ep : σ[i]? = some (some (.int a))) (ex : σ[j]? = some (some (.int b))) (vp : Vis Y.env.scope p) (vx : Vis Y.env.scope x)
    (hg : Gl Y "abs") (hm : Y.mg "abs" = none) (h : ∀ u tk, Q (.int (if a - b < 0 then -(a - b) else a - b) u) { s with toks := tk })
    (hd : (p == ("__debug__" : Str)) = false := by decide) (hcd : (p == ("__classdict__" : Str)) = false := by decide) (hd2 : (x == ("__debug__" : Str)) = false := by decide) (hcd2 : (x == ("__classdict__" : Str)) = false := by decide) :
    wpAny (model Y.prog Y.w) Y.A (eval (.Call (.Name "abs" p1) [.BinOp (.Name p p2) .Sub (.Name x p3) p4] [] p5) Y.env) Q E s := by
  refine wpAny_Call_Name_kw (ld_blt I hg hm boot_abs ?_ (by decide) (by decide))
  refine PyProof.Rows.callWith_builtin1 ?_ (by rfl) (by rfl)
  obtain ⟨u1, ⟨t1, rfl⟩, l1⟩ := ld_slot (E := E) (pos := p2) I hNp ep vp hd hcd
  obtain ⟨u2, ⟨t2, rfl⟩, l2⟩ := ld_slot (E := E) (pos := p3) I hNx ex vx hd2 hcd2
  refine Calls.spliced_cons (wpAny_BinOp (l1 (l2 (sub_int ?_))))
  refine Calls.spliced_nil ?_
  exact call_abs_int fun u tk => h u tk
/-- the key's call -/
theorem key_turn {scope : Scope} {f c' : Addr} {p x : Str} {pm ctv : Value} {params : Arguments} {p1 p2 p3 p4 p5 : Pos} {i : Nat} {n cx : Int} {t tk : Nat} {h : Heap} (I : Inv X pins σ H s) (L : LamS1 X.env.scope scope p x)
    (hf : s.heap.get? f = some (PySem.W.kla_obj "<lambda>" (X.env.qual ++ "<lambda>") params (.Call (.Name "abs" p1) [.BinOp (.Name p p2) .Sub (.Name x p3) p4] [] p5) scope (cloFrom X.env.cells scope.names []) pm c' ctv))
    (hc : H c' = some (CodeO c' (X.env.qual ++ "<lambda>"))) (hN : X.N[i]? = some x) (hx : σ[i]? = some (some (.int cx)))
    (hbind : ∀ u, bindArgs (PySem.W.kla_fn "<lambda>" (X.env.qual ++ "<lambda>") params (.Call (.Name "abs" p1) [.BinOp (.Name p p2) .Sub (.Name x p3) p4] [] p5) scope (cloFrom X.env.cells scope.names []) pm (.ref c') ctv) ⟨[u], []⟩ = pure [(p, u)])
    (hr : Room 1 X.A) (hg : scope.names.lookup ("abs" : Str) = some .globalImplicit) (hm : X.mg "abs" = none) (hh : ∀ b o, s.heap.get? b = some o → h.get? b = some o)
    (hd : (p == ("__debug__" : Str)) = false := by decide) (hcd : (p == ("__classdict__" : Str)) = false := by decide) (hd2 : (x == ("__debug__" : Str)) = false := by decide) (hcd2 : (x == ("__classdict__" : Str)) = false := by decide) :
    wpAny (model X.prog X.w) X.A.in1.in1 (call (.ref f) [.int n t]) (PySem.W.KeyPure (.int (if n - cx < 0 then -(n - cx) else n - cx)) { s with heap := h, toks := tk }) (fun _ _ => False) { s with heap := h, toks := tk } := by
  have IX : Inv X pins σ H { s with heap := h, toks := tk } := I.kept (t' := tk) hh
  have of1 : h.get? f = _ := hh _ _ hf
  obtain ⟨⟨oc, vs, tq, hoc, hdc, hvc⟩, _, _⟩ := IX.hok c' _ hc
  have e := IX.env0
  have e0 : Env0 X.prog X.w X.K X.mg X.base X.A.in1.in1 X.stack { s with heap := h, toks := tk } H := ⟨e.frames, e.mod, e.bs, e.bsz, e.funs, e.frf, e.hok, e.bare⟩
  have rc : codeAny (model X.prog X.w) X.A.in1.in1 (.call (.ref f) ⟨[.int n t], []⟩) (fun r s' => ∃ v', r = .ok (.ret v') ∧ PySem.W.KeyPure (.int (if n - cx < 0 then -(n - cx) else n - cx)) { s with heap := h, toks := tk } v' s') { s with heap := h, toks := tk } := by
    refine PySem.W.kla_callFunE hr.depth of1 rfl L.co L.gen rfl ⟨c', oc, vs, tq, rfl, hoc, hdc, hvc⟩ ?_
    rw [hbind]
    refine wpAny_pure (wpAny_newFunctionEnv (fun y hy => L.cells y hy) (fun y hy => by rw [List.mem_singleton] at hy; rw [hy]; exact L.loc) (fun h₁ hns hsb => ⟨IX.nolimit.fresh _ hsb, ?_⟩) L.kind)
    have kp : ∀ b o, h.get? b = some o → h₁.get? b = some o := fun b o e => hsb.extBut b o (Nat.ne_of_lt (Heap.lt_size e)) (Heap.get?_push_of_some _ e)
    have J : Inv (lam1Cx X X.A.in1.in1 X.stack { s with heap := h, toks := tk } H (fun _ _ _ => False) scope f c' p x) [] [some (.int n), some (.int cx)] H { s with heap := h₁, toks := tk + 1 } :=
      lam1_start (u := .int n t) I L e0 hr.hd (Un.kept hh) hns kp ⟨t, rfl⟩ hN hx
    refine PySem.W.kla_codeExpr (abs_body (i := 0) (j := 1) J rfl rfl rfl rfl (.inl L.loc) (.inr (.inr L.cap)) hg hm (fun u tk2 => ⟨_, rfl, h₁, tk2, rfl, kp, .int _ _⟩) hd hcd hd2 hcd2)
  refine wpAny_call (codeAny_mono rc fun r s' hq => ?_)
  obtain ⟨v', rfl, hk⟩ := hq
  exact hk
/-- the distance as a key -/
def dist (c n : Int) : Int := if n - c < 0 then -(n - c) else n - c
def sortD (c : Int) (ns : List Int) : List Int := ns.mergeSort (PySem.W.dataLe false fun n => PyData.int (dist c n))
theorem each_vals : ∀ {its : List Value} {ns : List Int}, Vals (ns.map V.int) its → PySem.W.EachIs (fun (v : Value) (n : Int) => ∃ t, v = .int n t) its ns
  | _, [], h => by cases h; exact .nil
  | _, n :: ns, h => by
    cases h with
    | cons h1 h2 =>
      obtain ⟨t, rfl⟩ := h1
      exact .cons ⟨t, rfl⟩ (each_vals h2)
theorem vals_each : ∀ {its : List Value} {ns : List Int}, PySem.W.EachIs (fun (v : Value) (n : Int) => ∃ t, v = .int n t) its ns → Vals (ns.map V.int) its
  | _, _, .nil => .nil
  | _, _, .cons ⟨t, h⟩ h2 => by subst h; exact .cons ⟨t, rfl⟩ (vals_each h2)
def SD (K : PySem.W.Frag) (P : Addr) (q : Str) (i : Nat) (σ : L2.St) (Q : VK) (vs : List V) (H1 : Hp) : Prop := ∃ (l : Addr) (ns : List Int) (c : Int), vs = [.ref l] ∧ SqL K H1 l (ns.map V.int) ∧ σ[i]? = some (some (.int c)) ∧ TabS H1 P q ∧
  ∀ H2, LamStep H1 H2 P q → TabS H2 P q → ∀ r, H2 r = none → Q (.ref r) (upd H2 r (.lst ((sortD c ns).map V.int)))
def tSortD (K : PySem.W.Frag) (P : Addr) (q : Str) (i : Nat) (ta : TE) : TE := fun σ H Q => tCons ta tNil σ H (SD K P q i σ Q)
theorem sqL_step {K : PySem.W.Frag} {H H' : Hp} {P l : Addr} {q : Str} {xs : List V} (e : LamStep H H' P q) (h : SqL K H l xs) : SqL K H' l xs := by
  rcases e with rfl | ⟨ps, ps1, c', hP, hc, rfl⟩
  · exact h
  · have stay : ∀ o, H l = some o → (∀ qs, o ≠ .tbl qs) → upd (upd H P (.tbl ps1)) c' (CodeO c' q) l = some o := fun o e n => by
      have h1 : l ≠ c' := fun z => by rw [z, hc] at e; cases e
      have h2 : l ≠ P := fun z => by rw [z, hP] at e; exact n ps (Option.some.inj e).symm
      rw [upd_ne h1, upd_ne h2]
      exact e
    rcases h with (h | ⟨o, h⟩) | h
    · exact .inl (.inl (stay _ h (fun _ z => by cases z)))
    · exact .inl (.inr ⟨o, stay _ h (fun _ z => by cases z)⟩)
    · exact .inr h
theorem pe_sortD {c P : Addr} {p x : Str} {params : Arguments} {scope : Scope} {a : Expr} {ta : TE} {i : Nat} {p1 p2 p3 p4 p5 p6 lpos kpos pos : Pos} (ha : PE X a ta) (TB : TabB X.base X.mg c P) (hcode : X.env.code = .ref c)
    (L : LamS1 X.env.scope scope p x) (hN : X.N[i]? = some x) (hr : Room 1 X.A) (hab : scope.names.lookup ("abs" : Str) = some .globalImplicit) (hm : X.mg "abs" = none)
    (hg : Gl X "sorted") (hms : X.mg "sorted" = none) (hdef : defaultsOf params X.env = ([], []))
    (hbind : ∀ (q : Str) (cl : List (Str × Addr)) (pm cv ctv u : Value), bindArgs (PySem.W.kla_fn "<lambda>" q params (.Call (.Name "abs" p1) [.BinOp (.Name p p2) .Sub (.Name x p3) p4] [] p5) scope cl pm cv ctv) ⟨[u], []⟩ = pure [(p, u)])
    (hs1 : starEach [a] X.env = (false, eval a X.env) :: starEach [] X.env := by rfl) (he : backTo pos (starEach [a] X.env) = (false, eval a X.env) :: backTo pos (starEach [] X.env) := by rfl) (hpl : (backTo pos (starEach [a] X.env)).any (·.1) = false := by rfl)
    (hd : (p == ("__debug__" : Str)) = false := by decide) (hcd : (p == ("__classdict__" : Str)) = false := by decide) (hd2 : (x == ("__debug__" : Str)) = false := by decide) (hcd2 : (x == ("__classdict__" : Str)) = false := by decide) :
    PE X (.Call (.Name "sorted" p6) [a] [⟨some "key", .Lambda params (.Call (.Name "abs" p1) [.BinOp (.Name p p2) .Sub (.Name x p3) p4] [] p5) scope lpos, kpos⟩] pos) (tSortD X.K P (X.env.qual ++ "<lambda>") i ta) := by
  refine ⟨fun pins s σ H Q I h => ?_⟩
  refine wpAny_Call_Name_kw (ld_blt I hg hms boot_sorted ?_ (by decide) (by decide))
  refine PyProof.Rows.callWith_kw (thn ((pa_cons ha pa_nil hs1).run pos pins s σ H _ I h) fun us s1 ⟨vs, H1, I1, r1, q1⟩ => ?_) he hpl (by rfl) (by rfl)
  obtain ⟨l, ns, cx, rfl, hl, hx, hT, q1⟩ := q1
  rw [Vals.ref1 r1]
  show wpAny _ _ (evalAll ((do let v ← eval (.Lambda params _ scope lpos) X.env; standAt pos; pure v) :: (backToKw pos (keywordEach [] X.env)).map (·.2))) _ _ s1
  refine wpAny_evalAll_cons (wpAny_bind (lam_make3 I1 TB hcode hT hdef (L.has I1.ok) fun f c' pm ctv H2 s2 I2 eN T2 hf hco => wpAny_bind (wpAny_standAt (wpAny_pure ?_))))
  refine wpAny_evalAll_nil ?_
  have hl2 := sqL_step eN hl
  obtain ⟨its, r', pl, hz⟩ := I2.list hl2
  have ei := each_vals r'
  have hlen := ei.length
  refine PySem.W.sorted_key_data (fun n : Int => PyData.int (dist cx n)) pl.isList ei (PySem.W.AllAlike.of fun _ _ => rfl) (PySem.W.Sortable.others fun b => ⟨(by intro z; cases z), fun xs z => (by cases z)⟩) (by simpa using hz) (fun n _ => ?_) (PyProof.Rows.ksk_s1 _ _) (fun q => PyProof.Rows.ksk_l1 _ _) (fun q => PyProof.Rows.ksk_t1 _ _) (fun v n hv _ h tk hh => ?_) fun out cc h' tk hk _ hat hol eo => ?_
  · have := hr.un
    show X.A.units + 2 + (PyData.int (dist cx n)).depth < cLine
    simp only [PyData.depth]
    omega
  · obtain ⟨t, rfl⟩ := hv
    exact key_turn I2 L hf hco hN hx (fun u => hbind _ _ _ _ _ u) hr hab hm hh hd hcd hd2 hcd2
  · have hol2 : ((sortD cx ns).map V.int).length ≤ sizeLine := by
      unfold sortD
      rw [List.length_map, List.length_mergeSort]
      simpa using hz
    exact ⟨.ref (s2.heap.objs.size + 1), upd H2 (s2.heap.objs.size + 1) (.lst ((sortD cx ns).map V.int)), I2.laid (t' := tk) (fun b o e => hk b o e) (Nat.le_succ _) ⟨hol2, out, cc, vals_each eo, hat⟩, rfl, q1 H2 eN T2 _ (I2.hok.fresh (Nat.le_succ _))⟩
end
end LamO
/-! Dl24: sorted(e, key=lambda p: abs(p - x)). -/
namespace Dl
open PySem L2 LamX LamO
section
variable {F H H' : Hp} {P : Addr}
theorem Grow.lam (e : Ex F H) (st : LamStep H H' P QN) (ht : TabS H' P QN) : Grow F H F H' := by
  rcases st with rfl | ⟨ps, ps1, c', hP, hc, rfl⟩
  · exact .refl e
  · have stay : ∀ a o, H a = some o → NT o = true → upd (upd H P (.tbl ps1)) c' (CodeO c' QN) a = some o := fun a o q t => by
      have h1 : a ≠ c' := fun z => by rw [z, hc] at q; cases q
      have h2 : a ≠ P := fun z => by rw [z, hP] at q; cases q; cases t
      rw [upd_ne h1, upd_ne h2]
      exact q
    have eh : Ex H (upd (upd H P (.tbl ps1)) c' (CodeO c' QN)) := ⟨stay, fun a q => by
      have h1 : a ≠ c' := fun z => by rw [z, upd_same] at q; cases q
      rw [upd_ne h1] at q
      have h2 : a ≠ P := fun z => by rw [z, upd_same] at q; cases q
      rw [upd_ne h2] at q
      exact q⟩
    refine ⟨.refl _, eh, e.trans eh, fun _ _ q => .inl q, fun a q hq t => ?_⟩
    subst hq
    by_cases ha : a = P
    · subst ha; exact ht
    · obtain ⟨qs, t1, t2, t3⟩ := t
      have h1 : a ≠ c' := fun z => by rw [z, hc] at t1; cases t1
      refine ⟨qs, by rw [upd_ne h1, upd_ne ha]; exact t1, t2, fun pos cv hcv => ?_⟩
      obtain ⟨c0, e1, e2⟩ := t3 pos cv hcv
      exact ⟨c0, e1, stay _ _ e2 rfl⟩
end
section
variable {X : Cx} {W : WX} {sa : Sx}
def sSortD (a : Sx) (i : Nat) : Sl := fun ρ => bd (a ρ) fun d =>
  match d, (ρ[i]?).bind id with
  | .lst ds, some (.int c) => lift ((intL ds).map fun ns => (sortD c ns).map D.int)
  | _, _ => none
theorem l_sortD {fx c P : Addr} {p x : Str} {params : Arguments} {scope : Scope} {a : Expr} (i : Nat) {p1 p2 p3 p4 p5 p6 lpos kpos pos : Pos} (hx : X.mg "_law_arrow" = some (.ref fx)) (hT : TabOf X.K fx c P) (TB : TabB X.base X.mg c P) (hcode : X.env.code = .ref c) (hq : X.env.qual ++ "<lambda>" = QN)
    (ha : PE X a (tS X.K X.mg W sa)) (L : LamS1 X.env.scope scope p x) (hr : Room 1 X.A) (hm : X.mg "abs" = none) (hms : X.mg "sorted" = none)
    (hbind : ∀ (q : Str) (cl : List (Str × Addr)) (pm cv ctv u : Value), bindArgs (PySem.W.kla_fn "<lambda>" q params (.Call (.Name "abs" p1) [.BinOp (.Name p p2) .Sub (.Name x p3) p4] [] p5) scope cl pm cv ctv) ⟨[u], []⟩ = pure [(p, u)] := by intros; rfl)
    (hN : X.N[i]? = some x := by rfl) (hab : scope.names.lookup ("abs" : Str) = some .globalImplicit := by rfl) (hg : Gl X "sorted" := by rfl) (hdef : defaultsOf params X.env = ([], []) := by rfl)
    (hs1 : starEach [a] X.env = (false, eval a X.env) :: starEach [] X.env := by rfl) (he : backTo pos (starEach [a] X.env) = (false, eval a X.env) :: backTo pos (starEach [] X.env) := by rfl) (hpl : (backTo pos (starEach [a] X.env)).any (·.1) = false := by rfl)
    (hd : (p == ("__debug__" : Str)) = false := by decide) (hcd : (p == ("__classdict__" : Str)) = false := by decide) (hd2 : (x == ("__debug__" : Str)) = false := by decide) (hcd2 : (x == ("__classdict__" : Str)) = false := by decide) :
    PE X (.Call (.Name "sorted" p6) [a] [⟨some "key", .Lambda params (.Call (.Name "abs" p1) [.BinOp (.Name p p2) .Sub (.Name x p3) p4] [] p5) scope lpos, kpos⟩] pos) (tL X.K X.mg W (sSortD sa i)) := by
  refine pe_imp (pe_sortD (i := i) ha TB hcode L hN hr hab hm hg hms hdef hbind hs1 he hpl hd hcd hd2 hcd2) fun σ H Q ⟨ρ, F, z, v, e, fin⟩ => ?_
  refine part v e fin fun dx y F1 H1 _ e g v1 rx fin1 => ?_
  split at e
  · rename_i ds cx hρ _
    obtain ⟨out, e', rfl⟩ := lift_some e
    obtain ⟨ns, hns, rfl⟩ := Option.map_eq_some_iff.mp e'
    have hρ' : ρ[i]? = some (some (.int cx)) := by
      cases q : ρ[i]? with
      | none => rw [q] at hρ; cases hρ
      | some w => rw [q] at hρ; exact congrArg some hρ
    obtain ⟨u, hu, ru⟩ := v1.v i _ hρ'
    cases ru
    cases rx with
    | lst h1 h2 =>
      have hxs := intL_rep h2 hns
      subst hxs
      refine ⟨_, ns, cx, rfl, .inl (.inl (v1.e.k _ _ h1 rfl)), hu, ?_, fun H2 st t2 r hr2 => ?_⟩
      · rw [hq]; exact v1.t fx c P hx hT
      · rw [hq] at st t2
        have g2 := Grow.lam v1.e st t2
        exact fin1 (.ref r) F1 _ (g2.trans (.only g2.s hr2)) ⟨r, _, rfl, g2.h.none hr2, g2.s.none hr2, upd_same, intsR _⟩
  · cases e
end
/-- a def's promise, its body walked with its code known -/
theorem okXC {P : Program} {w : World} {K : PySem.W.Frag} {mg : Str → Option Value} {base : Heap} {x qual : Str} {st : Stmt} {f : Addr} {fd : FuncData} {N ps : List Str} {k : Nat} {sp : Sp} (F : Fun K x qual st f fd) (S : FnScope N ps (defScope st)) (len : ∀ vs H Q E, sp vs H Q E → vs.length = ps.length)
    (hbody : ∀ (cdv : Value), fd.code = cdv → ∀ (A : Around) (outer : List Env) (s : Shared) (H : Hp) (vs : List V) (Q : VK) (E : XK), Room k (A.deeper (PyProof.Rows.envOfC qual (defScope st) s.heap.objs.size f cdv)) → sp vs H Q E →
      ∃ t, PSs (cxOf (L2.CX P w) P w K mg base N qual (defScope st) f cdv A outer s H E) (defBody st) t ∧ t { nx := fun _ H' => Q .non H', rt := Q } (L2.start N vs) H) : FnOk P w K mg base (L2.CX P w) (k + 1) f fd ps sp := by
  obtain ⟨oc, od, kV, doc, pm, an, cdv, ct, osl, rfl, lk, hcd⟩ := F.ex
  exact fn_of lk hcd S len fun A outer s H vs Q E hr hsp => hbody cdv rfl A outer s H vs Q E hr hsp
theorem FnD.mkOkC {P : Program} {w : World} {K : PySem.W.Frag} {mg : Str → Option Value} {base : Heap} {x qual : Str} {st : Stmt} {f : Addr} {fd : FuncData} {N ps : List Str} {k : Nat} {body : Ss} (Fu : Fun K x qual st f fd) (S : FnScope N ps (defScope st)) (hm : mg x = some (.ref f)) (hb : Binds K fd ps [])
    (hbody : ∀ (cdv : Value), fd.code = cdv → ∀ (A : Around) (outer : List Env) (s : Shared) (H : Hp) (E : XK), Room k (A.deeper (PyProof.Rows.envOfC qual (defScope st) s.heap.objs.size f cdv)) →
      PSs (cxOf (L2.CX P w) P w K mg base N qual (defScope st) f cdv A outer s H E) (defBody st) (tP K mg (fun cls d _ H => E cls d H) body)) : FnOk P w K mg base (L2.CX P w) (k + 1) f fd ps (spOf K mg ps.length (runD N.length body)) := by
  refine okXC Fu S (fun vs H Q E h => ?_) (fun cdv hcv A outer s H vs Q E hr h => ⟨_, hbody cdv hcv A outer s H E hr, ?_⟩)
  · obtain ⟨F, ds, r, _, _, rs, hn, _⟩ := h
    rw [rs.length]; exact hn
  · obtain ⟨F, ds, r, e, ht, rs, hn, hf, post⟩ := h
    unfold runD at hf
    split at hf
    · rename_i ρ hb
      cases hf
      exact ⟨F, H, _, F, _, start_ok e ht rs, hb, fun σ' F' H' S' _ => post .non F' H' S'.g .non⟩
    · rename_i d hb
      cases hf
      exact ⟨F, H, _, F, _, start_ok e ht rs, hb, fun v F' H' g r => post v F' H' g r⟩
    · rename_i c ρ hb
      cases hf
      exact ⟨F, H, _, F, _, start_ok e ht rs, hb, fun C σ' F' H' S' _ hc => post C F' H' S'.g hc⟩
    · cases hf
theorem FnD.mkC {P : Program} {w : World} {K : PySem.W.Frag} {mg : Str → Option Value} {base : Heap} {x qual : Str} {st : Stmt} {f : Addr} {fd : FuncData} {N ps : List Str} {k : Nat} {body : Ss} (Fu : Fun K x qual st f fd) (S : FnScope N ps (defScope st)) (hm : mg x = some (.ref f)) (hb : Binds K fd ps [])
    (hbody : ∀ (cdv : Value), fd.code = cdv → ∀ (A : Around) (outer : List Env) (s : Shared) (H : Hp) (E : XK), Room k (A.deeper (PyProof.Rows.envOfC qual (defScope st) s.heap.objs.size f cdv)) →
      PSs (cxOf (L2.CX P w) P w K mg base N qual (defScope st) f cdv A outer s H E) (defBody st) (tP K mg (fun cls d _ H => E cls d H) body)) : FnD P w K mg base (k + 1) x ps.length (runD N.length body) := ⟨f, fd, ps, FnD.mkOkC Fu S hm hb hbody, hm, Fu.kp, hb⟩
def lamS1B (sc scope : Scope) (p x : Str) : Bool :=
  decide (scope.kind = .function) && !scope.isCoroutine && !scope.isGenerator && (scope.names.all fun y => !decide (y.2 = .cell) && (!decide (y.2 = .free) || decide (sc.names.lookup y.1 = some .cell) || decide (sc.names.lookup y.1 = some .free))) && decide (scope.names.lookup p = some .local) && decide (scope.names.lookup x = some .free)
theorem lamS1_by {sc scope : Scope} {p x : Str} (h : lamS1B sc scope p x = true) : LamS1 sc scope p x := by
  unfold lamS1B at h
  simp only [Bool.and_eq_true, Bool.or_eq_true, Bool.not_eq_true', decide_eq_true_eq, decide_eq_false_iff_not, List.all_eq_true] at h
  obtain ⟨⟨⟨⟨⟨h1, h2⟩, h3⟩, h4⟩, h5⟩, h6⟩ := h
  refine ⟨h1, h2, h3, fun y hy => (h4 y hy).1, h5, h6, fun y hy e => ?_⟩
  rcases (h4 y hy).2 with (z | z) | z
  · exact absurd e z
  · exact .inl z
  · exact .inr z
end Dl
/-! DlTop: what a def's walk asks of the module. -/
namespace Dl
open PySem L2
theorem hu65 {k : Nat} {A : Around} (r : Room k A) : A.units + 65 < cLine := by have := r.un; omega
theorem hu1 {k : Nat} {A : Around} (r : Room k A) : A.units + 1 < cLine := by have := r.un; omega
theorem su65 {k : Nat} {X : Cx} {a : Addr} {pn : List (Addr × Obj)} (r : Room k X.A) : (X.suite a pn).A.units + 65 < cLine := by
  have := r.un
  show X.A.units + 65 < _
  omega
def GlD (K : PySem.W.Frag) (mg : Str → Option Value) (x : Str) (d : D) : Prop := ∃ v u, mg x = some u ∧ RelV v u ∧ ∀ F, Rep K mg F v d
structure ExcD (K : PySem.W.Frag) (mg : Str → Option Value) (x : Str) : Prop where
  ex : ∃ C : Addr, mg x = some (.ref C) ∧ PySem.W.excIn K C [.type "ValueError", .type "Exception", .type "BaseException", .type "object"] "ValueError.__new__" = true ∧ PySem.W.keepIn K (.ref C) = true ∧
    PySem.W.subIn K (.ref C) (.type "BaseException") = some true ∧ PySem.W.typeIn K (.ref C) = some (.type "type")
section
variable {X : Cx} {W : WX} {pos : Pos}
theorem d_gl {x : Str} {d : D} (h : GlD X.K X.mg x d) (hg : Gl X x := by rfl) (hd : (x == ("__debug__" : Str)) = false := by decide) : PE X (.Name x pos) (tS X.K X.mg W (sC d)) := by
  obtain ⟨v, u, hm, r, hr⟩ := h
  exact d_glob hm r hr hg hd
theorem s_raiseD {x m : Str} {j : Nat} {p p2 pos2 : Pos} (hc : X.calm = true) (tk : Takes X W) (h : ExcD X.K X.mg x) (hg : Gl X x := by rfl) (hdb : (x == ("__debug__" : Str)) = false := by decide) :
    PS X (.Raise (some (.Call (.Name x p) [.Constant (.str m) j p2] [] pos)) none pos2) (tP X.K X.mg W (sRaise x)) := by
  obtain ⟨C, g, q, k, sb, ty⟩ := h.ex
  exact s_raise hc tk PySem.F.excBase_ValueError q g k (raises_own sb ty) hg hdb
end

/-! ### facts of the start heap -/
structure DefIn (K : PySem.W.Frag) (x : Str) (st : Stmt) : Prop where
  ex : ∃ (f : Addr) (oc : Value) (od : Option Addr) (kV doc pm : Value) (an : Option Addr) (cdv ct : Value) (osl : Array (Option Value)), PySem.W.nsIn K mainGlobals x = some (some (.ref f)) ∧
    K.lookup f = some ⟨oc, od, .func (PySem.W.fnOf x x (defArgs st) (defBody st) (defScope st) .none kV doc pm an cdv ct), osl⟩ ∧ PySem.W.codeIn K cdv x = true ∧ PySem.W.keepIn K (.ref f) = true
theorem defIn {K : PySem.W.Frag} {x : Str} {st : Stmt} {f : Addr} {oc : Value} {od : Option Addr} {kV doc pm : Value} {an : Option Addr} {cdv ct : Value} {osl : Array (Option Value)} (a : PySem.W.nsIn K mainGlobals x = some (some (.ref f)))
    (l : K.lookup f = some ⟨oc, od, .func (PySem.W.fnOf x x (defArgs st) (defBody st) (defScope st) .none kV doc pm an cdv ct), osl⟩) (c : PySem.W.codeIn K cdv x = true) (k : PySem.W.keepIn K (.ref f) = true) : DefIn K x st :=
  ⟨f, oc, od, kV, doc, pm, an, cdv, ct, osl, a, l, c, k⟩
structure GV (K : PySem.W.Frag) (u : Value) (d : D) : Prop where
  ex : ∃ v, RelV v u ∧ ∀ mg F, Rep K mg F v d
structure GVs (K : PySem.W.Frag) (us : List Value) (ds : List D) : Prop where
  ex : ∃ vs, Vals vs us ∧ ∀ mg F, RepAll K mg F vs ds
section
variable {K : PySem.W.Frag}
theorem gv_int {i : Int} {t : Tok} : GV K (.int i t) (.int i) := ⟨.int i, ⟨_, rfl⟩, fun _ _ => .int i⟩
theorem gv_str {x : Str} {t : Tok} : GV K (.str x t) (.str x) := ⟨.str x, ⟨_, rfl⟩, fun _ _ => .str x⟩
theorem gv_bl {b : Bool} : GV K (.bool b) (.bl b) := ⟨.bl b, rfl, fun _ _ => .bl b⟩
theorem gv_non : GV K .none .non := ⟨.non, rfl, fun _ _ => .non⟩
theorem gvs_nil : GVs K [] [] := ⟨[], .nil, fun _ _ => .nil⟩
theorem gvs_cons {u : Value} {us : List Value} {d : D} {ds : List D} (h : GV K u d) (t : GVs K us ds) : GVs K (u :: us) (d :: ds) := by
  obtain ⟨v, r, q⟩ := h.ex
  obtain ⟨vs, rs, qs⟩ := t.ex
  exact ⟨v :: vs, .cons r rs, fun mg F => .cons (q mg F) (qs mg F)⟩
theorem gv_tup {l : Addr} {od : Option Addr} {its : Array Value} {n : Nat} {sl : Array (Option Value)} {ds : List D} (lk : K.lookup l = some ⟨.type "tuple", od, .seq its n, sl⟩) (h : GVs K its.toList ds) (hz : its.size ≤ 1000 := by decide) : GV K (.ref l) (.tup ds) := by
  obtain ⟨vs, rs, qs⟩ := h.ex
  exact ⟨.ref l, rfl, fun mg F => .tup (.inr ⟨_, its, n, lk, rfl, rfl, Nat.le_trans hz (by decide), rs⟩) (qs mg F)⟩
structure GlIn (K : PySem.W.Frag) (x : Str) (d : D) : Prop where
  ex : ∃ u, PySem.W.nsIn K mainGlobals x = some (some u) ∧ GV K u d
theorem glIn {x : Str} {u : Value} {d : D} (a : PySem.W.nsIn K mainGlobals x = some (some u)) (h : GV K u d) : GlIn K x d := ⟨u, a, h⟩
structure ExcIn (K : PySem.W.Frag) (x : Str) : Prop where
  ex : ∃ C : Addr, PySem.W.nsIn K mainGlobals x = some (some (.ref C)) ∧ PySem.W.excIn K C [.type "ValueError", .type "Exception", .type "BaseException", .type "object"] "ValueError.__new__" = true ∧ PySem.W.keepIn K (.ref C) = true ∧
    PySem.W.subIn K (.ref C) (.type "BaseException") = some true ∧ PySem.W.typeIn K (.ref C) = some (.type "type")
theorem excIn {x : Str} {C : Addr} (a : PySem.W.nsIn K mainGlobals x = some (some (.ref C))) (e : PySem.W.excIn K C [.type "ValueError", .type "Exception", .type "BaseException", .type "object"] "ValueError.__new__" = true) (k : PySem.W.keepIn K (.ref C) = true)
    (s : PySem.W.subIn K (.ref C) (.type "BaseException") = some true) (t : PySem.W.typeIn K (.ref C) = some (.type "type")) : ExcIn K x := ⟨C, a, e, k, s, t⟩
structure ExcCIn (K : PySem.W.Frag) (x : Str) : Prop where
  ex : ∃ C : Addr, PySem.W.nsIn K mainGlobals x = some (some (.ref C)) ∧ ExcC K C
theorem excCIn {x : Str} {D : Addr} (n : PySem.W.nsIn K mainGlobals x = some (some (.ref D))) (a : PySem.W.findIn K (.ref D) "__getattribute__" = some (some (.builtin "BaseException.__getattribute__")))
    (b : PySem.W.findIn K (.ref D) "__getattr__" = some none) (c : PySem.W.subIn K (.ref D) (.type "BaseException") = some true) (d : PySem.W.hasDictIn K D = true) (e : PySem.W.findIn K (.ref D) "__class__" = some (some (.builtin "object.__class__")))
    (f : PySem.W.specialIn K (.builtin "object.__class__") "__get__" = some (some (.builtin "getset_descriptor.__get__"))) (g : PySem.W.takesIn K (.builtin "object.__class__") = some true) (h : PySem.W.mroIn K D (.type "object") = some true) : ExcCIn K x :=
  ⟨D, n, ⟨a, b, c, d, e, f, g, h⟩⟩
structure KitIn (K : PySem.W.Frag) (c x : Str) (b : Bool) : Prop where
  ex : ∃ C P : Addr, PySem.W.nsIn K mainGlobals c = some (some (.ref C)) ∧ PySem.W.nsIn K mainGlobals x = some (some (.ref P)) ∧ PySem.W.kitOne K (.ref C) (.ref P) = some b
theorem kitIn {c x : Str} {b : Bool} {C P : Addr} (n : PySem.W.nsIn K mainGlobals c = some (some (.ref C))) (m : PySem.W.nsIn K mainGlobals x = some (some (.ref P))) (k : PySem.W.kitOne K (.ref C) (.ref P) = some b) : KitIn K c x b := ⟨C, P, n, m, k⟩
structure CaughtIn (K : PySem.W.Frag) (c x : Str) : Prop where
  ex : ∃ C P : Addr, PySem.W.nsIn K mainGlobals c = some (some (.ref C)) ∧ PySem.W.nsIn K mainGlobals x = some (some (.ref P)) ∧ PySem.W.exmOne K (.ref C) (.ref P) = some true
theorem caughtIn {c x : Str} {C P : Addr} (n : PySem.W.nsIn K mainGlobals c = some (some (.ref C))) (m : PySem.W.nsIn K mainGlobals x = some (some (.ref P))) (a : PySem.W.subIn K (.ref P) (.type "BaseException") = some true)
    (b : PySem.W.hasDictIn K P = true) (t : PySem.W.typeIn K (.ref P) = some (.type "type")) (d : PySem.W.subIn K (.ref C) (.ref P) = some true) : CaughtIn K c x := ⟨C, P, n, m, PySem.W.exm_ref a b t d⟩
variable {h : Heap} {mg : Str → Option Value}
theorem GlIn.gl {x : Str} {d : D} (g : GlIn K x d) (X : K.In h) (G : h.Ns mainGlobals mg) : GlD K mg x d := by
  obtain ⟨u, a, b⟩ := g.ex
  obtain ⟨v, r, q⟩ := b.ex
  exact ⟨v, u, PySem.W.mg_of X G a, r, q mg⟩
theorem ExcIn.gl {x : Str} (g : ExcIn K x) (X : K.In h) (G : h.Ns mainGlobals mg) : ExcD K mg x := by
  obtain ⟨C, a, b⟩ := g.ex
  exact ⟨C, PySem.W.mg_of X G a, b⟩
theorem isE_of {c x : Str} {b : Bool} (g : ExcCIn K c) (k : KitIn K c x b) (X : K.In h) (G : h.Ns mainGlobals mg) : IsE K mg c x b := by
  obtain ⟨C, a, e⟩ := g.ex
  obtain ⟨C', P, a', p, q⟩ := k.ex
  rw [a] at a'
  cases a'
  exact ⟨C, P, PySem.W.mg_of X G a, PySem.W.mg_of X G p, e, q⟩
theorem CaughtIn.gl {c x : Str} (g : CaughtIn K c x) (X : K.In h) (G : h.Ns mainGlobals mg) : Caught K mg c x := by
  obtain ⟨C, P, a, p, q⟩ := g.ex
  exact ⟨C, P, PySem.W.mg_of X G a, PySem.W.mg_of X G p, q⟩
theorem CaughtIn.gp {c x : Str} (g : CaughtIn K c x) (X : K.In h) (G : h.Ns mainGlobals mg) : ∃ P : Addr, mg x = some (.ref P) := by
  obtain ⟨C, P, a, p, q⟩ := g.ex
  exact ⟨P, PySem.W.mg_of X G p⟩
theorem DefIn.get {x : Str} {st : Stmt} {ps : List Str} (g : DefIn K x st) (X : K.In h) (G : h.Ns mainGlobals mg)
    (b : ∀ (kV doc pm : Value) (an : Option Addr) (cdv ct : Value) (us : List Value), us.length = ps.length → bindArgs (PySem.W.fnOf x x (defArgs st) (defBody st) (defScope st) .none kV doc pm an cdv ct) ⟨us, []⟩ = pure (ps.zip us)) :
    ∃ f fd, Fun K x x st f fd ∧ mg x = some (.ref f) ∧ Binds K fd ps [] ∧ ∀ (s : Shared) (us : List Value), us.length = ps.length → BindsTo s fd ⟨us, []⟩ (ps.zip us) := by
  obtain ⟨f, oc, od, kV, doc, pm, an, cdv, ct, osl, a, l, c, k⟩ := g.ex
  exact ⟨f, _, fun_mk l c k, PySem.W.mg_of X G a, .all (b kV doc pm an cdv ct), fun s us hu => .of_eq (b kV doc pm an cdv ct us hu)⟩
end
/-- a def's promise, by its own function object -/
theorem FnD.ok {P : Program} {w : World} {K : PySem.W.Frag} {mg : Str → Option Value} {base : Heap} {x : Str} {k n : Nat} {g : List D → Oe D} (F : FnD P w K mg base k x n g) {fa : Addr} (hm : mg x = some (.ref fa)) :
    ∃ (fd : FuncData) (ps : List Str), FnOk P w K mg base (L2.CX P w) k fa fd ps (spOf K mg n g) := by
  obtain ⟨a, fd, ps, h, h2, _⟩ := F.ex
  rw [hm] at h2
  cases h2
  exact ⟨fd, ps, h⟩
/-- the law's own promise -/
def spLaw (K : PySem.W.Frag) (mg : Str → Option Value) (n : Nat) : Sp := fun vs H Q _ => ∃ (a : Addr) (ns : List Int), vs = [.ref a] ∧ HT K mg H ∧ SqL K H a (ns.map V.int) ∧ ns.length ≤ n ∧ ∀ H', Q (.bl true) H'
theorem HT_at {K : PySem.W.Frag} {mg : Str → Option Value} {H : Hp} {fa c P : Addr} (hm : mg "_law_arrow" = some (.ref fa)) (hT : TabOf K fa c P) (h : H P = some (.tbl #[])) : HT K mg H := fun fa' c' P' h1 h2 => by
  rw [hm] at h1
  cases h1
  obtain ⟨o, fd, e, dd, vs, sl, a1, a2, a3, a4, a5⟩ := hT
  obtain ⟨o', fd', e', dd', vs', sl', b1, b2, b3, b4, b5⟩ := h2
  rw [a1] at b1; cases b1
  rw [a2] at b2; cases b2
  rw [a3] at b3; cases b3
  rw [a4] at b4; cases b4
  rw [a5] at b5; cases b5
  exact .nil h
theorem law_ok {P : Program} {w : World} {K : PySem.W.Frag} {mg : Str → Option Value} {base : Heap} {k n : Nat} {g : List D → Oe D} {fa : Addr} {fd : FuncData} {ps : List Str} (F : FnOk P w K mg base (L2.CX P w) k fa fd ps (spOf K mg 1 g))
    (plain : ∀ ns : List Int, ns.length ≤ n → g [.scr ns] = some (.ok (.bl true))) : FnOk P w K mg base (L2.CX P w) k fa fd ps (spLaw K mg n) :=
  F.imp fun vs H Q E ⟨a, ns, e, ht, hs, hl, q⟩ => by
    subst e
    exact ⟨H, [.scr ns], .ok (.bl true), .refl H, ht, .cons (.scr hs) .nil, rfl, plain ns hl, fun v F' H' _ r => by cases r; exact q H'⟩
/-- walk_of with the table of _law_arrow: HandS.EndOwn.walk_ofOwn turned to another def -/
theorem walk_law {l : PySem.W.OpenLaw} {n k : Nat} {q : Program} {loose : List Str} {XP : (Str → Option Value) → Heap → Prop} {YP : World → Heap → Prop} {d : DefRec} {K : Params → PySem.W.Frag}
    (hn : l.most = some n) (hn2 : n ≤ sizeLine) (hdf : d.params.defaults = []) (hr : Room k callerA) (hrec : ((PyProof.Rows.recsOf q).any fun e => e.name == ("_law_arrow" : Str)) = true) (hY : ∀ (w : World) (h : Heap), YP w h → (K w.params).In h)
    (F : ∀ (w : World) (mg : Str → Option Value) (fa : Addr) (h : Heap), (K w.params).In h → h.Ns mainGlobals mg → mg d.name = some (.ref fa) →
      ∃ (fd : FuncData) (fx c P : Addr), mg "_law_arrow" = some (.ref fx) ∧ TabOf (K w.params) fx c P ∧ (K w.params).lookup P = none ∧ PySem.W.CodeHd h c P ∧ (∀ (s : Shared) (u : Value), BindsTo s fd ⟨[u], []⟩ [("_law_script", u)]) ∧
        ∀ base : Heap, (K w.params).In base → base.Ns mainGlobals mg → LamX.TabB base mg c P → FnOk l.prog w (K w.params) mg base (L2.CX l.prog w) k fa fd ["_law_script"] (spLaw (K w.params) mg n)) :
    PySem.W.WalkO q loose XP YP l.row.toRowW d [] (fun f vs => PySem.call f vs) := by
  refine Att.attach_callB hn hdf fun w s₀ s₁ mg mb fa o pm cd doc a vs ns G Y ho hd hcd hmg hobj hints hlen hbits hg => ?_
  have KX := hY w _ Y
  obtain ⟨fd, fx, c, P, hmx, hTab, hout, hcode, hb, hF⟩ := F w mg fa _ KX G.T.g hmg
  have empty : s₁.heap.get? P = some { cls := .none, data := .fields #[] } := by
    obtain ⟨o1, fd1, e, dd, vs1, sl, k1, k2, k3, k4, k5⟩ := hTab
    obtain ⟨dL, hm, hn1⟩ := List.any_eq_true.mp hrec
    have hn2 : dL.name = ("_law_arrow" : Str) := beq_iff_eq.mp hn1
    obtain ⟨a', o', fd', c', P', h1, h2, h3, h4, h5, h6⟩ := G.T.tab dL hm
    rw [hn2, hmx] at h1
    cases h1
    have g1 := KX _ _ k1
    rw [g1] at h2
    cases h2
    rw [k2] at h3
    cases h3
    rw [k3] at h4
    cases h4
    obtain ⟨⟨oc, vc, e1, _, e3, e4⟩, hP⟩ := h6
    have g2 := KX _ _ k4
    rw [g2] at e1
    cases e1
    cases e3
    rw [k5] at e4
    cases e4
    exact hP
  exact LamX.law_callTs (cs := [(c, P)]) KX G.T.g G.T.b G.T.builtins G.T.nolimit hg (fun p hp => by rw [List.mem_singleton] at hp; rw [hp]; exact empty) (fun p hp => by rw [List.mem_singleton] at hp; rw [hp]; exact hout) (fun p hp => by rw [List.mem_singleton] at hp; rw [hp]; exact hcode) G.T.bmain hobj hints (Nat.le_trans hlen hn2) hr
    (fun base h1 h2 h3 => hF base h1 h2 (h3 _ (List.mem_singleton.mpr rfl))) hb (fun H hH hS => ⟨a, ns, rfl, HT_at hmx hTab (hH _ (List.mem_singleton.mpr rfl)), hS, hlen, fun _ => rfl⟩) fun H e s' z => by
      obtain ⟨_, _, _, _, _, _, _, _, _, _, _, _, z⟩ := z
      exact z.elim
/-- what K tells of _law_arrow: its code object, the table of its lambdas -/
structure LamIn (K : PySem.W.Frag) : Prop where
  ex : ∃ (f c P : Addr) (oc : Value) (od : Option Addr) (fd : FuncData) (osl : Array (Option Value)) (e : Value) (dd : Option Addr) (vs : Array Value) (sl : Array (Option Value)), PySem.W.nsIn K mainGlobals "_law_arrow" = some (some (.ref f)) ∧ K.lookup f = some ⟨oc, od, .func fd, osl⟩ ∧ fd.code = .ref c ∧
    K.lookup c = some ⟨e, dd, .fields vs, sl⟩ ∧ vs[11]? = some (.ref P) ∧ K.lookup P = none ∧ PySem.W.codeHdIn K c P = true
theorem lamIn {K : PySem.W.Frag} {f c P : Addr} {oc : Value} {od : Option Addr} {fd : FuncData} {osl : Array (Option Value)} {e : Value} {dd : Option Addr} {vs : Array Value} {sl : Array (Option Value)} (a : PySem.W.nsIn K mainGlobals "_law_arrow" = some (some (.ref f))) (l : K.lookup f = some ⟨oc, od, .func fd, osl⟩) (hc : fd.code = .ref c)
    (l2 : K.lookup c = some ⟨e, dd, .fields vs, sl⟩) (h11 : vs[11]? = some (.ref P)) (n : K.lookup P = none) (h : PySem.W.codeHdIn K c P = true) : LamIn K := ⟨f, c, P, oc, od, fd, osl, e, dd, vs, sl, a, l, hc, l2, h11, n, h⟩
theorem LamIn.get {K : PySem.W.Frag} {h : Heap} {mg : Str → Option Value} (L : LamIn K) (X : K.In h) (G : h.Ns mainGlobals mg) :
    ∃ (fx c P : Addr) (o : Obj) (fd : FuncData), mg "_law_arrow" = some (.ref fx) ∧ TabOf K fx c P ∧ K.lookup P = none ∧ PySem.W.CodeHd h c P ∧ K.lookup fx = some o ∧ o.data = .func fd ∧ fd.code = .ref c := by
  obtain ⟨f, c, P, oc, od, fd, osl, e, dd, vs, sl, a, l, hc, l2, h11, n, hh⟩ := L.ex
  exact ⟨f, c, P, _, fd, PySem.W.mg_of X G a, ⟨_, fd, e, dd, vs, sl, l, rfl, hc, l2, h11⟩, n, PySem.W.codeHd_of_K X hh, l, rfl, hc⟩
theorem Fun.code_of {K : PySem.W.Frag} {x q : Str} {st : Stmt} {f : Addr} {fd fd' : FuncData} {o : Obj} (F : Fun K x q st f fd) (h : K.lookup f = some o) (hd : o.data = .func fd') : fd' = fd := by
  obtain ⟨oc, od, kV, doc, pm, an, cdv, ct, osl, rfl, lk, _⟩ := F.ex
  rw [lk] at h
  cases h
  cases hd
  rfl
end Dl
/-! DlEv: how the plain functions are worked out. -/
namespace Dl
open PySem
section
variable {α β : Type} {a : α} {c : Str} {f : α → Oe β}
@[simp] theorem bd_ok : bd (some (.ok a)) f = f a := rfl
@[simp] theorem bd_er : bd (some (.error c) : Oe α) f = some (.error c) := rfl
@[simp] theorem bd_no : bd (none : Oe α) f = none := rfl
@[simp] theorem lift_ok : lift (some a) = some (.ok a) := rfl
@[simp] theorem lift_no : lift (none : Option α) = none := rfl
end
section
variable {ρ : Rho} {a b c : Sx} {l : Sl} {f g : D → D → Option D} {u : D → Option D} {cf : List D → Option D} {n : Nat} {F : List D → Oe D} {p q t : Sb}
@[simp] theorem e_V (i : Nat) : sV i ρ = lift ((ρ[i]?).bind id) := rfl
@[simp] theorem e_C (d : D) : sC d ρ = some (.ok d) := rfl
@[simp] theorem e_Op : sOp f a b ρ = bd (a ρ) fun x => bd (b ρ) fun y => lift (f x y) := rfl
@[simp] theorem e_Un : sUn u a ρ = bd (a ρ) fun x => lift (u x) := rfl
@[simp] theorem e_Nil : sNil ρ = some (.ok []) := rfl
@[simp] theorem e_Cons : sCons a l ρ = bd (a ρ) fun x => bd (l ρ) fun xs => some (.ok (x :: xs)) := rfl
@[simp] theorem e_Tup : sTup l ρ = bd (l ρ) fun ds => if okLen ds.length then some (.ok (.tup ds)) else none := rfl
@[simp] theorem e_Lst : sLst l ρ = bd (l ρ) fun ds => if okLen ds.length then some (.ok ds) else none := rfl
@[simp] theorem e_OfL : sOfL l ρ = bd (l ρ) fun ds => some (.ok (.lst ds)) := rfl
@[simp] theorem e_Call : sCall cf l ρ = bd (l ρ) fun ds => lift (cf ds) := rfl
@[simp] theorem e_And : sAnd a b ρ = bd (a ρ) fun x => match x with | .bl true => b ρ | .bl false => some (.ok (.bl false)) | _ => none := rfl
@[simp] theorem e_Or : sOr a b ρ = bd (a ρ) fun x => match x with | .bl true => some (.ok (.bl true)) | .bl false => b ρ | _ => none := rfl
@[simp] theorem e_Chain : sChain f g a b c ρ = bd (a ρ) fun x => bd (b ρ) fun y => bd (lift (f x y)) fun z =>
  match z with
  | .bl true => bd (c ρ) fun w => lift (g y w)
  | .bl false => some (.ok (.bl false))
  | _ => none := rfl
@[simp] theorem e_IfE : sIfE t a b ρ = bd (t ρ) fun c => if c then a ρ else b ρ := rfl
@[simp] theorem e_toB : toB a ρ = bd (a ρ) fun d => match d with | .bl b => some (.ok b) | _ => none := rfl
@[simp] theorem e_bAnd : bAnd p q ρ = bd (p ρ) fun x => if x then q ρ else some (.ok false) := rfl
@[simp] theorem e_bOr : bOr p q ρ = bd (p ρ) fun x => if x then some (.ok true) else q ρ := rfl
@[simp] theorem e_bNot : bNot p ρ = bd (p ρ) fun x => some (.ok (!x)) := rfl
@[simp] theorem e_bTrue : bTrue ρ = some (.ok true) := rfl
@[simp] theorem e_Fn : sFn n F l ρ = bd (l ρ) fun ds => if ds.length = n then F ds else none := rfl
@[simp] theorem e_Fn0 {d : D} (h : F [] = some (.ok d)) : sFn0 F ρ = some (.ok d) := by simp only [sFn0, h]
@[simp] theorem e_SeqItems : sSeqItems a ρ = bd (a ρ) fun d => lift (itemsOf d) := rfl
@[simp] theorem e_Range : sRange l ρ = bd (l ρ) fun ds =>
  match ds with
  | [.int j] => if decide (-1000000 ≤ j) && decide (j ≤ 1000000) then some (.ok (rgD 0 j.toNat)) else none
  | [.int i, .int j] => if decide (-1000000 ≤ i) && decide (i ≤ 1000000) && decide (-1000000 ≤ j) && decide (j ≤ 1000000) then some (.ok (rgD i (j - i).toNat)) else none
  | _ => none := rfl
@[simp] theorem e_Enum : sEnum l ρ = bd (l ρ) fun ds => match ds with | [.lst es] => some (.ok (enD 0 es)) | _ => none := rfl
@[simp] theorem e_Lc {it : Sl} {vs : List Nat} {t : TgtR} {test : Sb} {elt : Sx} : sLc it vs t test elt ρ = bd (it ρ) fun ds => if okLen ds.length then lift (lcS t test elt (wipeR vs ρ) ds) else none := rfl
@[simp] theorem e_Cat : sCat a b ρ = bd (a ρ) fun x => bd (b ρ) fun y => lift (match x, y with
  | .lst xs, .lst ys => if okLen (xs.length + ys.length) then some (xs ++ ys) else none
  | _, _ => none) := rfl
@[simp] theorem e_RepL : sRepL a b ρ = bd (a ρ) fun x => bd (b ρ) fun y => lift
  (match x, y with
  | .lst xs, .int k => if decide (0 ≤ k) && decide (k ≤ 1000) && okLen (xs.length * k.toNat) then some (List.replicate k.toNat xs).flatten else none
  | _, _ => none) := rfl
@[simp] theorem e_ListOf : sListOf a ρ = bd (a ρ) fun x => lift (itemsOf x) := rfl
@[simp] theorem e_Part : sPart a ρ = bd (a ρ) fun d => match d with | .int i => some (.ok (some i)) | _ => none := rfl
@[simp] theorem e_NoPart : sNoPart ρ = some (.ok none) := rfl
@[simp] theorem e_CutT {l h : Rho → Oe (Option Int)} : sCutT a l h ρ = bd (a ρ) fun x => bd (l ρ) fun i => bd (h ρ) fun j => lift (match x with | .tup xs => some (.tup (cutD xs i j)) | _ => none) := rfl
@[simp] theorem e_CutL {l h : Rho → Oe (Option Int)} : sCutL a l h ρ = bd (a ρ) fun x => bd (l ρ) fun i => bd (h ρ) fun j => lift (match x with | .lst xs => some (cutD xs i j) | _ => none) := rfl
end
/-! operators -/
@[simp] theorem v_add (i j : Int) : dAdd (.int i) (.int j) = some (.int (i + j)) := rfl
@[simp] theorem v_sub (i j : Int) : dSub (.int i) (.int j) = some (.int (i - j)) := rfl
@[simp] theorem v_mul (i j : Int) : dMul (.int i) (.int j) = if small64 i || small64 j then some (.int (i * j)) else none := rfl
@[simp] theorem v_div (i j : Int) : dDiv (.int i) (.int j) = if divOk j then some (.int (i / j)) else none := rfl
@[simp] theorem v_mod (i j : Int) : dMod (.int i) (.int j) = if decide (0 < j) then some (.int (i % j)) else none := rfl
@[simp] theorem v_neg (i : Int) : dNeg (.int i) = some (.int (-i)) := rfl
@[simp] theorem v_lt (i j : Int) : dLt (.int i) (.int j) = some (.bl (decide (i < j))) := rfl
@[simp] theorem v_le (i j : Int) : dLe (.int i) (.int j) = some (.bl (decide (i ≤ j))) := rfl
@[simp] theorem v_gt (i j : Int) : dGt (.int i) (.int j) = some (.bl (decide (j < i))) := rfl
@[simp] theorem v_ge (i j : Int) : dGe (.int i) (.int j) = some (.bl (decide (j ≤ i))) := rfl
@[simp] theorem v_eqI (i j : Int) : dEq (.int i) (.int j) = some (.bl (i == j)) := rfl
@[simp] theorem v_neI (i j : Int) : dNe (.int i) (.int j) = some (.bl (!(i == j))) := rfl
@[simp] theorem v_isN (d : D) : dIs d .non = some (.bl (isN d)) := by cases d <;> rfl
@[simp] theorem v_isB (a b : Bool) : dIs (.bl a) (.bl b) = some (.bl (a == b)) := rfl
@[simp] theorem v_isnN (d : D) : dIsNot d .non = some (.bl (!isN d)) := by cases d <;> rfl
@[simp] theorem v_isnB (a b : Bool) : dIsNot (.bl a) (.bl b) = some (.bl (!(a == b))) := rfl
@[simp] theorem v_not (b : Bool) : dNot (.bl b) = some (.bl (!b)) := rfl
@[simp] theorem v_ixT (xs : List D) (i : Int) : dIx (.tup xs) (.int i) = L2.atI xs i := rfl
@[simp] theorem v_ixL (xs : List D) (i : Int) : dIx (.lst xs) (.int i) = L2.atI xs i := rfl
@[simp] theorem v_ixS (xs : List Int) (i : Int) : dIx (.scr xs) (.int i) = (L2.atI xs i).map D.int := rfl
@[simp] theorem v_lenT (xs : List D) : dLen [.tup xs] = some (.int xs.length) := rfl
@[simp] theorem v_lenL (xs : List D) : dLen [.lst xs] = some (.int xs.length) := rfl
@[simp] theorem v_lenS (xs : List Int) : dLen [.scr xs] = some (.int xs.length) := rfl
@[simp] theorem v_max (i j : Int) : dMax2 [.int i, .int j] = some (.int (if j > i then j else i)) := rfl
@[simp] theorem v_min (i j : Int) : dMin2 [.int i, .int j] = some (.int (if j < i then j else i)) := rfl
@[simp] theorem v_tupL (xs : List D) : dTupleOf [.lst xs] = some (.tup xs) := rfl
@[simp] theorem v_tupT (xs : List D) : dTupleOf [.tup xs] = some (.tup xs) := rfl
@[simp] theorem v_itT (xs : List D) : itemsOf (.tup xs) = some xs := rfl
@[simp] theorem v_itL (xs : List D) : itemsOf (.lst xs) = some xs := rfl
@[simp] theorem v_allL (xs : List D) : dAll [.lst xs] = (blsOf xs).map fun bs => .bl (bs.all id) := rfl
@[simp] theorem v_anyL (xs : List D) : dAny [.lst xs] = (blsOf xs).map fun bs => .bl (bs.any id) := rfl
@[simp] theorem v_ty (g : D → Option Bool) (d : D) : dTy g d = (g d).map D.bl := rfl
@[simp] theorem v_okLen (n : Nat) : okLen n = decide (n ≤ 1000000) := rfl
/-! statements -/
section
variable {ρ : Sig} {a b : Ss} {e : Sx} {l : Sl} {c : Sb} {d : D} {ds : List D} {α : Type} {x : α} {s : Str} {k : α → Option Fl} {ms : List Nat} {i j : Nat}
theorem q_Seq {ρ' : Sig} (h : a ρ = some (.nx ρ')) : sSeq a b ρ = b ρ' := by simp only [sSeq, h]
@[simp] theorem e_Seq : sSeq a b ρ = match a ρ with
  | some (.nx ρ') => b ρ'
  | o => o := rfl
@[simp] theorem e_stp {g : Rho → Oe α} : stp ms g ρ k = match g (expo ms ρ) with
  | some (.ok a) => k a
  | some (.error c) => some (.ex c ρ)
  | none => none := rfl
@[simp] theorem e_Next : sNext ρ = some (.nx ρ) := rfl
@[simp] theorem e_Break : sBreak ρ = some (.bk ρ) := rfl
@[simp] theorem e_Cont : sCont ρ = some (.ct ρ) := rfl
@[simp] theorem e_kill0 : killS [] ρ = ρ := rfl
@[simp] theorem e_kill (is : List Nat) : killS (i :: is) ρ = killS is (ρ.set i .no) := rfl
@[simp] theorem e_Aft (is : List Nat) : sAft is a ρ = match a ρ with
  | some (.nx ρ') => some (.nx (killS is ρ'))
  | some (.ct ρ') => some (.ct (killS is ρ'))
  | some (.bk ρ') => some (.bk (killS is ρ'))
  | o => o := rfl
@[simp] theorem e_Set : sSet ms i e ρ = stp ms e ρ fun d => some (.nx ((if lf d then ρ else frz ms ρ).set i (.dat d))) := rfl
@[simp] theorem e_SetL : sSetL ms i l ρ = stp ms l ρ fun ds => some (.nx ((if lfAll ds then ρ else frz ms ρ).set i (.own (.lst ds)))) := rfl
@[simp] theorem e_Ret : sRet ms e ρ = stp ms e ρ fun d => some (.rt d) := rfl
@[simp] theorem e_RetN : sRetN ρ = some (.rt .non) := rfl
@[simp] theorem e_Drop : sDrop ms e ρ = stp ms e ρ fun _ => some (.nx ρ) := rfl
@[simp] theorem e_If : sIf ms c a b ρ = stp ms c ρ fun t => if t then a ρ else b ρ := rfl
@[simp] theorem e_Raise : sRaise s ρ = some (.ex s ρ) := rfl
@[simp] theorem e_setD0 : setD ρ [] [] = ρ := rfl
@[simp] theorem e_setD (is : List Nat) : setD ρ (i :: is) (d :: ds) = setD (ρ.set i (.dat d)) is ds := rfl
@[simp] theorem e_Unp (is : List Nat) : sUnp ms is e ρ = stp ms e ρ fun d =>
  match d with
  | .tup ds => if ds.length = is.length then some (.nx (setD (if lf d then ρ else frz ms ρ) is ds)) else none
  | _ => none := rfl
@[simp] theorem e_App : sApp ms i e ρ = match ρ[i]? with
  | some (.own (.lst ds)) => stp ms e ρ fun d => if okLen (ds.length + 1) && (lf d || !ms.contains i) then some (.nx ((if lf d then ρ else frz ms ρ).set i (.own (.lst (ds ++ [d]))))) else none
  | _ => none := rfl
@[simp] theorem e_Ext : sExt ms i e ρ = match ρ[i]? with
  | some (.own (.lst ds)) => stp ms e ρ fun d =>
    match d with
    | .lst es => if okLen (ds.length + es.length) && (lfAll es || !ms.contains i) then some (.nx ((if lfAll es then ρ else frz ms ρ).set i (.own (.lst (ds ++ es))))) else none
    | _ => none
  | _ => none := rfl
@[simp] theorem e_For {it : Sl} {t : Tgt} : sFor ms it t a ρ = match it (expo ms ρ) with
  | some (.ok ds) => forS t a ds (frz ms ρ)
  | some (.error c) => some (.ex c ρ)
  | none => none := rfl
@[simp] theorem e_expo : expo ms ρ = expoF ms 0 ρ := rfl
@[simp] theorem e_frz : frz ms ρ = frzF ms 0 ρ := rfl
@[simp] theorem e_expo0 : expoF ms i [] = [] := rfl
@[simp] theorem e_expoN : expoF ms i (.no :: ρ) = none :: expoF ms (i + 1) ρ := rfl
@[simp] theorem e_expoD : expoF ms i (.dat d :: ρ) = some d :: expoF ms (i + 1) ρ := rfl
@[simp] theorem e_expoO : expoF ms i (.own d :: ρ) = (if ms.contains i then some d else xo d) :: expoF ms (i + 1) ρ := rfl
@[simp] theorem xo_lst {ds : List D} : xo (.lst ds) = none := rfl
@[simp] theorem xo_dic {kvs : List (L2.Key × L2.V)} : xo (.dic kvs) = none := rfl
@[simp] theorem xo_dlx {a : Addr} {k : List (Int × List Int)} : xo (.dlx a k) = some (.exn a) := rfl
@[simp] theorem e_frz0 : frzF ms i [] = [] := rfl
@[simp] theorem e_frzN : frzF ms i (.no :: ρ) = .no :: frzF ms (i + 1) ρ := rfl
@[simp] theorem e_frzD : frzF ms i (.dat d :: ρ) = .dat d :: frzF ms (i + 1) ρ := rfl
@[simp] theorem e_frzO : frzF ms i (.own d :: ρ) = (if ms.contains i then .dat d else .own d) :: frzF ms (i + 1) ρ := rfl
theorem e_expoC {s : SL} : expoF ms i (s :: ρ) = (match s with
      | .no => none
      | .dat d => some d
      | .own d => if ms.contains i then some d else xo d) :: expoF ms (i + 1) ρ := rfl
theorem e_frzC {s : SL} : frzF ms i (s :: ρ) = (match s with
      | .own d => if ms.contains i then .dat d else .own d
      | s => s) :: frzF ms (i + 1) ρ := rfl
@[simp] theorem e_Try {n : Nat} {res : Str → Option D} : sTry n a res ρ = match a ρ with
  | some (.ex c ρ') => if ρ'.length = n then (res c).map Fl.rt else none
  | o => o := rfl
@[simp] theorem e_IsE {av : Addr} {b : Bool} {r : Rho} : sIsE i av b r = match (r[i]?).bind id with
  | some (.exn a') => if a' = av then some (.ok (.bl b)) else none
  | _ => none := rfl
@[simp] theorem e_CallV {tb : Tb} {f : Sx} {r : Rho} : sCallV tb f l r = bd (f r) fun d =>
  match d with
  | .fn nm => callT tb nm l r
  | _ => none := rfl
@[simp] theorem e_LM {f : D → D → Option D} {e1 e2 : Sx} {r : Rho} : sLM f e1 e2 r = bd (e1 r) fun x =>
  match x with
  | .lst ds => bd (e2 r) fun y => lift (f (.lst ds) y)
  | _ => none := rfl
theorem okN_bl {b : Bool} : okN 9 (.bl b) = true := rfl
theorem eqN_bl {b c : Bool} : eqN 9 (.bl b) (.bl c) = (b == c) := by cases b <;> cases c <;> rfl
theorem lf_bl1 {b : Bool} : lfAll [.bl b] = true := rfl
theorem lf_bl2 {b c : Bool} : lfAll [.bl b, .bl c] = true := rfl
theorem lf_bl3 {b c d : Bool} : lfAll [.bl b, .bl c, .bl d] = true := rfl
theorem lf_bl4 {b c d e : Bool} : lfAll [.bl b, .bl c, .bl d, .bl e] = true := rfl
@[simp] theorem e_runD {n : Nat} : runD n a ds = match a (ds.map SL.dat ++ List.replicate (n - ds.length) SL.no) with
  | some (.nx _) => some (.ok .non)
  | some (.rt d) => some (.ok d)
  | some (.ex c _) => some (.error c)
  | _ => none := rfl
@[simp] theorem e_mix0 {ρ : Rho} : sMix [] ρ = some (.ok []) := rfl
@[simp] theorem e_mixS {ρ : Rho} {r : List MI} : sMix (.s e :: r) ρ = bd (e ρ) fun d => bd (sMix r ρ) fun l => some (.ok (.d d :: l)) := rfl
@[simp] theorem e_mixL {ρ : Rho} {r : List MI} : sMix (.l l :: r) ρ = bd (l ρ) fun ds => bd (sMix r ρ) fun l => some (.ok (.l ds :: l)) := rfl
@[simp] theorem e_Par {is : List Nat} {r : List MI} : sPar ms is r ρ = stp ms (sMix r) ρ (parS ms is ρ) := rfl
@[simp] theorem e_setM0 {is : List Nat} : setM ρ is [] = ρ := by cases is <;> rfl
@[simp] theorem e_setMd {is : List Nat} {rs : List MR} : setM ρ (i :: is) (.d d :: rs) = setM (ρ.set i (.dat d)) is rs := rfl
@[simp] theorem e_setMl {is : List Nat} {rs : List MR} : setM ρ (i :: is) (.l ds :: rs) = setM (ρ.set i (.own (.lst ds))) is rs := rfl
end
section
@[simp] theorem e_lcNil {t : TgtR} {test : Sb} {elt : Sx} {ρ : Rho} : lcS t test elt ρ [] = some [] := rfl
@[simp] theorem e_wipe0 {ρ : Rho} : wipeR [] ρ = ρ := rfl
@[simp] theorem e_wipe {ρ : Rho} {i : Nat} {is : List Nat} : wipeR (i :: is) ρ = (wipeR is ρ).set i none := rfl
@[simp] theorem e_tgN {i : Nat} {d : D} {ρ : Sig} : tgN i d ρ = some (ρ.set i (.dat d)) := rfl
@[simp] theorem e_tgRN {i : Nat} {d : D} {ρ : Rho} : tgRN i d ρ = some (ρ.set i (some d)) := rfl
end
theorem at_nat (xs : List D) (i : Nat) : L2.atI xs (i : Int) = xs[i]? := by
  unfold L2.atI L2.ixN
  by_cases h : i < xs.length
  · have h1 : (i : Int) < (xs.length : Int) := by omega
    simp [h1]
  · have h1 : ¬ (i : Int) < (xs.length : Int) := by omega
    simp [h1, h]
@[simp] theorem at_0 (a : D) (xs : List D) : L2.atI (a :: xs) 0 = some a := at_nat (a :: xs) 0
@[simp] theorem at_1 (a b : D) (xs : List D) : L2.atI (a :: b :: xs) 1 = some b := at_nat (a :: b :: xs) 1
@[simp] theorem at_2 (a b c : D) (xs : List D) : L2.atI (a :: b :: c :: xs) 2 = some c := at_nat (a :: b :: c :: xs) 2
@[simp] theorem at_3 (a b c d : D) (xs : List D) : L2.atI (a :: b :: c :: d :: xs) 3 = some d := at_nat (a :: b :: c :: d :: xs) 3
/-! texts, equality -/
def layS (x : Str) : Bool := PySem.PyData.canLay0 (.str x)
theorem v_eqS {a b : Str} (h : layS a = true) (h2 : layS b = true) : dEq (.str a) (.str b) = some (.bl (a == b)) := by
  have e : (okN 10 (.str a) && okN 10 (.str b)) = true := by
    show (layS a && layS b) = true
    rw [h, h2]; rfl
  unfold dEq
  rw [if_pos e]; rfl
theorem v_neS {a b : Str} (h : layS a = true) (h2 : layS b = true) : dNe (.str a) (.str b) = some (.bl (!(a == b))) := by
  have e : (okN 10 (.str a) && okN 10 (.str b)) = true := by
    show (layS a && layS b) = true
    rw [h, h2]; rfl
  unfold dNe
  rw [if_pos e]; rfl
@[simp] theorem s_top_top : dEq (.str "top") (.str "top") = some (.bl true) := v_eqS (by decide +kernel) (by decide +kernel)
@[simp] theorem n_top_top : dNe (.str "top") (.str "top") = some (.bl false) := v_neS (by decide +kernel) (by decide +kernel)
@[simp] theorem s_top_bottom : dEq (.str "top") (.str "bottom") = some (.bl false) := v_eqS (by decide +kernel) (by decide +kernel)
@[simp] theorem n_top_bottom : dNe (.str "top") (.str "bottom") = some (.bl true) := v_neS (by decide +kernel) (by decide +kernel)
@[simp] theorem s_top_left : dEq (.str "top") (.str "left") = some (.bl false) := v_eqS (by decide +kernel) (by decide +kernel)
@[simp] theorem n_top_left : dNe (.str "top") (.str "left") = some (.bl true) := v_neS (by decide +kernel) (by decide +kernel)
@[simp] theorem s_top_right : dEq (.str "top") (.str "right") = some (.bl false) := v_eqS (by decide +kernel) (by decide +kernel)
@[simp] theorem n_top_right : dNe (.str "top") (.str "right") = some (.bl true) := v_neS (by decide +kernel) (by decide +kernel)
@[simp] theorem s_top_over : dEq (.str "top") (.str "over") = some (.bl false) := v_eqS (by decide +kernel) (by decide +kernel)
@[simp] theorem n_top_over : dNe (.str "top") (.str "over") = some (.bl true) := v_neS (by decide +kernel) (by decide +kernel)
@[simp] theorem s_bottom_top : dEq (.str "bottom") (.str "top") = some (.bl false) := v_eqS (by decide +kernel) (by decide +kernel)
@[simp] theorem n_bottom_top : dNe (.str "bottom") (.str "top") = some (.bl true) := v_neS (by decide +kernel) (by decide +kernel)
@[simp] theorem s_bottom_bottom : dEq (.str "bottom") (.str "bottom") = some (.bl true) := v_eqS (by decide +kernel) (by decide +kernel)
@[simp] theorem n_bottom_bottom : dNe (.str "bottom") (.str "bottom") = some (.bl false) := v_neS (by decide +kernel) (by decide +kernel)
@[simp] theorem s_bottom_left : dEq (.str "bottom") (.str "left") = some (.bl false) := v_eqS (by decide +kernel) (by decide +kernel)
@[simp] theorem n_bottom_left : dNe (.str "bottom") (.str "left") = some (.bl true) := v_neS (by decide +kernel) (by decide +kernel)
@[simp] theorem s_bottom_right : dEq (.str "bottom") (.str "right") = some (.bl false) := v_eqS (by decide +kernel) (by decide +kernel)
@[simp] theorem n_bottom_right : dNe (.str "bottom") (.str "right") = some (.bl true) := v_neS (by decide +kernel) (by decide +kernel)
@[simp] theorem s_bottom_over : dEq (.str "bottom") (.str "over") = some (.bl false) := v_eqS (by decide +kernel) (by decide +kernel)
@[simp] theorem n_bottom_over : dNe (.str "bottom") (.str "over") = some (.bl true) := v_neS (by decide +kernel) (by decide +kernel)
@[simp] theorem s_left_top : dEq (.str "left") (.str "top") = some (.bl false) := v_eqS (by decide +kernel) (by decide +kernel)
@[simp] theorem n_left_top : dNe (.str "left") (.str "top") = some (.bl true) := v_neS (by decide +kernel) (by decide +kernel)
@[simp] theorem s_left_bottom : dEq (.str "left") (.str "bottom") = some (.bl false) := v_eqS (by decide +kernel) (by decide +kernel)
@[simp] theorem n_left_bottom : dNe (.str "left") (.str "bottom") = some (.bl true) := v_neS (by decide +kernel) (by decide +kernel)
@[simp] theorem s_left_left : dEq (.str "left") (.str "left") = some (.bl true) := v_eqS (by decide +kernel) (by decide +kernel)
@[simp] theorem n_left_left : dNe (.str "left") (.str "left") = some (.bl false) := v_neS (by decide +kernel) (by decide +kernel)
@[simp] theorem s_left_right : dEq (.str "left") (.str "right") = some (.bl false) := v_eqS (by decide +kernel) (by decide +kernel)
@[simp] theorem n_left_right : dNe (.str "left") (.str "right") = some (.bl true) := v_neS (by decide +kernel) (by decide +kernel)
@[simp] theorem s_left_over : dEq (.str "left") (.str "over") = some (.bl false) := v_eqS (by decide +kernel) (by decide +kernel)
@[simp] theorem n_left_over : dNe (.str "left") (.str "over") = some (.bl true) := v_neS (by decide +kernel) (by decide +kernel)
@[simp] theorem s_right_top : dEq (.str "right") (.str "top") = some (.bl false) := v_eqS (by decide +kernel) (by decide +kernel)
@[simp] theorem n_right_top : dNe (.str "right") (.str "top") = some (.bl true) := v_neS (by decide +kernel) (by decide +kernel)
@[simp] theorem s_right_bottom : dEq (.str "right") (.str "bottom") = some (.bl false) := v_eqS (by decide +kernel) (by decide +kernel)
@[simp] theorem n_right_bottom : dNe (.str "right") (.str "bottom") = some (.bl true) := v_neS (by decide +kernel) (by decide +kernel)
@[simp] theorem s_right_left : dEq (.str "right") (.str "left") = some (.bl false) := v_eqS (by decide +kernel) (by decide +kernel)
@[simp] theorem n_right_left : dNe (.str "right") (.str "left") = some (.bl true) := v_neS (by decide +kernel) (by decide +kernel)
@[simp] theorem s_right_right : dEq (.str "right") (.str "right") = some (.bl true) := v_eqS (by decide +kernel) (by decide +kernel)
@[simp] theorem n_right_right : dNe (.str "right") (.str "right") = some (.bl false) := v_neS (by decide +kernel) (by decide +kernel)
@[simp] theorem s_right_over : dEq (.str "right") (.str "over") = some (.bl false) := v_eqS (by decide +kernel) (by decide +kernel)
@[simp] theorem n_right_over : dNe (.str "right") (.str "over") = some (.bl true) := v_neS (by decide +kernel) (by decide +kernel)
@[simp] theorem s_over_top : dEq (.str "over") (.str "top") = some (.bl false) := v_eqS (by decide +kernel) (by decide +kernel)
@[simp] theorem n_over_top : dNe (.str "over") (.str "top") = some (.bl true) := v_neS (by decide +kernel) (by decide +kernel)
@[simp] theorem s_over_bottom : dEq (.str "over") (.str "bottom") = some (.bl false) := v_eqS (by decide +kernel) (by decide +kernel)
@[simp] theorem n_over_bottom : dNe (.str "over") (.str "bottom") = some (.bl true) := v_neS (by decide +kernel) (by decide +kernel)
@[simp] theorem s_over_left : dEq (.str "over") (.str "left") = some (.bl false) := v_eqS (by decide +kernel) (by decide +kernel)
@[simp] theorem n_over_left : dNe (.str "over") (.str "left") = some (.bl true) := v_neS (by decide +kernel) (by decide +kernel)
@[simp] theorem s_over_right : dEq (.str "over") (.str "right") = some (.bl false) := v_eqS (by decide +kernel) (by decide +kernel)
@[simp] theorem n_over_right : dNe (.str "over") (.str "right") = some (.bl true) := v_neS (by decide +kernel) (by decide +kernel)
@[simp] theorem s_over_over : dEq (.str "over") (.str "over") = some (.bl true) := v_eqS (by decide +kernel) (by decide +kernel)
@[simp] theorem n_over_over : dNe (.str "over") (.str "over") = some (.bl false) := v_neS (by decide +kernel) (by decide +kernel)
theorem all2_refl {α : Type} {f : α → α → Bool} : ∀ {xs : List α}, (∀ x, x ∈ xs → f x x = true) → all2 f xs xs = true
  | [], _ => rfl
  | x :: xs, h => by
    show (f x x && all2 f xs xs) = true
    rw [h x List.mem_cons_self, all2_refl fun y hy => h y (List.mem_cons_of_mem _ hy)]; rfl
theorem eqN_refl : ∀ (n : Nat) (d : D), okN n d = true → eqN n d d = true
  | 0, _, h => by simp [okN] at h
  | n + 1, d, h => by
    cases d with
    | non => rfl
    | bl b => simp [eqN]
    | int i => simp [eqN]
    | str x => simp [eqN]
    | tup ds => exact all2_refl fun x hx => eqN_refl n x (by simp [okN] at h; exact h x hx)
    | lst ds => exact all2_refl fun x hx => eqN_refl n x (by simp [okN] at h; exact h x hx)
    | scr ns => simp [eqN]
    | dic _ => simp [okN] at h
    | fn _ => simp [okN] at h
    | exn _ => simp [okN] at h
    | tpl _ => simp [okN] at h
    | dlx _ _ => simp [okN] at h
theorem eq_same {d : D} (h : okN 10 d = true) : dEq d d = some (.bl true) := by
  unfold dEq; rw [h, eqN_refl 10 d h]; rfl
theorem ne_same {d : D} (h : okN 10 d = true) : dNe d d = some (.bl false) := by
  unfold dNe; rw [h, eqN_refl 10 d h]; rfl
/-! loops -/
/-- a loop over items, each of which leaves the state as it was -/
theorem for_same {t : Tgt} {b : Ss} {ρ : Sig} (I : Sig → Prop) : ∀ (ds : List D) (ρ : Sig), I ρ → (∀ d, d ∈ ds → ∀ ρ, I ρ → ∃ ρ1, t d ρ = some ρ1 ∧ ∃ ρ2, b ρ1 = some (.nx ρ2) ∧ I ρ2) → ∃ ρ', forS t b ds ρ = some (.nx ρ') ∧ I ρ'
  | [], ρ, h, _ => ⟨ρ, rfl, h⟩
  | d :: ds, ρ, h, hb => by
    obtain ⟨ρ1, e1, ρ2, e2, h2⟩ := hb d List.mem_cons_self ρ h
    obtain ⟨ρ', e3, h3⟩ := for_same (ρ := ρ) I ds ρ2 h2 fun d hd => hb d (List.mem_cons_of_mem _ hd)
    exact ⟨ρ', by simp only [forS, e1, e2]; exact e3, h3⟩
/-- .. the state named by its own invariant -/
theorem for_inv {t : Tgt} {b : Ss} {ds : List D} {ρ : Sig} (I : Sig → Prop) (h : I ρ) (hb : ∀ d, d ∈ ds → ∀ ρ, I ρ → ∃ ρ1, t d ρ = some ρ1 ∧ ∃ ρ2, b ρ1 = some (.nx ρ2) ∧ I ρ2) : ∃ ρ', forS t b ds ρ = some (.nx ρ') ∧ I ρ' := for_same (ρ := ρ) I ds ρ h hb
/-- .. that counts -/
theorem for_at {t : Tgt} {b : Ss} (I : Nat → Sig → Prop) : ∀ (ds : List D) (k : Nat) (ρ : Sig), I k ρ → (∀ i d, ds[i]? = some d → ∀ ρ, I (k + i) ρ → ∃ ρ1, t d ρ = some ρ1 ∧ ∃ ρ2, b ρ1 = some (.nx ρ2) ∧ I (k + i + 1) ρ2) → ∃ ρ', forS t b ds ρ = some (.nx ρ') ∧ I (k + ds.length) ρ'
  | [], k, ρ, h, _ => ⟨ρ, rfl, h⟩
  | d :: ds, k, ρ, h, hb => by
    obtain ⟨ρ1, e1, ρ2, e2, h2⟩ := hb 0 d rfl ρ h
    obtain ⟨ρ', e3, h3⟩ := for_at I ds (k + 1) ρ2 h2 fun i d hd ρ hi => by
      have := hb (i + 1) d (by simpa using hd) ρ (by rw [show k + (i + 1) = k + 1 + i by omega]; exact hi)
      rw [show k + (i + 1) = k + 1 + i by omega] at this
      exact this
    refine ⟨ρ', by simp only [forS, e1, e2]; exact e3, ?_⟩
    rw [List.length_cons, show k + (ds.length + 1) = k + 1 + ds.length by omega]; exact h3
theorem rgD_len (lo : Int) (n : Nat) : (rgD lo n).length = n := by simp [rgD]
theorem rgD_mem {lo : Int} {n : Nat} {d : D} (h : d ∈ rgD lo n) : ∃ i : Nat, i < n ∧ d = .int (lo + i) := by
  unfold rgD at h
  obtain ⟨i, hi, e⟩ := List.mem_map.mp h
  exact ⟨i, List.mem_range.mp hi, e.symm⟩
/-- a comprehension that yields, item by item -/
theorem lc_map {t : TgtR} {elt : Sx} {ρ : Rho} (g : D → D) : ∀ (ds : List D), (∀ d, d ∈ ds → ∃ ρ2, t d ρ = some ρ2 ∧ elt ρ2 = some (.ok (g d))) → lcS t bTrue elt ρ ds = some (ds.map g)
  | [], _ => rfl
  | d :: ds, h => by
    obtain ⟨ρ2, e1, e2⟩ := h d List.mem_cons_self
    unfold lcS
    rw [e1]
    show (match elt ρ2 with | some (.ok y) => (lcS t bTrue elt ρ ds).map (y :: ·) | _ => none) = _
    rw [e2, lc_map g ds fun d hd => h d (List.mem_cons_of_mem _ hd)]
    rfl
/-- .. that picks and yields -/
theorem lc_filter {t : TgtR} {test : Sb} {elt : Sx} {ρ : Rho} (p : D → Bool) (g : D → D) : ∀ (ds : List D), (∀ d, d ∈ ds → ∃ ρ2, t d ρ = some ρ2 ∧ test ρ2 = some (.ok (p d)) ∧ elt ρ2 = some (.ok (g d))) → lcS t test elt ρ ds = some ((ds.filter p).map g)
  | [], _ => rfl
  | d :: ds, h => by
    obtain ⟨ρ2, e1, e2, e3⟩ := h d List.mem_cons_self
    have ih := lc_filter (ρ := ρ) p g ds fun d hd => h d (List.mem_cons_of_mem _ hd)
    unfold lcS
    rw [e1]
    cases hp : p d with
    | true =>
      rw [hp] at e2
      simp only [e2, e3, ih, List.filter_cons, hp, if_true, List.map_cons]
      rfl
    | false =>
      rw [hp] at e2
      simp only [e2, ih, List.filter_cons, hp]
      rfl
section
variable {ρ : Sig} {e : Sx} {ms : List Nat} {i : Nat} {k : Str}
@[simp] theorem e_SetD {g : Rho → Oe (List (L2.Key × L2.V))} : sSetD ms i g ρ = stp ms g ρ fun kvs => some (.nx (ρ.set i (.own (.dic kvs)))) := rfl
@[simp] theorem e_PutD : sPutD ms i k e ρ = match ρ[i]? with
  | some (.own (.dic kvs)) => stp ms e ρ fun d =>
    match toV d with
    | some v => if decide (kvs.length ≤ 15) then some (.nx (ρ.set i (.own (.dic (L2.putK kvs (Sum.inr k) v))))) else none
    | none => none
  | _ => none := rfl
@[simp] theorem e_Disp {l : List (Str × Sx)} {ρ : Rho} : sDisp l ρ = match sPairs l ρ with
  | some (.ok kvs) => if decide (kvs.length ≤ 15) then some (.ok (L2.mergeK [] kvs)) else none
  | _ => none := rfl
@[simp] theorem e_Pairs0 {ρ : Rho} : sPairs [] ρ = some (.ok []) := rfl
@[simp] theorem e_Pairs {ρ : Rho} {r : List (Str × Sx)} : sPairs ((k, e) :: r) ρ = bd (e ρ) fun d => bd (lift (toV d)) fun v => bd (sPairs r ρ) fun l => some (.ok ((Sum.inr k, v) :: l)) := rfl
@[simp] theorem e_toVi {n : Int} : toV (.int n) = some (.int n) := rfl
@[simp] theorem e_ofVi {n : Int} : ofV (.int n) = .int n := rfl
@[simp] theorem e_getK {kvs : List (L2.Key × L2.V)} : dGetK (.dic kvs) (.str k) = (L2.valV kvs (Sum.inr k)).map ofV := rfl
end
/-- how a def's body ends -/
def fin : Option Fl → Oe D
  | some (.nx _) => some (.ok .non)
  | some (.rt d) => some (.ok d)
  | some (.ex c _) => some (.error c)
  | _ => none
theorem runD_fin {n : Nat} {b : Ss} {ds : List D} : runD n b ds = fin (b (ds.map SL.dat ++ List.replicate (n - ds.length) SL.no)) := by
  unfold runD fin
  rfl
theorem fin_seq {a b : Ss} {ρ ρ' : Sig} (h : a ρ = some (.nx ρ')) : fin (sSeq a b ρ) = fin (b ρ') := by rw [q_Seq h]
@[simp] theorem fin_rt {d : D} : fin (some (.rt d)) = some (.ok d) := rfl
@[simp] theorem fin_nx {ρ : Sig} : fin (some (.nx ρ)) = some (.ok .non) := rfl
@[simp] theorem fin_ex {c : Str} {ρ : Sig} : fin (some (.ex c ρ)) = some (.error c) := rfl
theorem ne_scr_nil (ns : List Int) : dNe (.scr ns) (.lst []) = some (.bl (!ns.isEmpty)) := by cases ns <;> rfl
theorem eq_scr_nil (ns : List Int) : dEq (.scr ns) (.lst []) = some (.bl ns.isEmpty) := by cases ns <;> rfl
theorem at_in {α : Type} {xs : List α} {i : Int} (h : 0 ≤ i) (h2 : i < xs.length) : ∃ a, L2.atI xs i = some a ∧ a ∈ xs := by
  unfold L2.atI L2.ixN
  rw [if_pos h, if_pos h2]
  have h3 : i.toNat < xs.length := by omega
  exact ⟨xs[i.toNat], by simp [List.getElem?_eq_getElem h3], List.getElem_mem _⟩
@[simp] theorem e_AppPop {ρ : Sig} {ms : List Nat} {i j : Nat} {e : Sx} : sAppPop ms i j e ρ = match ρ[i]?, ρ[j]? with
  | some (.own (.lst ds)), some (.own (.lst es)) => if i = j then none else stp ms e ρ fun d =>
    match d with
    | .int n => if decide (0 ≤ n) && okLen (ds.length + 1) && okLen es.length then
        match es[n.toNat]? with
        | some c => some (.nx ((ρ.set j (.own (.lst (es.eraseIdx n.toNat)))).set i (.own (.lst (ds ++ [c])))))
        | none => none
      else none
    | _ => none
  | _, _ => none := rfl
section
variable {t : Tgt} {b a : Ss} {ρ ρ' ρ0 : Sig} {it : Sl} {ms ks : List Nat} {ds : List D}
theorem for_const : ∀ (ds : List D), (∀ d, d ∈ ds → ∃ ρ1, t d ρ0 = some ρ1 ∧ b ρ1 = some (.nx ρ0)) → forS t b ds ρ0 = some (.nx ρ0)
  | [], _ => rfl
  | d :: ds, h => by
    obtain ⟨ρ1, e1, e2⟩ := h d List.mem_cons_self
    simp only [forS, e1, e2]
    exact for_const ds fun d hd => h d (List.mem_cons_of_mem _ hd)
/-- a loop that leaves the state as it is -/
theorem run_for (ds : List D) (ρ0 : Sig) (hi : it (expo ms ρ) = some (.ok ds)) (hf : frz ms ρ = ρ0) (hb : ∀ d, d ∈ ds → ∃ ρ1, t d ρ0 = some ρ1 ∧ b ρ1 = some (.nx ρ0)) : sFor ms it t b ρ = some (.nx ρ0) := by
  unfold sFor
  rw [hi, hf]
  exact for_const ds hb
theorem run_aft (ρ' : Sig) (h : b ρ = some (.nx ρ')) (hk : killS ks ρ' = ρ0) : sAft ks b ρ = some (.nx ρ0) := by
  unfold sAft
  rw [h]
  show some (Fl.nx (killS ks ρ')) = _
  rw [hk]
theorem run_seq (ρ' : Sig) {o : Option Fl} (h : a ρ = some (.nx ρ')) (h2 : b ρ' = o) : sSeq a b ρ = o := (q_Seq h).trans h2
theorem fin_run (ρ' : Sig) {o : Oe D} (h : a ρ = some (.nx ρ')) (h2 : fin (b ρ') = o) : fin (sSeq a b ρ) = o := (fin_seq h).trans h2
end
theorem rg0_mem {n : Nat} {d : D} (h : d ∈ rgD 0 n) : ∃ i : Nat, i < n ∧ d = .int i := by
  obtain ⟨i, hi, rfl⟩ := rgD_mem h
  exact ⟨i, hi, by rw [Int.zero_add]⟩
theorem ne_lst_nil (xs : List D) (h : okN 10 (.lst xs) = true) : dNe (.lst xs) (.lst []) = some (.bl (!xs.isEmpty)) := by
  unfold dNe
  rw [h, show okN 10 (.lst []) = true from rfl]
  cases xs <;> rfl
end Dl
namespace Pk
open PySem L2 Dl
/-- _law_drawn(_law_script, _law_k, _law_many): slots 0 _law_script, 1 _law_k, 2 _law_many, 3 _law_cell, 4 _law_turn, 5 _law_rest -/
def b_L_drawn : Ss :=
  (sSeq (sSet [] 3 (sOp dMul (sC (.int 7)) (sV 1)))
    (sSeq (sIf [] (toB (sOp dNe (sV 0) (sOfL (sLst sNil)))) (sSeq (sSet [] 3 (sOp dIx (sV 0) (sOp dMod (sV 1) (sCall dLen (sCons (sV 0) sNil)))))
    (sSeq (sSet [] 4 (sOp dDiv (sV 1) (sCall dLen (sCons (sV 0) sNil))))
    (sSeq (sIf [] (bAnd (toB (sOp dGe (sV 3) (sOp dPow (sC (.int 10)) (sC (.int 18))))) (toB (sOp dLt (sV 4) (sC (.int 60))))) (sSeq (sSet [] 5 (sOp dDiv (sV 3) (sOp dPow (sC (.int 10)) (sC (.int 18)))))
    (sSeq (whileS [] (bAnd (toB (sOp dGt (sV 5) (sC (.int 0)))) (toB (sOp dGt (sV 4) (sC (.int 0))))) (sSeq (sSet [] 5 (sOp dDiv (sV 5) (sC (.int 1000000))))
    (sSet [] 4 (sOp dSub (sV 4) (sC (.int 1))))) 100000)
    (sIf [] (toB (sOp dGt (sV 5) (sC (.int 0)))) (sRet [] (sOp dMod (sOp dMod (sV 5) (sC (.int 1000000))) (sV 2))) sNext))) sNext)
    (sSet [] 3 (sOp dAdd (sV 3) (sOp dMul (sC (.int 6553)) (sOp dDiv (sV 1) (sCall dLen (sCons (sV 0) sNil))))))))) sNext)
    (sSeq (sSet [] 3 (sOp dMod (sOp dAdd (sOp dMul (sOp dMod (sV 3) (sC (.int 2147483563))) (sC (.int 69069))) (sOp dMul (sC (.int 104723)) (sOp dAdd (sV 1) (sC (.int 1))))) (sC (.int 2147483563))))
    (sSeq (sSet [] 3 (sOp dMod (sOp dAdd (sOp dMul (sV 3) (sV 3)) (sOp dDiv (sV 3) (sC (.int 3)))) (sC (.int 2147483399))))
    (sRet [] (sOp dMod (sOp dDiv (sOp dMod (sOp dAdd (sOp dMul (sV 3) (sV 3)) (sOp dDiv (sV 3) (sC (.int 7)))) (sC (.int 2147483647))) (sC (.int 11))) (sV 2)))))))
def f_L_drawn : List D → Oe D := runD 6 b_L_drawn
/-- _law_setting(_law_script, _law_at): slots 0 _law_script, 1 _law_at, 2 _law_wide, 3 _law_high, 4 _law_box, 5 _law_some, 6 _law_found, 7 _law_k, 8 _law_side_here -/
def b_L_setting : Ss :=
  (sSeq (sPar [] [2, 3] [.s (sOp dAdd (sC (.int 1)) (sFn 3 f_L_drawn (sCons (sV 0) (sCons (sV 1) (sCons (sC (.int 10)) sNil))))), .s (sOp dAdd (sC (.int 1)) (sFn 3 f_L_drawn (sCons (sV 0) (sCons (sOp dAdd (sV 1) (sC (.int 1))) (sCons (sC (.int 9)) sNil)))))])
    (sSeq (sSet [] 4 (sTup (sCons (sOp dAdd (sC (.int 1)) (sFn 3 f_L_drawn (sCons (sV 0) (sCons (sOp dAdd (sV 1) (sC (.int 2))) (sCons (sCall dMin2 (sCons (sV 2) (sCons (sC (.int 5)) sNil))) sNil))))) (sCons (sOp dAdd (sC (.int 1)) (sFn 3 f_L_drawn (sCons (sV 0) (sCons (sOp dAdd (sV 1) (sC (.int 3))) (sCons (sCall dMin2 (sCons (sV 3) (sCons (sC (.int 5)) sNil))) sNil))))) sNil))))
    (sSeq (sSetL [] 5 (sLst (sCons (sC (.str "top")) (sCons (sC (.str "bottom")) (sCons (sC (.str "left")) (sCons (sC (.str "right")) sNil))))))
    (sSeq (sSetL [] 6 (sLst sNil))
    (sSeq (sFor [] (sRange (sCons (sOp dAdd (sC (.int 1)) (sFn 3 f_L_drawn (sCons (sV 0) (sCons (sOp dAdd (sV 1) (sC (.int 4))) (sCons (sC (.int 4)) sNil))))) sNil)) (tgN 7)
    (sAft [7] (sSeq (sApp [5] 6 (sOp dIx (sV 5) (sFn 3 f_L_drawn (sCons (sV 0) (sCons (sOp dAdd (sOp dAdd (sV 1) (sC (.int 5))) (sV 7)) (sCons (sCall dLen (sCons (sV 5) sNil)) sNil))))))
    (sSetL [5, 6] 5 (sLc (sSeqItems (sV 5)) [8] (tgRN 8) (toB (sOp dNe (sV 8) (sOp dIx (sV 6) (sUn dNeg (sC (.int 1)))))) (sV 8))))))
    (sRet [6] (sTup (sCons (sTup (sCons (sV 2) (sCons (sV 3) sNil))) (sCons (sV 4) (sCons (sFn 3 f_L_drawn (sCons (sV 0) (sCons (sOp dAdd (sV 1) (sC (.int 9))) (sCons (sC (.int 3)) sNil)))) (sCons (sCall dTupleOf (sCons (sV 6) sNil)) sNil)))))))))))
def f_L_setting : List D → Oe D := runD 9 b_L_setting
/-- _law_anchor(_law_script, _law_at, _law_setting_here): slots 0 _law_script, 1 _law_at, 2 _law_setting_here, 3 _law_wide, 4 _law_high, 5 _law_left, 6 _law_top, 7 _law_width -/
def b_L_anchor : Ss :=
  (sSeq (sUnp [] [3, 4] (sOp dIx (sV 2) (sC (.int 0))))
    (sSeq (sPar [] [5, 6] [.s (sFn 3 f_L_drawn (sCons (sV 0) (sCons (sV 1) (sCons (sV 3) sNil)))), .s (sFn 3 f_L_drawn (sCons (sV 0) (sCons (sOp dAdd (sV 1) (sC (.int 1))) (sCons (sV 4) sNil))))])
    (sSeq (sSet [] 7 (sOp dAdd (sC (.int 1)) (sCall dMin2 (sCons (sFn 3 f_L_drawn (sCons (sV 0) (sCons (sOp dAdd (sV 1) (sC (.int 2))) (sCons (sOp dSub (sV 3) (sV 5)) sNil)))) (sCons (sFn 3 f_L_drawn (sCons (sV 0) (sCons (sOp dAdd (sV 1) (sC (.int 4))) (sCons (sC (.int 4)) sNil)))) sNil)))))
    (sRet [] (sTup (sCons (sV 5) (sCons (sV 6) (sCons (sV 7) (sCons (sOp dAdd (sC (.int 1)) (sCall dMin2 (sCons (sFn 3 f_L_drawn (sCons (sV 0) (sCons (sOp dAdd (sV 1) (sC (.int 3))) (sCons (sOp dSub (sV 4) (sV 6)) sNil)))) (sCons (sFn 3 f_L_drawn (sCons (sV 0) (sCons (sOp dAdd (sV 1) (sC (.int 5))) (sCons (sC (.int 4)) sNil)))) sNil)))) sNil)))))))))
def f_L_anchor : List D → Oe D := runD 8 b_L_anchor
/-- _law_within(_law_spot_here, _law_area): slots 0 _law_spot_here, 1 _law_area -/
def b_L_within : Ss :=
  (sSeq (sIf [] (bOr (toB (sOp dLt (sOp dIx (sV 0) (sC (.int 0))) (sOp dIx (sV 1) (sC (.int 0))))) (toB (sOp dLt (sOp dIx (sV 0) (sC (.int 1))) (sOp dIx (sV 1) (sC (.int 1)))))) (sRet [] (sC (.bl false))) sNext)
    (sRet [] (sAnd (sOp dLe (sOp dAdd (sOp dIx (sV 0) (sC (.int 0))) (sOp dIx (sV 0) (sC (.int 2)))) (sOp dAdd (sOp dIx (sV 1) (sC (.int 0))) (sOp dIx (sV 1) (sC (.int 2))))) (sOp dLe (sOp dAdd (sOp dIx (sV 0) (sC (.int 1))) (sOp dIx (sV 0) (sC (.int 3)))) (sOp dAdd (sOp dIx (sV 1) (sC (.int 1))) (sOp dIx (sV 1) (sC (.int 3))))))))
def f_L_within : List D → Oe D := runD 2 b_L_within
/-- _law_moved(_law_start, _law_size, _law_low, _law_length): slots 0 _law_start, 1 _law_size, 2 _law_low, 3 _law_length -/
def b_L_moved : Ss :=
  (sRet [] (sCall dMax2 (sCons (sV 2) (sCons (sCall dMin2 (sCons (sV 0) (sCons (sOp dSub (sOp dAdd (sV 2) (sV 3)) (sV 1)) sNil))) sNil))))
def f_L_moved : List D → Oe D := runD 4 b_L_moved
/-- _law_spot(_law_setting_here, _law_anchor_here, _law_side_here, _law_area): slots 0 _law_setting_here, 1 _law_anchor_here, 2 _law_side_here, 3 _law_area, 4 _law_screen, 5 _law_box, 6 _law_gap, 7 _law_sides, 8 _law_left, 9 _law_top, 10 _law_width, 11 _law_height, 12 _law_x, 13 _law_y -/
def b_L_spot : Ss :=
  (sSeq (sUnp [] [4, 5, 6, 7] (sV 0))
    (sSeq (sUnp [] [8, 9, 10, 11] (sV 1))
    (sSeq (sSet [] 12 (sFn 4 f_L_moved (sCons (sOp dAdd (sV 8) (sOp dDiv (sOp dSub (sV 10) (sOp dIx (sV 5) (sC (.int 0)))) (sC (.int 2)))) (sCons (sOp dIx (sV 5) (sC (.int 0))) (sCons (sOp dIx (sV 3) (sC (.int 0))) (sCons (sOp dIx (sV 3) (sC (.int 2))) sNil))))))
    (sSeq (sSet [] 13 (sFn 4 f_L_moved (sCons (sOp dAdd (sV 9) (sOp dDiv (sOp dSub (sV 11) (sOp dIx (sV 5) (sC (.int 1)))) (sC (.int 2)))) (sCons (sOp dIx (sV 5) (sC (.int 1))) (sCons (sOp dIx (sV 3) (sC (.int 1))) (sCons (sOp dIx (sV 3) (sC (.int 3))) sNil))))))
    (sSeq (sIf [] (toB (sOp dIn (sV 2) (sTup (sCons (sC (.str "top")) (sCons (sC (.str "bottom")) sNil))))) (sSet [] 13 (sIfE (toB (sOp dEq (sV 2) (sC (.str "top")))) (sOp dSub (sOp dSub (sV 9) (sV 6)) (sOp dIx (sV 5) (sC (.int 1)))) (sOp dAdd (sOp dAdd (sV 9) (sV 11)) (sV 6)))) sNext)
    (sSeq (sIf [] (toB (sOp dIn (sV 2) (sTup (sCons (sC (.str "left")) (sCons (sC (.str "right")) sNil))))) (sSet [] 12 (sIfE (toB (sOp dEq (sV 2) (sC (.str "left")))) (sOp dSub (sOp dSub (sV 8) (sV 6)) (sOp dIx (sV 5) (sC (.int 0)))) (sOp dAdd (sOp dAdd (sV 8) (sV 10)) (sV 6)))) sNext)
    (sRet [] (sTup (sCons (sV 12) (sCons (sV 13) (sCons (sOp dIx (sV 5) (sC (.int 0))) (sCons (sOp dIx (sV 5) (sC (.int 1))) sNil))))))))))))
def f_L_spot : List D → Oe D := runD 14 b_L_spot
/-- _law_side(_law_setting_here, _law_anchor_here): slots 0 _law_setting_here, 1 _law_anchor_here, 2 _law_area, 3 _law_side_here -/
def b_L_side : Ss :=
  (sSeq (sSet [] 2 (sTup (sCons (sC (.int 0)) (sCons (sC (.int 0)) (sCons (sOp dIx (sOp dIx (sV 0) (sC (.int 0))) (sC (.int 0))) (sCons (sOp dIx (sOp dIx (sV 0) (sC (.int 0))) (sC (.int 1))) sNil))))))
    (sSeq (sFor [] (sSeqItems (sOp dIx (sV 0) (sC (.int 3)))) (tgN 3)
    (sAft [3] (sIf [] (toB (sFn 2 f_L_within (sCons (sFn 4 f_L_spot (sCons (sV 0) (sCons (sV 1) (sCons (sV 3) (sCons (sV 2) sNil))))) (sCons (sV 2) sNil)))) (sRet [] (sV 3)) sNext)))
    (sRet [] (sC (.str "over")))))
def f_L_side : List D → Oe D := runD 4 b_L_side
/-- _law_arrow(_law_setting_here, _law_anchor_here): slots 0 _law_setting_here, 1 _law_anchor_here, 2 _law_side_here, 3 _law_left, 4 _law_top, 5 _law_width, 6 _law_height, 7 _law_x, 8 _law_y, 9 _law_places, 10 _law_best -/
def b_L_arrow : Ss :=
  (sSeq (sSet [] 2 (sFn 2 f_L_side (sCons (sV 0) (sCons (sV 1) sNil))))
    (sSeq (sIf [] (toB (sOp dEq (sV 2) (sC (.str "over")))) (sRet [] (sTup (sCons (sC .non) (sCons (sC .non) sNil)))) sNext)
    (sSeq (sUnp [] [3, 4, 5, 6] (sFn 4 f_L_spot (sCons (sV 0) (sCons (sV 1) (sCons (sV 2) (sCons (sTup (sCons (sC (.int 0)) (sCons (sC (.int 0)) (sCons (sOp dIx (sOp dIx (sV 0) (sC (.int 0))) (sC (.int 0))) (sCons (sOp dIx (sOp dIx (sV 0) (sC (.int 0))) (sC (.int 1))) sNil))))) sNil))))))
    (sSeq (sSet [] 7 (sOp dAdd (sOp dIx (sV 1) (sC (.int 0))) (sOp dDiv (sOp dSub (sOp dIx (sV 1) (sC (.int 2))) (sC (.int 1))) (sC (.int 2)))))
    (sSeq (sSet [] 8 (sOp dAdd (sOp dIx (sV 1) (sC (.int 1))) (sOp dDiv (sOp dSub (sOp dIx (sV 1) (sC (.int 3))) (sC (.int 1))) (sC (.int 2)))))
    (sSeq (sIf [] (toB (sOp dIn (sV 2) (sTup (sCons (sC (.str "top")) (sCons (sC (.str "bottom")) sNil))))) (sSeq (sSetL [] 9 (sListRg (sV 3) (sOp dAdd (sV 3) (sV 5))))
    (sSeq (sSet [9] 9 (sIfE (toB (sOp dGt (sCall dLen (sCons (sV 9) sNil)) (sC (.int 2)))) (sOfL (sCutL (sV 9) (sPart (sC (.int 1))) (sPart (sUn dNeg (sC (.int 1)))))) (sV 9)))
    (sSeq (sSet [9] 10 (sOp dIx (sOfL (sSortD (sV 9) 7)) (sC (.int 0))))
    (sRet [] (sTup (sCons (sTup (sCons (sV 10) (sCons (sIfE (toB (sOp dEq (sV 2) (sC (.str "top")))) (sOp dSub (sOp dAdd (sV 4) (sV 6)) (sC (.int 1))) (sV 4)) sNil))) (sCons (sCall dAbs (sCons (sOp dSub (sV 10) (sV 7)) sNil)) sNil))))))) sNext)
    (sSeq (sSetL [] 9 (sListRg (sV 4) (sOp dAdd (sV 4) (sV 6))))
    (sSeq (sSet [9] 9 (sIfE (toB (sOp dGt (sCall dLen (sCons (sV 9) sNil)) (sC (.int 2)))) (sOfL (sCutL (sV 9) (sPart (sC (.int 1))) (sPart (sUn dNeg (sC (.int 1)))))) (sV 9)))
    (sSeq (sSet [9] 10 (sOp dIx (sOfL (sSortD (sV 9) 8)) (sC (.int 0))))
    (sRet [] (sTup (sCons (sTup (sCons (sIfE (toB (sOp dEq (sV 2) (sC (.str "left")))) (sOp dSub (sOp dAdd (sV 3) (sV 5)) (sC (.int 1))) (sV 3)) (sCons (sV 10) sNil))) (sCons (sCall dAbs (sCons (sOp dSub (sV 10) (sV 8)) sNil)) sNil)))))))))))))
def f_L_arrow : List D → Oe D := runD 11 b_L_arrow
/-- is_int(value, least, most): slots 0 value, 1 least, 2 most -/
def b_is_int : Ss :=
  (sRet [] (sAnd (sUn (dTy tyInt) (sV 0)) (sAnd (sUn dNot (sUn (dTy tyBool) (sV 0))) (sChain dLe dLe (sV 1) (sV 0) (sV 2)))))
def f_is_int : List D → Oe D := runD 3 b_is_int
/-- is_side(value): slots 0 value -/
def b_is_side : Ss :=
  (sRet [] (sAnd (sUn (dTy tyStr) (sV 0)) (sOp dIn (sV 0) (sC (.tup [(.str "top"), (.str "bottom"), (.str "left"), (.str "right")])))))
def f_is_side : List D → Oe D := runD 1 b_is_side
/-- are_sides(value): slots 0 value, 1 side -/
def b_are_sides : Ss :=
  (sSeq (sIf [] (bOr (bNot (toB (sUn (dTy tyTuple) (sV 0)))) (bOr (toB (sOp dEq (sV 0) (sTup sNil))) (bNot (toB (sCall dAll (sCons (sOfL (sLc (sSeqItems (sV 0)) [1] (tgRN 1) bTrue (sFn 1 f_is_side (sCons (sV 1) sNil)))) sNil)))))) (sRet [] (sC (.bl false))) sNext)
    (sRet [] (sOp dEq (sUn dLenSet (sV 0)) (sCall dLen (sCons (sV 0) sNil)))))
def f_are_sides : List D → Oe D := runD 2 b_are_sides
/-- is_size(value, wide, high): slots 0 value, 1 wide, 2 high -/
def b_is_size : Ss :=
  (sSeq (sIf [] (bOr (bNot (toB (sUn (dTy tyTuple) (sV 0)))) (toB (sOp dNe (sCall dLen (sCons (sV 0) sNil)) (sC (.int 2))))) (sRet [] (sC (.bl false))) sNext)
    (sRet [] (sAnd (sFn 3 f_is_int (sCons (sOp dIx (sV 0) (sC (.int 0))) (sCons (sC (.int 1)) (sCons (sV 1) sNil)))) (sFn 3 f_is_int (sCons (sOp dIx (sV 0) (sC (.int 1))) (sCons (sC (.int 1)) (sCons (sV 2) sNil)))))))
def f_is_size : List D → Oe D := runD 3 b_is_size
/-- is_setting(candidate): slots 0 candidate, 1 screen, 2 box, 3 gap, 4 sides -/
def b_is_setting : Ss :=
  (sSeq (sIf [] (bOr (bNot (toB (sUn (dTy tyTuple) (sV 0)))) (toB (sOp dNe (sCall dLen (sCons (sV 0) sNil)) (sC (.int 4))))) (sRet [] (sC (.bl false))) sNext)
    (sSeq (sUnp [] [1, 2, 3, 4] (sV 0))
    (sSeq (sIf [] (bOr (bNot (toB (sFn 3 f_is_size (sCons (sV 1) (sCons (sC (.int 30)) (sCons (sC (.int 30)) sNil)))))) (bNot (toB (sFn 3 f_is_size (sCons (sV 2) (sCons (sOp dIx (sV 1) (sC (.int 0))) (sCons (sOp dIx (sV 1) (sC (.int 1))) sNil))))))) (sRet [] (sC (.bl false))) sNext)
    (sRet [] (sAnd (sFn 3 f_is_int (sCons (sV 3) (sCons (sC (.int 0)) (sCons (sC (.int 5)) sNil)))) (sFn 1 f_are_sides (sCons (sV 4) sNil)))))))
def f_is_setting : List D → Oe D := runD 5 b_is_setting
/-- check_setting(value): slots 0 value -/
def b_check_setting : Ss :=
  (sIf [] (bNot (toB (sFn 1 f_is_setting (sCons (sV 0) sNil)))) (sRaise "InvalidSetting") sNext)
def f_check_setting : List D → Oe D := runD 1 b_check_setting
/-- check_size(setting, size): slots 0 setting, 1 size -/
def b_check_size : Ss :=
  (sSeq (sDrop [] (sFn 1 f_check_setting (sCons (sV 0) sNil)))
    (sIf [] (bNot (toB (sFn 3 f_is_size (sCons (sV 1) (sCons (sOp dIx (sOp dIx (sV 0) (sC (.int 0))) (sC (.int 0))) (sCons (sOp dIx (sOp dIx (sV 0) (sC (.int 0))) (sC (.int 1))) sNil)))))) (sRaise "InvalidSize") sNext))
def f_check_size : List D → Oe D := runD 2 b_check_size
/-- all_anchors(setting, size): slots 0 setting, 1 size, 2 wide, 3 high, 4 lefts, 5 tops, 6 left, 7 top -/
def b_all_anchors : Ss :=
  (sSeq (sUnp [] [2, 3] (sOp dIx (sV 0) (sC (.int 0))))
    (sSeq (sPar [] [4, 5] [.l (sListRg1 (sOp dAdd (sOp dSub (sV 2) (sOp dIx (sV 1) (sC (.int 0)))) (sC (.int 1)))), .l (sListRg1 (sOp dAdd (sOp dSub (sV 3) (sOp dIx (sV 1) (sC (.int 1)))) (sC (.int 1))))])
    (sRet [4, 5] (sOfL (sLc2 (sSeqItems (sV 4)) [6, 7] (tgRN 6) bTrue (sSeqItems (sV 5)) [7] (tgRN 7) bTrue (sTup (sCons (sV 6) (sCons (sV 7) (sCons (sOp dIx (sV 1) (sC (.int 0))) (sCons (sOp dIx (sV 1) (sC (.int 1))) sNil))))))))))
def f_all_anchors : List D → Oe D := runD 8 b_all_anchors
/-- has_room(setting, anchor, side): slots 0 setting, 1 anchor, 2 side, 3 screen, 4 box, 5 gap, 6 sides, 7 left, 8 top, 9 width, 10 height -/
def b_has_room : Ss :=
  (sSeq (sUnp [] [3, 4, 5, 6] (sV 0))
    (sSeq (sUnp [] [7, 8, 9, 10] (sV 1))
    (sSeq (sIf [] (toB (sOp dEq (sV 2) (sC (.str "top")))) (sRet [] (sOp dGe (sV 8) (sOp dAdd (sOp dIx (sV 4) (sC (.int 1))) (sV 5)))) sNext)
    (sSeq (sIf [] (toB (sOp dEq (sV 2) (sC (.str "bottom")))) (sRet [] (sOp dLe (sOp dAdd (sOp dAdd (sOp dAdd (sV 8) (sV 10)) (sV 5)) (sOp dIx (sV 4) (sC (.int 1)))) (sOp dIx (sV 3) (sC (.int 1))))) sNext)
    (sSeq (sIf [] (toB (sOp dEq (sV 2) (sC (.str "left")))) (sRet [] (sOp dGe (sV 7) (sOp dAdd (sOp dIx (sV 4) (sC (.int 0))) (sV 5)))) sNext)
    (sRet [] (sOp dLe (sOp dAdd (sOp dAdd (sOp dAdd (sV 7) (sV 9)) (sV 5)) (sOp dIx (sV 4) (sC (.int 0)))) (sOp dIx (sV 3) (sC (.int 0))))))))))
def f_has_room : List D → Oe D := runD 11 b_has_room
/-- find_fitting(setting, anchor): slots 0 setting, 1 anchor, 2 side -/
def b_find_fitting : Ss :=
  (sRet [] (sOfL (sLc (sSeqItems (sOp dIx (sV 0) (sC (.int 3)))) [2] (tgRN 2) (toB (sFn 3 f_has_room (sCons (sV 0) (sCons (sV 1) (sCons (sV 2) sNil))))) (sV 2))))
def f_find_fitting : List D → Oe D := runD 3 b_find_fitting
/-- find_side(setting, anchor): slots 0 setting, 1 anchor -/
def b_find_side : Ss :=
  (sRet [] (sOp dIx (sOfL (sCat (sFn 2 f_find_fitting (sCons (sV 0) (sCons (sV 1) sNil))) (sOfL (sLst (sCons (sC (.str "over")) sNil))))) (sC (.int 0))))
def f_find_side : List D → Oe D := runD 2 b_find_side
/-- centred(start, size, box): slots 0 start, 1 size, 2 box -/
def b_centred : Ss :=
  (sRet [] (sOp dAdd (sV 0) (sOp dDiv (sOp dSub (sV 1) (sV 2)) (sC (.int 2)))))
def f_centred : List D → Oe D := runD 3 b_centred
/-- find_raw(setting, anchor): slots 0 setting, 1 anchor, 2 screen, 3 box, 4 gap, 5 sides, 6 left, 7 top, 8 width, 9 height, 10 x, 11 y, 12 side -/
def b_find_raw : Ss :=
  (sSeq (sUnp [] [2, 3, 4, 5] (sV 0))
    (sSeq (sUnp [] [6, 7, 8, 9] (sV 1))
    (sSeq (sPar [] [10, 11, 12] [.s (sFn 3 f_centred (sCons (sV 6) (sCons (sV 8) (sCons (sOp dIx (sV 3) (sC (.int 0))) sNil)))), .s (sFn 3 f_centred (sCons (sV 7) (sCons (sV 9) (sCons (sOp dIx (sV 3) (sC (.int 1))) sNil)))), .s (sFn 2 f_find_side (sCons (sV 0) (sCons (sV 1) sNil)))])
    (sSeq (sIf [] (toB (sOp dEq (sV 12) (sC (.str "top")))) (sRet [] (sTup (sCons (sV 10) (sCons (sOp dSub (sOp dSub (sV 7) (sV 4)) (sOp dIx (sV 3) (sC (.int 1)))) sNil)))) sNext)
    (sSeq (sIf [] (toB (sOp dEq (sV 12) (sC (.str "bottom")))) (sRet [] (sTup (sCons (sV 10) (sCons (sOp dAdd (sOp dAdd (sV 7) (sV 9)) (sV 4)) sNil)))) sNext)
    (sSeq (sIf [] (toB (sOp dEq (sV 12) (sC (.str "left")))) (sRet [] (sTup (sCons (sOp dSub (sOp dSub (sV 6) (sV 4)) (sOp dIx (sV 3) (sC (.int 0)))) (sCons (sV 11) sNil)))) sNext)
    (sSeq (sIf [] (toB (sOp dEq (sV 12) (sC (.str "right")))) (sRet [] (sTup (sCons (sOp dAdd (sOp dAdd (sV 6) (sV 8)) (sV 4)) (sCons (sV 11) sNil)))) sNext)
    (sRet [] (sTup (sCons (sV 10) (sCons (sV 11) sNil)))))))))))
def f_find_raw : List D → Oe D := runD 13 b_find_raw
/-- within(start, box, screen): slots 0 start, 1 box, 2 screen -/
def b_within : Ss :=
  (sRet [] (sCall dMax2 (sCons (sC (.int 0)) (sCons (sCall dMin2 (sCons (sV 0) (sCons (sOp dSub (sV 2) (sV 1)) sNil))) sNil))))
def f_within : List D → Oe D := runD 3 b_within
/-- find_place(setting, anchor): slots 0 setting, 1 anchor, 2 screen, 3 box, 4 x, 5 y -/
def b_find_place : Ss :=
  (sSeq (sPar [] [2, 3] [.s (sOp dIx (sV 0) (sC (.int 0))), .s (sOp dIx (sV 0) (sC (.int 1)))])
    (sSeq (sUnp [] [4, 5] (sFn 2 f_find_raw (sCons (sV 0) (sCons (sV 1) sNil))))
    (sRet [] (sTup (sCons (sFn 3 f_within (sCons (sV 4) (sCons (sOp dIx (sV 3) (sC (.int 0))) (sCons (sOp dIx (sV 2) (sC (.int 0))) sNil)))) (sCons (sFn 3 f_within (sCons (sV 5) (sCons (sOp dIx (sV 3) (sC (.int 1))) (sCons (sOp dIx (sV 2) (sC (.int 1))) sNil)))) (sCons (sOp dIx (sV 3) (sC (.int 0))) (sCons (sOp dIx (sV 3) (sC (.int 1))) sNil))))))))
def f_find_place : List D → Oe D := runD 6 b_find_place
/-- find_middle(anchor): slots 0 anchor, 1 left, 2 top, 3 width, 4 height -/
def b_find_middle : Ss :=
  (sSeq (sUnp [] [1, 2, 3, 4] (sV 0))
    (sRet [] (sTup (sCons (sOp dAdd (sV 1) (sOp dDiv (sOp dSub (sV 3) (sC (.int 1))) (sC (.int 2)))) (sCons (sOp dAdd (sV 2) (sOp dDiv (sOp dSub (sV 4) (sC (.int 1))) (sC (.int 2)))) sNil)))))
def f_find_middle : List D → Oe D := runD 5 b_find_middle
/-- nearest(value, start, size): slots 0 value, 1 start, 2 size, 3 spare -/
def b_nearest : Ss :=
  (sSeq (sSet [] 3 (sIfE (toB (sOp dGt (sV 2) (sC (.int 2)))) (sC (.int 1)) (sC (.int 0))))
    (sRet [] (sCall dMax2 (sCons (sOp dAdd (sV 1) (sV 3)) (sCons (sCall dMin2 (sCons (sV 0) (sCons (sOp dSub (sOp dSub (sOp dAdd (sV 1) (sV 2)) (sC (.int 1))) (sV 3)) sNil))) sNil)))))
def f_nearest : List D → Oe D := runD 4 b_nearest
/-- find_arrow(setting, anchor): slots 0 setting, 1 anchor, 2 side, 3 left, 4 top, 5 width, 6 height, 7 x, 8 y -/
def b_find_arrow : Ss :=
  (sSeq (sSet [] 2 (sFn 2 f_find_side (sCons (sV 0) (sCons (sV 1) sNil))))
    (sSeq (sUnp [] [3, 4, 5, 6] (sFn 2 f_find_place (sCons (sV 0) (sCons (sV 1) sNil))))
    (sSeq (sUnp [] [7, 8] (sFn 1 f_find_middle (sCons (sV 1) sNil)))
    (sSeq (sIf [] (toB (sOp dEq (sV 2) (sC (.str "over")))) (sRet [] (sC .non)) sNext)
    (sSeq (sIf [] (toB (sOp dIn (sV 2) (sTup (sCons (sC (.str "top")) (sCons (sC (.str "bottom")) sNil))))) (sRet [] (sTup (sCons (sFn 3 f_nearest (sCons (sV 7) (sCons (sV 3) (sCons (sV 5) sNil)))) (sCons (sIfE (toB (sOp dEq (sV 2) (sC (.str "top")))) (sOp dSub (sOp dAdd (sV 4) (sV 6)) (sC (.int 1))) (sV 4)) sNil)))) sNext)
    (sRet [] (sTup (sCons (sIfE (toB (sOp dEq (sV 2) (sC (.str "left")))) (sOp dSub (sOp dAdd (sV 3) (sV 5)) (sC (.int 1))) (sV 3)) (sCons (sFn 3 f_nearest (sCons (sV 8) (sCons (sV 4) (sCons (sV 6) sNil)))) sNil)))))))))
def f_find_arrow : List D → Oe D := runD 9 b_find_arrow
/-- find_off(setting, anchor): slots 0 setting, 1 anchor, 2 place, 3 aim, 4 which -/
def b_find_off : Ss :=
  (sSeq (sPar [] [2, 3] [.s (sFn 2 f_find_arrow (sCons (sV 0) (sCons (sV 1) sNil))), .s (sFn 1 f_find_middle (sCons (sV 1) sNil))])
    (sSeq (sIf [] (toB (sOp dIs (sV 2) (sC .non))) (sRet [] (sC .non)) sNext)
    (sSeq (sSet [] 4 (sIfE (toB (sOp dIn (sFn 2 f_find_side (sCons (sV 0) (sCons (sV 1) sNil))) (sTup (sCons (sC (.str "left")) (sCons (sC (.str "right")) sNil))))) (sC (.int 1)) (sC (.int 0))))
    (sRet [] (sCall dAbs (sCons (sOp dSub (sOp dIx (sV 2) (sV 4)) (sOp dIx (sV 3) (sV 4))) sNil))))))
def f_find_off : List D → Oe D := runD 5 b_find_off
/-- count_straight(setting, size): slots 0 setting, 1 size, 2 anchor -/
def b_count_straight : Ss :=
  (sSeq (sDrop [] (sFn 2 f_check_size (sCons (sV 0) (sCons (sV 1) sNil))))
    (sRet [] (sCall dLen (sCons (sOfL (sLc (sSeqItems (sFn 2 f_all_anchors (sCons (sV 0) (sCons (sV 1) sNil)))) [2] (tgRN 2) (toB (sOp dEq (sFn 2 f_find_off (sCons (sV 0) (sCons (sV 2) sNil))) (sC (.int 0)))) (sV 2))) sNil))))
def f_count_straight : List D → Oe D := runD 3 b_count_straight
/-- _law_badsetting(_law_script, _law_at): slots 0 _law_script, 1 _law_at, 2 _law_good, 3 _law_bad -/
def b_L_badsetting : Ss :=
  (sSeq (sSet [] 2 (sTup (sCons (sTup (sCons (sC (.int 9)) (sCons (sC (.int 9)) sNil))) (sCons (sTup (sCons (sC (.int 2)) (sCons (sC (.int 2)) sNil))) (sCons (sC (.int 1)) (sCons (sTup (sCons (sC (.str "top")) sNil)) sNil))))))
    (sSeq (sSetL [] 3 (sLst (sCons (sC .non) (sCons (sTup sNil) (sCons (sCutT (sV 2) sNoPart (sPart (sC (.int 3)))) (sCons (sOp dAdd (sTup (sCons (sTup (sCons (sC (.int 0)) (sCons (sC (.int 9)) sNil))) sNil)) (sCutT (sV 2) (sPart (sC (.int 1))) sNoPart)) (sCons (sOp dAdd (sTup (sCons (sTup (sCons (sC (.int 31)) (sCons (sC (.int 9)) sNil))) sNil)) (sCutT (sV 2) (sPart (sC (.int 1))) sNoPart)) sNil)))))))
    (sSeq (sSetL [3] 3 (sCat (sV 3) (sOfL (sLst (sCons (sTup (sCons (sTup (sCons (sC (.int 9)) (sCons (sC (.int 9)) sNil))) (sCons (sTup (sCons (sC (.int 10)) (sCons (sC (.int 1)) sNil))) (sCons (sC (.int 1)) (sCons (sTup (sCons (sC (.str "top")) sNil)) sNil))))) sNil)))))
    (sSeq (sSetL [3] 3 (sCat (sV 3) (sOfL (sLst (sCons (sOp dAdd (sCutT (sV 2) sNoPart (sPart (sC (.int 2)))) (sTup (sCons (sC (.int 6)) (sCons (sTup (sCons (sC (.str "top")) sNil)) sNil)))) (sCons (sOp dAdd (sCutT (sV 2) sNoPart (sPart (sC (.int 3)))) (sTup (sCons (sTup sNil) sNil))) (sCons (sOp dAdd (sCutT (sV 2) sNoPart (sPart (sC (.int 3)))) (sTup (sCons (sTup (sCons (sC (.str "top")) (sCons (sC (.str "top")) sNil))) sNil))) sNil)))))))
    (sSeq (sSetL [3] 3 (sCat (sV 3) (sOfL (sLst (sCons (sOp dAdd (sCutT (sV 2) sNoPart (sPart (sC (.int 3)))) (sTup (sCons (sTup (sCons (sC (.str "over")) sNil)) sNil))) sNil)))))
    (sSeq (sSetL [3] 3 (sCat (sV 3) (sOfL (sLst (sCons (sOfL (sListOf (sV 2))) (sCons (sOp dAdd (sCutT (sV 2) sNoPart (sPart (sC (.int 2)))) (sTup (sCons (sC (.bl true)) (sCons (sTup (sCons (sC (.str "top")) sNil)) sNil)))) (sCons (sOp dAdd (sCutT (sV 2) sNoPart (sPart (sC (.int 3)))) (sTup (sCons (sOfL (sLst (sCons (sC (.str "top")) sNil))) sNil))) sNil)))))))
    (sSeq (sSetL [3] 3 (sCat (sV 3) (sOfL (sLst (sCons (sOp dAdd (sCutT (sV 2) sNoPart (sPart (sC (.int 3)))) (sTup (sCons (sC (.str "top")) sNil))) sNil)))))
    (sRet [3] (sOp dIx (sV 3) (sFn 3 f_L_drawn (sCons (sV 0) (sCons (sV 1) (sCons (sC (.int 14)) sNil)))))))))))))
def f_L_badsetting : List D → Oe D := runD 4 b_L_badsetting
/-- _law_badanchor(_law_script, _law_at, _law_setting_here): slots 0 _law_script, 1 _law_at, 2 _law_setting_here, 3 _law_wide, 4 _law_high, 5 _law_bad -/
def b_L_badanchor : Ss :=
  (sSeq (sUnp [] [3, 4] (sOp dIx (sV 2) (sC (.int 0))))
    (sSeq (sSetL [] 5 (sLst (sCons (sC .non) (sCons (sTup sNil) (sCons (sTup (sCons (sC (.int 0)) (sCons (sC (.int 0)) (sCons (sC (.int 1)) sNil)))) (sCons (sTup (sCons (sV 3) (sCons (sC (.int 0)) (sCons (sC (.int 1)) (sCons (sC (.int 1)) sNil))))) (sCons (sTup (sCons (sC (.int 0)) (sCons (sV 4) (sCons (sC (.int 1)) (sCons (sC (.int 1)) sNil))))) (sCons (sTup (sCons (sC (.int 0)) (sCons (sC (.int 0)) (sCons (sOp dAdd (sV 3) (sC (.int 1))) (sCons (sC (.int 1)) sNil))))) sNil))))))))
    (sSeq (sSetL [5] 5 (sCat (sV 5) (sOfL (sLst (sCons (sTup (sCons (sC (.int 0)) (sCons (sC (.int 0)) (sCons (sC (.int 1)) (sCons (sOp dAdd (sV 4) (sC (.int 1))) sNil))))) (sCons (sTup (sCons (sUn dNeg (sC (.int 1))) (sCons (sC (.int 0)) (sCons (sC (.int 1)) (sCons (sC (.int 1)) sNil))))) sNil))))))
    (sRet [5] (sOp dIx (sOfL (sCat (sV 5) (sOfL (sLst (sCons (sTup (sCons (sC (.int 0)) (sCons (sC (.int 0)) (sCons (sC (.int 0)) (sCons (sC (.int 1)) sNil))))) (sCons (sOfL (sLst (sCons (sC (.int 0)) (sCons (sC (.int 0)) (sCons (sC (.int 1)) (sCons (sC (.int 1)) sNil)))))) (sCons (sTup (sCons (sC (.bl false)) (sCons (sC (.int 0)) (sCons (sC (.int 1)) (sCons (sC (.int 1)) sNil))))) (sCons (sTup (sCons (sC (.int 0)) (sCons (sC (.int 0)) (sCons (sC (.str "1")) (sCons (sC (.int 1)) sNil))))) sNil)))))))) (sFn 3 f_L_drawn (sCons (sV 0) (sCons (sV 1) (sCons (sC (.int 12)) sNil)))))))))
def f_L_badanchor : List D → Oe D := runD 6 b_L_badanchor
/-- has_anchor(setting, candidate): slots 0 setting, 1 candidate, 2 left, 3 top, 4 width, 5 height, 6 wide, 7 high -/
def b_has_anchor : Ss :=
  (sSeq (sIf [] (bOr (bNot (toB (sUn (dTy tyTuple) (sV 1)))) (toB (sOp dNe (sCall dLen (sCons (sV 1) sNil)) (sC (.int 4))))) (sRet [] (sC (.bl false))) sNext)
    (sSeq (sUnp [] [2, 3, 4, 5] (sV 1))
    (sSeq (sUnp [] [6, 7] (sOp dIx (sV 0) (sC (.int 0))))
    (sSeq (sIf [] (bOr (bNot (toB (sFn 3 f_is_int (sCons (sV 2) (sCons (sC (.int 0)) (sCons (sV 6) sNil)))))) (bNot (toB (sFn 3 f_is_int (sCons (sV 3) (sCons (sC (.int 0)) (sCons (sV 7) sNil))))))) (sRet [] (sC (.bl false))) sNext)
    (sRet [] (sAnd (sFn 3 f_is_int (sCons (sV 4) (sCons (sC (.int 1)) (sCons (sOp dSub (sV 6) (sV 2)) sNil)))) (sFn 3 f_is_int (sCons (sV 5) (sCons (sC (.int 1)) (sCons (sOp dSub (sV 7) (sV 3)) sNil))))))))))
def f_has_anchor : List D → Oe D := runD 8 b_has_anchor
/-- check_anchor(setting, value): slots 0 setting, 1 value -/
def b_check_anchor : Ss :=
  (sIf [] (bNot (toB (sFn 2 f_has_anchor (sCons (sV 0) (sCons (sV 1) sNil))))) (sRaise "InvalidAnchor") sNext)
def f_check_anchor : List D → Oe D := runD 2 b_check_anchor
/-- check_both(setting, anchor): slots 0 setting, 1 anchor -/
def b_check_both : Ss :=
  (sSeq (sDrop [] (sFn 1 f_check_setting (sCons (sV 0) sNil)))
    (sDrop [] (sFn 2 f_check_anchor (sCons (sV 0) (sCons (sV 1) sNil)))))
def f_check_both : List D → Oe D := runD 2 b_check_both
/-- middle(setting, anchor): slots 0 setting, 1 anchor -/
def b_middle : Ss :=
  (sSeq (sDrop [] (sFn 2 f_check_both (sCons (sV 0) (sCons (sV 1) sNil))))
    (sRet [] (sFn 1 f_find_middle (sCons (sV 1) sNil))))
def f_middle : List D → Oe D := runD 2 b_middle
/-- _law_anchors(_law_setting_here, _law_size): slots 0 _law_setting_here, 1 _law_size, 2 _law_found, 3 _law_left, 4 _law_top -/
def b_L_anchors : Ss :=
  (sSeq (sSetL [] 2 (sLst sNil))
    (sSeq (sFor [] (sRange (sCons (sOp dAdd (sOp dSub (sOp dIx (sOp dIx (sV 0) (sC (.int 0))) (sC (.int 0))) (sOp dIx (sV 1) (sC (.int 0)))) (sC (.int 1))) sNil)) (tgN 3)
    (sAft [3] (sSetL [2] 2 (sCat (sV 2) (sOfL (sLc (sRange (sCons (sOp dAdd (sOp dSub (sOp dIx (sOp dIx (sV 0) (sC (.int 0))) (sC (.int 1))) (sOp dIx (sV 1) (sC (.int 1)))) (sC (.int 1))) sNil)) [4] (tgRN 4) bTrue (sTup (sCons (sV 3) (sCons (sV 4) (sCons (sOp dIx (sV 1) (sC (.int 0))) (sCons (sOp dIx (sV 1) (sC (.int 1))) sNil)))))))))))
    (sRet [2] (sV 2))))
def f_L_anchors : List D → Oe D := runD 5 b_L_anchors
/-- arrow(setting, anchor): slots 0 setting, 1 anchor -/
def b_arrow : Ss :=
  (sSeq (sDrop [] (sFn 2 f_check_both (sCons (sV 0) (sCons (sV 1) sNil))))
    (sRet [] (sFn 2 f_find_arrow (sCons (sV 0) (sCons (sV 1) sNil)))))
def f_arrow : List D → Oe D := runD 2 b_arrow
/-- off_by(setting, anchor): slots 0 setting, 1 anchor -/
def b_off_by : Ss :=
  (sSeq (sDrop [] (sFn 2 f_check_both (sCons (sV 0) (sCons (sV 1) sNil))))
    (sRet [] (sFn 2 f_find_off (sCons (sV 0) (sCons (sV 1) sNil)))))
def f_off_by : List D → Oe D := runD 2 b_off_by
theorem ne_InvalidSetting_InvalidAnchor : (("InvalidSetting" : Str) = "InvalidAnchor") = False := eq_false (by decide)
theorem ne_InvalidSetting_InvalidSize : (("InvalidSetting" : Str) = "InvalidSize") = False := eq_false (by decide)
theorem ne_InvalidAnchor_InvalidSetting : (("InvalidAnchor" : Str) = "InvalidSetting") = False := eq_false (by decide)
theorem ne_InvalidAnchor_InvalidSize : (("InvalidAnchor" : Str) = "InvalidSize") = False := eq_false (by decide)
theorem ne_InvalidSize_InvalidSetting : (("InvalidSize" : Str) = "InvalidSetting") = False := eq_false (by decide)
theorem ne_InvalidSize_InvalidAnchor : (("InvalidSize" : Str) = "InvalidAnchor") = False := eq_false (by decide)
def exs : List Str := ["InvalidSetting", "InvalidAnchor", "InvalidSize"]
def r_L_error (c : Str) : Option D := if c = "InvalidSetting" then some (.int 0) else if c = "InvalidAnchor" then some (.int 1) else if c = "InvalidSize" then some (.int 2) else none
def h_L_error (c : Str) (a : Addr) : Ss := (sRet [] (sLM dIndex (sOfL (sLst (sCons (sIsE 3 a (decide (c = "InvalidSetting"))) (sCons (sIsE 3 a (decide (c = "InvalidAnchor"))) (sCons (sIsE 3 a (decide (c = "InvalidSize"))) sNil))))) (sC (.bl true))))
theorem r_L_error_mem {c : Str} {d : D} (h : r_L_error c = some d) : c ∈ exs := by
  unfold r_L_error at h
  by_cases e0 : c = "InvalidSetting"
  · subst e0; decide
  rw [if_neg e0] at h
  by_cases e1 : c = "InvalidAnchor"
  · subst e1; decide
  rw [if_neg e1] at h
  by_cases e2 : c = "InvalidSize"
  · subst e2; decide
  rw [if_neg e2] at h
  cases h
theorem hr_L_error : ∀ (c : Str) (d : D), r_L_error c = some d → ∀ (a : Addr) (ρ : Sig), ρ.length = 4 → h_L_error c a (ρ.set 3 (.dat (.exn a))) = some (.rt d) := by
  intro c d h a ρ hl
  match ρ, hl with
  | [x0, x1, x2, x3], _ =>
    unfold r_L_error at h
    by_cases e0 : c = "InvalidSetting"
    · subst e0; cases h; simp [h_L_error, e_expoC, e_frzC, dIndex, okN_bl, eqN_bl, lf_bl1, lf_bl2, lf_bl3, lf_bl4, ne_InvalidSetting_InvalidAnchor, ne_InvalidSetting_InvalidSize] <;> rfl
    rw [if_neg e0] at h
    by_cases e1 : c = "InvalidAnchor"
    · subst e1; cases h; simp [h_L_error, e_expoC, e_frzC, dIndex, okN_bl, eqN_bl, lf_bl1, lf_bl2, lf_bl3, lf_bl4, ne_InvalidAnchor_InvalidSetting, ne_InvalidAnchor_InvalidSize] <;> rfl
    rw [if_neg e1] at h
    by_cases e2 : c = "InvalidSize"
    · subst e2; cases h; simp [h_L_error, e_expoC, e_frzC, dIndex, okN_bl, eqN_bl, lf_bl1, lf_bl2, lf_bl3, lf_bl4, ne_InvalidSize_InvalidSetting, ne_InvalidSize_InvalidAnchor] <;> rfl
    rw [if_neg e2] at h
    cases h
/-- _law_error(_law_way, _law_one, _law_two): slots 0 _law_way, 1 _law_one, 2 _law_two, 3 e -/
def b_L_error : Ss :=
  (sSeq (sTry 4 (sDrop [] (sCallV [("arrow", 2, f_arrow), ("middle", 2, f_middle), ("off_by", 2, f_off_by), ("count_straight", 2, f_count_straight)] (sOp dIx (sOfL (sLst (sCons (sC (.fn "arrow")) (sCons (sC (.fn "middle")) (sCons (sC (.fn "off_by")) (sCons (sC (.fn "count_straight")) sNil)))))) (sV 0)) (sCons (sV 1) (sCons (sV 2) sNil)))) r_L_error)
    (sRet [] (sC .non)))
def f_L_error : List D → Oe D := runD 4 b_L_error
/-- law(_law_script): slots 0 _law_script, 1 _law_setting_here, 2 _law_k, 3 _law_anchor_here, 4 _law_due, 5 _law_off, 6 _law_aim, 7 _law_size, 8 _law_straight, 9 _law_odd, 10 _law_bad, 11 _law_wrong, 12 _law_told, 13 _law_one, 14 _law_way -/
def b_law : Ss :=
  (sSeq (sSet [] 1 (sFn 2 f_L_setting (sCons (sV 0) (sCons (sC (.int 10)) sNil))))
    (sSeq (sFor [] (sRange (sCons (sC (.int 5)) sNil)) (tgN 2)
    (sAft [2, 4, 5, 6] (sSeq (sSet [] 3 (sFn 3 f_L_anchor (sCons (sV 0) (sCons (sOp dAdd (sC (.int 40)) (sOp dMul (sC (.int 6)) (sV 2))) (sCons (sV 1) sNil)))))
    (sSeq (sUnp [] [4, 5] (sFn 2 f_L_arrow (sCons (sV 1) (sCons (sV 3) sNil))))
    (sSeq (sSet [] 6 (sTup (sCons (sOp dAdd (sOp dIx (sV 3) (sC (.int 0))) (sOp dDiv (sOp dSub (sOp dIx (sV 3) (sC (.int 2))) (sC (.int 1))) (sC (.int 2)))) (sCons (sOp dAdd (sOp dIx (sV 3) (sC (.int 1))) (sOp dDiv (sOp dSub (sOp dIx (sV 3) (sC (.int 3))) (sC (.int 1))) (sC (.int 2)))) sNil))))
    (sSeq (sIf [] (toB (sOp dNe (sFn 2 f_middle (sCons (sV 1) (sCons (sV 3) sNil))) (sV 6))) (sRet [] (sC (.bl false))) sNext)
    (sIf [] (bOr (toB (sOp dNe (sFn 2 f_arrow (sCons (sV 1) (sCons (sV 3) sNil))) (sV 4))) (toB (sOp dNe (sFn 2 f_off_by (sCons (sV 1) (sCons (sV 3) sNil))) (sV 5)))) (sRet [] (sC (.bl false))) sNext)))))))
    (sSeq (sSet [] 7 (sCutT (sV 3) (sPart (sC (.int 2))) sNoPart))
    (sSeq (sSetL [] 8 (sLc (sSeqItems (sFn 2 f_L_anchors (sCons (sV 1) (sCons (sV 7) sNil)))) [13] (tgRN 13) (toB (sOp dEq (sOp dIx (sFn 2 f_L_arrow (sCons (sV 1) (sCons (sV 13) sNil))) (sC (.int 1))) (sC (.int 0)))) (sV 13)))
    (sSeq (sIf [8] (toB (sOp dNe (sFn 2 f_count_straight (sCons (sV 1) (sCons (sV 7) sNil))) (sCall dLen (sCons (sV 8) sNil)))) (sRet [] (sC (.bl false))) sNext)
    (sSeq (sPar [] [9, 10] [.s (sFn 2 f_L_badsetting (sCons (sV 0) (sCons (sC (.int 1)) sNil))), .s (sFn 3 f_L_badanchor (sCons (sV 0) (sCons (sC (.int 2)) (sCons (sV 1) sNil))))])
    (sSeq (sSetL [] 11 (sLst (sCons (sC .non) (sCons (sTup (sCons (sC (.int 0)) (sCons (sC (.int 1)) sNil))) (sCons (sTup (sCons (sC (.int 1)) (sCons (sC (.int 0)) sNil))) (sCons (sTup (sCons (sOp dAdd (sOp dIx (sOp dIx (sV 1) (sC (.int 0))) (sC (.int 0))) (sC (.int 1))) (sCons (sC (.int 1)) sNil))) (sCons (sTup (sCons (sC (.int 1)) (sCons (sOp dAdd (sOp dIx (sOp dIx (sV 1) (sC (.int 0))) (sC (.int 1))) (sC (.int 1))) sNil))) (sCons (sOfL (sLst (sCons (sC (.int 1)) (sCons (sC (.int 1)) sNil)))) sNil))))))))
    (sSeq (sSetL [11] 11 (sCat (sV 11) (sOfL (sLst (sCons (sTup (sCons (sC (.bl true)) (sCons (sC (.int 1)) sNil))) (sCons (sTup (sCons (sC (.int 1)) sNil)) sNil))))))
    (sSeq (sSet [11] 11 (sOp dIx (sV 11) (sFn 3 f_L_drawn (sCons (sV 0) (sCons (sC (.int 3)) (sCons (sC (.int 8)) sNil))))))
    (sSeq (sSetL [] 12 (sCat (sOfL (sLc (sRange (sCons (sC (.int 4)) sNil)) [14] (tgRN 14) bTrue (sFn 3 f_L_error (sCons (sV 14) (sCons (sV 9) (sCons (sV 10) sNil)))))) (sOfL (sLc (sRange (sCons (sC (.int 3)) sNil)) [14] (tgRN 14) bTrue (sFn 3 f_L_error (sCons (sV 14) (sCons (sV 1) (sCons (sV 10) sNil))))))))
    (sRet [11, 12] (sOp dEq (sOfL (sCat (sV 12) (sOfL (sLst (sCons (sFn 3 f_L_error (sCons (sC (.int 3)) (sCons (sV 1) (sCons (sV 11) sNil)))) sNil))))) (sOfL (sCat (sOfL (sCat (sOfL (sRepL (sOfL (sLst (sCons (sC (.int 0)) sNil))) (sC (.int 4)))) (sOfL (sRepL (sOfL (sLst (sCons (sC (.int 1)) sNil))) (sC (.int 3)))))) (sOfL (sLst (sCons (sC (.int 2)) sNil)))))))))))))))))
def f_law : List D → Oe D := runD 15 b_law
end Pk
namespace Pk
open PySem L2 Dl
def top (i : Nat) : Stmt := PySem.Challenge.pw_popupsides_k52_arrows.main.body.getD i (.Pass ⟨0, 0, 0, 0⟩)
structure Txt (K : PySem.W.Frag) (mg : Str → Option Value) : Prop where
  b_abs : mg "abs" = none
  b_all : mg "all" = none
  b_bool : mg "bool" = none
  b_int : mg "int" = none
  b_isinstance : mg "isinstance" = none
  b_len : mg "len" = none
  b_list : mg "list" = none
  b_max : mg "max" = none
  b_min : mg "min" = none
  b_range : mg "range" = none
  b_set : mg "set" = none
  b_sorted : mg "sorted" = none
  b_str : mg "str" = none
  b_tuple : mg "tuple" = none
  c_BOTTOM : GlD K mg "BOTTOM" (.str "bottom")
  c_LEFT : GlD K mg "LEFT" (.str "left")
  c_MAX_GAP : GlD K mg "MAX_GAP" (.int 5)
  c_MAX_SIZE : GlD K mg "MAX_SIZE" (.int 30)
  c_OVER : GlD K mg "OVER" (.str "over")
  c_RIGHT : GlD K mg "RIGHT" (.str "right")
  c_SIDES : GlD K mg "SIDES" (.tup [(.str "top"), (.str "bottom"), (.str "left"), (.str "right")])
  c_TOP : GlD K mg "TOP" (.str "top")
  x_InvalidAnchor : ExcD K mg "InvalidAnchor"
  x_InvalidSetting : ExcD K mg "InvalidSetting"
  x_InvalidSize : ExcD K mg "InvalidSize"
  e_is : ∀ c, c ∈ exs → ∀ x, x ∈ exs → IsE K mg c x (decide (c = x))
  e_c : ∀ c, c ∈ exs → Caught K mg c "PopupError"
  e_P : ∃ P : Addr, mg "PopupError" = some (.ref P)
section
variable {P : Program} {w : World} {K : PySem.W.Frag} {mg : Str → Option Value} {base : Heap}
abbrev s_L_drawn : Stmt := top 44
theorem sc_L_drawn : FnScope ["_law_script", "_law_k", "_law_many", "_law_cell", "_law_turn", "_law_rest"] ["_law_script", "_law_k", "_law_many"] (defScope s_L_drawn) := ⟨rfl, rfl, rfl, by decide +kernel, rfl, by decide +kernel, by decide +kernel⟩
theorem w_L_drawn {fa : Addr} {fd : FuncData} (T : Txt K mg) (Fu : Fun K "_law_drawn" "_law_drawn" s_L_drawn fa fd) (hm : mg "_law_drawn" = some (.ref fa)) (hb : Binds K fd ["_law_script", "_law_k", "_law_many"] []) : FnD P w K mg base 2 "_law_drawn" 3 f_L_drawn := by
  refine FnD.mk' (x := "_law_drawn") (N := ["_law_script", "_law_k", "_law_many", "_law_cell", "_law_turn", "_law_rest"]) (ps := ["_law_script", "_law_k", "_law_many"]) (k := 1) Fu sc_L_drawn hm hb fun cdv A outer s H E hr => ?_
  have nd : (["_law_script", "_law_k", "_law_many", "_law_cell", "_law_turn", "_law_rest"] : List Str).Nodup := sc_L_drawn.nd
  have tk := takes_of (X := cxOf (L2.CX P w) P w K mg base ["_law_script", "_law_k", "_law_many", "_law_cell", "_law_turn", "_law_rest"] "_law_drawn" (defScope s_L_drawn) fa cdv A outer s H E) rfl rfl rfl rfl
  have po := passes_of (X := cxOf (L2.CX P w) P w K mg base ["_law_script", "_law_k", "_law_many", "_law_cell", "_law_turn", "_law_rest"] "_law_drawn" (defScope s_L_drawn) fa cdv A outer s H E) rfl
  unfold b_L_drawn
  exact (ss_cons (s_set (i := 3) [] nd (d_op op_mul o_mul d_int (d_var 1)))
    (ss_cons (s_if [] (t_cmp (op_neD hr.units) o_ne (d_var 0) (d_ofL (l_lst da_nil))) (ss_cons (s_set (i := 3) [] nd (d_ix ix_B o_ix (d_var 0) (d_op op_mod o_mod (d_var 1) (d_callB cr_len c_len T.b_len (by decide +kernel) (da_cons (d_var 0) da_nil)))))
    (ss_cons (s_set (i := 4) [] nd (d_op op_fdivW o_div (d_var 1) (d_callB cr_len c_len T.b_len (by decide +kernel) (da_cons (d_var 0) da_nil))))
    (ss_cons (s_if [] (t_w (w_and (t_cmp op_ge o_ge (d_var 3) (d_op op_pow o_pow d_int d_int)) (w_and1 (t_cmp op_lt o_lt (d_var 4) d_int)))) (ss_cons (s_set (i := 5) [] nd (d_op op_fdivW o_div (d_var 3) (d_op op_pow o_pow d_int d_int)))
    (ss_cons (s_while [] 100000 po (t_w (w_and (t_cmp op_gt o_gt (d_var 5) d_int) (w_and1 (t_cmp op_gt o_gt (d_var 4) d_int)))) (ss_cons (s_set (i := 5) [] nd (d_op op_fdivW o_div (d_var 5) d_int))
    (ss_one (s_set (i := 4) [] nd (d_op op_sub o_sub (d_var 4) d_int)))))
    (ss_one (s_if [] (t_cmp op_gt o_gt (d_var 5) d_int) (ss_one (s_ret [] (d_op op_mod o_mod (d_op op_mod o_mod (d_var 5) d_int) (d_var 2)))) ss_nil)))) ss_nil)
    (ss_one (s_set (i := 3) [] nd (d_op op_addD o_add (d_var 3) (d_op op_mul o_mul d_int (d_op op_fdivW o_div (d_var 1) (d_callB cr_len c_len T.b_len (by decide +kernel) (da_cons (d_var 0) da_nil)))))))))) ss_nil)
    (ss_cons (s_set (i := 3) [] nd (d_op op_mod o_mod (d_op op_addD o_add (d_op op_mul o_mul (d_op op_mod o_mod (d_var 3) d_int) d_int) (d_op op_mul o_mul d_int (d_op op_addD o_add (d_var 1) d_int))) d_int))
    (ss_cons (s_set (i := 3) [] nd (d_op op_mod o_mod (d_op op_addD o_add (d_op op_mul o_mul (d_var 3) (d_var 3)) (d_op op_fdivW o_div (d_var 3) d_int)) d_int))
    (ss_one (s_ret [] (d_op op_mod o_mod (d_op op_fdivW o_div (d_op op_mod o_mod (d_op op_addD o_add (d_op op_mul o_mul (d_var 3) (d_var 3)) (d_op op_fdivW o_div (d_var 3) d_int)) d_int) d_int) (d_var 2))))))))
abbrev s_L_setting : Stmt := top 45
theorem sc_L_setting : FnScope ["_law_script", "_law_at", "_law_wide", "_law_high", "_law_box", "_law_some", "_law_found", "_law_k", "_law_side_here"] ["_law_script", "_law_at"] (defScope s_L_setting) := ⟨rfl, rfl, rfl, by decide +kernel, rfl, by decide +kernel, by decide +kernel⟩
theorem w_L_setting {fa : Addr} {fd : FuncData} (T : Txt K mg) (Fu : Fun K "_law_setting" "_law_setting" s_L_setting fa fd) (hm : mg "_law_setting" = some (.ref fa)) (hb : Binds K fd ["_law_script", "_law_at"] []) (G_L_drawn : FnD P w K mg base 2 "_law_drawn" 3 f_L_drawn) : FnD P w K mg base 3 "_law_setting" 2 f_L_setting := by
  refine FnD.mk' (x := "_law_setting") (N := ["_law_script", "_law_at", "_law_wide", "_law_high", "_law_box", "_law_some", "_law_found", "_law_k", "_law_side_here"]) (ps := ["_law_script", "_law_at"]) (k := 2) Fu sc_L_setting hm hb fun cdv A outer s H E hr => ?_
  have nd : (["_law_script", "_law_at", "_law_wide", "_law_high", "_law_box", "_law_some", "_law_found", "_law_k", "_law_side_here"] : List Str).Nodup := sc_L_setting.nd
  have tk := takes_of (X := cxOf (L2.CX P w) P w K mg base ["_law_script", "_law_at", "_law_wide", "_law_high", "_law_box", "_law_some", "_law_found", "_law_k", "_law_side_here"] "_law_setting" (defScope s_L_setting) fa cdv A outer s H E) rfl rfl rfl rfl
  have po := passes_of (X := cxOf (L2.CX P w) P w K mg base ["_law_script", "_law_at", "_law_wide", "_law_high", "_law_box", "_law_some", "_law_found", "_law_k", "_law_side_here"] "_law_setting" (defScope s_L_setting) fa cdv A outer s H E) rfl
  unfold b_L_setting
  exact (ss_cons (s_par2 (i := 2) (j := 3) [] rfl nd (dm_s (d_op op_addD o_add d_int (d_call G_L_drawn (hr.mono (by decide)) tk (da_cons (d_var 0) (da_cons (d_var 1) (da_cons d_int da_nil))))) (dm_s (d_op op_addD o_add d_int (d_call G_L_drawn (hr.mono (by decide)) tk (da_cons (d_var 0) (da_cons (d_op op_addD o_add (d_var 1) d_int) (da_cons d_int da_nil))))) dm_nil)))
    (ss_cons (s_set (i := 4) [] nd (d_tup (da_cons (d_op op_addD o_add d_int (d_call G_L_drawn (hr.mono (by decide)) tk (da_cons (d_var 0) (da_cons (d_op op_addD o_add (d_var 1) d_int) (da_cons (d_callB (call_min2 rfl) c_min2 T.b_min (by decide +kernel) (da_cons (d_var 2) (da_cons d_int da_nil))) da_nil))))) (da_cons (d_op op_addD o_add d_int (d_call G_L_drawn (hr.mono (by decide)) tk (da_cons (d_var 0) (da_cons (d_op op_addD o_add (d_var 1) d_int) (da_cons (d_callB (call_min2 rfl) c_min2 T.b_min (by decide +kernel) (da_cons (d_var 3) (da_cons d_int da_nil))) da_nil))))) da_nil))))
    (ss_cons (s_setL (i := 5) [] nd (l_lst (da_cons d_str (da_cons d_str (da_cons d_str (da_cons d_str da_nil))))))
    (ss_cons (s_setL (i := 6) [] nd (l_lst da_nil))
    (ss_cons (s_for [] po rfl (i_range1 T.b_range (da_cons (d_op op_addD o_add d_int (d_call G_L_drawn (hr.mono (by decide)) tk (da_cons (d_var 0) (da_cons (d_op op_addD o_add (d_var 1) d_int) (da_cons d_int da_nil))))) da_nil) (h1 := len_cons1)) (pg_name (i := 7) nd rfl (Or.inl rfl)) (gok_name 7)
    (ss_aft [7] (ss_cons (s_app (i := 6) [5] (d_ix ix_B o_ix (d_var 5) (d_call G_L_drawn (hr.mono (by decide)) tk (da_cons (d_var 0) (da_cons (d_op op_addD o_add (d_op op_addD o_add (d_var 1) d_int) (d_var 7)) (da_cons (d_callB cr_len c_len T.b_len (by decide +kernel) (da_cons (d_var 5) da_nil)) da_nil))))))
    (ss_one (s_setLc (i := 5) [5, 6] rfl nd (i_seq (d_var 5)) (blkOk_by (own := [("_law_side_here", 8)]) rfl) (gokR_name (by decide)) (fun _ _ _ _ _ => (pg_name (i := 8) nd rfl (Or.inl rfl))) (fun _ _ _ _ _ => (ts_one (t_cmp (op_neD hr.units) o_ne (d_var 8) (d_ix ix_B o_ix (d_var 6) (d_un un_neg o_neg d_int))))) (fun _ _ _ _ _ => (d_var 8)))))))
    (ss_one (s_ret [6] (d_tup (da_cons (d_tup (da_cons (d_var 2) (da_cons (d_var 3) da_nil))) (da_cons (d_var 4) (da_cons (d_call G_L_drawn (hr.mono (by decide)) tk (da_cons (d_var 0) (da_cons (d_op op_addD o_add (d_var 1) d_int) (da_cons d_int da_nil)))) (da_cons (d_callTy call_tuple_of c_tupleOf T.b_tuple (by decide +kernel) (da_cons (d_var 6) da_nil)) da_nil))))))))))))
abbrev s_L_anchor : Stmt := top 46
theorem sc_L_anchor : FnScope ["_law_script", "_law_at", "_law_setting_here", "_law_wide", "_law_high", "_law_left", "_law_top", "_law_width"] ["_law_script", "_law_at", "_law_setting_here"] (defScope s_L_anchor) := ⟨rfl, rfl, rfl, by decide +kernel, rfl, by decide +kernel, by decide +kernel⟩
theorem w_L_anchor {fa : Addr} {fd : FuncData} (T : Txt K mg) (Fu : Fun K "_law_anchor" "_law_anchor" s_L_anchor fa fd) (hm : mg "_law_anchor" = some (.ref fa)) (hb : Binds K fd ["_law_script", "_law_at", "_law_setting_here"] []) (G_L_drawn : FnD P w K mg base 2 "_law_drawn" 3 f_L_drawn) : FnD P w K mg base 3 "_law_anchor" 3 f_L_anchor := by
  refine FnD.mk' (x := "_law_anchor") (N := ["_law_script", "_law_at", "_law_setting_here", "_law_wide", "_law_high", "_law_left", "_law_top", "_law_width"]) (ps := ["_law_script", "_law_at", "_law_setting_here"]) (k := 2) Fu sc_L_anchor hm hb fun cdv A outer s H E hr => ?_
  have nd : (["_law_script", "_law_at", "_law_setting_here", "_law_wide", "_law_high", "_law_left", "_law_top", "_law_width"] : List Str).Nodup := sc_L_anchor.nd
  have tk := takes_of (X := cxOf (L2.CX P w) P w K mg base ["_law_script", "_law_at", "_law_setting_here", "_law_wide", "_law_high", "_law_left", "_law_top", "_law_width"] "_law_anchor" (defScope s_L_anchor) fa cdv A outer s H E) rfl rfl rfl rfl
  have po := passes_of (X := cxOf (L2.CX P w) P w K mg base ["_law_script", "_law_at", "_law_setting_here", "_law_wide", "_law_high", "_law_left", "_law_top", "_law_width"] "_law_anchor" (defScope s_L_anchor) fa cdv A outer s H E) rfl
  unfold b_L_anchor
  exact (ss_cons (s_unp [] rfl (g_cons (i := 3) nd (g_cons (i := 4) nd g_nil)) (d_ix ix_B o_ix (d_var 2) d_int))
    (ss_cons (s_par2 (i := 5) (j := 6) [] rfl nd (dm_s (d_call G_L_drawn (hr.mono (by decide)) tk (da_cons (d_var 0) (da_cons (d_var 1) (da_cons (d_var 3) da_nil)))) (dm_s (d_call G_L_drawn (hr.mono (by decide)) tk (da_cons (d_var 0) (da_cons (d_op op_addD o_add (d_var 1) d_int) (da_cons (d_var 4) da_nil)))) dm_nil)))
    (ss_cons (s_set (i := 7) [] nd (d_op op_addD o_add d_int (d_callB (call_min2 rfl) c_min2 T.b_min (by decide +kernel) (da_cons (d_call G_L_drawn (hr.mono (by decide)) tk (da_cons (d_var 0) (da_cons (d_op op_addD o_add (d_var 1) d_int) (da_cons (d_op op_sub o_sub (d_var 3) (d_var 5)) da_nil)))) (da_cons (d_call G_L_drawn (hr.mono (by decide)) tk (da_cons (d_var 0) (da_cons (d_op op_addD o_add (d_var 1) d_int) (da_cons d_int da_nil)))) da_nil)))))
    (ss_one (s_ret [] (d_tup (da_cons (d_var 5) (da_cons (d_var 6) (da_cons (d_var 7) (da_cons (d_op op_addD o_add d_int (d_callB (call_min2 rfl) c_min2 T.b_min (by decide +kernel) (da_cons (d_call G_L_drawn (hr.mono (by decide)) tk (da_cons (d_var 0) (da_cons (d_op op_addD o_add (d_var 1) d_int) (da_cons (d_op op_sub o_sub (d_var 4) (d_var 6)) da_nil)))) (da_cons (d_call G_L_drawn (hr.mono (by decide)) tk (da_cons (d_var 0) (da_cons (d_op op_addD o_add (d_var 1) d_int) (da_cons d_int da_nil)))) da_nil)))) da_nil))))))))))
abbrev s_L_within : Stmt := top 49
theorem sc_L_within : FnScope ["_law_spot_here", "_law_area"] ["_law_spot_here", "_law_area"] (defScope s_L_within) := ⟨rfl, rfl, rfl, by decide +kernel, rfl, by decide +kernel, by decide +kernel⟩
theorem w_L_within {fa : Addr} {fd : FuncData} (T : Txt K mg) (Fu : Fun K "_law_within" "_law_within" s_L_within fa fd) (hm : mg "_law_within" = some (.ref fa)) (hb : Binds K fd ["_law_spot_here", "_law_area"] []) : FnD P w K mg base 2 "_law_within" 2 f_L_within := by
  refine FnD.mk' (x := "_law_within") (N := ["_law_spot_here", "_law_area"]) (ps := ["_law_spot_here", "_law_area"]) (k := 1) Fu sc_L_within hm hb fun cdv A outer s H E hr => ?_
  have nd : (["_law_spot_here", "_law_area"] : List Str).Nodup := sc_L_within.nd
  have tk := takes_of (X := cxOf (L2.CX P w) P w K mg base ["_law_spot_here", "_law_area"] "_law_within" (defScope s_L_within) fa cdv A outer s H E) rfl rfl rfl rfl
  have po := passes_of (X := cxOf (L2.CX P w) P w K mg base ["_law_spot_here", "_law_area"] "_law_within" (defScope s_L_within) fa cdv A outer s H E) rfl
  unfold b_L_within
  exact (ss_cons (s_if [] (t_w (w_or (t_cmp op_lt o_lt (d_ix ix_B o_ix (d_var 0) d_int) (d_ix ix_B o_ix (d_var 1) d_int)) (w_or1 (t_cmp op_lt o_lt (d_ix ix_B o_ix (d_var 0) d_int) (d_ix ix_B o_ix (d_var 1) d_int))))) (ss_one (s_ret [] d_bl)) ss_nil)
    (ss_one (s_ret [] (d_and (d_cmp op_le o_le (d_op op_addD o_add (d_ix ix_B o_ix (d_var 0) d_int) (d_ix ix_B o_ix (d_var 0) d_int)) (d_op op_addD o_add (d_ix ix_B o_ix (d_var 1) d_int) (d_ix ix_B o_ix (d_var 1) d_int))) (d_one (d_cmp op_le o_le (d_op op_addD o_add (d_ix ix_B o_ix (d_var 0) d_int) (d_ix ix_B o_ix (d_var 0) d_int)) (d_op op_addD o_add (d_ix ix_B o_ix (d_var 1) d_int) (d_ix ix_B o_ix (d_var 1) d_int))))))))
abbrev s_L_moved : Stmt := top 47
theorem sc_L_moved : FnScope ["_law_start", "_law_size", "_law_low", "_law_length"] ["_law_start", "_law_size", "_law_low", "_law_length"] (defScope s_L_moved) := ⟨rfl, rfl, rfl, by decide +kernel, rfl, by decide +kernel, by decide +kernel⟩
theorem w_L_moved {fa : Addr} {fd : FuncData} (T : Txt K mg) (Fu : Fun K "_law_moved" "_law_moved" s_L_moved fa fd) (hm : mg "_law_moved" = some (.ref fa)) (hb : Binds K fd ["_law_start", "_law_size", "_law_low", "_law_length"] []) : FnD P w K mg base 2 "_law_moved" 4 f_L_moved := by
  refine FnD.mk' (x := "_law_moved") (N := ["_law_start", "_law_size", "_law_low", "_law_length"]) (ps := ["_law_start", "_law_size", "_law_low", "_law_length"]) (k := 1) Fu sc_L_moved hm hb fun cdv A outer s H E hr => ?_
  have nd : (["_law_start", "_law_size", "_law_low", "_law_length"] : List Str).Nodup := sc_L_moved.nd
  have tk := takes_of (X := cxOf (L2.CX P w) P w K mg base ["_law_start", "_law_size", "_law_low", "_law_length"] "_law_moved" (defScope s_L_moved) fa cdv A outer s H E) rfl rfl rfl rfl
  have po := passes_of (X := cxOf (L2.CX P w) P w K mg base ["_law_start", "_law_size", "_law_low", "_law_length"] "_law_moved" (defScope s_L_moved) fa cdv A outer s H E) rfl
  unfold b_L_moved
  exact (ss_one (s_ret [] (d_callB (call_max2 rfl) c_max2 T.b_max (by decide +kernel) (da_cons (d_var 2) (da_cons (d_callB (call_min2 rfl) c_min2 T.b_min (by decide +kernel) (da_cons (d_var 0) (da_cons (d_op op_sub o_sub (d_op op_addD o_add (d_var 2) (d_var 3)) (d_var 1)) da_nil))) da_nil)))))
abbrev s_L_spot : Stmt := top 48
theorem sc_L_spot : FnScope ["_law_setting_here", "_law_anchor_here", "_law_side_here", "_law_area", "_law_screen", "_law_box", "_law_gap", "_law_sides", "_law_left", "_law_top", "_law_width", "_law_height", "_law_x", "_law_y"] ["_law_setting_here", "_law_anchor_here", "_law_side_here", "_law_area"] (defScope s_L_spot) := ⟨rfl, rfl, rfl, by decide +kernel, rfl, by decide +kernel, by decide +kernel⟩
theorem w_L_spot {fa : Addr} {fd : FuncData} (T : Txt K mg) (Fu : Fun K "_law_spot" "_law_spot" s_L_spot fa fd) (hm : mg "_law_spot" = some (.ref fa)) (hb : Binds K fd ["_law_setting_here", "_law_anchor_here", "_law_side_here", "_law_area"] []) (G_L_moved : FnD P w K mg base 2 "_law_moved" 4 f_L_moved) : FnD P w K mg base 3 "_law_spot" 4 f_L_spot := by
  refine FnD.mk' (x := "_law_spot") (N := ["_law_setting_here", "_law_anchor_here", "_law_side_here", "_law_area", "_law_screen", "_law_box", "_law_gap", "_law_sides", "_law_left", "_law_top", "_law_width", "_law_height", "_law_x", "_law_y"]) (ps := ["_law_setting_here", "_law_anchor_here", "_law_side_here", "_law_area"]) (k := 2) Fu sc_L_spot hm hb fun cdv A outer s H E hr => ?_
  have nd : (["_law_setting_here", "_law_anchor_here", "_law_side_here", "_law_area", "_law_screen", "_law_box", "_law_gap", "_law_sides", "_law_left", "_law_top", "_law_width", "_law_height", "_law_x", "_law_y"] : List Str).Nodup := sc_L_spot.nd
  have tk := takes_of (X := cxOf (L2.CX P w) P w K mg base ["_law_setting_here", "_law_anchor_here", "_law_side_here", "_law_area", "_law_screen", "_law_box", "_law_gap", "_law_sides", "_law_left", "_law_top", "_law_width", "_law_height", "_law_x", "_law_y"] "_law_spot" (defScope s_L_spot) fa cdv A outer s H E) rfl rfl rfl rfl
  have po := passes_of (X := cxOf (L2.CX P w) P w K mg base ["_law_setting_here", "_law_anchor_here", "_law_side_here", "_law_area", "_law_screen", "_law_box", "_law_gap", "_law_sides", "_law_left", "_law_top", "_law_width", "_law_height", "_law_x", "_law_y"] "_law_spot" (defScope s_L_spot) fa cdv A outer s H E) rfl
  unfold b_L_spot
  exact (ss_cons (s_unp [] rfl (g_cons (i := 4) nd (g_cons (i := 5) nd (g_cons (i := 6) nd (g_cons (i := 7) nd g_nil)))) (d_var 0))
    (ss_cons (s_unp [] rfl (g_cons (i := 8) nd (g_cons (i := 9) nd (g_cons (i := 10) nd (g_cons (i := 11) nd g_nil)))) (d_var 1))
    (ss_cons (s_set (i := 12) [] nd (d_call G_L_moved (hr.mono (by decide)) tk (da_cons (d_op op_addD o_add (d_var 8) (d_op op_fdivW o_div (d_op op_sub o_sub (d_var 10) (d_ix ix_B o_ix (d_var 5) d_int)) d_int)) (da_cons (d_ix ix_B o_ix (d_var 5) d_int) (da_cons (d_ix ix_B o_ix (d_var 3) d_int) (da_cons (d_ix ix_B o_ix (d_var 3) d_int) da_nil))))))
    (ss_cons (s_set (i := 13) [] nd (d_call G_L_moved (hr.mono (by decide)) tk (da_cons (d_op op_addD o_add (d_var 9) (d_op op_fdivW o_div (d_op op_sub o_sub (d_var 11) (d_ix ix_B o_ix (d_var 5) d_int)) d_int)) (da_cons (d_ix ix_B o_ix (d_var 5) d_int) (da_cons (d_ix ix_B o_ix (d_var 3) d_int) (da_cons (d_ix ix_B o_ix (d_var 3) d_int) da_nil))))))
    (ss_cons (s_if [] (t_cmp (op_inB (hu65 hr)) o_in (d_var 2) (d_tup (da_cons d_str (da_cons d_str da_nil)))) (ss_one (s_set (i := 13) [] nd (d_ifE (t_cmp (op_eqD hr.units) o_eq (d_var 2) d_str) (d_op op_sub o_sub (d_op op_sub o_sub (d_var 9) (d_var 6)) (d_ix ix_B o_ix (d_var 5) d_int)) (d_op op_addD o_add (d_op op_addD o_add (d_var 9) (d_var 11)) (d_var 6))))) ss_nil)
    (ss_cons (s_if [] (t_cmp (op_inB (hu65 hr)) o_in (d_var 2) (d_tup (da_cons d_str (da_cons d_str da_nil)))) (ss_one (s_set (i := 12) [] nd (d_ifE (t_cmp (op_eqD hr.units) o_eq (d_var 2) d_str) (d_op op_sub o_sub (d_op op_sub o_sub (d_var 8) (d_var 6)) (d_ix ix_B o_ix (d_var 5) d_int)) (d_op op_addD o_add (d_op op_addD o_add (d_var 8) (d_var 10)) (d_var 6))))) ss_nil)
    (ss_one (s_ret [] (d_tup (da_cons (d_var 12) (da_cons (d_var 13) (da_cons (d_ix ix_B o_ix (d_var 5) d_int) (da_cons (d_ix ix_B o_ix (d_var 5) d_int) da_nil)))))))))))))
abbrev s_L_side : Stmt := top 50
theorem sc_L_side : FnScope ["_law_setting_here", "_law_anchor_here", "_law_area", "_law_side_here"] ["_law_setting_here", "_law_anchor_here"] (defScope s_L_side) := ⟨rfl, rfl, rfl, by decide +kernel, rfl, by decide +kernel, by decide +kernel⟩
theorem w_L_side {fa : Addr} {fd : FuncData} (T : Txt K mg) (Fu : Fun K "_law_side" "_law_side" s_L_side fa fd) (hm : mg "_law_side" = some (.ref fa)) (hb : Binds K fd ["_law_setting_here", "_law_anchor_here"] []) (G_L_within : FnD P w K mg base 2 "_law_within" 2 f_L_within) (G_L_spot : FnD P w K mg base 3 "_law_spot" 4 f_L_spot) : FnD P w K mg base 4 "_law_side" 2 f_L_side := by
  refine FnD.mk' (x := "_law_side") (N := ["_law_setting_here", "_law_anchor_here", "_law_area", "_law_side_here"]) (ps := ["_law_setting_here", "_law_anchor_here"]) (k := 3) Fu sc_L_side hm hb fun cdv A outer s H E hr => ?_
  have nd : (["_law_setting_here", "_law_anchor_here", "_law_area", "_law_side_here"] : List Str).Nodup := sc_L_side.nd
  have tk := takes_of (X := cxOf (L2.CX P w) P w K mg base ["_law_setting_here", "_law_anchor_here", "_law_area", "_law_side_here"] "_law_side" (defScope s_L_side) fa cdv A outer s H E) rfl rfl rfl rfl
  have po := passes_of (X := cxOf (L2.CX P w) P w K mg base ["_law_setting_here", "_law_anchor_here", "_law_area", "_law_side_here"] "_law_side" (defScope s_L_side) fa cdv A outer s H E) rfl
  unfold b_L_side
  exact (ss_cons (s_set (i := 2) [] nd (d_tup (da_cons d_int (da_cons d_int (da_cons (d_ix ix_B o_ix (d_ix ix_B o_ix (d_var 0) d_int) d_int) (da_cons (d_ix ix_B o_ix (d_ix ix_B o_ix (d_var 0) d_int) d_int) da_nil))))))
    (ss_cons (s_for [] po rfl (i_seq (d_ix ix_B o_ix (d_var 0) d_int)) (pg_name (i := 3) nd rfl (Or.inl rfl)) (gok_name 3)
    (ss_aft [3] (ss_one (s_if [] (t_val (d_call G_L_within (hr.mono (by decide)) tk (da_cons (d_call G_L_spot (hr.mono (by decide)) tk (da_cons (d_var 0) (da_cons (d_var 1) (da_cons (d_var 3) (da_cons (d_var 2) da_nil))))) (da_cons (d_var 2) da_nil)))) (ss_one (s_ret [] (d_var 3))) ss_nil))))
    (ss_one (s_ret [] d_str))))
abbrev s_L_arrow : Stmt := top 55
theorem sc_L_arrow : FnScope ["_law_setting_here", "_law_anchor_here", "_law_side_here", "_law_left", "_law_top", "_law_width", "_law_height", "_law_x", "_law_y", "_law_places", "_law_best"] ["_law_setting_here", "_law_anchor_here"] (defScope s_L_arrow) := ⟨rfl, rfl, rfl, by decide +kernel, rfl, by decide +kernel, by decide +kernel⟩
theorem qn_eq : (("_law_arrow" : Str) ++ (".<locals>." : Str) ++ ("<lambda>" : Str)) = QN := by decide +kernel
theorem w_L_arrow {fa : Addr} {fd : FuncData} (T : Txt K mg) {cA PA : Addr} (hxA : mg "_law_arrow" = some (.ref fa)) (hTA : TabOf K fa cA PA) (TB : LamX.TabB base mg cA PA) (hcA : fd.code = .ref cA) (Fu : Fun K "_law_arrow" "_law_arrow" s_L_arrow fa fd) (hm : mg "_law_arrow" = some (.ref fa)) (hb : Binds K fd ["_law_setting_here", "_law_anchor_here"] []) (G_L_side : FnD P w K mg base 4 "_law_side" 2 f_L_side) (G_L_spot : FnD P w K mg base 3 "_law_spot" 4 f_L_spot) : FnD P w K mg base 5 "_law_arrow" 2 f_L_arrow := by
  refine FnD.mkC (x := "_law_arrow") (N := ["_law_setting_here", "_law_anchor_here", "_law_side_here", "_law_left", "_law_top", "_law_width", "_law_height", "_law_x", "_law_y", "_law_places", "_law_best"]) (ps := ["_law_setting_here", "_law_anchor_here"]) (k := 4) Fu sc_L_arrow hm hb fun cdv hcv A outer s H E hr => ?_
  have nd : (["_law_setting_here", "_law_anchor_here", "_law_side_here", "_law_left", "_law_top", "_law_width", "_law_height", "_law_x", "_law_y", "_law_places", "_law_best"] : List Str).Nodup := sc_L_arrow.nd
  have tk := takes_of (X := cxOf (L2.CX P w) P w K mg base ["_law_setting_here", "_law_anchor_here", "_law_side_here", "_law_left", "_law_top", "_law_width", "_law_height", "_law_x", "_law_y", "_law_places", "_law_best"] "_law_arrow" (defScope s_L_arrow) fa cdv A outer s H E) rfl rfl rfl rfl
  have po := passes_of (X := cxOf (L2.CX P w) P w K mg base ["_law_setting_here", "_law_anchor_here", "_law_side_here", "_law_left", "_law_top", "_law_width", "_law_height", "_law_x", "_law_y", "_law_places", "_law_best"] "_law_arrow" (defScope s_L_arrow) fa cdv A outer s H E) rfl
  unfold b_L_arrow
  exact (ss_cons (s_set (i := 2) [] nd (d_call G_L_side (hr.mono (by decide)) tk (da_cons (d_var 0) (da_cons (d_var 1) da_nil))))
    (ss_cons (s_if [] (t_cmp (op_eqD hr.units) o_eq (d_var 2) d_str) (ss_one (s_ret [] (d_tup (da_cons d_non (da_cons d_non da_nil))))) ss_nil)
    (ss_cons (s_unp [] rfl (g_cons (i := 3) nd (g_cons (i := 4) nd (g_cons (i := 5) nd (g_cons (i := 6) nd g_nil)))) (d_call G_L_spot (hr.mono (by decide)) tk (da_cons (d_var 0) (da_cons (d_var 1) (da_cons (d_var 2) (da_cons (d_tup (da_cons d_int (da_cons d_int (da_cons (d_ix ix_B o_ix (d_ix ix_B o_ix (d_var 0) d_int) d_int) (da_cons (d_ix ix_B o_ix (d_ix ix_B o_ix (d_var 0) d_int) d_int) da_nil))))) da_nil))))))
    (ss_cons (s_set (i := 7) [] nd (d_op op_addD o_add (d_ix ix_B o_ix (d_var 1) d_int) (d_op op_fdivW o_div (d_op op_sub o_sub (d_ix ix_B o_ix (d_var 1) d_int) d_int) d_int)))
    (ss_cons (s_set (i := 8) [] nd (d_op op_addD o_add (d_ix ix_B o_ix (d_var 1) d_int) (d_op op_fdivW o_div (d_op op_sub o_sub (d_ix ix_B o_ix (d_var 1) d_int) d_int) d_int)))
    (ss_cons (s_if [] (t_cmp (op_inB (hu65 hr)) o_in (d_var 2) (d_tup (da_cons d_str (da_cons d_str da_nil)))) (ss_cons (s_setL (i := 9) [] nd (l_listRg2 rfl T.b_list T.b_range (d_var 3) (d_op op_addD o_add (d_var 3) (d_var 5))))
    (ss_cons (s_set (i := 9) [9] nd (d_ifE (t_cmp op_gt o_gt (d_callB cr_len c_len T.b_len (by decide +kernel) (da_cons (d_var 9) da_nil)) d_int) (d_ofL (l_cut (d_var 9) (p_some d_int) (p_some (d_un un_neg o_neg d_int)))) (d_var 9)))
    (ss_cons (s_set (i := 10) [9] nd (d_ix ix_B o_ix (d_ofL (l_sortD 7 hxA hTA TB (hcv.symm.trans hcA) qn_eq (d_var 9) (lamS1_by rfl) (hr.mono (by decide)) T.b_abs T.b_sorted)) d_int))
    (ss_one (s_ret [] (d_tup (da_cons (d_tup (da_cons (d_var 10) (da_cons (d_ifE (t_cmp (op_eqD hr.units) o_eq (d_var 2) d_str) (d_op op_sub o_sub (d_op op_addD o_add (d_var 4) (d_var 6)) d_int) (d_var 4)) da_nil))) (da_cons (d_callB call_abs c_abs T.b_abs (by decide +kernel) (da_cons (d_op op_sub o_sub (d_var 10) (d_var 7)) da_nil)) da_nil)))))))) ss_nil)
    (ss_cons (s_setL (i := 9) [] nd (l_listRg2 rfl T.b_list T.b_range (d_var 4) (d_op op_addD o_add (d_var 4) (d_var 6))))
    (ss_cons (s_set (i := 9) [9] nd (d_ifE (t_cmp op_gt o_gt (d_callB cr_len c_len T.b_len (by decide +kernel) (da_cons (d_var 9) da_nil)) d_int) (d_ofL (l_cut (d_var 9) (p_some d_int) (p_some (d_un un_neg o_neg d_int)))) (d_var 9)))
    (ss_cons (s_set (i := 10) [9] nd (d_ix ix_B o_ix (d_ofL (l_sortD 8 hxA hTA TB (hcv.symm.trans hcA) qn_eq (d_var 9) (lamS1_by rfl) (hr.mono (by decide)) T.b_abs T.b_sorted)) d_int))
    (ss_one (s_ret [] (d_tup (da_cons (d_tup (da_cons (d_ifE (t_cmp (op_eqD hr.units) o_eq (d_var 2) d_str) (d_op op_sub o_sub (d_op op_addD o_add (d_var 3) (d_var 5)) d_int) (d_var 3)) (da_cons (d_var 10) da_nil))) (da_cons (d_callB call_abs c_abs T.b_abs (by decide +kernel) (da_cons (d_op op_sub o_sub (d_var 10) (d_var 8)) da_nil)) da_nil))))))))))))))
abbrev s_is_int : Stmt := top 14
theorem sc_is_int : FnScope ["value", "least", "most"] ["value", "least", "most"] (defScope s_is_int) := ⟨rfl, rfl, rfl, by decide +kernel, rfl, by decide +kernel, by decide +kernel⟩
theorem w_is_int {fa : Addr} {fd : FuncData} (T : Txt K mg) (Fu : Fun K "is_int" "is_int" s_is_int fa fd) (hm : mg "is_int" = some (.ref fa)) (hb : Binds K fd ["value", "least", "most"] []) : FnD P w K mg base 2 "is_int" 3 f_is_int := by
  refine FnD.mk' (x := "is_int") (N := ["value", "least", "most"]) (ps := ["value", "least", "most"]) (k := 1) Fu sc_is_int hm hb fun cdv A outer s H E hr => ?_
  have nd : (["value", "least", "most"] : List Str).Nodup := sc_is_int.nd
  have tk := takes_of (X := cxOf (L2.CX P w) P w K mg base ["value", "least", "most"] "is_int" (defScope s_is_int) fa cdv A outer s H E) rfl rfl rfl rfl
  have po := passes_of (X := cxOf (L2.CX P w) P w K mg base ["value", "least", "most"] "is_int" (defScope s_is_int) fa cdv A outer s H E) rfl
  unfold b_is_int
  exact (ss_one (s_ret [] (d_and (d_isi ty_int T.b_isinstance T.b_int (by decide +kernel) (d_var 0)) (d_and (d_not (d_isi ty_bool T.b_isinstance T.b_bool (by decide +kernel) (d_var 0))) (d_one (d_chain op_le o_le op_le o_le (d_var 1) (d_var 0) (d_var 2)))))))
abbrev s_is_side : Stmt := top 16
theorem sc_is_side : FnScope ["value"] ["value"] (defScope s_is_side) := ⟨rfl, rfl, rfl, by decide +kernel, rfl, by decide +kernel, by decide +kernel⟩
theorem w_is_side {fa : Addr} {fd : FuncData} (T : Txt K mg) (Fu : Fun K "is_side" "is_side" s_is_side fa fd) (hm : mg "is_side" = some (.ref fa)) (hb : Binds K fd ["value"] []) : FnD P w K mg base 2 "is_side" 1 f_is_side := by
  refine FnD.mk' (x := "is_side") (N := ["value"]) (ps := ["value"]) (k := 1) Fu sc_is_side hm hb fun cdv A outer s H E hr => ?_
  have nd : (["value"] : List Str).Nodup := sc_is_side.nd
  have tk := takes_of (X := cxOf (L2.CX P w) P w K mg base ["value"] "is_side" (defScope s_is_side) fa cdv A outer s H E) rfl rfl rfl rfl
  have po := passes_of (X := cxOf (L2.CX P w) P w K mg base ["value"] "is_side" (defScope s_is_side) fa cdv A outer s H E) rfl
  unfold b_is_side
  exact (ss_one (s_ret [] (d_and (d_isi ty_str T.b_isinstance T.b_str (by decide +kernel) (d_var 0)) (d_one (d_cmp (op_inB (hu65 hr)) o_in (d_var 0) (d_gl T.c_SIDES))))))
abbrev s_are_sides : Stmt := top 17
theorem sc_are_sides : FnScope ["value", "side"] ["value"] (defScope s_are_sides) := ⟨rfl, rfl, rfl, by decide +kernel, rfl, by decide +kernel, by decide +kernel⟩
theorem w_are_sides {fa : Addr} {fd : FuncData} (T : Txt K mg) (Fu : Fun K "are_sides" "are_sides" s_are_sides fa fd) (hm : mg "are_sides" = some (.ref fa)) (hb : Binds K fd ["value"] []) (G_is_side : FnD P w K mg base 2 "is_side" 1 f_is_side) : FnD P w K mg base 3 "are_sides" 1 f_are_sides := by
  refine FnD.mk' (x := "are_sides") (N := ["value", "side"]) (ps := ["value"]) (k := 2) Fu sc_are_sides hm hb fun cdv A outer s H E hr => ?_
  have nd : (["value", "side"] : List Str).Nodup := sc_are_sides.nd
  have tk := takes_of (X := cxOf (L2.CX P w) P w K mg base ["value", "side"] "are_sides" (defScope s_are_sides) fa cdv A outer s H E) rfl rfl rfl rfl
  have po := passes_of (X := cxOf (L2.CX P w) P w K mg base ["value", "side"] "are_sides" (defScope s_are_sides) fa cdv A outer s H E) rfl
  unfold b_are_sides
  exact (ss_cons (s_if [] (t_w (w_or (t_not (t_val (d_isi ty_tuple T.b_isinstance T.b_tuple (by decide +kernel) (d_var 0)))) (w_or (t_cmp (op_eqD hr.units) o_eq (d_var 0) (d_tup da_nil)) (w_or1 (t_not (t_val (d_callB (cr_all rfl) c_all T.b_all (by decide +kernel) (da_cons (d_ofL (l_lc rfl nd (i_seq (d_var 0)) (blkOk_by (own := [("side", 1)]) rfl) (gokR_name (by decide)) (fun _ _ _ _ _ => (pg_name (i := 1) nd rfl (Or.inl rfl))) (fun _ _ _ _ _ => ts_nil) (fun _ _ _ _ _ => (d_call G_is_side (hr.mono (by decide)) takes0 (da_cons (d_var 1) da_nil))))) da_nil)))))))) (ss_one (s_ret [] d_bl)) ss_nil)
    (ss_one (s_ret [] (d_cmp (op_eqD hr.units) o_eq (d_lenSet rfl T.b_len T.b_set (d_var 0)) (d_callB cr_len c_len T.b_len (by decide +kernel) (da_cons (d_var 0) da_nil))))))
abbrev s_is_size : Stmt := top 15
theorem sc_is_size : FnScope ["value", "wide", "high"] ["value", "wide", "high"] (defScope s_is_size) := ⟨rfl, rfl, rfl, by decide +kernel, rfl, by decide +kernel, by decide +kernel⟩
theorem w_is_size {fa : Addr} {fd : FuncData} (T : Txt K mg) (Fu : Fun K "is_size" "is_size" s_is_size fa fd) (hm : mg "is_size" = some (.ref fa)) (hb : Binds K fd ["value", "wide", "high"] []) (G_is_int : FnD P w K mg base 2 "is_int" 3 f_is_int) : FnD P w K mg base 3 "is_size" 3 f_is_size := by
  refine FnD.mk' (x := "is_size") (N := ["value", "wide", "high"]) (ps := ["value", "wide", "high"]) (k := 2) Fu sc_is_size hm hb fun cdv A outer s H E hr => ?_
  have nd : (["value", "wide", "high"] : List Str).Nodup := sc_is_size.nd
  have tk := takes_of (X := cxOf (L2.CX P w) P w K mg base ["value", "wide", "high"] "is_size" (defScope s_is_size) fa cdv A outer s H E) rfl rfl rfl rfl
  have po := passes_of (X := cxOf (L2.CX P w) P w K mg base ["value", "wide", "high"] "is_size" (defScope s_is_size) fa cdv A outer s H E) rfl
  unfold b_is_size
  exact (ss_cons (s_if [] (t_w (w_or (t_not (t_val (d_isi ty_tuple T.b_isinstance T.b_tuple (by decide +kernel) (d_var 0)))) (w_or1 (t_cmp (op_neD hr.units) o_ne (d_callB cr_len c_len T.b_len (by decide +kernel) (da_cons (d_var 0) da_nil)) d_int)))) (ss_one (s_ret [] d_bl)) ss_nil)
    (ss_one (s_ret [] (d_and (d_call G_is_int (hr.mono (by decide)) tk (da_cons (d_ix ix_B o_ix (d_var 0) d_int) (da_cons d_int (da_cons (d_var 1) da_nil)))) (d_one (d_call G_is_int (hr.mono (by decide)) tk (da_cons (d_ix ix_B o_ix (d_var 0) d_int) (da_cons d_int (da_cons (d_var 2) da_nil)))))))))
abbrev s_is_setting : Stmt := top 18
theorem sc_is_setting : FnScope ["candidate", "screen", "box", "gap", "sides"] ["candidate"] (defScope s_is_setting) := ⟨rfl, rfl, rfl, by decide +kernel, rfl, by decide +kernel, by decide +kernel⟩
theorem w_is_setting {fa : Addr} {fd : FuncData} (T : Txt K mg) (Fu : Fun K "is_setting" "is_setting" s_is_setting fa fd) (hm : mg "is_setting" = some (.ref fa)) (hb : Binds K fd ["candidate"] []) (G_is_int : FnD P w K mg base 2 "is_int" 3 f_is_int) (G_are_sides : FnD P w K mg base 3 "are_sides" 1 f_are_sides) (G_is_size : FnD P w K mg base 3 "is_size" 3 f_is_size) : FnD P w K mg base 4 "is_setting" 1 f_is_setting := by
  refine FnD.mk' (x := "is_setting") (N := ["candidate", "screen", "box", "gap", "sides"]) (ps := ["candidate"]) (k := 3) Fu sc_is_setting hm hb fun cdv A outer s H E hr => ?_
  have nd : (["candidate", "screen", "box", "gap", "sides"] : List Str).Nodup := sc_is_setting.nd
  have tk := takes_of (X := cxOf (L2.CX P w) P w K mg base ["candidate", "screen", "box", "gap", "sides"] "is_setting" (defScope s_is_setting) fa cdv A outer s H E) rfl rfl rfl rfl
  have po := passes_of (X := cxOf (L2.CX P w) P w K mg base ["candidate", "screen", "box", "gap", "sides"] "is_setting" (defScope s_is_setting) fa cdv A outer s H E) rfl
  unfold b_is_setting
  exact (ss_cons (s_if [] (t_w (w_or (t_not (t_val (d_isi ty_tuple T.b_isinstance T.b_tuple (by decide +kernel) (d_var 0)))) (w_or1 (t_cmp (op_neD hr.units) o_ne (d_callB cr_len c_len T.b_len (by decide +kernel) (da_cons (d_var 0) da_nil)) d_int)))) (ss_one (s_ret [] d_bl)) ss_nil)
    (ss_cons (s_unp [] rfl (g_cons (i := 1) nd (g_cons (i := 2) nd (g_cons (i := 3) nd (g_cons (i := 4) nd g_nil)))) (d_var 0))
    (ss_cons (s_if [] (t_w (w_or (t_not (t_val (d_call G_is_size (hr.mono (by decide)) tk (da_cons (d_var 1) (da_cons (d_gl T.c_MAX_SIZE) (da_cons (d_gl T.c_MAX_SIZE) da_nil)))))) (w_or1 (t_not (t_val (d_call G_is_size (hr.mono (by decide)) tk (da_cons (d_var 2) (da_cons (d_ix ix_B o_ix (d_var 1) d_int) (da_cons (d_ix ix_B o_ix (d_var 1) d_int) da_nil))))))))) (ss_one (s_ret [] d_bl)) ss_nil)
    (ss_one (s_ret [] (d_and (d_call G_is_int (hr.mono (by decide)) tk (da_cons (d_var 3) (da_cons d_int (da_cons (d_gl T.c_MAX_GAP) da_nil)))) (d_one (d_call G_are_sides (hr.mono (by decide)) tk (da_cons (d_var 4) da_nil)))))))))
abbrev s_check_setting : Stmt := top 20
theorem sc_check_setting : FnScope ["value"] ["value"] (defScope s_check_setting) := ⟨rfl, rfl, rfl, by decide +kernel, rfl, by decide +kernel, by decide +kernel⟩
theorem w_check_setting {fa : Addr} {fd : FuncData} (T : Txt K mg) (Fu : Fun K "check_setting" "check_setting" s_check_setting fa fd) (hm : mg "check_setting" = some (.ref fa)) (hb : Binds K fd ["value"] []) (G_is_setting : FnD P w K mg base 4 "is_setting" 1 f_is_setting) : FnD P w K mg base 5 "check_setting" 1 f_check_setting := by
  refine FnD.mk' (x := "check_setting") (N := ["value"]) (ps := ["value"]) (k := 4) Fu sc_check_setting hm hb fun cdv A outer s H E hr => ?_
  have nd : (["value"] : List Str).Nodup := sc_check_setting.nd
  have tk := takes_of (X := cxOf (L2.CX P w) P w K mg base ["value"] "check_setting" (defScope s_check_setting) fa cdv A outer s H E) rfl rfl rfl rfl
  have po := passes_of (X := cxOf (L2.CX P w) P w K mg base ["value"] "check_setting" (defScope s_check_setting) fa cdv A outer s H E) rfl
  unfold b_check_setting
  exact (ss_one (s_if [] (t_not (t_val (d_call G_is_setting (hr.mono (by decide)) tk (da_cons (d_var 0) da_nil)))) (ss_one (s_raiseD rfl tk T.x_InvalidSetting)) ss_nil))
abbrev s_check_size : Stmt := top 26
theorem sc_check_size : FnScope ["setting", "size"] ["setting", "size"] (defScope s_check_size) := ⟨rfl, rfl, rfl, by decide +kernel, rfl, by decide +kernel, by decide +kernel⟩
theorem w_check_size {fa : Addr} {fd : FuncData} (T : Txt K mg) (Fu : Fun K "check_size" "check_size" s_check_size fa fd) (hm : mg "check_size" = some (.ref fa)) (hb : Binds K fd ["setting", "size"] []) (G_check_setting : FnD P w K mg base 5 "check_setting" 1 f_check_setting) (G_is_size : FnD P w K mg base 3 "is_size" 3 f_is_size) : FnD P w K mg base 6 "check_size" 2 f_check_size := by
  refine FnD.mk' (x := "check_size") (N := ["setting", "size"]) (ps := ["setting", "size"]) (k := 5) Fu sc_check_size hm hb fun cdv A outer s H E hr => ?_
  have nd : (["setting", "size"] : List Str).Nodup := sc_check_size.nd
  have tk := takes_of (X := cxOf (L2.CX P w) P w K mg base ["setting", "size"] "check_size" (defScope s_check_size) fa cdv A outer s H E) rfl rfl rfl rfl
  have po := passes_of (X := cxOf (L2.CX P w) P w K mg base ["setting", "size"] "check_size" (defScope s_check_size) fa cdv A outer s H E) rfl
  unfold b_check_size
  exact (ss_cons (s_drop [] (d_call G_check_setting (hr.mono (by decide)) tk (da_cons (d_var 0) da_nil)))
    (ss_one (s_if [] (t_not (t_val (d_call G_is_size (hr.mono (by decide)) tk (da_cons (d_var 1) (da_cons (d_ix ix_B o_ix (d_ix ix_B o_ix (d_var 0) d_int) d_int) (da_cons (d_ix ix_B o_ix (d_ix ix_B o_ix (d_var 0) d_int) d_int) da_nil)))))) (ss_one (s_raiseD rfl tk T.x_InvalidSize)) ss_nil)))
abbrev s_all_anchors : Stmt := top 27
theorem sc_all_anchors : FnScope ["setting", "size", "wide", "high", "lefts", "tops", "left", "top"] ["setting", "size"] (defScope s_all_anchors) := ⟨rfl, rfl, rfl, by decide +kernel, rfl, by decide +kernel, by decide +kernel⟩
theorem w_all_anchors {fa : Addr} {fd : FuncData} (T : Txt K mg) (Fu : Fun K "all_anchors" "all_anchors" s_all_anchors fa fd) (hm : mg "all_anchors" = some (.ref fa)) (hb : Binds K fd ["setting", "size"] []) : FnD P w K mg base 2 "all_anchors" 2 f_all_anchors := by
  refine FnD.mk' (x := "all_anchors") (N := ["setting", "size", "wide", "high", "lefts", "tops", "left", "top"]) (ps := ["setting", "size"]) (k := 1) Fu sc_all_anchors hm hb fun cdv A outer s H E hr => ?_
  have nd : (["setting", "size", "wide", "high", "lefts", "tops", "left", "top"] : List Str).Nodup := sc_all_anchors.nd
  have tk := takes_of (X := cxOf (L2.CX P w) P w K mg base ["setting", "size", "wide", "high", "lefts", "tops", "left", "top"] "all_anchors" (defScope s_all_anchors) fa cdv A outer s H E) rfl rfl rfl rfl
  have po := passes_of (X := cxOf (L2.CX P w) P w K mg base ["setting", "size", "wide", "high", "lefts", "tops", "left", "top"] "all_anchors" (defScope s_all_anchors) fa cdv A outer s H E) rfl
  unfold b_all_anchors
  exact (ss_cons (s_unp [] rfl (g_cons (i := 2) nd (g_cons (i := 3) nd g_nil)) (d_ix ix_B o_ix (d_var 0) d_int))
    (ss_cons (s_parT [] rfl (g_cons (i := 4) nd (g_cons (i := 5) nd g_nil)) (dm_l (l_listRg1 rfl T.b_list T.b_range (d_op op_addD o_add (d_op op_sub o_sub (d_var 2) (d_ix ix_B o_ix (d_var 1) d_int)) d_int)) (dm_l (l_listRg1 rfl T.b_list T.b_range (d_op op_addD o_add (d_op op_sub o_sub (d_var 3) (d_ix ix_B o_ix (d_var 1) d_int)) d_int)) dm_nil)))
    (ss_one (s_ret [4, 5] (d_ofL (l_lc2 rfl nd (i_seq (d_var 4)) (blkOk_by (own := [("left", 6), ("top", 7)]) rfl) (vs1 := [7]) (by decide) (gokR_name (by decide)) (gokR_name (by decide)) (fun _ _ _ _ _ => (pg_name (i := 6) nd rfl (Or.inl rfl))) (fun _ _ _ _ _ => ts_nil) (fun _ _ _ _ _ => (i_seq (d_var 5))) (fun _ _ _ _ _ => (pg_name (i := 7) nd rfl (Or.inl rfl))) (fun _ _ _ _ _ => ts_nil) (fun _ _ _ _ _ => (d_tup (da_cons (d_var 6) (da_cons (d_var 7) (da_cons (d_ix ix_B o_ix (d_var 1) d_int) (da_cons (d_ix ix_B o_ix (d_var 1) d_int) da_nil))))))))))))
abbrev s_has_room : Stmt := top 22
theorem sc_has_room : FnScope ["setting", "anchor", "side", "screen", "box", "gap", "sides", "left", "top", "width", "height"] ["setting", "anchor", "side"] (defScope s_has_room) := ⟨rfl, rfl, rfl, by decide +kernel, rfl, by decide +kernel, by decide +kernel⟩
theorem w_has_room {fa : Addr} {fd : FuncData} (T : Txt K mg) (Fu : Fun K "has_room" "has_room" s_has_room fa fd) (hm : mg "has_room" = some (.ref fa)) (hb : Binds K fd ["setting", "anchor", "side"] []) : FnD P w K mg base 2 "has_room" 3 f_has_room := by
  refine FnD.mk' (x := "has_room") (N := ["setting", "anchor", "side", "screen", "box", "gap", "sides", "left", "top", "width", "height"]) (ps := ["setting", "anchor", "side"]) (k := 1) Fu sc_has_room hm hb fun cdv A outer s H E hr => ?_
  have nd : (["setting", "anchor", "side", "screen", "box", "gap", "sides", "left", "top", "width", "height"] : List Str).Nodup := sc_has_room.nd
  have tk := takes_of (X := cxOf (L2.CX P w) P w K mg base ["setting", "anchor", "side", "screen", "box", "gap", "sides", "left", "top", "width", "height"] "has_room" (defScope s_has_room) fa cdv A outer s H E) rfl rfl rfl rfl
  have po := passes_of (X := cxOf (L2.CX P w) P w K mg base ["setting", "anchor", "side", "screen", "box", "gap", "sides", "left", "top", "width", "height"] "has_room" (defScope s_has_room) fa cdv A outer s H E) rfl
  unfold b_has_room
  exact (ss_cons (s_unp [] rfl (g_cons (i := 3) nd (g_cons (i := 4) nd (g_cons (i := 5) nd (g_cons (i := 6) nd g_nil)))) (d_var 0))
    (ss_cons (s_unp [] rfl (g_cons (i := 7) nd (g_cons (i := 8) nd (g_cons (i := 9) nd (g_cons (i := 10) nd g_nil)))) (d_var 1))
    (ss_cons (s_if [] (t_cmp (op_eqD hr.units) o_eq (d_var 2) (d_gl T.c_TOP)) (ss_one (s_ret [] (d_cmp op_ge o_ge (d_var 8) (d_op op_addD o_add (d_ix ix_B o_ix (d_var 4) d_int) (d_var 5))))) ss_nil)
    (ss_cons (s_if [] (t_cmp (op_eqD hr.units) o_eq (d_var 2) (d_gl T.c_BOTTOM)) (ss_one (s_ret [] (d_cmp op_le o_le (d_op op_addD o_add (d_op op_addD o_add (d_op op_addD o_add (d_var 8) (d_var 10)) (d_var 5)) (d_ix ix_B o_ix (d_var 4) d_int)) (d_ix ix_B o_ix (d_var 3) d_int)))) ss_nil)
    (ss_cons (s_if [] (t_cmp (op_eqD hr.units) o_eq (d_var 2) (d_gl T.c_LEFT)) (ss_one (s_ret [] (d_cmp op_ge o_ge (d_var 7) (d_op op_addD o_add (d_ix ix_B o_ix (d_var 4) d_int) (d_var 5))))) ss_nil)
    (ss_one (s_ret [] (d_cmp op_le o_le (d_op op_addD o_add (d_op op_addD o_add (d_op op_addD o_add (d_var 7) (d_var 9)) (d_var 5)) (d_ix ix_B o_ix (d_var 4) d_int)) (d_ix ix_B o_ix (d_var 3) d_int)))))))))
abbrev s_find_fitting : Stmt := top 23
theorem sc_find_fitting : FnScope ["setting", "anchor", "side"] ["setting", "anchor"] (defScope s_find_fitting) := ⟨rfl, rfl, rfl, by decide +kernel, rfl, by decide +kernel, by decide +kernel⟩
theorem w_find_fitting {fa : Addr} {fd : FuncData} (T : Txt K mg) (Fu : Fun K "find_fitting" "find_fitting" s_find_fitting fa fd) (hm : mg "find_fitting" = some (.ref fa)) (hb : Binds K fd ["setting", "anchor"] []) (G_has_room : FnD P w K mg base 2 "has_room" 3 f_has_room) : FnD P w K mg base 3 "find_fitting" 2 f_find_fitting := by
  refine FnD.mk' (x := "find_fitting") (N := ["setting", "anchor", "side"]) (ps := ["setting", "anchor"]) (k := 2) Fu sc_find_fitting hm hb fun cdv A outer s H E hr => ?_
  have nd : (["setting", "anchor", "side"] : List Str).Nodup := sc_find_fitting.nd
  have tk := takes_of (X := cxOf (L2.CX P w) P w K mg base ["setting", "anchor", "side"] "find_fitting" (defScope s_find_fitting) fa cdv A outer s H E) rfl rfl rfl rfl
  have po := passes_of (X := cxOf (L2.CX P w) P w K mg base ["setting", "anchor", "side"] "find_fitting" (defScope s_find_fitting) fa cdv A outer s H E) rfl
  unfold b_find_fitting
  exact (ss_one (s_ret [] (d_ofL (l_lc rfl nd (i_seq (d_ix ix_B o_ix (d_var 0) d_int)) (blkOk_by (own := [("side", 2)]) rfl) (gokR_name (by decide)) (fun _ _ _ _ _ => (pg_name (i := 2) nd rfl (Or.inl rfl))) (fun _ _ _ _ _ => (ts_one (t_val (d_call G_has_room (hr.mono (by decide)) takes0 (da_cons (d_var 0) (da_cons (d_var 1) (da_cons (d_var 2) da_nil))))))) (fun _ _ _ _ _ => (d_var 2))))))
abbrev s_find_side : Stmt := top 24
theorem sc_find_side : FnScope ["setting", "anchor"] ["setting", "anchor"] (defScope s_find_side) := ⟨rfl, rfl, rfl, by decide +kernel, rfl, by decide +kernel, by decide +kernel⟩
theorem w_find_side {fa : Addr} {fd : FuncData} (T : Txt K mg) (Fu : Fun K "find_side" "find_side" s_find_side fa fd) (hm : mg "find_side" = some (.ref fa)) (hb : Binds K fd ["setting", "anchor"] []) (G_find_fitting : FnD P w K mg base 3 "find_fitting" 2 f_find_fitting) : FnD P w K mg base 4 "find_side" 2 f_find_side := by
  refine FnD.mk' (x := "find_side") (N := ["setting", "anchor"]) (ps := ["setting", "anchor"]) (k := 3) Fu sc_find_side hm hb fun cdv A outer s H E hr => ?_
  have nd : (["setting", "anchor"] : List Str).Nodup := sc_find_side.nd
  have tk := takes_of (X := cxOf (L2.CX P w) P w K mg base ["setting", "anchor"] "find_side" (defScope s_find_side) fa cdv A outer s H E) rfl rfl rfl rfl
  have po := passes_of (X := cxOf (L2.CX P w) P w K mg base ["setting", "anchor"] "find_side" (defScope s_find_side) fa cdv A outer s H E) rfl
  unfold b_find_side
  exact (ss_one (s_ret [] (d_ix ix_B o_ix (d_ofL (l_cat (d_call G_find_fitting (hr.mono (by decide)) tk (da_cons (d_var 0) (da_cons (d_var 1) da_nil))) (d_ofL (l_lst (da_cons (d_gl T.c_OVER) da_nil))))) d_int)))
abbrev s_centred : Stmt := top 29
theorem sc_centred : FnScope ["start", "size", "box"] ["start", "size", "box"] (defScope s_centred) := ⟨rfl, rfl, rfl, by decide +kernel, rfl, by decide +kernel, by decide +kernel⟩
theorem w_centred {fa : Addr} {fd : FuncData} (T : Txt K mg) (Fu : Fun K "centred" "centred" s_centred fa fd) (hm : mg "centred" = some (.ref fa)) (hb : Binds K fd ["start", "size", "box"] []) : FnD P w K mg base 2 "centred" 3 f_centred := by
  refine FnD.mk' (x := "centred") (N := ["start", "size", "box"]) (ps := ["start", "size", "box"]) (k := 1) Fu sc_centred hm hb fun cdv A outer s H E hr => ?_
  have nd : (["start", "size", "box"] : List Str).Nodup := sc_centred.nd
  have tk := takes_of (X := cxOf (L2.CX P w) P w K mg base ["start", "size", "box"] "centred" (defScope s_centred) fa cdv A outer s H E) rfl rfl rfl rfl
  have po := passes_of (X := cxOf (L2.CX P w) P w K mg base ["start", "size", "box"] "centred" (defScope s_centred) fa cdv A outer s H E) rfl
  unfold b_centred
  exact (ss_one (s_ret [] (d_op op_addD o_add (d_var 0) (d_op op_fdivW o_div (d_op op_sub o_sub (d_var 1) (d_var 2)) d_int))))
abbrev s_find_raw : Stmt := top 31
theorem sc_find_raw : FnScope ["setting", "anchor", "screen", "box", "gap", "sides", "left", "top", "width", "height", "x", "y", "side"] ["setting", "anchor"] (defScope s_find_raw) := ⟨rfl, rfl, rfl, by decide +kernel, rfl, by decide +kernel, by decide +kernel⟩
theorem w_find_raw {fa : Addr} {fd : FuncData} (T : Txt K mg) (Fu : Fun K "find_raw" "find_raw" s_find_raw fa fd) (hm : mg "find_raw" = some (.ref fa)) (hb : Binds K fd ["setting", "anchor"] []) (G_centred : FnD P w K mg base 2 "centred" 3 f_centred) (G_find_side : FnD P w K mg base 4 "find_side" 2 f_find_side) : FnD P w K mg base 5 "find_raw" 2 f_find_raw := by
  refine FnD.mk' (x := "find_raw") (N := ["setting", "anchor", "screen", "box", "gap", "sides", "left", "top", "width", "height", "x", "y", "side"]) (ps := ["setting", "anchor"]) (k := 4) Fu sc_find_raw hm hb fun cdv A outer s H E hr => ?_
  have nd : (["setting", "anchor", "screen", "box", "gap", "sides", "left", "top", "width", "height", "x", "y", "side"] : List Str).Nodup := sc_find_raw.nd
  have tk := takes_of (X := cxOf (L2.CX P w) P w K mg base ["setting", "anchor", "screen", "box", "gap", "sides", "left", "top", "width", "height", "x", "y", "side"] "find_raw" (defScope s_find_raw) fa cdv A outer s H E) rfl rfl rfl rfl
  have po := passes_of (X := cxOf (L2.CX P w) P w K mg base ["setting", "anchor", "screen", "box", "gap", "sides", "left", "top", "width", "height", "x", "y", "side"] "find_raw" (defScope s_find_raw) fa cdv A outer s H E) rfl
  unfold b_find_raw
  exact (ss_cons (s_unp [] rfl (g_cons (i := 2) nd (g_cons (i := 3) nd (g_cons (i := 4) nd (g_cons (i := 5) nd g_nil)))) (d_var 0))
    (ss_cons (s_unp [] rfl (g_cons (i := 6) nd (g_cons (i := 7) nd (g_cons (i := 8) nd (g_cons (i := 9) nd g_nil)))) (d_var 1))
    (ss_cons (s_par3 (i := 10) (j := 11) (l := 12) [] rfl nd (dm_s (d_call G_centred (hr.mono (by decide)) tk (da_cons (d_var 6) (da_cons (d_var 8) (da_cons (d_ix ix_B o_ix (d_var 3) d_int) da_nil)))) (dm_s (d_call G_centred (hr.mono (by decide)) tk (da_cons (d_var 7) (da_cons (d_var 9) (da_cons (d_ix ix_B o_ix (d_var 3) d_int) da_nil)))) (dm_s (d_call G_find_side (hr.mono (by decide)) tk (da_cons (d_var 0) (da_cons (d_var 1) da_nil))) dm_nil))))
    (ss_cons (s_if [] (t_cmp (op_eqD hr.units) o_eq (d_var 12) (d_gl T.c_TOP)) (ss_one (s_ret [] (d_tup (da_cons (d_var 10) (da_cons (d_op op_sub o_sub (d_op op_sub o_sub (d_var 7) (d_var 4)) (d_ix ix_B o_ix (d_var 3) d_int)) da_nil))))) ss_nil)
    (ss_cons (s_if [] (t_cmp (op_eqD hr.units) o_eq (d_var 12) (d_gl T.c_BOTTOM)) (ss_one (s_ret [] (d_tup (da_cons (d_var 10) (da_cons (d_op op_addD o_add (d_op op_addD o_add (d_var 7) (d_var 9)) (d_var 4)) da_nil))))) ss_nil)
    (ss_cons (s_if [] (t_cmp (op_eqD hr.units) o_eq (d_var 12) (d_gl T.c_LEFT)) (ss_one (s_ret [] (d_tup (da_cons (d_op op_sub o_sub (d_op op_sub o_sub (d_var 6) (d_var 4)) (d_ix ix_B o_ix (d_var 3) d_int)) (da_cons (d_var 11) da_nil))))) ss_nil)
    (ss_cons (s_if [] (t_cmp (op_eqD hr.units) o_eq (d_var 12) (d_gl T.c_RIGHT)) (ss_one (s_ret [] (d_tup (da_cons (d_op op_addD o_add (d_op op_addD o_add (d_var 6) (d_var 8)) (d_var 4)) (da_cons (d_var 11) da_nil))))) ss_nil)
    (ss_one (s_ret [] (d_tup (da_cons (d_var 10) (da_cons (d_var 11) da_nil))))))))))))
abbrev s_within : Stmt := top 30
theorem sc_within : FnScope ["start", "box", "screen"] ["start", "box", "screen"] (defScope s_within) := ⟨rfl, rfl, rfl, by decide +kernel, rfl, by decide +kernel, by decide +kernel⟩
theorem w_within {fa : Addr} {fd : FuncData} (T : Txt K mg) (Fu : Fun K "within" "within" s_within fa fd) (hm : mg "within" = some (.ref fa)) (hb : Binds K fd ["start", "box", "screen"] []) : FnD P w K mg base 2 "within" 3 f_within := by
  refine FnD.mk' (x := "within") (N := ["start", "box", "screen"]) (ps := ["start", "box", "screen"]) (k := 1) Fu sc_within hm hb fun cdv A outer s H E hr => ?_
  have nd : (["start", "box", "screen"] : List Str).Nodup := sc_within.nd
  have tk := takes_of (X := cxOf (L2.CX P w) P w K mg base ["start", "box", "screen"] "within" (defScope s_within) fa cdv A outer s H E) rfl rfl rfl rfl
  have po := passes_of (X := cxOf (L2.CX P w) P w K mg base ["start", "box", "screen"] "within" (defScope s_within) fa cdv A outer s H E) rfl
  unfold b_within
  exact (ss_one (s_ret [] (d_callB (call_max2 rfl) c_max2 T.b_max (by decide +kernel) (da_cons d_int (da_cons (d_callB (call_min2 rfl) c_min2 T.b_min (by decide +kernel) (da_cons (d_var 0) (da_cons (d_op op_sub o_sub (d_var 2) (d_var 1)) da_nil))) da_nil)))))
abbrev s_find_place : Stmt := top 32
theorem sc_find_place : FnScope ["setting", "anchor", "screen", "box", "x", "y"] ["setting", "anchor"] (defScope s_find_place) := ⟨rfl, rfl, rfl, by decide +kernel, rfl, by decide +kernel, by decide +kernel⟩
theorem w_find_place {fa : Addr} {fd : FuncData} (T : Txt K mg) (Fu : Fun K "find_place" "find_place" s_find_place fa fd) (hm : mg "find_place" = some (.ref fa)) (hb : Binds K fd ["setting", "anchor"] []) (G_find_raw : FnD P w K mg base 5 "find_raw" 2 f_find_raw) (G_within : FnD P w K mg base 2 "within" 3 f_within) : FnD P w K mg base 6 "find_place" 2 f_find_place := by
  refine FnD.mk' (x := "find_place") (N := ["setting", "anchor", "screen", "box", "x", "y"]) (ps := ["setting", "anchor"]) (k := 5) Fu sc_find_place hm hb fun cdv A outer s H E hr => ?_
  have nd : (["setting", "anchor", "screen", "box", "x", "y"] : List Str).Nodup := sc_find_place.nd
  have tk := takes_of (X := cxOf (L2.CX P w) P w K mg base ["setting", "anchor", "screen", "box", "x", "y"] "find_place" (defScope s_find_place) fa cdv A outer s H E) rfl rfl rfl rfl
  have po := passes_of (X := cxOf (L2.CX P w) P w K mg base ["setting", "anchor", "screen", "box", "x", "y"] "find_place" (defScope s_find_place) fa cdv A outer s H E) rfl
  unfold b_find_place
  exact (ss_cons (s_par2 (i := 2) (j := 3) [] rfl nd (dm_s (d_ix ix_B o_ix (d_var 0) d_int) (dm_s (d_ix ix_B o_ix (d_var 0) d_int) dm_nil)))
    (ss_cons (s_unp [] rfl (g_cons (i := 4) nd (g_cons (i := 5) nd g_nil)) (d_call G_find_raw (hr.mono (by decide)) tk (da_cons (d_var 0) (da_cons (d_var 1) da_nil))))
    (ss_one (s_ret [] (d_tup (da_cons (d_call G_within (hr.mono (by decide)) tk (da_cons (d_var 4) (da_cons (d_ix ix_B o_ix (d_var 3) d_int) (da_cons (d_ix ix_B o_ix (d_var 2) d_int) da_nil)))) (da_cons (d_call G_within (hr.mono (by decide)) tk (da_cons (d_var 5) (da_cons (d_ix ix_B o_ix (d_var 3) d_int) (da_cons (d_ix ix_B o_ix (d_var 2) d_int) da_nil)))) (da_cons (d_ix ix_B o_ix (d_var 3) d_int) (da_cons (d_ix ix_B o_ix (d_var 3) d_int) da_nil)))))))))
abbrev s_find_middle : Stmt := top 35
theorem sc_find_middle : FnScope ["anchor", "left", "top", "width", "height"] ["anchor"] (defScope s_find_middle) := ⟨rfl, rfl, rfl, by decide +kernel, rfl, by decide +kernel, by decide +kernel⟩
theorem w_find_middle {fa : Addr} {fd : FuncData} (T : Txt K mg) (Fu : Fun K "find_middle" "find_middle" s_find_middle fa fd) (hm : mg "find_middle" = some (.ref fa)) (hb : Binds K fd ["anchor"] []) : FnD P w K mg base 2 "find_middle" 1 f_find_middle := by
  refine FnD.mk' (x := "find_middle") (N := ["anchor", "left", "top", "width", "height"]) (ps := ["anchor"]) (k := 1) Fu sc_find_middle hm hb fun cdv A outer s H E hr => ?_
  have nd : (["anchor", "left", "top", "width", "height"] : List Str).Nodup := sc_find_middle.nd
  have tk := takes_of (X := cxOf (L2.CX P w) P w K mg base ["anchor", "left", "top", "width", "height"] "find_middle" (defScope s_find_middle) fa cdv A outer s H E) rfl rfl rfl rfl
  have po := passes_of (X := cxOf (L2.CX P w) P w K mg base ["anchor", "left", "top", "width", "height"] "find_middle" (defScope s_find_middle) fa cdv A outer s H E) rfl
  unfold b_find_middle
  exact (ss_cons (s_unp [] rfl (g_cons (i := 1) nd (g_cons (i := 2) nd (g_cons (i := 3) nd (g_cons (i := 4) nd g_nil)))) (d_var 0))
    (ss_one (s_ret [] (d_tup (da_cons (d_op op_addD o_add (d_var 1) (d_op op_fdivW o_div (d_op op_sub o_sub (d_var 3) d_int) d_int)) (da_cons (d_op op_addD o_add (d_var 2) (d_op op_fdivW o_div (d_op op_sub o_sub (d_var 4) d_int) d_int)) da_nil))))))
abbrev s_nearest : Stmt := top 37
theorem sc_nearest : FnScope ["value", "start", "size", "spare"] ["value", "start", "size"] (defScope s_nearest) := ⟨rfl, rfl, rfl, by decide +kernel, rfl, by decide +kernel, by decide +kernel⟩
theorem w_nearest {fa : Addr} {fd : FuncData} (T : Txt K mg) (Fu : Fun K "nearest" "nearest" s_nearest fa fd) (hm : mg "nearest" = some (.ref fa)) (hb : Binds K fd ["value", "start", "size"] []) : FnD P w K mg base 2 "nearest" 3 f_nearest := by
  refine FnD.mk' (x := "nearest") (N := ["value", "start", "size", "spare"]) (ps := ["value", "start", "size"]) (k := 1) Fu sc_nearest hm hb fun cdv A outer s H E hr => ?_
  have nd : (["value", "start", "size", "spare"] : List Str).Nodup := sc_nearest.nd
  have tk := takes_of (X := cxOf (L2.CX P w) P w K mg base ["value", "start", "size", "spare"] "nearest" (defScope s_nearest) fa cdv A outer s H E) rfl rfl rfl rfl
  have po := passes_of (X := cxOf (L2.CX P w) P w K mg base ["value", "start", "size", "spare"] "nearest" (defScope s_nearest) fa cdv A outer s H E) rfl
  unfold b_nearest
  exact (ss_cons (s_set (i := 3) [] nd (d_ifE (t_cmp op_gt o_gt (d_var 2) d_int) d_int d_int))
    (ss_one (s_ret [] (d_callB (call_max2 rfl) c_max2 T.b_max (by decide +kernel) (da_cons (d_op op_addD o_add (d_var 1) (d_var 3)) (da_cons (d_callB (call_min2 rfl) c_min2 T.b_min (by decide +kernel) (da_cons (d_var 0) (da_cons (d_op op_sub o_sub (d_op op_sub o_sub (d_op op_addD o_add (d_var 1) (d_var 2)) d_int) (d_var 3)) da_nil))) da_nil))))))
abbrev s_find_arrow : Stmt := top 38
theorem sc_find_arrow : FnScope ["setting", "anchor", "side", "left", "top", "width", "height", "x", "y"] ["setting", "anchor"] (defScope s_find_arrow) := ⟨rfl, rfl, rfl, by decide +kernel, rfl, by decide +kernel, by decide +kernel⟩
theorem w_find_arrow {fa : Addr} {fd : FuncData} (T : Txt K mg) (Fu : Fun K "find_arrow" "find_arrow" s_find_arrow fa fd) (hm : mg "find_arrow" = some (.ref fa)) (hb : Binds K fd ["setting", "anchor"] []) (G_find_side : FnD P w K mg base 4 "find_side" 2 f_find_side) (G_find_place : FnD P w K mg base 6 "find_place" 2 f_find_place) (G_find_middle : FnD P w K mg base 2 "find_middle" 1 f_find_middle) (G_nearest : FnD P w K mg base 2 "nearest" 3 f_nearest) : FnD P w K mg base 7 "find_arrow" 2 f_find_arrow := by
  refine FnD.mk' (x := "find_arrow") (N := ["setting", "anchor", "side", "left", "top", "width", "height", "x", "y"]) (ps := ["setting", "anchor"]) (k := 6) Fu sc_find_arrow hm hb fun cdv A outer s H E hr => ?_
  have nd : (["setting", "anchor", "side", "left", "top", "width", "height", "x", "y"] : List Str).Nodup := sc_find_arrow.nd
  have tk := takes_of (X := cxOf (L2.CX P w) P w K mg base ["setting", "anchor", "side", "left", "top", "width", "height", "x", "y"] "find_arrow" (defScope s_find_arrow) fa cdv A outer s H E) rfl rfl rfl rfl
  have po := passes_of (X := cxOf (L2.CX P w) P w K mg base ["setting", "anchor", "side", "left", "top", "width", "height", "x", "y"] "find_arrow" (defScope s_find_arrow) fa cdv A outer s H E) rfl
  unfold b_find_arrow
  exact (ss_cons (s_set (i := 2) [] nd (d_call G_find_side (hr.mono (by decide)) tk (da_cons (d_var 0) (da_cons (d_var 1) da_nil))))
    (ss_cons (s_unp [] rfl (g_cons (i := 3) nd (g_cons (i := 4) nd (g_cons (i := 5) nd (g_cons (i := 6) nd g_nil)))) (d_call G_find_place (hr.mono (by decide)) tk (da_cons (d_var 0) (da_cons (d_var 1) da_nil))))
    (ss_cons (s_unp [] rfl (g_cons (i := 7) nd (g_cons (i := 8) nd g_nil)) (d_call G_find_middle (hr.mono (by decide)) tk (da_cons (d_var 1) da_nil)))
    (ss_cons (s_if [] (t_cmp (op_eqD hr.units) o_eq (d_var 2) (d_gl T.c_OVER)) (ss_one (s_ret [] d_non)) ss_nil)
    (ss_cons (s_if [] (t_cmp (op_inB (hu65 hr)) o_in (d_var 2) (d_tup (da_cons (d_gl T.c_TOP) (da_cons (d_gl T.c_BOTTOM) da_nil)))) (ss_one (s_ret [] (d_tup (da_cons (d_call G_nearest (hr.mono (by decide)) tk (da_cons (d_var 7) (da_cons (d_var 3) (da_cons (d_var 5) da_nil)))) (da_cons (d_ifE (t_cmp (op_eqD hr.units) o_eq (d_var 2) (d_gl T.c_TOP)) (d_op op_sub o_sub (d_op op_addD o_add (d_var 4) (d_var 6)) d_int) (d_var 4)) da_nil))))) ss_nil)
    (ss_one (s_ret [] (d_tup (da_cons (d_ifE (t_cmp (op_eqD hr.units) o_eq (d_var 2) (d_gl T.c_LEFT)) (d_op op_sub o_sub (d_op op_addD o_add (d_var 3) (d_var 5)) d_int) (d_var 3)) (da_cons (d_call G_nearest (hr.mono (by decide)) tk (da_cons (d_var 8) (da_cons (d_var 4) (da_cons (d_var 6) da_nil)))) da_nil))))))))))
abbrev s_find_off : Stmt := top 40
theorem sc_find_off : FnScope ["setting", "anchor", "place", "aim", "which"] ["setting", "anchor"] (defScope s_find_off) := ⟨rfl, rfl, rfl, by decide +kernel, rfl, by decide +kernel, by decide +kernel⟩
theorem w_find_off {fa : Addr} {fd : FuncData} (T : Txt K mg) (Fu : Fun K "find_off" "find_off" s_find_off fa fd) (hm : mg "find_off" = some (.ref fa)) (hb : Binds K fd ["setting", "anchor"] []) (G_find_arrow : FnD P w K mg base 7 "find_arrow" 2 f_find_arrow) (G_find_middle : FnD P w K mg base 2 "find_middle" 1 f_find_middle) (G_find_side : FnD P w K mg base 4 "find_side" 2 f_find_side) : FnD P w K mg base 8 "find_off" 2 f_find_off := by
  refine FnD.mk' (x := "find_off") (N := ["setting", "anchor", "place", "aim", "which"]) (ps := ["setting", "anchor"]) (k := 7) Fu sc_find_off hm hb fun cdv A outer s H E hr => ?_
  have nd : (["setting", "anchor", "place", "aim", "which"] : List Str).Nodup := sc_find_off.nd
  have tk := takes_of (X := cxOf (L2.CX P w) P w K mg base ["setting", "anchor", "place", "aim", "which"] "find_off" (defScope s_find_off) fa cdv A outer s H E) rfl rfl rfl rfl
  have po := passes_of (X := cxOf (L2.CX P w) P w K mg base ["setting", "anchor", "place", "aim", "which"] "find_off" (defScope s_find_off) fa cdv A outer s H E) rfl
  unfold b_find_off
  exact (ss_cons (s_par2 (i := 2) (j := 3) [] rfl nd (dm_s (d_call G_find_arrow (hr.mono (by decide)) tk (da_cons (d_var 0) (da_cons (d_var 1) da_nil))) (dm_s (d_call G_find_middle (hr.mono (by decide)) tk (da_cons (d_var 1) da_nil)) dm_nil)))
    (ss_cons (s_if [] (t_cmp op_isD o_is (d_var 2) d_non) (ss_one (s_ret [] d_non)) ss_nil)
    (ss_cons (s_set (i := 4) [] nd (d_ifE (t_cmp (op_inB (hu65 hr)) o_in (d_call G_find_side (hr.mono (by decide)) tk (da_cons (d_var 0) (da_cons (d_var 1) da_nil))) (d_tup (da_cons (d_gl T.c_LEFT) (da_cons (d_gl T.c_RIGHT) da_nil)))) d_int d_int))
    (ss_one (s_ret [] (d_callB call_abs c_abs T.b_abs (by decide +kernel) (da_cons (d_op op_sub o_sub (d_ix ix_B o_ix (d_var 2) (d_var 4)) (d_ix ix_B o_ix (d_var 3) (d_var 4))) da_nil)))))))
abbrev s_count_straight : Stmt := top 42
theorem sc_count_straight : FnScope ["setting", "size", "anchor"] ["setting", "size"] (defScope s_count_straight) := ⟨rfl, rfl, rfl, by decide +kernel, rfl, by decide +kernel, by decide +kernel⟩
theorem w_count_straight {fa : Addr} {fd : FuncData} (T : Txt K mg) (Fu : Fun K "count_straight" "count_straight" s_count_straight fa fd) (hm : mg "count_straight" = some (.ref fa)) (hb : Binds K fd ["setting", "size"] []) (G_check_size : FnD P w K mg base 6 "check_size" 2 f_check_size) (G_all_anchors : FnD P w K mg base 2 "all_anchors" 2 f_all_anchors) (G_find_off : FnD P w K mg base 8 "find_off" 2 f_find_off) : FnD P w K mg base 9 "count_straight" 2 f_count_straight := by
  refine FnD.mk' (x := "count_straight") (N := ["setting", "size", "anchor"]) (ps := ["setting", "size"]) (k := 8) Fu sc_count_straight hm hb fun cdv A outer s H E hr => ?_
  have nd : (["setting", "size", "anchor"] : List Str).Nodup := sc_count_straight.nd
  have tk := takes_of (X := cxOf (L2.CX P w) P w K mg base ["setting", "size", "anchor"] "count_straight" (defScope s_count_straight) fa cdv A outer s H E) rfl rfl rfl rfl
  have po := passes_of (X := cxOf (L2.CX P w) P w K mg base ["setting", "size", "anchor"] "count_straight" (defScope s_count_straight) fa cdv A outer s H E) rfl
  unfold b_count_straight
  exact (ss_cons (s_drop [] (d_call G_check_size (hr.mono (by decide)) tk (da_cons (d_var 0) (da_cons (d_var 1) da_nil))))
    (ss_one (s_ret [] (d_callB cr_len c_len T.b_len (by decide +kernel) (da_cons (d_ofL (l_lc rfl nd (i_seq (d_call G_all_anchors (hr.mono (by decide)) tk (da_cons (d_var 0) (da_cons (d_var 1) da_nil)))) (blkOk_by (own := [("anchor", 2)]) rfl) (gokR_name (by decide)) (fun _ _ _ _ _ => (pg_name (i := 2) nd rfl (Or.inl rfl))) (fun _ _ _ _ _ => (ts_one (t_cmp (op_eqD hr.units) o_eq (d_call G_find_off (hr.mono (by decide)) takes0 (da_cons (d_var 0) (da_cons (d_var 2) da_nil))) d_int))) (fun _ _ _ _ _ => (d_var 2)))) da_nil)))))
abbrev s_L_badsetting : Stmt := top 52
theorem sc_L_badsetting : FnScope ["_law_script", "_law_at", "_law_good", "_law_bad"] ["_law_script", "_law_at"] (defScope s_L_badsetting) := ⟨rfl, rfl, rfl, by decide +kernel, rfl, by decide +kernel, by decide +kernel⟩
theorem w_L_badsetting {fa : Addr} {fd : FuncData} (T : Txt K mg) (Fu : Fun K "_law_badsetting" "_law_badsetting" s_L_badsetting fa fd) (hm : mg "_law_badsetting" = some (.ref fa)) (hb : Binds K fd ["_law_script", "_law_at"] []) (G_L_drawn : FnD P w K mg base 2 "_law_drawn" 3 f_L_drawn) : FnD P w K mg base 3 "_law_badsetting" 2 f_L_badsetting := by
  refine FnD.mk' (x := "_law_badsetting") (N := ["_law_script", "_law_at", "_law_good", "_law_bad"]) (ps := ["_law_script", "_law_at"]) (k := 2) Fu sc_L_badsetting hm hb fun cdv A outer s H E hr => ?_
  have nd : (["_law_script", "_law_at", "_law_good", "_law_bad"] : List Str).Nodup := sc_L_badsetting.nd
  have tk := takes_of (X := cxOf (L2.CX P w) P w K mg base ["_law_script", "_law_at", "_law_good", "_law_bad"] "_law_badsetting" (defScope s_L_badsetting) fa cdv A outer s H E) rfl rfl rfl rfl
  have po := passes_of (X := cxOf (L2.CX P w) P w K mg base ["_law_script", "_law_at", "_law_good", "_law_bad"] "_law_badsetting" (defScope s_L_badsetting) fa cdv A outer s H E) rfl
  unfold b_L_badsetting
  exact (ss_cons (s_set (i := 2) [] nd (d_tup (da_cons (d_tup (da_cons d_int (da_cons d_int da_nil))) (da_cons (d_tup (da_cons d_int (da_cons d_int da_nil))) (da_cons d_int (da_cons (d_tup (da_cons d_str da_nil)) da_nil))))))
    (ss_cons (s_setL (i := 3) [] nd (l_lst (da_cons d_non (da_cons (d_tup da_nil) (da_cons (d_cutT (d_var 2) p_none (p_some d_int)) (da_cons (d_op op_addD o_add (d_tup (da_cons (d_tup (da_cons d_int (da_cons d_int da_nil))) da_nil)) (d_cutT (d_var 2) (p_some d_int) p_none)) (da_cons (d_op op_addD o_add (d_tup (da_cons (d_tup (da_cons d_int (da_cons d_int da_nil))) da_nil)) (d_cutT (d_var 2) (p_some d_int) p_none)) da_nil)))))))
    (ss_cons (s_setL (i := 3) [3] nd (l_cat (d_var 3) (d_ofL (l_lst (da_cons (d_tup (da_cons (d_tup (da_cons d_int (da_cons d_int da_nil))) (da_cons (d_tup (da_cons d_int (da_cons d_int da_nil))) (da_cons d_int (da_cons (d_tup (da_cons d_str da_nil)) da_nil))))) da_nil)))))
    (ss_cons (s_setL (i := 3) [3] nd (l_cat (d_var 3) (d_ofL (l_lst (da_cons (d_op op_addD o_add (d_cutT (d_var 2) p_none (p_some d_int)) (d_tup (da_cons d_int (da_cons (d_tup (da_cons d_str da_nil)) da_nil)))) (da_cons (d_op op_addD o_add (d_cutT (d_var 2) p_none (p_some d_int)) (d_tup (da_cons (d_tup da_nil) da_nil))) (da_cons (d_op op_addD o_add (d_cutT (d_var 2) p_none (p_some d_int)) (d_tup (da_cons (d_tup (da_cons d_str (da_cons d_str da_nil))) da_nil))) da_nil)))))))
    (ss_cons (s_setL (i := 3) [3] nd (l_cat (d_var 3) (d_ofL (l_lst (da_cons (d_op op_addD o_add (d_cutT (d_var 2) p_none (p_some d_int)) (d_tup (da_cons (d_tup (da_cons d_str da_nil)) da_nil))) da_nil)))))
    (ss_cons (s_setL (i := 3) [3] nd (l_cat (d_var 3) (d_ofL (l_lst (da_cons (d_ofL (l_listOf T.b_list (d_var 2))) (da_cons (d_op op_addD o_add (d_cutT (d_var 2) p_none (p_some d_int)) (d_tup (da_cons d_bl (da_cons (d_tup (da_cons d_str da_nil)) da_nil)))) (da_cons (d_op op_addD o_add (d_cutT (d_var 2) p_none (p_some d_int)) (d_tup (da_cons (d_ofL (l_lst (da_cons d_str da_nil))) da_nil))) da_nil)))))))
    (ss_cons (s_setL (i := 3) [3] nd (l_cat (d_var 3) (d_ofL (l_lst (da_cons (d_op op_addD o_add (d_cutT (d_var 2) p_none (p_some d_int)) (d_tup (da_cons d_str da_nil))) da_nil)))))
    (ss_one (s_ret [3] (d_ix ix_B o_ix (d_var 3) (d_call G_L_drawn (hr.mono (by decide)) tk (da_cons (d_var 0) (da_cons (d_var 1) (da_cons d_int da_nil))))))))))))))
abbrev s_L_badanchor : Stmt := top 53
theorem sc_L_badanchor : FnScope ["_law_script", "_law_at", "_law_setting_here", "_law_wide", "_law_high", "_law_bad"] ["_law_script", "_law_at", "_law_setting_here"] (defScope s_L_badanchor) := ⟨rfl, rfl, rfl, by decide +kernel, rfl, by decide +kernel, by decide +kernel⟩
theorem w_L_badanchor {fa : Addr} {fd : FuncData} (T : Txt K mg) (Fu : Fun K "_law_badanchor" "_law_badanchor" s_L_badanchor fa fd) (hm : mg "_law_badanchor" = some (.ref fa)) (hb : Binds K fd ["_law_script", "_law_at", "_law_setting_here"] []) (G_L_drawn : FnD P w K mg base 2 "_law_drawn" 3 f_L_drawn) : FnD P w K mg base 3 "_law_badanchor" 3 f_L_badanchor := by
  refine FnD.mk' (x := "_law_badanchor") (N := ["_law_script", "_law_at", "_law_setting_here", "_law_wide", "_law_high", "_law_bad"]) (ps := ["_law_script", "_law_at", "_law_setting_here"]) (k := 2) Fu sc_L_badanchor hm hb fun cdv A outer s H E hr => ?_
  have nd : (["_law_script", "_law_at", "_law_setting_here", "_law_wide", "_law_high", "_law_bad"] : List Str).Nodup := sc_L_badanchor.nd
  have tk := takes_of (X := cxOf (L2.CX P w) P w K mg base ["_law_script", "_law_at", "_law_setting_here", "_law_wide", "_law_high", "_law_bad"] "_law_badanchor" (defScope s_L_badanchor) fa cdv A outer s H E) rfl rfl rfl rfl
  have po := passes_of (X := cxOf (L2.CX P w) P w K mg base ["_law_script", "_law_at", "_law_setting_here", "_law_wide", "_law_high", "_law_bad"] "_law_badanchor" (defScope s_L_badanchor) fa cdv A outer s H E) rfl
  unfold b_L_badanchor
  exact (ss_cons (s_unp [] rfl (g_cons (i := 3) nd (g_cons (i := 4) nd g_nil)) (d_ix ix_B o_ix (d_var 2) d_int))
    (ss_cons (s_setL (i := 5) [] nd (l_lst (da_cons d_non (da_cons (d_tup da_nil) (da_cons (d_tup (da_cons d_int (da_cons d_int (da_cons d_int da_nil)))) (da_cons (d_tup (da_cons (d_var 3) (da_cons d_int (da_cons d_int (da_cons d_int da_nil))))) (da_cons (d_tup (da_cons d_int (da_cons (d_var 4) (da_cons d_int (da_cons d_int da_nil))))) (da_cons (d_tup (da_cons d_int (da_cons d_int (da_cons (d_op op_addD o_add (d_var 3) d_int) (da_cons d_int da_nil))))) da_nil))))))))
    (ss_cons (s_setL (i := 5) [5] nd (l_cat (d_var 5) (d_ofL (l_lst (da_cons (d_tup (da_cons d_int (da_cons d_int (da_cons d_int (da_cons (d_op op_addD o_add (d_var 4) d_int) da_nil))))) (da_cons (d_tup (da_cons (d_un un_neg o_neg d_int) (da_cons d_int (da_cons d_int (da_cons d_int da_nil))))) da_nil))))))
    (ss_one (s_ret [5] (d_ix ix_B o_ix (d_ofL (l_cat (d_var 5) (d_ofL (l_lst (da_cons (d_tup (da_cons d_int (da_cons d_int (da_cons d_int (da_cons d_int da_nil))))) (da_cons (d_ofL (l_lst (da_cons d_int (da_cons d_int (da_cons d_int (da_cons d_int da_nil)))))) (da_cons (d_tup (da_cons d_bl (da_cons d_int (da_cons d_int (da_cons d_int da_nil))))) (da_cons (d_tup (da_cons d_int (da_cons d_int (da_cons d_str (da_cons d_int da_nil))))) da_nil)))))))) (d_call G_L_drawn (hr.mono (by decide)) tk (da_cons (d_var 0) (da_cons (d_var 1) (da_cons d_int da_nil))))))))))
abbrev s_has_anchor : Stmt := top 19
theorem sc_has_anchor : FnScope ["setting", "candidate", "left", "top", "width", "height", "wide", "high"] ["setting", "candidate"] (defScope s_has_anchor) := ⟨rfl, rfl, rfl, by decide +kernel, rfl, by decide +kernel, by decide +kernel⟩
theorem w_has_anchor {fa : Addr} {fd : FuncData} (T : Txt K mg) (Fu : Fun K "has_anchor" "has_anchor" s_has_anchor fa fd) (hm : mg "has_anchor" = some (.ref fa)) (hb : Binds K fd ["setting", "candidate"] []) (G_is_int : FnD P w K mg base 2 "is_int" 3 f_is_int) : FnD P w K mg base 3 "has_anchor" 2 f_has_anchor := by
  refine FnD.mk' (x := "has_anchor") (N := ["setting", "candidate", "left", "top", "width", "height", "wide", "high"]) (ps := ["setting", "candidate"]) (k := 2) Fu sc_has_anchor hm hb fun cdv A outer s H E hr => ?_
  have nd : (["setting", "candidate", "left", "top", "width", "height", "wide", "high"] : List Str).Nodup := sc_has_anchor.nd
  have tk := takes_of (X := cxOf (L2.CX P w) P w K mg base ["setting", "candidate", "left", "top", "width", "height", "wide", "high"] "has_anchor" (defScope s_has_anchor) fa cdv A outer s H E) rfl rfl rfl rfl
  have po := passes_of (X := cxOf (L2.CX P w) P w K mg base ["setting", "candidate", "left", "top", "width", "height", "wide", "high"] "has_anchor" (defScope s_has_anchor) fa cdv A outer s H E) rfl
  unfold b_has_anchor
  exact (ss_cons (s_if [] (t_w (w_or (t_not (t_val (d_isi ty_tuple T.b_isinstance T.b_tuple (by decide +kernel) (d_var 1)))) (w_or1 (t_cmp (op_neD hr.units) o_ne (d_callB cr_len c_len T.b_len (by decide +kernel) (da_cons (d_var 1) da_nil)) d_int)))) (ss_one (s_ret [] d_bl)) ss_nil)
    (ss_cons (s_unp [] rfl (g_cons (i := 2) nd (g_cons (i := 3) nd (g_cons (i := 4) nd (g_cons (i := 5) nd g_nil)))) (d_var 1))
    (ss_cons (s_unp [] rfl (g_cons (i := 6) nd (g_cons (i := 7) nd g_nil)) (d_ix ix_B o_ix (d_var 0) d_int))
    (ss_cons (s_if [] (t_w (w_or (t_not (t_val (d_call G_is_int (hr.mono (by decide)) tk (da_cons (d_var 2) (da_cons d_int (da_cons (d_var 6) da_nil)))))) (w_or1 (t_not (t_val (d_call G_is_int (hr.mono (by decide)) tk (da_cons (d_var 3) (da_cons d_int (da_cons (d_var 7) da_nil))))))))) (ss_one (s_ret [] d_bl)) ss_nil)
    (ss_one (s_ret [] (d_and (d_call G_is_int (hr.mono (by decide)) tk (da_cons (d_var 4) (da_cons d_int (da_cons (d_op op_sub o_sub (d_var 6) (d_var 2)) da_nil)))) (d_one (d_call G_is_int (hr.mono (by decide)) tk (da_cons (d_var 5) (da_cons d_int (da_cons (d_op op_sub o_sub (d_var 7) (d_var 3)) da_nil))))))))))))
abbrev s_check_anchor : Stmt := top 21
theorem sc_check_anchor : FnScope ["setting", "value"] ["setting", "value"] (defScope s_check_anchor) := ⟨rfl, rfl, rfl, by decide +kernel, rfl, by decide +kernel, by decide +kernel⟩
theorem w_check_anchor {fa : Addr} {fd : FuncData} (T : Txt K mg) (Fu : Fun K "check_anchor" "check_anchor" s_check_anchor fa fd) (hm : mg "check_anchor" = some (.ref fa)) (hb : Binds K fd ["setting", "value"] []) (G_has_anchor : FnD P w K mg base 3 "has_anchor" 2 f_has_anchor) : FnD P w K mg base 4 "check_anchor" 2 f_check_anchor := by
  refine FnD.mk' (x := "check_anchor") (N := ["setting", "value"]) (ps := ["setting", "value"]) (k := 3) Fu sc_check_anchor hm hb fun cdv A outer s H E hr => ?_
  have nd : (["setting", "value"] : List Str).Nodup := sc_check_anchor.nd
  have tk := takes_of (X := cxOf (L2.CX P w) P w K mg base ["setting", "value"] "check_anchor" (defScope s_check_anchor) fa cdv A outer s H E) rfl rfl rfl rfl
  have po := passes_of (X := cxOf (L2.CX P w) P w K mg base ["setting", "value"] "check_anchor" (defScope s_check_anchor) fa cdv A outer s H E) rfl
  unfold b_check_anchor
  exact (ss_one (s_if [] (t_not (t_val (d_call G_has_anchor (hr.mono (by decide)) tk (da_cons (d_var 0) (da_cons (d_var 1) da_nil))))) (ss_one (s_raiseD rfl tk T.x_InvalidAnchor)) ss_nil))
abbrev s_check_both : Stmt := top 33
theorem sc_check_both : FnScope ["setting", "anchor"] ["setting", "anchor"] (defScope s_check_both) := ⟨rfl, rfl, rfl, by decide +kernel, rfl, by decide +kernel, by decide +kernel⟩
theorem w_check_both {fa : Addr} {fd : FuncData} (T : Txt K mg) (Fu : Fun K "check_both" "check_both" s_check_both fa fd) (hm : mg "check_both" = some (.ref fa)) (hb : Binds K fd ["setting", "anchor"] []) (G_check_setting : FnD P w K mg base 5 "check_setting" 1 f_check_setting) (G_check_anchor : FnD P w K mg base 4 "check_anchor" 2 f_check_anchor) : FnD P w K mg base 6 "check_both" 2 f_check_both := by
  refine FnD.mk' (x := "check_both") (N := ["setting", "anchor"]) (ps := ["setting", "anchor"]) (k := 5) Fu sc_check_both hm hb fun cdv A outer s H E hr => ?_
  have nd : (["setting", "anchor"] : List Str).Nodup := sc_check_both.nd
  have tk := takes_of (X := cxOf (L2.CX P w) P w K mg base ["setting", "anchor"] "check_both" (defScope s_check_both) fa cdv A outer s H E) rfl rfl rfl rfl
  have po := passes_of (X := cxOf (L2.CX P w) P w K mg base ["setting", "anchor"] "check_both" (defScope s_check_both) fa cdv A outer s H E) rfl
  unfold b_check_both
  exact (ss_cons (s_drop [] (d_call G_check_setting (hr.mono (by decide)) tk (da_cons (d_var 0) da_nil)))
    (ss_one (s_drop [] (d_call G_check_anchor (hr.mono (by decide)) tk (da_cons (d_var 0) (da_cons (d_var 1) da_nil))))))
abbrev s_middle : Stmt := top 36
theorem sc_middle : FnScope ["setting", "anchor"] ["setting", "anchor"] (defScope s_middle) := ⟨rfl, rfl, rfl, by decide +kernel, rfl, by decide +kernel, by decide +kernel⟩
theorem w_middle {fa : Addr} {fd : FuncData} (T : Txt K mg) (Fu : Fun K "middle" "middle" s_middle fa fd) (hm : mg "middle" = some (.ref fa)) (hb : Binds K fd ["setting", "anchor"] []) (G_check_both : FnD P w K mg base 6 "check_both" 2 f_check_both) (G_find_middle : FnD P w K mg base 2 "find_middle" 1 f_find_middle) : FnD P w K mg base 7 "middle" 2 f_middle := by
  refine FnD.mk' (x := "middle") (N := ["setting", "anchor"]) (ps := ["setting", "anchor"]) (k := 6) Fu sc_middle hm hb fun cdv A outer s H E hr => ?_
  have nd : (["setting", "anchor"] : List Str).Nodup := sc_middle.nd
  have tk := takes_of (X := cxOf (L2.CX P w) P w K mg base ["setting", "anchor"] "middle" (defScope s_middle) fa cdv A outer s H E) rfl rfl rfl rfl
  have po := passes_of (X := cxOf (L2.CX P w) P w K mg base ["setting", "anchor"] "middle" (defScope s_middle) fa cdv A outer s H E) rfl
  unfold b_middle
  exact (ss_cons (s_drop [] (d_call G_check_both (hr.mono (by decide)) tk (da_cons (d_var 0) (da_cons (d_var 1) da_nil))))
    (ss_one (s_ret [] (d_call G_find_middle (hr.mono (by decide)) tk (da_cons (d_var 1) da_nil)))))
abbrev s_L_anchors : Stmt := top 51
theorem sc_L_anchors : FnScope ["_law_setting_here", "_law_size", "_law_found", "_law_left", "_law_top"] ["_law_setting_here", "_law_size"] (defScope s_L_anchors) := ⟨rfl, rfl, rfl, by decide +kernel, rfl, by decide +kernel, by decide +kernel⟩
theorem w_L_anchors {fa : Addr} {fd : FuncData} (T : Txt K mg) (Fu : Fun K "_law_anchors" "_law_anchors" s_L_anchors fa fd) (hm : mg "_law_anchors" = some (.ref fa)) (hb : Binds K fd ["_law_setting_here", "_law_size"] []) : FnD P w K mg base 2 "_law_anchors" 2 f_L_anchors := by
  refine FnD.mk' (x := "_law_anchors") (N := ["_law_setting_here", "_law_size", "_law_found", "_law_left", "_law_top"]) (ps := ["_law_setting_here", "_law_size"]) (k := 1) Fu sc_L_anchors hm hb fun cdv A outer s H E hr => ?_
  have nd : (["_law_setting_here", "_law_size", "_law_found", "_law_left", "_law_top"] : List Str).Nodup := sc_L_anchors.nd
  have tk := takes_of (X := cxOf (L2.CX P w) P w K mg base ["_law_setting_here", "_law_size", "_law_found", "_law_left", "_law_top"] "_law_anchors" (defScope s_L_anchors) fa cdv A outer s H E) rfl rfl rfl rfl
  have po := passes_of (X := cxOf (L2.CX P w) P w K mg base ["_law_setting_here", "_law_size", "_law_found", "_law_left", "_law_top"] "_law_anchors" (defScope s_L_anchors) fa cdv A outer s H E) rfl
  unfold b_L_anchors
  exact (ss_cons (s_setL (i := 2) [] nd (l_lst da_nil))
    (ss_cons (s_for [] po rfl (i_range1 T.b_range (da_cons (d_op op_addD o_add (d_op op_sub o_sub (d_ix ix_B o_ix (d_ix ix_B o_ix (d_var 0) d_int) d_int) (d_ix ix_B o_ix (d_var 1) d_int)) d_int) da_nil) (h1 := len_cons1)) (pg_name (i := 3) nd rfl (Or.inr rfl)) (gok_name 3)
    (ss_aft [3] (ss_one (s_setL (i := 2) [2] nd (l_cat (d_var 2) (d_ofL (l_lc rfl nd (i_range1 T.b_range (da_cons (d_op op_addD o_add (d_op op_sub o_sub (d_ix ix_B o_ix (d_ix ix_B o_ix (d_var 0) d_int) d_int) (d_ix ix_B o_ix (d_var 1) d_int)) d_int) da_nil) (h1 := len_cons1)) (blkOk_by (own := [("_law_top", 4)]) rfl) (gokR_name (by decide)) (fun _ _ _ _ _ => (pg_name (i := 4) nd rfl (Or.inl rfl))) (fun _ _ _ _ _ => ts_nil) (fun _ _ _ _ _ => (d_tup (da_cons (d_var 3) (da_cons (d_var 4) (da_cons (d_ix ix_B o_ix (d_var 1) d_int) (da_cons (d_ix ix_B o_ix (d_var 1) d_int) da_nil)))))))))))))
    (ss_one (s_ret [2] (d_var 2)))))
abbrev s_arrow : Stmt := top 39
theorem sc_arrow : FnScope ["setting", "anchor"] ["setting", "anchor"] (defScope s_arrow) := ⟨rfl, rfl, rfl, by decide +kernel, rfl, by decide +kernel, by decide +kernel⟩
theorem w_arrow {fa : Addr} {fd : FuncData} (T : Txt K mg) (Fu : Fun K "arrow" "arrow" s_arrow fa fd) (hm : mg "arrow" = some (.ref fa)) (hb : Binds K fd ["setting", "anchor"] []) (G_check_both : FnD P w K mg base 6 "check_both" 2 f_check_both) (G_find_arrow : FnD P w K mg base 7 "find_arrow" 2 f_find_arrow) : FnD P w K mg base 8 "arrow" 2 f_arrow := by
  refine FnD.mk' (x := "arrow") (N := ["setting", "anchor"]) (ps := ["setting", "anchor"]) (k := 7) Fu sc_arrow hm hb fun cdv A outer s H E hr => ?_
  have nd : (["setting", "anchor"] : List Str).Nodup := sc_arrow.nd
  have tk := takes_of (X := cxOf (L2.CX P w) P w K mg base ["setting", "anchor"] "arrow" (defScope s_arrow) fa cdv A outer s H E) rfl rfl rfl rfl
  have po := passes_of (X := cxOf (L2.CX P w) P w K mg base ["setting", "anchor"] "arrow" (defScope s_arrow) fa cdv A outer s H E) rfl
  unfold b_arrow
  exact (ss_cons (s_drop [] (d_call G_check_both (hr.mono (by decide)) tk (da_cons (d_var 0) (da_cons (d_var 1) da_nil))))
    (ss_one (s_ret [] (d_call G_find_arrow (hr.mono (by decide)) tk (da_cons (d_var 0) (da_cons (d_var 1) da_nil))))))
abbrev s_off_by : Stmt := top 41
theorem sc_off_by : FnScope ["setting", "anchor"] ["setting", "anchor"] (defScope s_off_by) := ⟨rfl, rfl, rfl, by decide +kernel, rfl, by decide +kernel, by decide +kernel⟩
theorem w_off_by {fa : Addr} {fd : FuncData} (T : Txt K mg) (Fu : Fun K "off_by" "off_by" s_off_by fa fd) (hm : mg "off_by" = some (.ref fa)) (hb : Binds K fd ["setting", "anchor"] []) (G_check_both : FnD P w K mg base 6 "check_both" 2 f_check_both) (G_find_off : FnD P w K mg base 8 "find_off" 2 f_find_off) : FnD P w K mg base 9 "off_by" 2 f_off_by := by
  refine FnD.mk' (x := "off_by") (N := ["setting", "anchor"]) (ps := ["setting", "anchor"]) (k := 8) Fu sc_off_by hm hb fun cdv A outer s H E hr => ?_
  have nd : (["setting", "anchor"] : List Str).Nodup := sc_off_by.nd
  have tk := takes_of (X := cxOf (L2.CX P w) P w K mg base ["setting", "anchor"] "off_by" (defScope s_off_by) fa cdv A outer s H E) rfl rfl rfl rfl
  have po := passes_of (X := cxOf (L2.CX P w) P w K mg base ["setting", "anchor"] "off_by" (defScope s_off_by) fa cdv A outer s H E) rfl
  unfold b_off_by
  exact (ss_cons (s_drop [] (d_call G_check_both (hr.mono (by decide)) tk (da_cons (d_var 0) (da_cons (d_var 1) da_nil))))
    (ss_one (s_ret [] (d_call G_find_off (hr.mono (by decide)) tk (da_cons (d_var 0) (da_cons (d_var 1) da_nil))))))
abbrev s_L_error : Stmt := top 54
theorem sc_L_error : FnScope ["_law_way", "_law_one", "_law_two", "e"] ["_law_way", "_law_one", "_law_two"] (defScope s_L_error) := ⟨rfl, rfl, rfl, by decide +kernel, rfl, by decide +kernel, by decide +kernel⟩
theorem w_L_error {fa : Addr} {fd : FuncData} (T : Txt K mg) (Fu : Fun K "_law_error" "_law_error" s_L_error fa fd) (hm : mg "_law_error" = some (.ref fa)) (hb : Binds K fd ["_law_way", "_law_one", "_law_two"] []) (G_arrow : FnD P w K mg base 8 "arrow" 2 f_arrow) (G_middle : FnD P w K mg base 7 "middle" 2 f_middle) (G_off_by : FnD P w K mg base 9 "off_by" 2 f_off_by) (G_count_straight : FnD P w K mg base 9 "count_straight" 2 f_count_straight) : FnD P w K mg base 10 "_law_error" 3 f_L_error := by
  refine FnD.mk' (x := "_law_error") (N := ["_law_way", "_law_one", "_law_two", "e"]) (ps := ["_law_way", "_law_one", "_law_two"]) (k := 9) Fu sc_L_error hm hb fun cdv A outer s H E hr => ?_
  have nd : (["_law_way", "_law_one", "_law_two", "e"] : List Str).Nodup := sc_L_error.nd
  have tk := takes_of (X := cxOf (L2.CX P w) P w K mg base ["_law_way", "_law_one", "_law_two", "e"] "_law_error" (defScope s_L_error) fa cdv A outer s H E) rfl rfl rfl rfl
  have po := passes_of (X := cxOf (L2.CX P w) P w K mg base ["_law_way", "_law_one", "_law_two", "e"] "_law_error" (defScope s_L_error) fa cdv A outer s H E) rfl
  unfold b_L_error
  exact (ss_cons (s_try (i := 3) (N := 4) (h := h_L_error) (res := r_L_error) nd tk rfl rfl (fun _ _ _ tk po => (ss_one (s_drop [] (d_callV (tb_cons G_arrow (by decide) (tb_cons G_middle (by decide) (tb_cons G_off_by (by decide) (tb_cons G_count_straight (by decide) tb_nil)))) hr tk (d_ix ix_B o_ix (d_ofL (l_lst (da_cons (d_fnV G_arrow) (da_cons (d_fnV G_middle) (da_cons (d_fnV G_off_by) (da_cons (d_fnV G_count_straight) da_nil)))))) (d_var 0)) (da_cons (d_var 1) (da_cons (d_var 2) da_nil)))))) (fun c d hcd a oe cls pn hm hz hv => (ss_one (s_ret [] (d_index (su65 hr) (d_ofL (l_lst (da_cons (d_isE (T.e_is c (r_L_error_mem hcd) "InvalidSetting" (by decide)) hm hz hv T.b_isinstance) (da_cons (d_isE (T.e_is c (r_L_error_mem hcd) "InvalidAnchor" (by decide)) hm hz hv T.b_isinstance) (da_cons (d_isE (T.e_is c (r_L_error_mem hcd) "InvalidSize" (by decide)) hm hz hv T.b_isinstance) da_nil))))) d_bl)))) hr_L_error (fun c d hcd => T.e_c c (r_L_error_mem hcd)) T.e_P)
    (ss_one (s_ret [] d_non)))
abbrev s_law : Stmt := top 56
theorem sc_law : FnScope ["_law_script", "_law_setting_here", "_law_k", "_law_anchor_here", "_law_due", "_law_off", "_law_aim", "_law_size", "_law_straight", "_law_odd", "_law_bad", "_law_wrong", "_law_told", "_law_one", "_law_way"] ["_law_script"] (defScope s_law) := ⟨rfl, rfl, rfl, by decide +kernel, rfl, by decide +kernel, by decide +kernel⟩
theorem w_law {fa : Addr} {fd : FuncData} (T : Txt K mg) (Fu : Fun K "law" "law" s_law fa fd) (hm : mg "law" = some (.ref fa)) (hb : Binds K fd ["_law_script"] []) (G_L_setting : FnD P w K mg base 3 "_law_setting" 2 f_L_setting) (G_L_anchor : FnD P w K mg base 3 "_law_anchor" 3 f_L_anchor) (G_L_arrow : FnD P w K mg base 5 "_law_arrow" 2 f_L_arrow) (G_count_straight : FnD P w K mg base 9 "count_straight" 2 f_count_straight) (G_L_badsetting : FnD P w K mg base 3 "_law_badsetting" 2 f_L_badsetting) (G_L_badanchor : FnD P w K mg base 3 "_law_badanchor" 3 f_L_badanchor) (G_L_drawn : FnD P w K mg base 2 "_law_drawn" 3 f_L_drawn) (G_middle : FnD P w K mg base 7 "middle" 2 f_middle) (G_L_anchors : FnD P w K mg base 2 "_law_anchors" 2 f_L_anchors) (G_L_error : FnD P w K mg base 10 "_law_error" 3 f_L_error) (G_arrow : FnD P w K mg base 8 "arrow" 2 f_arrow) (G_off_by : FnD P w K mg base 9 "off_by" 2 f_off_by) : FnOk P w K mg base (L2.CX P w) 11 fa fd ["_law_script"] (spOf K mg 1 f_law) := by
  refine FnD.mkOk (x := "law") (N := ["_law_script", "_law_setting_here", "_law_k", "_law_anchor_here", "_law_due", "_law_off", "_law_aim", "_law_size", "_law_straight", "_law_odd", "_law_bad", "_law_wrong", "_law_told", "_law_one", "_law_way"]) (ps := ["_law_script"]) (k := 10) Fu sc_law hm hb fun cdv A outer s H E hr => ?_
  have nd : (["_law_script", "_law_setting_here", "_law_k", "_law_anchor_here", "_law_due", "_law_off", "_law_aim", "_law_size", "_law_straight", "_law_odd", "_law_bad", "_law_wrong", "_law_told", "_law_one", "_law_way"] : List Str).Nodup := sc_law.nd
  have tk := takes_of (X := cxOf (L2.CX P w) P w K mg base ["_law_script", "_law_setting_here", "_law_k", "_law_anchor_here", "_law_due", "_law_off", "_law_aim", "_law_size", "_law_straight", "_law_odd", "_law_bad", "_law_wrong", "_law_told", "_law_one", "_law_way"] "law" (defScope s_law) fa cdv A outer s H E) rfl rfl rfl rfl
  have po := passes_of (X := cxOf (L2.CX P w) P w K mg base ["_law_script", "_law_setting_here", "_law_k", "_law_anchor_here", "_law_due", "_law_off", "_law_aim", "_law_size", "_law_straight", "_law_odd", "_law_bad", "_law_wrong", "_law_told", "_law_one", "_law_way"] "law" (defScope s_law) fa cdv A outer s H E) rfl
  unfold b_law
  exact (ss_cons (s_set (i := 1) [] nd (d_call G_L_setting (hr.mono (by decide)) tk (da_cons (d_var 0) (da_cons d_int da_nil))))
    (ss_cons (s_for [] po rfl (i_range1 T.b_range (da_cons d_int da_nil) (h1 := len_cons1)) (pg_name (i := 2) nd rfl (Or.inl rfl)) (gok_name 2)
    (ss_aft [2, 4, 5, 6] (ss_cons (s_set (i := 3) [] nd (d_call G_L_anchor (hr.mono (by decide)) tk (da_cons (d_var 0) (da_cons (d_op op_addD o_add d_int (d_op op_mul o_mul d_int (d_var 2))) (da_cons (d_var 1) da_nil)))))
    (ss_cons (s_unp [] rfl (g_cons (i := 4) nd (g_cons (i := 5) nd g_nil)) (d_call G_L_arrow (hr.mono (by decide)) tk (da_cons (d_var 1) (da_cons (d_var 3) da_nil))))
    (ss_cons (s_set (i := 6) [] nd (d_tup (da_cons (d_op op_addD o_add (d_ix ix_B o_ix (d_var 3) d_int) (d_op op_fdivW o_div (d_op op_sub o_sub (d_ix ix_B o_ix (d_var 3) d_int) d_int) d_int)) (da_cons (d_op op_addD o_add (d_ix ix_B o_ix (d_var 3) d_int) (d_op op_fdivW o_div (d_op op_sub o_sub (d_ix ix_B o_ix (d_var 3) d_int) d_int) d_int)) da_nil))))
    (ss_cons (s_if [] (t_cmp (op_neD hr.units) o_ne (d_call G_middle (hr.mono (by decide)) tk (da_cons (d_var 1) (da_cons (d_var 3) da_nil))) (d_var 6)) (ss_one (s_ret [] d_bl)) ss_nil)
    (ss_one (s_if [] (t_w (w_or (t_cmp (op_neD hr.units) o_ne (d_call G_arrow (hr.mono (by decide)) tk (da_cons (d_var 1) (da_cons (d_var 3) da_nil))) (d_var 4)) (w_or1 (t_cmp (op_neD hr.units) o_ne (d_call G_off_by (hr.mono (by decide)) tk (da_cons (d_var 1) (da_cons (d_var 3) da_nil))) (d_var 5))))) (ss_one (s_ret [] d_bl)) ss_nil))))))))
    (ss_cons (s_set (i := 7) [] nd (d_cutT (d_var 3) (p_some d_int) p_none))
    (ss_cons (s_setLc (i := 8) [] rfl nd (i_seq (d_call G_L_anchors (hr.mono (by decide)) tk (da_cons (d_var 1) (da_cons (d_var 7) da_nil)))) (blkOk_by (own := [("_law_one", 13)]) rfl) (gokR_name (by decide)) (fun _ _ _ _ _ => (pg_name (i := 13) nd rfl (Or.inl rfl))) (fun _ _ _ _ _ => (ts_one (t_cmp (op_eqD hr.units) o_eq (d_ix ix_B o_ix (d_call G_L_arrow (hr.mono (by decide)) takes0 (da_cons (d_var 1) (da_cons (d_var 13) da_nil))) d_int) d_int))) (fun _ _ _ _ _ => (d_var 13)))
    (ss_cons (s_if [8] (t_cmp (op_neD hr.units) o_ne (d_call G_count_straight (hr.mono (by decide)) tk (da_cons (d_var 1) (da_cons (d_var 7) da_nil))) (d_callB cr_len c_len T.b_len (by decide +kernel) (da_cons (d_var 8) da_nil))) (ss_one (s_ret [] d_bl)) ss_nil)
    (ss_cons (s_parT [] rfl (g_cons (i := 9) nd (g_cons (i := 10) nd g_nil)) (dm_s (d_call G_L_badsetting (hr.mono (by decide)) tk (da_cons (d_var 0) (da_cons d_int da_nil))) (dm_s (d_call G_L_badanchor (hr.mono (by decide)) tk (da_cons (d_var 0) (da_cons d_int (da_cons (d_var 1) da_nil)))) dm_nil)))
    (ss_cons (s_setL (i := 11) [] nd (l_lst (da_cons d_non (da_cons (d_tup (da_cons d_int (da_cons d_int da_nil))) (da_cons (d_tup (da_cons d_int (da_cons d_int da_nil))) (da_cons (d_tup (da_cons (d_op op_addD o_add (d_ix ix_B o_ix (d_ix ix_B o_ix (d_var 1) d_int) d_int) d_int) (da_cons d_int da_nil))) (da_cons (d_tup (da_cons d_int (da_cons (d_op op_addD o_add (d_ix ix_B o_ix (d_ix ix_B o_ix (d_var 1) d_int) d_int) d_int) da_nil))) (da_cons (d_ofL (l_lst (da_cons d_int (da_cons d_int da_nil)))) da_nil))))))))
    (ss_cons (s_setL (i := 11) [11] nd (l_cat (d_var 11) (d_ofL (l_lst (da_cons (d_tup (da_cons d_bl (da_cons d_int da_nil))) (da_cons (d_tup (da_cons d_int da_nil)) da_nil))))))
    (ss_cons (s_set (i := 11) [11] nd (d_ix ix_B o_ix (d_var 11) (d_call G_L_drawn (hr.mono (by decide)) tk (da_cons (d_var 0) (da_cons d_int (da_cons d_int da_nil))))))
    (ss_cons (s_setL (i := 12) [] nd (l_cat (d_ofL (l_lc rfl nd (i_range1 T.b_range (da_cons d_int da_nil) (h1 := len_cons1)) (blkOk_by (own := [("_law_way", 14)]) rfl) (gokR_name (by decide)) (fun _ _ _ _ _ => (pg_name (i := 14) nd rfl (Or.inl rfl))) (fun _ _ _ _ _ => ts_nil) (fun _ _ _ _ _ => (d_call G_L_error (hr.mono (by decide)) takes0 (da_cons (d_var 14) (da_cons (d_var 9) (da_cons (d_var 10) da_nil))))))) (d_ofL (l_lc rfl nd (i_range1 T.b_range (da_cons d_int da_nil) (h1 := len_cons1)) (blkOk_by (own := [("_law_way", 14)]) rfl) (gokR_name (by decide)) (fun _ _ _ _ _ => (pg_name (i := 14) nd rfl (Or.inl rfl))) (fun _ _ _ _ _ => ts_nil) (fun _ _ _ _ _ => (d_call G_L_error (hr.mono (by decide)) takes0 (da_cons (d_var 14) (da_cons (d_var 1) (da_cons (d_var 10) da_nil)))))))))
    (ss_one (s_ret [11, 12] (d_cmp (op_eqD hr.units) o_eq (d_ofL (l_cat (d_var 12) (d_ofL (l_lst (da_cons (d_call G_L_error (hr.mono (by decide)) tk (da_cons d_int (da_cons (d_var 1) (da_cons (d_var 11) da_nil)))) da_nil))))) (d_ofL (l_cat (d_ofL (l_cat (d_ofL (l_rep (d_ofL (l_lst (da_cons d_int da_nil))) d_int)) (d_ofL (l_rep (d_ofL (l_lst (da_cons d_int da_nil))) d_int)))) (d_ofL (l_lst (da_cons d_int da_nil))))))))))))))))))
end
end Pk
namespace Pk
open PySem Dl
/-- least ≤ value ≤ most -/
def inI (a v b : Int) : Bool := decide (a ≤ v) && decide (v ≤ b)
theorem inI_yes {a v b : Int} (h : a ≤ v) (h2 : v ≤ b) : inI a v b = true := by simp [inI, h, h2]
theorem inI_no {a v b : Int} (h : ¬ (a ≤ v ∧ v ≤ b)) : inI a v b = false := by
  unfold inI
  by_cases h1 : a ≤ v <;> by_cases h2 : v ≤ b <;> simp_all
theorem p_is_int (v a b : Int) : f_is_int [.int v, .int a, .int b] = some (.ok (.bl (inI a v b))) := by
  by_cases h : a ≤ v <;> simp [f_is_int, b_is_int, h, tyInt, tyBool, inI]
theorem p_is_intB (v : Bool) (a b : Int) : f_is_int [.bl v, .int a, .int b] = some (.ok (.bl false)) := by
  simp [f_is_int, b_is_int, tyInt, tyBool]
theorem p_is_size (a b W H : Int) : f_is_size [.tup [.int a, .int b], .int W, .int H] = some (.ok (.bl (inI 1 a W && inI 1 b H))) := by
  have e1 := p_is_int a 1 W
  have e2 := p_is_int b 1 H
  generalize inI 1 a W = x1 at e1 ⊢
  generalize inI 1 b H = x2 at e2 ⊢
  cases x1 <;> cases x2 <;> simp [f_is_size, b_is_size, tyTuple, e1, e2]
inductive Sd where
  | t | b | l | r
deriving DecidableEq
def Sd.nm : Sd → Str
  | .t => "top"
  | .b => "bottom"
  | .l => "left"
  | .r => "right"
@[simp] theorem nm_t : Sd.t.nm = "top" := rfl
@[simp] theorem nm_b : Sd.b.nm = "bottom" := rfl
@[simp] theorem nm_l : Sd.l.nm = "left" := rfl
@[simp] theorem nm_r : Sd.r.nm = "right" := rfl
abbrev sdD (x : Sd) : D := .str x.nm
def sd4 : List Sd := [.t, .b, .l, .r]
/-- sides, no two alike, at least one -/
def okSd (s : List Sd) : Bool := decide (s.Nodup) && !s.isEmpty && decide (s.length ≤ 4)
def perms : Nat → List (List Sd)
  | 0 => [[]]
  | n + 1 => (perms n).flatMap fun s => (sd4.filter fun x => !s.contains x).map fun x => x :: s
theorem perms_all : ∀ (s : List Sd), s.Nodup → s ∈ perms s.length
  | [], _ => List.mem_cons_self
  | x :: s, h => by
    have h2 := List.nodup_cons.mp h
    refine List.mem_flatMap.mpr ⟨s, perms_all s h2.2, List.mem_map.mpr ⟨x, List.mem_filter.mpr ⟨by cases x <;> decide, ?_⟩, rfl⟩⟩
    simpa using h2.1
def yes : Oe D → Bool
  | some (.ok (.bl true)) => true
  | _ => false
theorem of_yes {o : Oe D} (h : yes o = true) : o = some (.ok (.bl true)) := by
  unfold yes at h
  split at h
  · rfl
  · cases h
theorem sides_ok : (([1, 2, 3, 4].flatMap perms).all fun s => yes (f_are_sides [.tup (s.map sdD)])) = true := by decide +kernel
structure OkSd (s : List Sd) : Prop where
  nd : s.Nodup
  ne : s ≠ []
  len : s.length ≤ 4
theorem p_are_sides {s : List Sd} (h : OkSd s) : f_are_sides [.tup (s.map sdD)] = some (.ok (.bl true)) := by
  refine of_yes (List.all_eq_true.mp sides_ok s (List.mem_flatMap.mpr ⟨s.length, ?_, perms_all s h.nd⟩))
  have h1 := h.len
  have h2 : s.length ≠ 0 := fun z => h.ne (List.eq_nil_of_length_eq_zero z)
  have : s.length = 1 ∨ s.length = 2 ∨ s.length = 3 ∨ s.length = 4 := by omega
  rcases this with e | e | e | e <;> rw [e] <;> decide
theorem okN_sd (n : Nat) (x : Sd) : okN (n + 1) (sdD x) = true := by
  show layS x.nm = true
  cases x <;> decide +kernel
theorem okN_sds (n : Nat) (s : List Sd) : okN (n + 2) (.lst (s.map sdD)) = true := by
  show (s.map sdD).all (okN (n + 1)) = true
  rw [List.all_eq_true]
  intro d hd
  obtain ⟨x, _, rfl⟩ := List.mem_map.mp hd
  exact okN_sd n x
theorem okN_tsd (n : Nat) (s : List Sd) : okN (n + 2) (.tup (s.map sdD)) = true := okN_sds n s
structure OkS (w h bw bh g : Int) (s : List Sd) : Prop where
  w1 : 1 ≤ w
  w2 : w ≤ 30
  h1 : 1 ≤ h
  h2 : h ≤ 30
  bw1 : 1 ≤ bw
  bw2 : bw ≤ w
  bh1 : 1 ≤ bh
  bh2 : bh ≤ h
  g1 : 0 ≤ g
  g2 : g ≤ 5
  s1 : OkSd s
abbrev stD (w h bw bh g : Int) (s : List Sd) : D := .tup [.tup [.int w, .int h], .tup [.int bw, .int bh], .int g, .tup (s.map sdD)]
theorem p_is_setting {w h bw bh g : Int} {s : List Sd} (o : OkS w h bw bh g s) : f_is_setting [stD w h bw bh g s] = some (.ok (.bl true)) := by
  simp [f_is_setting, b_is_setting, tyTuple, p_is_int, p_is_size, inI_yes o.w1 o.w2, inI_yes o.h1 o.h2, inI_yes o.bw1 o.bw2, inI_yes o.bh1 o.bh2, inI_yes o.g1 o.g2, p_are_sides o.s1]
theorem p_check_setting {w h bw bh g : Int} {s : List Sd} (o : OkS w h bw bh g s) : f_check_setting [stD w h bw bh g s] = some (.ok .non) := by
  simp [f_check_setting, b_check_setting, p_is_setting o]
structure OkA (w h l t sw sh : Int) : Prop where
  l1 : 0 ≤ l
  t1 : 0 ≤ t
  sw1 : 1 ≤ sw
  sh1 : 1 ≤ sh
  l2 : l + sw ≤ w
  t2 : t + sh ≤ h
abbrev anD (l t sw sh : Int) : D := .tup [.int l, .int t, .int sw, .int sh]
theorem p_has_anchor4 (w h l t sw sh : Int) (a b c : D) : f_has_anchor [.tup [.tup [.int w, .int h], a, b, c], anD l t sw sh] = some (.ok (.bl (inI 0 l w && inI 0 t h && inI 1 sw (w - l) && inI 1 sh (h - t)))) := by
  have e1 := p_is_int l 0 w
  have e2 := p_is_int t 0 h
  have e3 := p_is_int sw 1 (w - l)
  have e4 := p_is_int sh 1 (h - t)
  generalize inI 0 l w = x1 at e1 ⊢
  generalize inI 0 t h = x2 at e2 ⊢
  generalize inI 1 sw (w - l) = x3 at e3 ⊢
  generalize inI 1 sh (h - t) = x4 at e4 ⊢
  cases x1 <;> cases x2 <;> cases x3 <;> cases x4 <;> simp [f_has_anchor, b_has_anchor, tyTuple, e1, e2, e3, e4]
theorem p_has_anchor {w h l t sw sh : Int} (a b c : D) (o : OkA w h l t sw sh) : f_has_anchor [.tup [.tup [.int w, .int h], a, b, c], anD l t sw sh] = some (.ok (.bl true)) := by
  obtain ⟨h1, h2, h3, h4, h5, h6⟩ := o
  rw [p_has_anchor4, inI_yes h1 (by omega), inI_yes h2 (by omega), inI_yes h3 (by omega), inI_yes h4 (by omega)]; rfl
/-- four numbers that are no anchor -/
theorem p_no_anchor {w h l t sw sh : Int} (a b c : D) (no : ¬ (0 ≤ l ∧ l ≤ w ∧ 0 ≤ t ∧ t ≤ h ∧ 1 ≤ sw ∧ sw ≤ w - l ∧ 1 ≤ sh ∧ sh ≤ h - t)) : f_has_anchor [.tup [.tup [.int w, .int h], a, b, c], anD l t sw sh] = some (.ok (.bl false)) := by
  rw [p_has_anchor4]
  have : (inI 0 l w && inI 0 t h && inI 1 sw (w - l) && inI 1 sh (h - t)) = false := by
    cases q : (inI 0 l w && inI 0 t h && inI 1 sw (w - l) && inI 1 sh (h - t)) with
    | false => rfl
    | true =>
      simp only [inI, Bool.and_eq_true, decide_eq_true_eq] at q
      exact (no (by omega)).elim
  rw [this]
theorem p_no_anchorB {w h l t sh : Int} {sw : Bool} (a b c : D) : f_has_anchor [.tup [.tup [.int w, .int h], a, b, c], .tup [.int l, .int t, .bl sw, .int sh]] = some (.ok (.bl false)) := by
  have e1 := p_is_int l 0 w
  have e2 := p_is_int t 0 h
  generalize inI 0 l w = x1 at e1
  generalize inI 0 t h = x2 at e2
  cases x1 <;> cases x2 <;> simp [f_has_anchor, b_has_anchor, tyTuple, e1, e2, p_is_intB]
theorem p_no_anchorN {st : D} {d : D} (h : tyTuple d = some false) : f_has_anchor [st, d] = some (.ok (.bl false)) := by
  simp [f_has_anchor, b_has_anchor, h]
theorem p_no_anchor3 {st : D} {a b c : D} : f_has_anchor [st, .tup [a, b, c]] = some (.ok (.bl false)) := by
  simp [f_has_anchor, b_has_anchor, tyTuple]
theorem p_check_anchor {w h l t sw sh : Int} (a b c : D) (o : OkA w h l t sw sh) : f_check_anchor [.tup [.tup [.int w, .int h], a, b, c], anD l t sw sh] = some (.ok .non) := by
  simp [f_check_anchor, b_check_anchor, p_has_anchor a b c o]
def roomB (w h bw bh g l t sw sh : Int) : Sd → Bool
  | .t => decide (bh + g ≤ t)
  | .b => decide (t + sh + g + bh ≤ h)
  | .l => decide (bw + g ≤ l)
  | .r => decide (l + sw + g + bw ≤ w)
theorem p_has_room (w h bw bh g l t sw sh : Int) (c : D) (s : Sd) : f_has_room [.tup [.tup [.int w, .int h], .tup [.int bw, .int bh], .int g, c], anD l t sw sh, .str s.nm] = some (.ok (.bl (roomB w h bw bh g l t sw sh s))) := by
  cases s <;> simp [f_has_room, b_has_room, roomB]
theorem map_sd {s : List Sd} {p : Sd → Bool} {q : D → Bool} (h : ∀ x, q (sdD x) = p x) : (s.map sdD).filter q = (s.filter p).map sdD := by
  rw [List.filter_map]
  congr 1
  exact List.filter_congr fun x _ => h x
def sdOf : D → Option Sd
  | .str x => if x = "top" then some .t else if x = "bottom" then some .b else if x = "left" then some .l else if x = "right" then some .r else none
  | _ => none
@[simp] theorem sdOf_nm (x : Sd) : sdOf (sdD x) = some x := by cases x <;> rfl
/-- a test of sides as a test of data -/
def onSd (p : Sd → Bool) (d : D) : Bool := match sdOf d with
  | some x => p x
  | none => false
@[simp] theorem onSd_nm (p : Sd → Bool) (x : Sd) : onSd p (sdD x) = p x := by simp only [onSd, sdOf_nm]
theorem p_find_fitting (w h bw bh g l t sw sh : Int) {s : List Sd} (hs : s.length ≤ 4) : f_find_fitting [stD w h bw bh g s, anD l t sw sh] = some (.ok (.lst ((s.filter (roomB w h bw bh g l t sw sh)).map sdD))) := by
  have e := lc_filter (t := tgRN 2) (test := toB (sFn 3 f_has_room (sCons (sV 0) (sCons (sV 1) (sCons (sV 2) sNil))))) (elt := sV 2) (ρ := [some (stD w h bw bh g s), some (anD l t sw sh), none]) (onSd (roomB w h bw bh g l t sw sh)) id (s.map sdD) fun d hd => by
    obtain ⟨x, _, rfl⟩ := List.mem_map.mp hd
    exact ⟨_, rfl, by simp [p_has_room], by simp⟩
  rw [map_sd (onSd_nm _), List.map_id] at e
  have hs2 : s.length ≤ 1000000 := by omega
  simp [f_find_fitting, b_find_fitting, e, hs2]
def sideOf (s : List Sd) (p : Sd → Bool) : D := match s.filter p with
  | [] => .str "over"
  | x :: _ => sdD x
theorem p_find_side (w h bw bh g l t sw sh : Int) {s : List Sd} (hs : s.length ≤ 4) : f_find_side [stD w h bw bh g s, anD l t sw sh] = some (.ok (sideOf s (roomB w h bw bh g l t sw sh))) := by
  have e := p_find_fitting w h bw bh g l t sw sh hs
  have hl : (s.filter (roomB w h bw bh g l t sw sh)).length ≤ 4 := Nat.le_trans (List.length_filter_le _ _) hs
  unfold sideOf
  generalize s.filter (roomB w h bw bh g l t sw sh) = r at e hl ⊢
  have hl2 : r.length + 1 ≤ 1000000 := by omega
  cases r with
  | nil => simp [f_find_side, b_find_side, e]
  | cons x r =>
    have hl3 : r.length + 1 + 1 ≤ 1000000 := by simpa using hl2
    simp [f_find_side, b_find_side, e, hl3]
theorem p_is_side (x : Sd) : f_is_side [.str x.nm] = some (.ok (.bl true)) := of_yes (by cases x <;> decide +kernel)
theorem kv2 (a b : L2.V) : L2.mergeK [] [(Sum.inr ("top" : Str), a), (Sum.inr ("bottom" : Str), b)] = ([(Sum.inr ("top" : Str), a), (Sum.inr ("bottom" : Str), b)] : List (L2.Key × L2.V)) := rfl
theorem kv3 (a b c : L2.V) : L2.putK ([(Sum.inr ("top" : Str), a), (Sum.inr ("bottom" : Str), b)] : List (L2.Key × L2.V)) (Sum.inr ("left" : Str)) c = [(Sum.inr ("top" : Str), a), (Sum.inr ("bottom" : Str), b), (Sum.inr ("left" : Str), c)] := rfl
theorem kv4 (a b c d : L2.V) : L2.putK ([(Sum.inr ("top" : Str), a), (Sum.inr ("bottom" : Str), b), (Sum.inr ("left" : Str), c)] : List (L2.Key × L2.V)) (Sum.inr ("right" : Str)) d = [(Sum.inr ("top" : Str), a), (Sum.inr ("bottom" : Str), b), (Sum.inr ("left" : Str), c), (Sum.inr ("right" : Str), d)] := rfl
theorem kg_t (a b c d : L2.V) : L2.valV ([(Sum.inr ("top" : Str), a), (Sum.inr ("bottom" : Str), b), (Sum.inr ("left" : Str), c), (Sum.inr ("right" : Str), d)] : List (L2.Key × L2.V)) (Sum.inr ("top" : Str)) = some a := rfl
theorem kg_b (a b c d : L2.V) : L2.valV ([(Sum.inr ("top" : Str), a), (Sum.inr ("bottom" : Str), b), (Sum.inr ("left" : Str), c), (Sum.inr ("right" : Str), d)] : List (L2.Key × L2.V)) (Sum.inr ("bottom" : Str)) = some b := rfl
theorem kg_l (a b c d : L2.V) : L2.valV ([(Sum.inr ("top" : Str), a), (Sum.inr ("bottom" : Str), b), (Sum.inr ("left" : Str), c), (Sum.inr ("right" : Str), d)] : List (L2.Key × L2.V)) (Sum.inr ("left" : Str)) = some c := rfl
theorem kg_r (a b c d : L2.V) : L2.valV ([(Sum.inr ("top" : Str), a), (Sum.inr ("bottom" : Str), b), (Sum.inr ("left" : Str), c), (Sum.inr ("right" : Str), d)] : List (L2.Key × L2.V)) (Sum.inr ("right" : Str)) = some d := rfl
theorem fl10 : dPow (.int 10) (.int 18) = some (.int 1000000000000000000) := rfl
theorem fl_d1 : divOk 1000000000000000000 = true := by decide
theorem fl_d2 : divOk 840 = true := by decide
theorem fl_d3 : divOk 31 = true := by decide
theorem sm (i : Int) (h : 0 ≤ i) (h2 : i < 18446744073709551616) : small64 i = true := by
  unfold small64
  simp only [Bool.and_eq_true, decide_eq_true_eq]
  omega
theorem divOk_of {i : Int} (h : 0 < i) (h2 : i < 1000000) : divOk i = true := by
  unfold divOk
  simp only [Bool.and_eq_true, decide_eq_true_eq]
  omega
theorem pick_loop (d0 d1 d2 d3 : D) : ∀ (n : Nat) (r a : Int), a ≤ n → ∃ r' a', whileS [] (bAnd (toB (sOp dGt (sV 4) (sC (.int 0)))) (toB (sOp dGt (sV 5) (sC (.int 0))))) (sPar [] [4, 5] [.s (sOp dDiv (sV 4) (sC (.int 840))), .s (sOp dSub (sV 5) (sC (.int 1)))]) (n + 1)
      [.dat d0, .dat d1, .dat d2, .dat d3, .dat (.int r), .dat (.int a), .no] = some (.nx [.dat d0, .dat d1, .dat d2, .dat d3, .dat (.int r'), .dat (.int a'), .no]) := by
  intro n
  induction n with
  | zero =>
    intro r a h
    have h' : ¬ (0 < a) := by omega
    refine ⟨r, a, ?_⟩
    by_cases hr : 0 < r <;> simp [whileS, hr, h']
  | succ n ih =>
    intro r a h
    by_cases hr : 0 < r
    · by_cases ha : 0 < a
      · obtain ⟨r', a', e⟩ := ih (r / 840) (a - 1) (by omega)
        refine ⟨r', a', ?_⟩
        rw [whileS]
        simp [hr, ha, fl_d2, parS]
        exact e
      · refine ⟨r, a, ?_⟩
        rw [whileS]
        simp [hr, ha]
    · refine ⟨r, a, ?_⟩
      rw [whileS]
      simp [hr]
theorem pick_cell (ns : List Int) (k : Int) (hk : 0 ≤ k) (d2 : D) : ∃ cell : Int, sIfE (toB (sOp dNe (sV 0) (sOfL (sLst sNil)))) (sOp dIx (sV 0) (sOp dMod (sV 1) (sCall dLen (sCons (sV 0) sNil)))) (sC (.int 0)) [some (.scr ns), some (.int k), some d2, none, none, none, none] = some (.ok (.int cell)) := by
  cases ns with
  | nil => exact ⟨0, by simp [ne_scr_nil]⟩
  | cons c r =>
    have hl : (0 : Int) < ((c :: r).length : Int) := by rw [List.length_cons]; omega
    obtain ⟨a, e, _⟩ := at_in (xs := c :: r) (i := k % ((c :: r).length : Int)) (Int.emod_nonneg _ (by omega)) (Int.emod_lt_of_pos _ hl)
    generalize c :: r = ns at *
    refine ⟨a, ?_⟩
    have hne : ns.isEmpty = false := by cases ns with
      | nil => simp at hl
      | cons => rfl
    have hl2 : 0 < ns.length := by omega
    simp [ne_scr_nil, hne, hl2, e]
theorem map_erase : ∀ (es : List Sd) (r : Nat), (es.map sdD).eraseIdx r = (es.eraseIdx r).map sdD
  | [], _ => rfl
  | _ :: _, 0 => rfl
  | x :: es, r + 1 => by
    show sdD x :: (es.map sdD).eraseIdx r = sdD x :: (es.eraseIdx r).map sdD
    rw [map_erase es r]
theorem perm_erase : ∀ (es : List Sd) (r : Nat) (h : r < es.length), (es[r] :: es.eraseIdx r).Perm es
  | [], _, h => absurd h (Nat.not_lt_zero _)
  | _ :: _, 0, _ => .refl _
  | x :: es, r + 1, h => by
    have h' : r < es.length := by simpa using h
    have ih := perm_erase es r h'
    show (es[r] :: x :: es.eraseIdx r).Perm (x :: es)
    exact (List.Perm.swap _ _ _).trans (.cons x ih)
/-- the anchors of one size -/
def ancs (w h sw sh : Int) : List D := (rgD 0 (w - sw + 1).toNat).flatMap fun l => (rgD 0 (h - sh + 1).toNat).map fun t => .tup [l, t, .int sw, .int sh]
theorem ancs_mem {w h sw sh : Int} {d : D} (m : d ∈ ancs w h sw sh) (h1 : 1 ≤ sw) (h2 : 1 ≤ sh) : ∃ l t : Int, d = anD l t sw sh ∧ OkA w h l t sw sh := by
  obtain ⟨dl, hl, m⟩ := List.mem_flatMap.mp m
  obtain ⟨dt, ht, rfl⟩ := List.mem_map.mp m
  obtain ⟨i, hi, rfl⟩ := rgD_mem hl
  obtain ⟨j, hj, rfl⟩ := rgD_mem ht
  exact ⟨0 + i, 0 + j, rfl, by omega, by omega, h1, h2, by omega, by omega⟩
theorem lfAll_of {ds : List D} (h : ∀ d, d ∈ ds → lf d = true) : lfAll ds = true := by
  induction ds with
  | nil => rfl
  | cons d ds ih => simp only [lfAll, h d List.mem_cons_self, ih fun d hd => h d (List.mem_cons_of_mem _ hd)]; rfl
/-- a side, or none: over -/
def sdO : Option Sd → D
  | none => .str "over"
  | some x => sdD x
theorem sideOf_eq (s : List Sd) (p : Sd → Bool) : sideOf s p = sdO (s.find? p) := by
  unfold sideOf
  rw [← List.head?_filter]
  cases s.filter p <;> rfl
theorem p_find_sideO (w h bw bh g l t sw sh : Int) {s : List Sd} (hs : s.length ≤ 4) : f_find_side [stD w h bw bh g s, anD l t sw sh] = some (.ok (sdO (s.find? (roomB w h bw bh g l t sw sh)))) := by
  rw [p_find_side w h bw bh g l t sw sh hs, sideOf_eq]
theorem p_centred (a s b : Int) : f_centred [.int a, .int s, .int b] = some (.ok (.int (a + (s - b) / 2))) := by
  have : divOk 2 = true := by decide
  simp [f_centred, b_centred, this]
def clampI (x m : Int) : Int := if x < 0 then 0 else if m < x then m else x
theorem p_within (x b sc : Int) (h : b ≤ sc) : f_within [.int x, .int b, .int sc] = some (.ok (.int (clampI x (sc - b)))) := by
  simp [f_within, b_within]
  unfold clampI
  repeat' split
  all_goals omega
def rawX (bw g l sw : Int) : Option Sd → Int
  | some .l => l - g - bw
  | some .r => l + sw + g
  | _ => l + (sw - bw) / 2
def rawY (bh g t sh : Int) : Option Sd → Int
  | some .t => t - g - bh
  | some .b => t + sh + g
  | _ => t + (sh - bh) / 2
theorem p_find_raw (w h bw bh g l t sw sh : Int) {s : List Sd} (hs : s.length ≤ 4) : f_find_raw [stD w h bw bh g s, anD l t sw sh] = some (.ok (.tup [.int (rawX bw g l sw (s.find? (roomB w h bw bh g l t sw sh))), .int (rawY bh g t sh (s.find? (roomB w h bw bh g l t sw sh)))])) := by
  have e := p_find_sideO w h bw bh g l t sw sh hs
  generalize s.find? (roomB w h bw bh g l t sw sh) = o at e ⊢
  cases o with
  | none => simp [f_find_raw, b_find_raw, p_centred, e, rawX, rawY, sdO, sdD, parS]
  | some x => cases x <;> simp [f_find_raw, b_find_raw, p_centred, e, rawX, rawY, sdO, sdD, parS]
def plX (w bw g l sw : Int) (o : Option Sd) : Int := clampI (rawX bw g l sw o) (w - bw)
def plY (h bh g t sh : Int) (o : Option Sd) : Int := clampI (rawY bh g t sh o) (h - bh)
theorem clamp_in (x : Int) {m : Int} (h : 0 ≤ m) : 0 ≤ clampI x m ∧ clampI x m ≤ m := by
  unfold clampI
  repeat' split
  all_goals omega
theorem p_find_place {w h bw bh g l t sw sh : Int} {s : List Sd} (hw : bw ≤ w) (hh : bh ≤ h) (hs : s.length ≤ 4) : f_find_place [stD w h bw bh g s, anD l t sw sh] = some (.ok (anD (plX w bw g l sw (s.find? (roomB w h bw bh g l t sw sh))) (plY h bh g t sh (s.find? (roomB w h bw bh g l t sw sh))) bw bh)) := by
  simp [f_find_place, b_find_place, p_find_raw w h bw bh g l t sw sh hs, p_within _ _ _ hw, p_within _ _ _ hh, parS, plX, plY]
theorem p_check_both {w h bw bh g l t sw sh : Int} {s : List Sd} (o : OkS w h bw bh g s) (a : OkA w h l t sw sh) : f_check_both [stD w h bw bh g s, anD l t sw sh] = some (.ok .non) := by
  simp [f_check_both, b_check_both, p_check_setting o, p_check_anchor _ _ _ a]
def cmn (a la b lb : Int) : Int := if (if b + lb < a + la then b + lb else a + la) - (if b > a then b else a) > 0 then (if b + lb < a + la then b + lb else a + la) - (if b > a then b else a) else 0
theorem cmn_pos (a la b lb : Int) : 0 < cmn a la b lb ↔ (b < a + la ∧ a < b + lb ∧ 0 < la ∧ 0 < lb) := by
  unfold cmn
  repeat' split
  all_goals omega
theorem cmn_mm (a la b lb : Int) : cmn a la b lb = max 0 (min (a + la) (b + lb) - max a b) := by
  unfold cmn
  repeat' split
  all_goals omega
theorem cmn_nn (a la b lb : Int) : 0 ≤ cmn a la b lb := by
  unfold cmn
  repeat' split
  all_goals omega
theorem cmn_le (a la b lb : Int) (h : 0 ≤ la) : cmn a la b lb ≤ la := by
  unfold cmn
  repeat' split
  all_goals omega
def ovl (l t sw sh x y bw bh : Int) : Int := cmn l sw x bw * cmn t sh y bh
theorem cut2 (a b c d : D) : cutD [a, b, c, d] none (some 2) = [a, b] := rfl
theorem ne_pair (a b c d : Int) : dNe (.tup [.int a, .int b]) (.tup [.int c, .int d]) = some (.bl (!(a == c && (b == d && true)))) := rfl
theorem eq_pair (a b c d : Int) : dEq (.tup [.int a, .int b]) (.tup [.int c, .int d]) = some (.bl (a == c && (b == d && true))) := rfl
theorem for_ret {t : Tgt} {b : Ss} {ρ0 : Sig} (p : D → Bool) (r : D → D) : ∀ (ds : List D), (∀ d, d ∈ ds → ∃ ρ1, t d ρ0 = some ρ1 ∧ b ρ1 = if p d = true then some (.rt (r d)) else some (.nx ρ0)) →
    forS t b ds ρ0 = match ds.find? p with
      | some d => some (.rt (r d))
      | none => some (.nx ρ0)
  | [], _ => rfl
  | d :: ds, h => by
    obtain ⟨ρ1, e1, e2⟩ := h d List.mem_cons_self
    have ih := for_ret p r ds fun d hd => h d (List.mem_cons_of_mem _ hd)
    cases hp : p d with
    | true =>
      rw [hp] at e2
      simp only [forS, e1, e2, List.find?_cons, hp, if_true]
    | false =>
      rw [hp] at e2
      simp only [forS, e1, e2, List.find?_cons, hp]
      exact ih
theorem find_sd (s : List Sd) (p : Sd → Bool) : (s.map sdD).find? (onSd p) = (s.find? p).map sdD := by
  induction s with
  | nil => rfl
  | cons x s ih =>
    simp only [List.map_cons, List.find?_cons, onSd_nm, ih]
    cases p x <;> rfl
theorem in_lr (o : Option Sd) : dIn (sdO o) (.tup [.str "left", .str "right"]) = some (.bl (o == some .l || o == some .r)) := by
  cases o with
  | none => rfl
  | some x => cases x <;> rfl
theorem in_tb (o : Option Sd) : dIn (sdO o) (.tup [.str "top", .str "bottom"]) = some (.bl (o == some .t || o == some .b)) := by
  cases o with
  | none => rfl
  | some x => cases x <;> rfl
theorem clamp_law (x m : Int) (h : 0 ≤ m) : dMin2 [.int (if (0 : Int) > x then 0 else x), .int m] = some (.int (clampI x m)) := by
  show some (D.int _) = some (D.int _)
  congr 2
  unfold clampI
  repeat' split
  all_goals omega
def fieldsL (l t w h : Int) : List D := (rgD l w.toNat).flatMap fun x => (rgD t h.toNat).map fun y => .tup [x, y]
theorem flen (A B : List D) : (A.flatMap fun x => B.map fun y => D.tup [x, y]).length = A.length * B.length := by
  induction A with
  | nil => simp
  | cons x A ih => rw [List.flatMap_cons, List.length_append, ih, List.length_map, List.length_cons, Nat.succ_mul, Nat.add_comm]
theorem fieldsL_len {l t w h : Int} (hw : 0 ≤ w) (hh : 0 ≤ h) : ((fieldsL l t w h).length : Int) = w * h := by
  rw [fieldsL, flen, rgD_len, rgD_len, Int.natCast_mul, Int.toNat_of_nonneg hw, Int.toNat_of_nonneg hh]
theorem fieldsL_mem {l t w h : Int} {d : D} (m : d ∈ fieldsL l t w h) : ∃ a b : Int, d = .tup [.int a, .int b] ∧ l ≤ a ∧ a < l + w ∧ t ≤ b ∧ b < t + h := by
  obtain ⟨dl, hl, m⟩ := List.mem_flatMap.mp m
  obtain ⟨dt, ht, rfl⟩ := List.mem_map.mp m
  obtain ⟨i, hi, rfl⟩ := rgD_mem hl
  obtain ⟨j, hj, rfl⟩ := rgD_mem ht
  exact ⟨l + i, t + j, rfl, by omega, by omega, by omega, by omega⟩
theorem rgD_in {lo v : Int} {n : Nat} (h1 : lo ≤ v) (h2 : v < lo + n) : D.int v ∈ rgD lo n := by
  unfold rgD
  refine List.mem_map.mpr ⟨(v - lo).toNat, List.mem_range.mpr (by omega), ?_⟩
  congr 1
  omega
theorem mem_fieldsL {l t w h a b : Int} (h1 : l ≤ a) (h2 : a < l + w) (h3 : t ≤ b) (h4 : b < t + h) : D.tup [.int a, .int b] ∈ fieldsL l t w h :=
  List.mem_flatMap.mpr ⟨.int a, rgD_in h1 (by omega), List.mem_map.mpr ⟨.int b, rgD_in h3 (by omega), rfl⟩⟩
theorem eq2 (a b c d : Int) : eqN 10 (.tup [.int a, .int b]) (.tup [.int c, .int d]) = (a == c && (b == d && true)) := rfl
theorem any_fields (x y w h a b : Int) : anyEq (.tup [.int a, .int b]) (fieldsL x y w h) = ((decide (x ≤ a) && decide (a < x + w)) && (decide (y ≤ b) && decide (b < y + h))) := by
  unfold anyEq
  rw [Bool.eq_iff_iff, List.any_eq_true]
  simp only [Bool.and_eq_true, decide_eq_true_eq]
  constructor
  · rintro ⟨d, hd, e⟩
    obtain ⟨c, k, rfl, h1, h2, h3, h4⟩ := fieldsL_mem hd
    rw [eq2] at e
    simp only [Bool.and_eq_true, beq_iff_eq] at e
    omega
  · rintro ⟨⟨h1, h2⟩, h3, h4⟩
    exact ⟨_, mem_fieldsL h1 h2 h3 h4, by rw [eq2]; simp⟩
theorem in_fields (x y w h a b : Int) : dIn (.tup [.int a, .int b]) (.lst (fieldsL x y w h)) = some (.bl ((decide (x ≤ a) && decide (a < x + w)) && (decide (y ≤ b) && decide (b < y + h)))) := by
  have hall : (fieldsL x y w h).all (okN 9) = true := by
    rw [List.all_eq_true]
    intro d hd
    obtain ⟨c, k, rfl, _⟩ := fieldsL_mem hd
    rfl
  have hf : (flatD (.tup [.int a, .int b]) && (fieldsL x y w h).all flatD) = false := rfl
  have ho : (okN 9 (.tup [.int a, .int b]) && (fieldsL x y w h).all (okN 9)) = true := by rw [hall]; rfl
  unfold dIn inOf
  rw [← any_fields]
  simp only [hf, ho]
  rfl
theorem filter_prod (px py : D → Bool) (p : D → Bool) (A B : List D) (hp : ∀ x ∈ A, ∀ y ∈ B, p (.tup [x, y]) = (px x && py y)) : ((A.flatMap fun x => B.map fun y => D.tup [x, y]).filter p).length = (A.filter px).length * (B.filter py).length := by
  induction A with
  | nil => simp
  | cons x A ih =>
    have ih := ih fun x hx => hp x (List.mem_cons_of_mem _ hx)
    have hb : ∀ B' : List D, (∀ y ∈ B', p (.tup [x, y]) = (px x && py y)) → ((B'.map fun y => D.tup [x, y]).filter p).length = if px x then (B'.filter py).length else 0 := by
      intro B'
      induction B' with
      | nil => intro _; simp
      | cons y B' ih2 =>
        intro h
        have e := h y List.mem_cons_self
        have ih2 := ih2 fun y hy => h y (List.mem_cons_of_mem _ hy)
        rw [List.map_cons, List.filter_cons, e, List.filter_cons]
        cases hpx : px x <;> cases hpy : py y <;> simp only [hpx, hpy, Bool.and_self, Bool.and_false, Bool.and_true, Bool.false_eq_true, if_true, if_false, List.length_cons] at ih2 ⊢ <;> omega
    rw [List.flatMap_cons, List.filter_append, List.length_append, ih, hb B fun y hy => hp x List.mem_cons_self y hy, List.filter_cons]
    cases px x
    · simp
    · simp [Nat.succ_mul, Nat.add_comm]
/-- lies the number in [b, b + m)? -/
def inR (b m : Int) : D → Bool
  | .int v => decide (b ≤ v) && decide (v < b + m)
  | _ => false
theorem rg_count (lo b m : Int) (hm : 0 ≤ m) : ∀ n : Nat, (((rgD lo n).filter (inR b m)).length : Int) = cmn lo n b m
  | 0 => by
    rw [cmn_mm]
    show (0 : Int) = _
    omega
  | n + 1 => by
    have ih := rg_count lo b m hm n
    have e : rgD lo (n + 1) = rgD lo n ++ [.int (lo + n)] := by unfold rgD; rw [List.range_succ, List.map_append]; rfl
    rw [e, List.filter_append, List.length_append]
    rw [cmn_mm] at ih ⊢
    by_cases h : b ≤ lo + n ∧ lo + n < b + m
    · have q : ([D.int (lo + n)].filter (inR b m)).length = 1 := by simp [inR, h.1, h.2]
      rw [q]
      omega
    · have q : ([D.int (lo + n)].filter (inR b m)).length = 0 := by
        have : inR b m (.int (lo + n)) = false := by
          simp only [inR]
          by_cases h1 : b ≤ lo + n <;> by_cases h2 : lo + n < b + m <;> simp_all
        simp [this]
      rw [q]
      omega
/-- the fields that two have in common -/
theorem shared_len (l t sw sh x y bw bh : Int) (h1 : 0 ≤ sw) (h2 : 0 ≤ sh) (h3 : 0 ≤ bw) (h4 : 0 ≤ bh) : (((fieldsL l t sw sh).filter fun d => anyEq d (fieldsL x y bw bh)).length : Int) = ovl l t sw sh x y bw bh := by
  unfold fieldsL
  rw [filter_prod (inR x bw) (inR y bh)]
  · rw [Int.natCast_mul, rg_count _ _ _ h3, rg_count _ _ _ h4, Int.toNat_of_nonneg h1, Int.toNat_of_nonneg h2]; rfl
  · intro dx hx dy hy
    obtain ⟨i, hi, rfl⟩ := rgD_mem hx
    obtain ⟨j, hj, rfl⟩ := rgD_mem hy
    exact any_fields x y bw bh _ _
theorem cmn_comm (a la b lb : Int) : cmn a la b lb = cmn b lb a la := by
  rw [cmn_mm, cmn_mm]
  omega
theorem ovl_comm (l t sw sh x y bw bh : Int) : ovl l t sw sh x y bw bh = ovl x y bw bh l t sw sh := by
  unfold ovl
  rw [cmn_comm l sw, cmn_comm t sh]
/-- the side of an anchor, none: over -/
def oF (w h bw bh g : Int) (s : List Sd) : D → Option Sd
  | .tup [.int l, .int t, .int sw, .int sh] => s.find? (roomB w h bw bh g l t sw sh)
  | _ => none
def sideF (w h bw bh g : Int) (s : List Sd) (a : D) : D := sdO (oF w h bw bh g s a)
/-- the names of sides, over among them -/
def onm : Option Sd → Str
  | none => "over"
  | some x => x.nm
theorem sdO_str (o : Option Sd) : sdO o = .str (onm o) := by cases o <;> rfl
theorem lay_onm (o : Option Sd) : layS (onm o) = true := by
  cases o with
  | none => decide +kernel
  | some x => cases x <;> decide +kernel
theorem onm_beq (a b : Option Sd) : (onm a == onm b) = (a == b) := by
  cases a with
  | none => cases b with
    | none => rfl
    | some y => cases y <;> decide +kernel
  | some x => cases b with
    | none => cases x <;> decide +kernel
    | some y => cases x <;> cases y <;> decide +kernel
theorem eq_sdO (a b : Option Sd) : dEq (sdO a) (sdO b) = some (.bl (a == b)) := by
  rw [sdO_str, sdO_str, v_eqS (lay_onm a) (lay_onm b), onm_beq]
theorem ne_sdO (a b : Option Sd) : dNe (sdO a) (sdO b) = some (.bl (!(a == b))) := by
  rw [sdO_str, sdO_str, v_neS (lay_onm a) (lay_onm b), onm_beq]
theorem okN_sdO (n : Nat) (o : Option Sd) : okN (n + 1) (sdO o) = true := by
  rw [sdO_str]; exact lay_onm o
theorem eqN_sdO (n : Nat) (a b : Option Sd) : eqN (n + 1) (sdO a) (sdO b) = (a == b) := by
  rw [sdO_str, sdO_str, ← onm_beq]; rfl
theorem lf_sdO (o : Option Sd) : lf (sdO o) = true := by cases o <;> rfl
theorem any_sdO (o : Option Sd) (l : List (Option Sd)) : anyEq (sdO o) (l.map sdO) = l.contains o := by
  unfold anyEq
  rw [List.any_map, Bool.eq_iff_iff, List.any_eq_true, List.contains_iff_mem]
  constructor
  · rintro ⟨x, hx, e⟩
    have e : eqN 10 (sdO x) (sdO o) = true := e
    rw [eqN_sdO] at e
    rw [← beq_iff_eq.mp e]; exact hx
  · intro hx
    exact ⟨o, hx, by show eqN 10 (sdO o) (sdO o) = true; rw [eqN_sdO]; simp⟩
theorem flat_sdO (l : List (Option Sd)) : (l.map sdO).all flatD = true := by
  rw [List.all_eq_true]
  intro d hd
  obtain ⟨o, _, rfl⟩ := List.mem_map.mp hd
  rw [sdO_str]; rfl
theorem inT_sdO (o : Option Sd) (l : List (Option Sd)) : dIn (sdO o) (.tup (l.map sdO)) = some (.bl (l.contains o)) := by
  have h : (flatD (sdO o) && (l.map sdO).all flatD) = true := by rw [flat_sdO, sdO_str]; rfl
  unfold dIn inOf
  simp only [h, if_true, any_sdO]; rfl
theorem inL_sdO (o : Option Sd) (l : List (Option Sd)) : dIn (sdO o) (.lst (l.map sdO)) = some (.bl (l.contains o)) := by
  have h : (flatD (sdO o) && (l.map sdO).all flatD) = true := by rw [flat_sdO, sdO_str]; rfl
  unfold dIn inOf
  simp only [h, if_true, any_sdO]; rfl
theorem ninT_sdO (o : Option Sd) (l : List (Option Sd)) : dNotIn (sdO o) (.tup (l.map sdO)) = some (.bl (!l.contains o)) := by
  have h : (flatD (sdO o) && (l.map sdO).all flatD) = true := by rw [flat_sdO, sdO_str]; rfl
  unfold dNotIn inOf
  simp only [h, if_true, any_sdO]; rfl
theorem ninL_sdO (o : Option Sd) (l : List (Option Sd)) : dNotIn (sdO o) (.lst (l.map sdO)) = some (.bl (!l.contains o)) := by
  have h : (flatD (sdO o) && (l.map sdO).all flatD) = true := by rw [flat_sdO, sdO_str]; rfl
  unfold dNotIn inOf
  simp only [h, if_true, any_sdO]; rfl
theorem count_sdO (o : Option Sd) (l : List (Option Sd)) : dCount (.lst (l.map sdO)) (sdO o) = some (.int (l.countP (· == o) : Nat)) := by
  have h : strsOf (l.map sdO) = some (l.map onm) := by
    induction l with
    | nil => rfl
    | cons x l ih => rw [List.map_cons, sdO_str]; simp only [strsOf, ih]; rfl
  rw [sdO_str]
  simp only [dCount, h, Option.map_some, List.countP_map]
  congr 4
  funext x
  exact onm_beq x o
theorem okL_sdO (n : Nat) (l : List (Option Sd)) : okN (n + 2) (.lst (l.map sdO)) = true := by
  show (l.map sdO).all (okN (n + 1)) = true
  rw [List.all_eq_true]
  intro d hd
  obtain ⟨o, _, rfl⟩ := List.mem_map.mp hd
  exact okN_sdO n o
theorem lfAll_sdO (l : List (Option Sd)) : lfAll (l.map sdO) = true := by
  induction l with
  | nil => rfl
  | cons o l ih => simp only [List.map_cons, lfAll, ih, lf_sdO]; rfl
/-- setting[3] + (OVER,) -/
def wO (s : List Sd) : List (Option Sd) := s.map some ++ [none]
/-- .. -/
theorem add_over (s : List Sd) (h : s.length ≤ 4) : dAdd (.tup (s.map sdD)) (.tup [.str "over"]) = some (.tup ((wO s).map sdO)) := by
  have h2 : okLen ((s.map sdD).length + 1) = true := by
    rw [List.length_map]
    exact decide_eq_true (by omega)
  show (if okLen ((s.map sdD).length + 1) = true then some (D.tup (s.map sdD ++ [.str "over"])) else none) = _
  unfold wO
  rw [h2, List.map_append, List.map_map]; rfl
theorem p_find_sideF {w h bw bh g : Int} {s : List Sd} (hs : s.length ≤ 4) (l t sw sh : Int) : f_find_side [stD w h bw bh g s, anD l t sw sh] = some (.ok (sideF w h bw bh g s (anD l t sw sh))) :=
  p_find_sideO w h bw bh g l t sw sh hs
theorem p_check_size {w h bw bh g sw sh : Int} {s : List Sd} (o : OkS w h bw bh g s) (h1 : 1 ≤ sw) (h2 : sw ≤ w) (h3 : 1 ≤ sh) (h4 : sh ≤ h) : f_check_size [stD w h bw bh g s, .tup [.int sw, .int sh]] = some (.ok .non) := by
  simp [f_check_size, b_check_size, p_check_setting o, p_is_size, inI_yes h1 h2, inI_yes h3 h4]
def ancA (w h sw sh : Int) : List D := (rgD 0 (w - sw + 1).toNat).flatMap fun l => (rgD 0 (h - sh + 1).toNat).map fun t => .tup [l, t, .int sw, .int sh]
theorem ancA_mem {w h sw sh : Int} {d : D} (m : d ∈ ancA w h sw sh) (h1 : 1 ≤ sw) (h2 : 1 ≤ sh) : ∃ l t : Int, d = anD l t sw sh ∧ OkA w h l t sw sh := by
  obtain ⟨dl, hl, m⟩ := List.mem_flatMap.mp m
  obtain ⟨dt, ht, rfl⟩ := List.mem_map.mp m
  obtain ⟨i, hi, rfl⟩ := rgD_mem hl
  obtain ⟨j, hj, rfl⟩ := rgD_mem ht
  exact ⟨0 + i, 0 + j, rfl, by omega, by omega, h1, h2, by omega, by omega⟩
theorem ancA_len {w h sw sh : Int} (w2 : w ≤ 100) (h2 : h ≤ 100) (sw1 : 0 ≤ sw) (sh1 : 0 ≤ sh) : (ancA w h sw sh).length ≤ 10201 := by
  unfold ancA
  have : ∀ A : List D, (A.flatMap fun l => (rgD 0 (h - sh + 1).toNat).map fun t => D.tup [l, t, .int sw, .int sh]).length = A.length * (h - sh + 1).toNat := fun A => by
    induction A with
    | nil => simp
    | cons x A ih => rw [List.flatMap_cons, List.length_append, ih, List.length_map, rgD_len, List.length_cons, Nat.succ_mul, Nat.add_comm]
  rw [this, rgD_len]
  exact Nat.mul_le_mul (show (w - sw + 1).toNat ≤ 101 by omega) (show (h - sh + 1).toNat ≤ 101 by omega)
theorem lfAll_rg (lo : Int) (n : Nat) : lfAll (rgD lo n) = true := by
  have : ∀ l : List Nat, lfAll (l.map fun i => D.int (lo + (i : Nat))) = true := fun l => by
    induction l with
    | nil => rfl
    | cons x l ih => simpa only [List.map_cons, lfAll, lf, Bool.true_and] using ih
  exact this _
theorem lc2_map {t1 : TgtR} {it2 : Sl} {vs1 : List Nat} {t2 : TgtR} {elt : Sx} {ρ : Rho} (B : List D) (g : D → D → D) : ∀ (A : List D), (∀ a, a ∈ A → ∃ ρ2, t1 a ρ = some ρ2 ∧ it2 ρ2 = some (.ok B) ∧ lcS t2 bTrue elt (wipeR vs1 ρ2) B = some (B.map (g a))) →
    lcS2 t1 bTrue it2 vs1 t2 bTrue elt ρ A = some (A.flatMap fun a => B.map (g a))
  | [], _ => rfl
  | a :: A, h => by
    obtain ⟨ρ2, e1, e2, e3⟩ := h a List.mem_cons_self
    have ih := lc2_map (ρ := ρ) B g A fun a ha => h a (List.mem_cons_of_mem _ ha)
    unfold lcS2
    simp only [e1, e_bTrue, e2, e3, ih]
    rfl
@[simp] theorem e_Lc2 {it it2 : Sl} {vs vs1 : List Nat} {t1 t2 : TgtR} {test1 test2 : Sb} {elt : Sx} {ρ : Rho} : sLc2 it vs t1 test1 it2 vs1 t2 test2 elt ρ = bd (it ρ) fun ds =>
  match lcS2 t1 test1 it2 vs1 t2 test2 elt (wipeR vs ρ) ds with
  | some out => if okLen out.length then some (.ok out) else none
  | none => none := rfl
@[simp] theorem e_ListRg1 {b : Sx} {ρ : Rho} : sListRg1 b ρ = bd (b ρ) fun y => lift
  (match y with
  | .int j => if decide (-1000000 ≤ j) && decide (j ≤ 1000000) then some (rgD 0 j.toNat) else none
  | _ => none) := rfl
@[simp] theorem e_LM {f : D → D → Option D} {a b : Sx} {ρ : Rho} : sLM f a b ρ = bd (a ρ) fun x =>
  match x with
  | .lst ds => bd (b ρ) fun y => lift (f (.lst ds) y)
  | _ => none := rfl
theorem p_all_anchors (w h sw sh : Int) (b g s : D) (w1 : 0 ≤ w) (w2 : w ≤ 100) (h1 : 0 ≤ h) (h2 : h ≤ 100) (sw1 : 0 ≤ sw) (sw2 : sw ≤ 1000) (sh1 : 0 ≤ sh) (sh2 : sh ≤ 1000) :
    f_all_anchors [.tup [.tup [.int w, .int h], b, g, s], .tup [.int sw, .int sh]] = some (.ok (.lst (ancA w h sw sh))) := by
  have a1 : (-1000000 : Int) ≤ w - sw + 1 := by omega
  have a2 : w - sw + 1 ≤ 1000000 := by omega
  have a3 : (-1000000 : Int) ≤ h - sh + 1 := by omega
  have a4 : h - sh + 1 ≤ 1000000 := by omega
  have len := ancA_len (w := w) (h := h) (sw := sw) (sh := sh) w2 h2 sw1 sh1
  have len2 : (ancA w h sw sh).length ≤ 1000000 := by omega
  rw [f_all_anchors, runD_fin]
  unfold b_all_anchors
  refine fin_run [.dat (.tup [.tup [.int w, .int h], b, g, s]), .dat (.tup [.int sw, .int sh]), .dat (.int w), .dat (.int h), .no, .no, .no, .no] (by simp) ?_
  refine fin_run [.dat (.tup [.tup [.int w, .int h], b, g, s]), .dat (.tup [.int sw, .int sh]), .dat (.int w), .dat (.int h), .own (.lst (rgD 0 (w - sw + 1).toNat)), .own (.lst (rgD 0 (h - sh + 1).toNat)), .no, .no] (by simp [a1, a2, a3, a4, parS, mlf, lfAll_rg]) ?_
  have e := lc2_map (t1 := tgRN 6) (it2 := sSeqItems (sV 5)) (vs1 := [7]) (t2 := tgRN 7) (elt := sTup (sCons (sV 6) (sCons (sV 7) (sCons (sOp dIx (sV 1) (sC (.int 0))) (sCons (sOp dIx (sV 1) (sC (.int 1))) sNil)))))
    (ρ := [some (.tup [.tup [.int w, .int h], b, g, s]), some (.tup [.int sw, .int sh]), some (.int w), some (.int h), some (.lst (rgD 0 (w - sw + 1).toNat)), some (.lst (rgD 0 (h - sh + 1).toNat)), none, none])
    (rgD 0 (h - sh + 1).toNat) (fun l t => .tup [l, t, .int sw, .int sh]) (rgD 0 (w - sw + 1).toNat) fun a ha => ⟨_, rfl, by simp, lc_map (fun t => .tup [a, t, .int sw, .int sh]) _ fun d hd => ⟨_, rfl, by simp⟩⟩
  change _ = some (ancA w h sw sh) at e
  simp [e, len2]
/-- the sides of all anchors -/
def anS (w h bw bh g : Int) (s : List Sd) (sw sh : Int) : List (Option Sd) := (ancA w h sw sh).map (oF w h bw bh g s)
theorem anS_len {w h bw bh g sw sh : Int} {s : List Sd} : (anS w h bw bh g s sw sh).length = (ancA w h sw sh).length := List.length_map _
theorem filter_sdO (l : List (Option Sd)) (p : D → Bool) (q : Option Sd → Bool) (h : ∀ o, p (sdO o) = q o) : (l.map sdO).filter p = (l.filter q).map sdO := by
  rw [List.filter_map]
  congr 1
  exact List.filter_congr fun x _ => h x
theorem lc_sdO {t : TgtR} {test : Sb} {elt : Sx} {ρ : Rho} (q : Option Sd → Bool) (l : List (Option Sd)) (h : ∀ o, o ∈ l → ∃ ρ2, t (sdO o) ρ = some ρ2 ∧ test ρ2 = some (.ok (q o)) ∧ elt ρ2 = some (.ok (sdO o))) : lcS t test elt ρ (l.map sdO) = some ((l.filter q).map sdO) := by
  induction l with
  | nil => rfl
  | cons o l ih =>
    obtain ⟨ρ2, e1, e2, e3⟩ := h o List.mem_cons_self
    have ih := ih fun o ho => h o (List.mem_cons_of_mem _ ho)
    rw [List.map_cons]
    unfold lcS
    rw [e1]
    cases hp : q o with
    | true =>
      rw [hp] at e2
      simp only [e2, e3, ih, List.filter_cons, hp, if_true, List.map_cons]
      rfl
    | false =>
      rw [hp] at e2
      simp only [e2, ih, List.filter_cons, hp]
      rfl
def headD (l : List D) : D := match l with
  | [] => .non
  | x :: _ => x
theorem okN_anc {w h sw sh : Int} {l : List D} (hl : ∀ d, d ∈ l → d ∈ ancA w h sw sh) (h1 : 1 ≤ sw) (h2 : 1 ≤ sh) : okN 10 (.lst l) = true := by
  show l.all (okN 9) = true
  rw [List.all_eq_true]
  intro d hd
  obtain ⟨a, b, rfl, _⟩ := ancA_mem (hl d hd) h1 h2
  rfl
theorem lf_anc {w h sw sh : Int} {l : List D} (hl : ∀ d, d ∈ l → d ∈ ancA w h sw sh) (h1 : 1 ≤ sw) (h2 : 1 ≤ sh) : lfAll l = true := lfAll_of fun d hd => by
  obtain ⟨a, b, rfl, _⟩ := ancA_mem (hl d hd) h1 h2
  rfl
theorem okN_headD {w h sw sh : Int} {l : List D} (hl : ∀ d, d ∈ l → d ∈ ancA w h sw sh) (h1 : 1 ≤ sw) (h2 : 1 ≤ sh) : okN 10 (headD l) = true := by
  cases l with
  | nil => rfl
  | cons x l =>
    obtain ⟨a, b, rfl, _⟩ := ancA_mem (hl x List.mem_cons_self) h1 h2
    rfl
theorem lc_ov {α : Type} {t : TgtR} {test : Sb} {elt : Sx} {ρ : Rho} (f : α → D) (q : α → Bool) (g : α → D) : ∀ (A : List α), (∀ a, a ∈ A → ∃ ρ2, t (f a) ρ = some ρ2 ∧ test ρ2 = some (.ok (q a)) ∧ elt ρ2 = some (.ok (g a))) → lcS t test elt ρ (A.map f) = some ((A.filter q).map g)
  | [], _ => rfl
  | a :: A, h => by
    obtain ⟨ρ2, e1, e2, e3⟩ := h a List.mem_cons_self
    have ih := lc_ov (ρ := ρ) f q g A fun d hd => h d (List.mem_cons_of_mem _ hd)
    rw [List.map_cons]
    unfold lcS
    rw [e1]
    cases hp : q a with
    | true =>
      rw [hp] at e2
      simp only [e2, e3, ih, List.filter_cons, hp, if_true, List.map_cons]
      rfl
    | false =>
      rw [hp] at e2
      simp only [e2, ih, List.filter_cons, hp]
      rfl
theorem lc_mp {α : Type} {t : TgtR} {elt : Sx} {ρ : Rho} (f : α → D) (g : α → D) (A : List α) (h : ∀ a, a ∈ A → ∃ ρ2, t (f a) ρ = some ρ2 ∧ elt ρ2 = some (.ok (g a))) : lcS t bTrue elt ρ (A.map f) = some (A.map g) := by
  have := lc_ov (t := t) (test := bTrue) (elt := elt) (ρ := ρ) f (fun _ => true) g A fun a ha => by
    obtain ⟨ρ2, e1, e2⟩ := h a ha
    exact ⟨ρ2, e1, rfl, e2⟩
  rw [this, List.filter_eq_self.mpr fun _ _ => rfl]
theorem bls_map {α : Type} (f : α → Bool) : ∀ l : List α, blsOf (l.map fun x => D.bl (f x)) = some (l.map f)
  | [] => rfl
  | x :: l => by simp only [List.map_cons, blsOf, bls_map f l]; rfl
theorem any_map {α : Type} (f : α → Bool) (l : List α) : dAny [.lst (l.map fun x => D.bl (f x))] = some (.bl (l.any f)) := by
  rw [v_anyL, bls_map]
  simp [List.any_map]
theorem all_map {α : Type} (f : α → Bool) (l : List α) : dAll [.lst (l.map fun x => D.bl (f x))] = some (.bl (l.all f)) := by
  rw [v_allL, bls_map]
  simp [List.all_map]
/-- a loop that keeps some of its items -/
theorem for_keep {t : Tgt} {b : Ss} (st : List D → Sig) (p : D → Bool) (N : Nat) : ∀ (ds acc : List D), (∀ d, d ∈ ds → ∀ acc : List D, acc.length ≤ N → ∃ ρ1, t d (st acc) = some ρ1 ∧ b ρ1 = some (.nx (st (if p d = true then acc ++ [d] else acc)))) → acc.length + ds.length ≤ N → forS t b ds (st acc) = some (.nx (st (acc ++ ds.filter p)))
  | [], acc, _, _ => by simp [forS]
  | d :: ds, acc, h, hl => by
    rw [List.length_cons] at hl
    obtain ⟨ρ1, e1, e2⟩ := h d List.mem_cons_self acc (by omega)
    simp only [forS, e1, e2]
    cases hp : p d with
    | true =>
      rw [if_pos rfl, for_keep st p N ds (acc ++ [d]) (fun d hd => h d (List.mem_cons_of_mem _ hd)) (by rw [List.length_append, List.length_singleton]; omega), List.filter_cons, hp, if_pos rfl, List.append_assoc]; rfl
    | false =>
      rw [if_neg Bool.false_ne_true, for_keep st p N ds acc (fun d hd => h d (List.mem_cons_of_mem _ hd)) (by omega), List.filter_cons, hp, if_neg Bool.false_ne_true]
theorem v_maxM (i j : Int) : dMax2 [.int i, .int j] = some (.int (max i j)) := by
  show some (D.int (if j > i then j else i)) = _
  congr 2
  split <;> omega
theorem eq_lst_nil2 (xs : List D) (h : okN 10 (.lst xs) = true) : dEq (.lst xs) (.lst []) = some (.bl xs.isEmpty) := by
  unfold dEq
  rw [h, show okN 10 (.lst []) = true from rfl]
  cases xs <;> rfl
def isTB (x : Sd) : Bool := some x == some Sd.t || some x == some Sd.b
def isLR (x : Sd) : Bool := some x == some Sd.l || some x == some Sd.r
theorem in_tbS (x : Sd) : dIn (sdD x) (.tup [.str "top", .str "bottom"]) = some (.bl (isTB x)) := by cases x <;> rfl
theorem in_lrS (x : Sd) : dIn (sdD x) (.tup [.str "left", .str "right"]) = some (.bl (isLR x)) := by cases x <;> rfl
/-- is this top tight? -/
def pT (w h bw bh g : Int) (s : List Sd) (sw sh : Int) : D → Bool
  | .int v => !((s.filter isTB).any (roomB w h bw bh g 0 v sw sh))
  | _ => false
def pL (w h bw bh g : Int) (s : List Sd) (sw sh : Int) : D → Bool
  | .int v => !((s.filter isLR).any (roomB w h bw bh g v 0 sw sh))
  | _ => false
def tightT (w h bw bh g : Int) (s : List Sd) (sw sh : Int) : List D := (rgD 0 (h - sh + 1).toNat).filter (pT w h bw bh g s sw sh)
def tightL (w h bw bh g : Int) (s : List Sd) (sw sh : Int) : List D := (rgD 0 (w - sw + 1).toNat).filter (pL w h bw bh g s sw sh)
theorem okN_rg (lo : Int) (n : Nat) (p : D → Bool) : okN 10 (.lst ((rgD lo n).filter p)) = true := by
  show List.all _ _ = true
  rw [List.all_eq_true]
  intro d hd
  obtain ⟨i, _, rfl⟩ := rgD_mem (List.mem_filter.mp hd).1
  rfl
theorem lf_rg (lo : Int) (n : Nat) (p : D → Bool) : lfAll ((rgD lo n).filter p) = true := lfAll_of fun d hd => by
  obtain ⟨i, _, rfl⟩ := rgD_mem (List.mem_filter.mp hd).1
  rfl
theorem lfAll_sds (s : List Sd) : lfAll (s.map sdD) = true := lfAll_of fun d hd => by
  obtain ⟨x, _, rfl⟩ := List.mem_map.mp hd
  rfl
theorem flen4 {s : List Sd} (hs : s.length ≤ 4) (p : Sd → Bool) : (s.filter p).length ≤ 1000000 := by
  have := List.length_filter_le p s
  omega
theorem roomTB {w h bw bh g l t sw sh : Int} (x : Sd) (hx : isTB x = true) (l' : Int) : roomB w h bw bh g l t sw sh x = roomB w h bw bh g l' t sw sh x := by cases x <;> first | rfl | cases hx
theorem roomLR {w h bw bh g l t sw sh : Int} (x : Sd) (hx : isLR x = true) (t' : Int) : roomB w h bw bh g l t sw sh x = roomB w h bw bh g l t' sw sh x := by cases x <;> first | rfl | cases hx
theorem any_tb (w h bw bh g l v sw sh : Int) (s : List Sd) : (s.filter isTB).any (roomB w h bw bh g l v sw sh) = ((s.contains .t && decide (bh + g ≤ v)) || (s.contains .b && decide (v + sh + g + bh ≤ h))) := by
  rw [Bool.eq_iff_iff]
  simp only [List.any_eq_true, List.mem_filter, Bool.or_eq_true, Bool.and_eq_true, List.contains_iff_mem]
  constructor
  · rintro ⟨x, ⟨hx, hb⟩, r⟩
    cases x
    · exact .inl ⟨hx, r⟩
    · exact .inr ⟨hx, r⟩
    · cases hb
    · cases hb
  · rintro (⟨hx, r⟩ | ⟨hx, r⟩)
    · exact ⟨.t, ⟨hx, rfl⟩, r⟩
    · exact ⟨.b, ⟨hx, rfl⟩, r⟩
theorem any_lr (w h bw bh g v t sw sh : Int) (s : List Sd) : (s.filter isLR).any (roomB w h bw bh g v t sw sh) = ((s.contains .l && decide (bw + g ≤ v)) || (s.contains .r && decide (v + sw + g + bw ≤ w))) := by
  rw [Bool.eq_iff_iff]
  simp only [List.any_eq_true, List.mem_filter, Bool.or_eq_true, Bool.and_eq_true, List.contains_iff_mem]
  constructor
  · rintro ⟨x, ⟨hx, hb⟩, r⟩
    cases x
    · cases hb
    · cases hb
    · exact .inl ⟨hx, r⟩
    · exact .inr ⟨hx, r⟩
  · rintro (⟨hx, r⟩ | ⟨hx, r⟩)
    · exact ⟨.l, ⟨hx, rfl⟩, r⟩
    · exact ⟨.r, ⟨hx, rfl⟩, r⟩
/-- no place is tight: both sides are wanted, and there is room enough -/
theorem empty_iff (L b g z : Int) (A B : Bool) (p : D → Bool) (hp : ∀ v : Int, p (.int v) = !((A && decide (b + g ≤ v)) || (B && decide (v + z + g + b ≤ L)))) (hb : 1 ≤ b) (hg : 0 ≤ g) (hz : 1 ≤ z) (hL : z ≤ L) : ((rgD 0 (L - z + 1).toNat).filter p).isEmpty = (A && B && decide (z + 2 * (b + g) - 1 ≤ L)) := by
  rw [Bool.eq_iff_iff, List.isEmpty_iff, List.filter_eq_nil_iff]
  have use : (∀ a ∈ rgD 0 (L - z + 1).toNat, ¬ p a = true) ↔ ∀ v : Int, 0 ≤ v → v ≤ L - z → ((A = true ∧ b + g ≤ v) ∨ (B = true ∧ v + z + g + b ≤ L)) := by
    constructor
    · intro h v h1 h2
      have := h (.int v) (by have := rgD_in (lo := 0) (v := v) (n := (L - z + 1).toNat) h1 (by omega); exact this)
      rw [hp] at this
      have e : ((A && decide (b + g ≤ v)) || (B && decide (v + z + g + b ≤ L))) = true := by
        cases q : ((A && decide (b + g ≤ v)) || (B && decide (v + z + g + b ≤ L))) with
        | true => rfl
        | false => rw [q] at this; exact absurd rfl this
      simpa only [Bool.or_eq_true, Bool.and_eq_true, decide_eq_true_eq] using e
    · intro h d hd
      obtain ⟨i, hi, rfl⟩ := rg0_mem hd
      rw [hp]
      have := h i (by omega) (by omega)
      have e : ((A && decide (b + g ≤ (i : Int))) || (B && decide ((i : Int) + z + g + b ≤ L))) = true := by
        simp only [Bool.or_eq_true, Bool.and_eq_true, decide_eq_true_eq]
        exact this
      rw [e]
      exact Bool.false_ne_true
  rw [use]
  simp only [Bool.and_eq_true, decide_eq_true_eq]
  constructor
  · intro h
    have h0 := h 0 (by omega) (by omega)
    have h1 := h (L - z) (by omega) (by omega)
    have hB : B = true := by
      rcases h0 with q | q
      · omega
      · exact q.1
    have hA : A = true := by
      rcases h1 with q | q
      · exact q.1
      · omega
    refine ⟨⟨hA, hB⟩, ?_⟩
    by_cases hk : z + 2 * (b + g) - 1 ≤ L
    · exact hk
    · exfalso
      have h2 := h (min (b + g - 1) (L - z)) (by omega) (by omega)
      rcases h2 with q | q <;> omega
  · rintro ⟨⟨hA, hB⟩, hk⟩ v h1 h2
    by_cases hv : b + g ≤ v
    · exact .inl ⟨hA, hv⟩
    · exact .inr ⟨hB, by omega⟩
theorem tightT_empty {w h bw bh g sw sh : Int} {s : List Sd} (hb : 1 ≤ bh) (hg : 0 ≤ g) (hz : 1 ≤ sh) (hL : sh ≤ h) : (tightT w h bw bh g s sw sh).isEmpty = (s.contains .t && s.contains .b && decide (sh + 2 * (bh + g) - 1 ≤ h)) :=
  empty_iff h bh g sh _ _ _ (fun v => by show (!_) = _; rw [any_tb]) hb hg hz hL
theorem tightL_empty {w h bw bh g sw sh : Int} {s : List Sd} (hb : 1 ≤ bw) (hg : 0 ≤ g) (hz : 1 ≤ sw) (hL : sw ≤ w) : (tightL w h bw bh g s sw sh).isEmpty = (s.contains .l && s.contains .r && decide (sw + 2 * (bw + g) - 1 ≤ w)) :=
  empty_iff w bw g sw _ _ _ (fun v => by show (!_) = _; rw [any_lr]) hb hg hz hL
theorem sds_sdO (s : List Sd) : s.map sdD = (s.map some).map sdO := by rw [List.map_map]; rfl
theorem con_some (s : List Sd) (x : Sd) : (s.map some).contains (some x) = s.contains x := by
  rw [Bool.eq_iff_iff, List.contains_iff_mem, List.contains_iff_mem]
  simp
theorem ninT_sd (x : Sd) (s : List Sd) : dNotIn (sdD x) (.tup (s.map sdD)) = some (.bl (!s.contains x)) := by
  rw [sds_sdO, ← con_some]
  exact ninT_sdO (some x) _
def lenV (e both : Bool) (least k : Int) : D := if e then .int least else if both then .int (max least k) else .non
theorem okT {w h bw bh g sw sh : Int} {s : List Sd} : okN 10 (.lst (tightT w h bw bh g s sw sh)) = true := okN_rg _ _ _
theorem okL {w h bw bh g sw sh : Int} {s : List Sd} : okN 10 (.lst (tightL w h bw bh g s sw sh)) = true := okN_rg _ _ _
theorem fl_m : divOk 1000000 = true := by decide
theorem fl_3 : divOk 3 = true := by decide
theorem fl_7 : divOk 7 = true := by decide
theorem fl_11 : divOk 11 = true := by decide
theorem drawn_loop (d0 d1 d2 d3 : D) : ∀ (n : Nat) (r a : Int), a ≤ n → ∃ r' a', whileS [] (bAnd (toB (sOp dGt (sV 5) (sC (.int 0)))) (toB (sOp dGt (sV 4) (sC (.int 0))))) (sSeq (sSet [] 5 (sOp dDiv (sV 5) (sC (.int 1000000)))) (sSet [] 4 (sOp dSub (sV 4) (sC (.int 1))))) (n + 1)
      [.dat d0, .dat d1, .dat d2, .dat d3, .dat (.int a), .dat (.int r)] = some (.nx [.dat d0, .dat d1, .dat d2, .dat d3, .dat (.int a'), .dat (.int r')]) := by
  intro n
  induction n with
  | zero =>
    intro r a h
    have h' : ¬ (0 < a) := by omega
    refine ⟨r, a, ?_⟩
    by_cases hr : 0 < r <;> simp [whileS, hr, h']
  | succ n ih =>
    intro r a h
    by_cases hr : 0 < r
    · by_cases ha : 0 < a
      · obtain ⟨r', a', e⟩ := ih (r / 1000000) (a - 1) (by omega)
        refine ⟨r', a', ?_⟩
        rw [whileS]
        simp [hr, ha, fl_m, lf]
        exact e
      · refine ⟨r, a, ?_⟩
        rw [whileS]
        simp [hr, ha]
    · refine ⟨r, a, ?_⟩
      rw [whileS]
      simp [hr]
theorem drawn_tail (d0 : D) (k many c : Int) (x4 x5 : SL) (hm : 0 < many) : ∃ r : Int, 0 ≤ r ∧ r < many ∧ fin (sSeq (sSet [] 3 (sOp dMod (sOp dAdd (sOp dMul (sOp dMod (sV 3) (sC (.int 2147483563))) (sC (.int 69069))) (sOp dMul (sC (.int 104723)) (sOp dAdd (sV 1) (sC (.int 1))))) (sC (.int 2147483563))))
    (sSeq (sSet [] 3 (sOp dMod (sOp dAdd (sOp dMul (sV 3) (sV 3)) (sOp dDiv (sV 3) (sC (.int 3)))) (sC (.int 2147483399))))
    (sRet [] (sOp dMod (sOp dDiv (sOp dMod (sOp dAdd (sOp dMul (sV 3) (sV 3)) (sOp dDiv (sV 3) (sC (.int 7)))) (sC (.int 2147483647))) (sC (.int 11))) (sV 2)))) [.dat d0, .dat (.int k), .dat (.int many), .dat (.int c), x4, x5]) = some (.ok (.int r)) := by
  have a1 : 0 ≤ (c % 2147483563 * 69069 + 104723 * (k + 1)) % 2147483563 := Int.emod_nonneg _ (by omega)
  have a2 : (c % 2147483563 * 69069 + 104723 * (k + 1)) % 2147483563 < 2147483563 := Int.emod_lt_of_pos _ (by omega)
  rw [fin_seq (ρ' := [.dat d0, .dat (.int k), .dat (.int many), .dat (.int ((c % 2147483563 * 69069 + 104723 * (k + 1)) % 2147483563)), x4, x5]) (by simp [sm 69069 (by omega) (by omega), sm 104723 (by omega) (by omega), lf])]
  generalize (c % 2147483563 * 69069 + 104723 * (k + 1)) % 2147483563 = e at a1 a2
  have b1 : 0 ≤ (e * e + e / 3) % 2147483399 := Int.emod_nonneg _ (by omega)
  have b2 : (e * e + e / 3) % 2147483399 < 2147483399 := Int.emod_lt_of_pos _ (by omega)
  rw [fin_seq (ρ' := [.dat d0, .dat (.int k), .dat (.int many), .dat (.int ((e * e + e / 3) % 2147483399)), x4, x5]) (by simp [sm e a1 (by omega), fl_3, lf])]
  generalize (e * e + e / 3) % 2147483399 = f at b1 b2
  refine ⟨(f * f + f / 7) % 2147483647 / 11 % many, Int.emod_nonneg _ (by omega), Int.emod_lt_of_pos _ hm, ?_⟩
  simp [sm f b1 (by omega), fl_7, fl_11, hm]
theorem run_stop {a b : Ss} {ρ : Sig} {d : D} (h : a ρ = some (.rt d)) : sSeq a b ρ = some (.rt d) := by simp only [sSeq, h]
theorem fin_stop {a b : Ss} {ρ : Sig} {d : D} (h : a ρ = some (.rt d)) : fin (sSeq a b ρ) = some (.ok d) := by rw [run_stop h]; rfl
theorem run_if1 {ms : List Nat} {c : Sb} {a b : Ss} {ρ : Sig} {o : Option Fl} (h : c (expo ms ρ) = some (.ok true)) (h2 : a ρ = o) : sIf ms c a b ρ = o := by
  unfold sIf stp
  rw [h]; exact h2
theorem run_if0 {ms : List Nat} {c : Sb} {a b : Ss} {ρ : Sig} {o : Option Fl} (h : c (expo ms ρ) = some (.ok false)) (h2 : b ρ = o) : sIf ms c a b ρ = o := by
  unfold sIf stp
  rw [h]; exact h2
theorem p_drawn (ns : List Int) (k many : Int) (hn : ns.length ≤ 1000) (hk : 0 ≤ k) (hk2 : k ≤ 99999) (hm : 0 < many) : ∃ r : Int, 0 ≤ r ∧ r < many ∧ f_L_drawn [.scr ns, .int k, .int many] = some (.ok (.int r)) := by
  rw [f_L_drawn, runD_fin]
  unfold b_L_drawn
  rw [fin_seq (ρ' := [.dat (.scr ns), .dat (.int k), .dat (.int many), .dat (.int (7 * k)), .no, .no]) (by simp [sm 7 (by omega) (by omega), lf])]
  by_cases hne : ns = []
  · subst hne
    obtain ⟨r, h1, h2, e⟩ := drawn_tail (.scr []) k many (7 * k) .no .no hm
    refine ⟨r, h1, h2, ?_⟩
    rw [fin_seq (ρ' := [.dat (.scr []), .dat (.int k), .dat (.int many), .dat (.int (7 * k)), .no, .no]) (by simp [ne_scr_nil])]
    exact e
  · have hl : (0 : Int) < (ns.length : Int) := by have := List.length_pos_iff.mpr hne; omega
    have hl0 : 0 < ns.length := by omega
    have hem : ns.isEmpty = false := by cases ns with
      | nil => exact absurd rfl hne
      | cons => rfl
    obtain ⟨cell, ec, _⟩ := at_in (xs := ns) (i := k % (ns.length : Int)) (Int.emod_nonneg _ (by omega)) (Int.emod_lt_of_pos _ hl)
    have dl : divOk (ns.length : Int) = true := divOk_of hl (by omega)
    have e1 : (sSet [] 3 (sOp dIx (sV 0) (sOp dMod (sV 1) (sCall dLen (sCons (sV 0) sNil))))) [.dat (.scr ns), .dat (.int k), .dat (.int many), .dat (.int (7 * k)), .no, .no] = some (.nx [.dat (.scr ns), .dat (.int k), .dat (.int many), .dat (.int cell), .no, .no]) := by simp [hl0, ec, lf]
    have e2 : (sSet [] 4 (sOp dDiv (sV 1) (sCall dLen (sCons (sV 0) sNil)))) [.dat (.scr ns), .dat (.int k), .dat (.int many), .dat (.int cell), .no, .no] = some (.nx [.dat (.scr ns), .dat (.int k), .dat (.int many), .dat (.int cell), .dat (.int (k / ns.length)), .no]) := by simp [dl, lf]
    have hkl : k / (ns.length : Int) ≤ k := Int.ediv_le_self _ hk
    have e4 : ∀ (x4 x5 : SL), (sSet [] 3 (sOp dAdd (sV 3) (sOp dMul (sC (.int 6553)) (sOp dDiv (sV 1) (sCall dLen (sCons (sV 0) sNil)))))) [.dat (.scr ns), .dat (.int k), .dat (.int many), .dat (.int cell), x4, x5] = some (.nx [.dat (.scr ns), .dat (.int k), .dat (.int many), .dat (.int (cell + 6553 * (k / ns.length))), x4, x5]) := fun x4 x5 => by simp [dl, lf, sm 6553 (by omega) (by omega)]
    by_cases hc : 1000000000000000000 ≤ cell ∧ k / (ns.length : Int) < 60
    · obtain ⟨r', a', ew⟩ := drawn_loop (.scr ns) (.int k) (.int many) (.int cell) 99999 (cell / 1000000000000000000) (k / ns.length) (by omega)
      by_cases hr : 0 < r'
      · refine ⟨r' % 1000000 % many, Int.emod_nonneg _ (by omega), Int.emod_lt_of_pos _ hm, ?_⟩
        exact fin_stop (run_if1 (by simp [ne_scr_nil, hem]) (run_seq _ e1 (run_seq _ e2 (run_stop (run_if1 (by simp [fl10, hc.1, hc.2]) (run_seq [.dat (.scr ns), .dat (.int k), .dat (.int many), .dat (.int cell), .dat (.int (k / ns.length)), .dat (.int (cell / 1000000000000000000))] (by simp [fl10, fl_d1, lf]) (run_seq _ ew (run_if1 (by simp [hr]) (by simp [hm])))))))))
      · obtain ⟨r, h1, h2, e⟩ := drawn_tail (.scr ns) k many (cell + 6553 * (k / ns.length)) (.dat (.int a')) (.dat (.int r')) hm
        refine ⟨r, h1, h2, ?_⟩
        rw [fin_seq (ρ' := [.dat (.scr ns), .dat (.int k), .dat (.int many), .dat (.int (cell + 6553 * (k / ns.length))), .dat (.int a'), .dat (.int r')]) (run_if1 (by simp [ne_scr_nil, hem]) (run_seq _ e1 (run_seq _ e2 (run_seq [.dat (.scr ns), .dat (.int k), .dat (.int many), .dat (.int cell), .dat (.int a'), .dat (.int r')] (run_if1 (by simp [fl10, hc.1, hc.2]) (run_seq [.dat (.scr ns), .dat (.int k), .dat (.int many), .dat (.int cell), .dat (.int (k / ns.length)), .dat (.int (cell / 1000000000000000000))] (by simp [fl10, fl_d1, lf]) (run_seq _ ew (by simp [hr])))) (e4 _ _)))))]
        exact e
    · obtain ⟨r, h1, h2, e⟩ := drawn_tail (.scr ns) k many (cell + 6553 * (k / ns.length)) (.dat (.int (k / ns.length))) .no hm
      refine ⟨r, h1, h2, ?_⟩
      rw [fin_seq (ρ' := [.dat (.scr ns), .dat (.int k), .dat (.int many), .dat (.int (cell + 6553 * (k / ns.length))), .dat (.int (k / ns.length)), .no]) (run_if1 (by simp [ne_scr_nil, hem]) (run_seq _ e1 (run_seq _ e2 (run_seq [.dat (.scr ns), .dat (.int k), .dat (.int many), .dat (.int cell), .dat (.int (k / ns.length)), .no] (by
        by_cases hc1 : 1000000000000000000 ≤ cell
        · have hc2 : ¬ (k / (ns.length : Int) < 60) := fun q => hc ⟨hc1, q⟩
          simp [fl10, hc1, hc2]
        · simp [fl10, hc1]) (e4 _ _)))))]
      exact e
theorem perm_ne : ∀ (es : List Sd) (x : Sd), es.Nodup → x ∈ es → (x :: es.filter (fun y => !(y == x))).Perm es
  | [], x, _, h => nomatch h
  | y :: es, x, nd, h => by
    have nd' := List.nodup_cons.mp nd
    by_cases e : y = x
    · subst e
      have : es.filter (fun z => !(z == y)) = es := List.filter_eq_self.mpr fun z hz => by
        have : z ≠ y := fun q => nd'.1 (q ▸ hz)
        simpa using this
      rw [List.filter_cons, this]
      simp
    · have hx : x ∈ es := (List.mem_cons.mp h).elim (fun q => absurd q.symm e) id
      have ih := perm_ne es x nd'.2 hx
      rw [List.filter_cons]
      have : (!(y == x)) = true := by simpa using e
      rw [if_pos this]
      exact (List.Perm.swap _ _ _).trans (.cons y ih)
theorem at_end (fs : List D) (x : D) : L2.atI (fs ++ [x]) (-1) = some x := by
  unfold L2.atI L2.ixN
  rw [if_neg (by omega), if_pos (by simp; omega)]
  have : (-1 + ((fs ++ [x]).length : Int)).toNat = fs.length := by simp; omega
  rw [Option.bind_some, this]
  simp
theorem at_natL (xs : List D) (r : Int) (h : 0 ≤ r) : L2.atI xs r = xs[r.toNat]? := by
  have := at_nat xs r.toNat
  rwa [Int.toNat_of_nonneg h] at this
theorem set_step (ns : List Int) (at_ k : Int) (hn : ns.length ≤ 1000) (ha : 0 ≤ at_) (ha2 : at_ ≤ 90000) (hk : 0 ≤ k) (hk2 : k ≤ 10) (d2 d3 d4 : D) (es fs : List Sd) (hes : es ≠ []) (hl : es.length ≤ 4) (hl2 : fs.length ≤ 4) :
    ∃ x, x ∈ es ∧ sAft [7] (sSeq (sApp [5] 6 (sOp dIx (sV 5) (sFn 3 f_L_drawn (sCons (sV 0) (sCons (sOp dAdd (sOp dAdd (sV 1) (sC (.int 5))) (sV 7)) (sCons (sCall dLen (sCons (sV 5) sNil)) sNil))))))
    (sSetL [5, 6] 5 (sLc (sSeqItems (sV 5)) [8] (tgRN 8) (toB (sOp dNe (sV 8) (sOp dIx (sV 6) (sUn dNeg (sC (.int 1)))))) (sV 8))))
      [.dat (.scr ns), .dat (.int at_), .dat d2, .dat d3, .dat d4, .own (.lst (es.map sdD)), .own (.lst (fs.map sdD)), .dat (.int k), .no] =
      some (.nx [.dat (.scr ns), .dat (.int at_), .dat d2, .dat d3, .dat d4, .own (.lst ((es.filter (fun y => !(y == x))).map sdD)), .own (.lst ((fs ++ [x]).map sdD)), .no, .no]) := by
  have h0 : 0 < es.length := List.length_pos_iff.mpr hes
  obtain ⟨r, h1, h2, e⟩ := p_drawn ns (at_ + 5 + k) es.length hn (by omega) (by omega) (by omega)
  have hr : r.toNat < es.length := by omega
  refine ⟨es[r.toNat], List.getElem_mem _, ?_⟩
  generalize hx : es[r.toNat] = x
  have hok : fs.length + 1 ≤ 1000000 := by omega
  have hok2 : es.length ≤ 1000000 := by omega
  have ei : L2.atI (es.map sdD) r = some (sdD x) := by rw [at_natL _ _ h1, List.getElem?_map, List.getElem?_eq_getElem hr, hx]; rfl
  refine run_aft [.dat (.scr ns), .dat (.int at_), .dat d2, .dat d3, .dat d4, .own (.lst ((es.filter (fun y => !(y == x))).map sdD)), .own (.lst ((fs ++ [x]).map sdD)), .dat (.int k), .no] ?_ rfl
  refine run_seq [.dat (.scr ns), .dat (.int at_), .dat d2, .dat d3, .dat d4, .own (.lst (es.map sdD)), .own (.lst ((fs ++ [x]).map sdD)), .dat (.int k), .no] (by simp [e, ei, hok, lf]) ?_
  have en := at_end (fs.map sdD) (sdD x)
  have en2 : (fs ++ [x]).map sdD = fs.map sdD ++ [sdD x] := by simp
  have elc := lc_filter (t := tgRN 8) (test := toB (sOp dNe (sV 8) (sOp dIx (sV 6) (sUn dNeg (sC (.int 1)))))) (elt := sV 8) (ρ := [some (.scr ns), some (.int at_), some d2, some d3, some d4, some (.lst (es.map sdD)), some (.lst (fs.map sdD ++ [sdD x])), some (.int k), none]) (onSd fun y => !(y == x)) id (es.map sdD) fun d hd => by
    obtain ⟨y, _, rfl⟩ := List.mem_map.mp hd
    have e3 := ne_sdO (some y) (some x)
    have e4 : (some y == some x) = (y == x) := rfl
    rw [e4] at e3
    change dNe (sdD y) (sdD x) = _ at e3
    exact ⟨_, rfl, by simp [en, e3], by simp⟩
  rw [map_sd (onSd_nm _), List.map_id] at elc
  have lfa : lfAll ((es.filter (fun y => !(y == x))).map sdD) = true := lfAll_of fun d hd => by
    obtain ⟨y, _, rfl⟩ := List.mem_map.mp hd
    rfl
  rw [en2]
  simp [elc, hok2, lfa]
theorem p_L_setting (ns : List Int) (at_ : Int) (hn : ns.length ≤ 1000) (ha : 0 ≤ at_) (ha2 : at_ ≤ 90000) : ∃ (w h bw bh g : Int) (s : List Sd), OkS w h bw bh g s ∧ w ≤ 10 ∧ h ≤ 9 ∧ bw ≤ 5 ∧ bh ≤ 5 ∧ g ≤ 2 ∧ f_L_setting [.scr ns, .int at_] = some (.ok (stD w h bw bh g s)) := by
  obtain ⟨w, w1, w2, ew⟩ := p_drawn ns at_ 10 hn ha (by omega) (by omega)
  obtain ⟨h, h1, h2, eh⟩ := p_drawn ns (at_ + 1) 9 hn (by omega) (by omega) (by omega)
  obtain ⟨mw, m1, m2, m3, em⟩ : ∃ m : Int, 1 ≤ m ∧ m ≤ 1 + w ∧ m ≤ 5 ∧ dMin2 [.int (1 + w), .int 5] = some (.int m) := by
    refine ⟨if (5 : Int) < 1 + w then 5 else 1 + w, ?_, ?_, ?_, rfl⟩ <;> split <;> omega
  obtain ⟨mh, n1, n2, n3, en⟩ : ∃ m : Int, 1 ≤ m ∧ m ≤ 1 + h ∧ m ≤ 5 ∧ dMin2 [.int (1 + h), .int 5] = some (.int m) := by
    refine ⟨if (5 : Int) < 1 + h then 5 else 1 + h, ?_, ?_, ?_, rfl⟩ <;> split <;> omega
  obtain ⟨bw, bw1, bw2, ebw⟩ := p_drawn ns (at_ + 2) mw hn (by omega) (by omega) (by omega)
  obtain ⟨bh, bh1, bh2, ebh⟩ := p_drawn ns (at_ + 3) mh hn (by omega) (by omega) (by omega)
  obtain ⟨c, c1, c2, ec⟩ := p_drawn ns (at_ + 4) 4 hn (by omega) (by omega) (by omega)
  obtain ⟨g, g1, g2, eg⟩ := p_drawn ns (at_ + 9) 3 hn (by omega) (by omega) (by omega)
  rw [f_L_setting, runD_fin]
  unfold b_L_setting
  rw [fin_seq (ρ' := [.dat (.scr ns), .dat (.int at_), .dat (.int (1 + w)), .dat (.int (1 + h)), .no, .no, .no, .no, .no]) (by simp [ew, eh, parS])]
  rw [fin_seq (ρ' := [.dat (.scr ns), .dat (.int at_), .dat (.int (1 + w)), .dat (.int (1 + h)), .dat (.tup [.int (1 + bw), .int (1 + bh)]), .no, .no, .no, .no]) (by simp [-v_min, em, en, ebw, ebh, lf, lfAll])]
  rw [fin_seq (ρ' := [.dat (.scr ns), .dat (.int at_), .dat (.int (1 + w)), .dat (.int (1 + h)), .dat (.tup [.int (1 + bw), .int (1 + bh)]), .own (.lst (sd4.map sdD)), .no, .no, .no]) (by simp [sd4, lf, lfAll])]
  rw [fin_seq (ρ' := [.dat (.scr ns), .dat (.int at_), .dat (.int (1 + w)), .dat (.int (1 + h)), .dat (.tup [.int (1 + bw), .int (1 + bh)]), .own (.lst (sd4.map sdD)), .own (.lst (([] : List Sd).map sdD)), .no, .no]) (by simp [lfAll])]
  obtain ⟨ρ', eρ, es, fs, rfl, hp, hl⟩ := for_at (t := tgN 7) (b := sAft [7] (sSeq (sApp [5] 6 (sOp dIx (sV 5) (sFn 3 f_L_drawn (sCons (sV 0) (sCons (sOp dAdd (sOp dAdd (sV 1) (sC (.int 5))) (sV 7)) (sCons (sCall dLen (sCons (sV 5) sNil)) sNil))))))
    (sSetL [5, 6] 5 (sLc (sSeqItems (sV 5)) [8] (tgRN 8) (toB (sOp dNe (sV 8) (sOp dIx (sV 6) (sUn dNeg (sC (.int 1)))))) (sV 8)))))
    (fun k ρ => ∃ es fs : List Sd, ρ = [.dat (.scr ns), .dat (.int at_), .dat (.int (1 + w)), .dat (.int (1 + h)), .dat (.tup [.int (1 + bw), .int (1 + bh)]), .own (.lst (es.map sdD)), .own (.lst (fs.map sdD)), .no, .no] ∧ (fs ++ es).Perm sd4 ∧ fs.length = k)
    (rgD 0 (1 + c).toNat) 0 [.dat (.scr ns), .dat (.int at_), .dat (.int (1 + w)), .dat (.int (1 + h)), .dat (.tup [.int (1 + bw), .int (1 + bh)]), .own (.lst (sd4.map sdD)), .own (.lst (([] : List Sd).map sdD)), .no, .no] ⟨sd4, [], rfl, .refl _, rfl⟩
    (fun i d hd ρ hi => by
      obtain ⟨es, fs, rfl, hp, hl⟩ := hi
      obtain ⟨hi1, rfl⟩ := rgD_get hd
      have hlen : fs.length + es.length = 4 := by have := hp.length_eq; simpa [sd4] using this
      have hne : es ≠ [] := fun z => by rw [z] at hlen; simp at hlen; omega
      have hnd : es.Nodup := (hp.nodup_iff.mpr (by decide)).sublist (List.sublist_append_right fs es)
      obtain ⟨x, hx, e⟩ := set_step ns at_ (0 + i) hn ha ha2 (by omega) (by omega) (.int (1 + w)) (.int (1 + h)) (.tup [.int (1 + bw), .int (1 + bh)]) es fs hne (by omega) (by omega)
      refine ⟨_, rfl, _, e, es.filter (fun y => !(y == x)), fs ++ [x], rfl, ?_, by rw [List.length_append, hl]; rfl⟩
      rw [List.append_assoc]
      exact ((List.Perm.append_left fs (perm_ne es x hnd hx)).trans hp))
  rw [rgD_len] at hl
  have hlen : fs.length + es.length = 4 := by have := hp.length_eq; simpa [sd4] using this
  rw [fin_seq (by
    have e1 : (-1000000 : Int) ≤ 1 + c := by omega
    have e2 : 1 + c ≤ 1000000 := by omega
    simp only [e_For, e_Range, e_Cons, e_Op, e_C, bd_ok, e_Fn, e_V, e_Nil]
    simp [ec, e1, e2]
    exact eρ)]
  have ok : OkSd fs := ⟨(hp.nodup_iff.mpr (by decide)).sublist (List.sublist_append_left fs es), fun z => by rw [z] at hl; simp at hl; omega, by omega⟩
  refine ⟨1 + w, 1 + h, 1 + bw, 1 + bh, g, fs, ⟨by omega, by omega, by omega, by omega, by omega, by omega, by omega, by omega, g1, by omega, ok⟩, by omega, by omega, by omega, by omega, by omega, ?_⟩
  simp [eg]
theorem v_minM (i j : Int) : dMin2 [.int i, .int j] = some (.int (min i j)) := by
  show some (D.int (if j < i then j else i)) = _
  congr 2
  split <;> omega
theorem p_L_anchor (ns : List Int) (at_ w h : Int) (b g s : D) (hn : ns.length ≤ 1000) (ha : 0 ≤ at_) (ha2 : at_ ≤ 90000) (w1 : 1 ≤ w) (h1 : 1 ≤ h) : ∃ l t sw sh : Int, OkA w h l t sw sh ∧ sw ≤ 4 ∧ sh ≤ 4 ∧ f_L_anchor [.scr ns, .int at_, .tup [.tup [.int w, .int h], b, g, s]] = some (.ok (anD l t sw sh)) := by
  obtain ⟨l, l1, l2, el⟩ := p_drawn ns at_ w hn ha (by omega) (by omega)
  obtain ⟨t, t1, t2, et⟩ := p_drawn ns (at_ + 1) h hn (by omega) (by omega) (by omega)
  obtain ⟨x, x1, x2, ex⟩ := p_drawn ns (at_ + 2) (w - l) hn (by omega) (by omega) (by omega)
  obtain ⟨x', x1', x2', ex'⟩ := p_drawn ns (at_ + 4) 4 hn (by omega) (by omega) (by omega)
  obtain ⟨y, y1, y2, ey⟩ := p_drawn ns (at_ + 3) (h - t) hn (by omega) (by omega) (by omega)
  obtain ⟨y', y1', y2', ey'⟩ := p_drawn ns (at_ + 5) 4 hn (by omega) (by omega) (by omega)
  refine ⟨l, t, 1 + min x x', 1 + min y y', ⟨l1, t1, by omega, by omega, by omega, by omega⟩, by omega, by omega, ?_⟩
  simp [f_L_anchor, b_L_anchor, el, et, ex, ex', ey, ey', v_minM, -v_min, parS, lf]
def midI (l sw : Int) : Int := l + (sw - 1) / 2
def nearI (v st sz : Int) : Int := max (st + if sz > 2 then 1 else 0) (min v (st + sz - 1 - if sz > 2 then 1 else 0))
def ab (i : Int) : Int := if i < 0 then -i else i
theorem v_absA (i : Int) : dAbs [.int i] = some (.int (ab i)) := rfl
theorem v_maxM2 (i j : Int) : dMax2 [.int i, .int j] = some (.int (max i j)) := by
  show some (D.int (if j > i then j else i)) = _
  congr 2
  split <;> omega
theorem v_minM2 (i j : Int) : dMin2 [.int i, .int j] = some (.int (min i j)) := by
  show some (D.int (if j < i then j else i)) = _
  congr 2
  split <;> omega
theorem p_find_middle (l t sw sh : Int) : f_find_middle [anD l t sw sh] = some (.ok (.tup [.int (midI l sw), .int (midI t sh)])) := by
  have : divOk 2 = true := by decide
  simp [f_find_middle, b_find_middle, this, midI]
theorem p_nearest (v st sz : Int) : f_nearest [.int v, .int st, .int sz] = some (.ok (.int (nearI v st sz))) := by
  by_cases h : 2 < sz <;> simp [f_nearest, b_nearest, h, nearI, v_maxM2, v_minM2, -v_max, -v_min, lf]
/-- the arrow: mx, my the middle, X, Y the box's place -/
def arrD (mx my X Y bw bh : Int) : Option Sd → D
  | none => .non
  | some .t => .tup [.int (nearI mx X bw), .int (Y + bh - 1)]
  | some .b => .tup [.int (nearI mx X bw), .int Y]
  | some .l => .tup [.int (X + bw - 1), .int (nearI my Y bh)]
  | some .r => .tup [.int X, .int (nearI my Y bh)]
def offD (mx my X Y bw bh : Int) : Option Sd → D
  | none => .non
  | some .t => .int (ab (nearI mx X bw - mx))
  | some .b => .int (ab (nearI mx X bw - mx))
  | some .l => .int (ab (nearI my Y bh - my))
  | some .r => .int (ab (nearI my Y bh - my))
theorem in_lrO (o : Option Sd) : dIn (sdO o) (.tup [.str "left", .str "right"]) = some (.bl (o == some .l || o == some .r)) := by
  cases o with
  | none => rfl
  | some x => cases x <;> rfl
theorem in_tbO (o : Option Sd) : dIn (sdO o) (.tup [.str "top", .str "bottom"]) = some (.bl (o == some .t || o == some .b)) := by
  cases o with
  | none => rfl
  | some x => cases x <;> rfl
theorem itb_top : dIn (.str "top") (.tup [.str "top", .str "bottom"]) = some (.bl true) := rfl
theorem ilr_top : dIn (.str "top") (.tup [.str "left", .str "right"]) = some (.bl false) := rfl
theorem itb_bottom : dIn (.str "bottom") (.tup [.str "top", .str "bottom"]) = some (.bl true) := rfl
theorem ilr_bottom : dIn (.str "bottom") (.tup [.str "left", .str "right"]) = some (.bl false) := rfl
theorem itb_left : dIn (.str "left") (.tup [.str "top", .str "bottom"]) = some (.bl false) := rfl
theorem ilr_left : dIn (.str "left") (.tup [.str "left", .str "right"]) = some (.bl true) := rfl
theorem itb_right : dIn (.str "right") (.tup [.str "top", .str "bottom"]) = some (.bl false) := rfl
theorem ilr_right : dIn (.str "right") (.tup [.str "left", .str "right"]) = some (.bl true) := rfl
theorem itb_over : dIn (.str "over") (.tup [.str "top", .str "bottom"]) = some (.bl false) := rfl
theorem ilr_over : dIn (.str "over") (.tup [.str "left", .str "right"]) = some (.bl false) := rfl
theorem p_find_arrow {w h bw bh g l t sw sh : Int} {s : List Sd} (hw : bw ≤ w) (hh : bh ≤ h) (hs : s.length ≤ 4) {o : Option Sd} (ho : s.find? (roomB w h bw bh g l t sw sh) = o) :
    f_find_arrow [stD w h bw bh g s, anD l t sw sh] = some (.ok (arrD (midI l sw) (midI t sh) (plX w bw g l sw o) (plY h bh g t sh o) bw bh o)) := by
  have e1 := p_find_sideO w h bw bh g l t sw sh hs
  have e2 := p_find_place (w := w) (h := h) (bw := bw) (bh := bh) (g := g) (l := l) (t := t) (sw := sw) (sh := sh) hw hh hs
  rw [ho] at e1 e2
  generalize plX w bw g l sw o = X at *
  generalize plY h bh g t sh o = Y at *
  cases o with
  | none =>
    simp only [sdO] at e1
    simp [f_find_arrow, b_find_arrow, e1, e2, itb_top, itb_bottom, itb_left, itb_right, itb_over, p_find_middle, p_nearest, arrD, lf, lfAll]
  | some x => cases x <;> (simp only [sdO, sdD] at e1; simp [f_find_arrow, b_find_arrow, e1, e2, itb_top, itb_bottom, itb_left, itb_right, itb_over, p_find_middle, p_nearest, arrD, lf, lfAll])
theorem p_find_off {w h bw bh g l t sw sh : Int} {s : List Sd} (hw : bw ≤ w) (hh : bh ≤ h) (hs : s.length ≤ 4) {o : Option Sd} (ho : s.find? (roomB w h bw bh g l t sw sh) = o) :
    f_find_off [stD w h bw bh g s, anD l t sw sh] = some (.ok (offD (midI l sw) (midI t sh) (plX w bw g l sw o) (plY h bh g t sh o) bw bh o)) := by
  have e1 := p_find_sideO w h bw bh g l t sw sh hs
  have e2 := p_find_arrow (g := g) (l := l) (t := t) (sw := sw) (sh := sh) hw hh hs ho
  rw [ho] at e1
  generalize plX w bw g l sw o = X at *
  generalize plY h bh g t sh o = Y at *
  cases o with
  | none =>
    simp only [sdO, arrD] at e1 e2
    simp [f_find_off, b_find_off, e1, e2, ilr_top, ilr_bottom, ilr_left, ilr_right, ilr_over, p_find_middle, offD, parS, mlf, lf, lfAll, isN]
  | some x => cases x <;> (simp only [sdO, sdD, arrD] at e1 e2; simp [f_find_off, b_find_off, e1, e2, ilr_top, ilr_bottom, ilr_left, ilr_right, ilr_over, p_find_middle, offD, parS, mlf, lf, lfAll, isN, v_absA])
theorem p_arrow {w h bw bh g l t sw sh : Int} {s : List Sd} (o' : OkS w h bw bh g s) (a : OkA w h l t sw sh) {o : Option Sd} (ho : s.find? (roomB w h bw bh g l t sw sh) = o) :
    f_arrow [stD w h bw bh g s, anD l t sw sh] = some (.ok (arrD (midI l sw) (midI t sh) (plX w bw g l sw o) (plY h bh g t sh o) bw bh o)) := by
  simp [f_arrow, b_arrow, p_check_both o' a, p_find_arrow (g := g) (l := l) (t := t) (sw := sw) (sh := sh) o'.bw2 o'.bh2 o'.s1.len ho]
theorem p_off_by {w h bw bh g l t sw sh : Int} {s : List Sd} (o' : OkS w h bw bh g s) (a : OkA w h l t sw sh) {o : Option Sd} (ho : s.find? (roomB w h bw bh g l t sw sh) = o) :
    f_off_by [stD w h bw bh g s, anD l t sw sh] = some (.ok (offD (midI l sw) (midI t sh) (plX w bw g l sw o) (plY h bh g t sh o) bw bh o)) := by
  simp [f_off_by, b_off_by, p_check_both o' a, p_find_off (g := g) (l := l) (t := t) (sw := sw) (sh := sh) o'.bw2 o'.bh2 o'.s1.len ho]
theorem p_middle {w h bw bh g l t sw sh : Int} {s : List Sd} (o' : OkS w h bw bh g s) (a : OkA w h l t sw sh) : f_middle [stD w h bw bh g s, anD l t sw sh] = some (.ok (.tup [.int (midI l sw), .int (midI t sh)])) := by
  simp [f_middle, b_middle, p_check_both o' a, p_find_middle]
/-- is the arrow straight? -/
def zeroA (w h bw bh g : Int) (s : List Sd) : D → Bool
  | .tup [.int l, .int t, .int sw, .int sh] =>
    match offD (midI l sw) (midI t sh) (plX w bw g l sw (s.find? (roomB w h bw bh g l t sw sh))) (plY h bh g t sh (s.find? (roomB w h bw bh g l t sw sh))) bw bh (s.find? (roomB w h bw bh g l t sw sh)) with
    | .int i => i == 0
    | _ => false
  | _ => false
theorem eq_off0 (mx my X Y bw bh : Int) (o : Option Sd) : dEq (offD mx my X Y bw bh o) (.int 0) = some (.bl (match offD mx my X Y bw bh o with | .int i => i == 0 | _ => false)) := by
  cases o with
  | none => rfl
  | some x => cases x <;> rfl
theorem p_count_straight {w h bw bh g sw sh : Int} {s : List Sd} (o : OkS w h bw bh g s) (h1 : 1 ≤ sw) (h2 : sw ≤ w) (h3 : 1 ≤ sh) (h4 : sh ≤ h) :
    f_count_straight [stD w h bw bh g s, .tup [.int sw, .int sh]] = some (.ok (.int (((ancA w h sw sh).filter (zeroA w h bw bh g s)).length : Nat))) := by
  have w2 := o.w2
  have h2' := o.h2
  have ea := p_all_anchors w h sw sh (.tup [.int bw, .int bh]) (.int g) (.tup (s.map sdD)) (by omega) (by omega) (by omega) (by omega) (by omega) (by omega) (by omega) (by omega)
  have len := ancA_len (w := w) (h := h) (sw := sw) (sh := sh) (by omega) (by omega) (by omega) (by omega)
  have len2 : (ancA w h sw sh).length ≤ 1000000 := by omega
  have e := lc_filter (t := tgRN 2) (test := toB (sOp dEq (sFn 2 f_find_off (sCons (sV 0) (sCons (sV 2) sNil))) (sC (.int 0)))) (elt := sV 2) (ρ := [some (stD w h bw bh g s), some (.tup [.int sw, .int sh]), none]) (zeroA w h bw bh g s) id (ancA w h sw sh) fun d hd => by
    obtain ⟨l, t, rfl, _⟩ := ancA_mem hd h1 h3
    have e1 := p_find_off (w := w) (h := h) (bw := bw) (bh := bh) (g := g) (l := l) (t := t) (sw := sw) (sh := sh) o.bw2 o.bh2 o.s1.len rfl
    have e2 := eq_off0 (midI l sw) (midI t sh) (plX w bw g l sw (s.find? (roomB w h bw bh g l t sw sh))) (plY h bh g t sh (s.find? (roomB w h bw bh g l t sw sh))) bw bh (s.find? (roomB w h bw bh g l t sw sh))
    refine ⟨_, rfl, ?_, by simp⟩
    show _ = (some (.ok (match offD (midI l sw) (midI t sh) (plX w bw g l sw (s.find? (roomB w h bw bh g l t sw sh))) (plY h bh g t sh (s.find? (roomB w h bw bh g l t sw sh))) bw bh (s.find? (roomB w h bw bh g l t sw sh)) with | .int i => i == 0 | _ => false)) : Oe Bool)
    simp [e1, e2]
  rw [List.map_id] at e
  simp [f_count_straight, b_count_straight, p_check_size o h1 h2 h3 h4, ea, e, len2]
/-! turned -/
def turn : Sd → Sd
  | .t => .l
  | .l => .t
  | .b => .r
  | .r => .b
theorem turn_turn (x : Sd) : turn (turn x) = x := by cases x <;> rfl
theorem room_turn (w h bw bh g l t sw sh : Int) (x : Sd) : roomB h w bh bw g t l sh sw (turn x) = roomB w h bw bh g l t sw sh x := by cases x <;> rfl
theorem find_turn (w h bw bh g l t sw sh : Int) (s : List Sd) : (s.map turn).find? (roomB h w bh bw g t l sh sw) = (s.find? (roomB w h bw bh g l t sw sh)).map turn := by
  rw [List.find?_map]
  congr 1
  congr 1
  funext x
  exact room_turn w h bw bh g l t sw sh x
theorem OkSd.turn {s : List Sd} (o : OkSd s) : OkSd (s.map turn) :=
  ⟨(List.pairwise_map).mpr (o.nd.imp fun {a b} h e => h (by rw [← turn_turn a, ← turn_turn b, e])), fun z => o.ne (List.map_eq_nil_iff.mp z), by rw [List.length_map]; exact o.len⟩
theorem OkS.turn {w h bw bh g : Int} {s : List Sd} (o : OkS w h bw bh g s) : OkS h w bh bw g (s.map turn) := ⟨o.h1, o.h2, o.w1, o.w2, o.bh1, o.bh2, o.bw1, o.bw2, o.g1, o.g2, o.s1.turn⟩
theorem OkA.turn {w h l t sw sh : Int} (a : OkA w h l t sw sh) : OkA h w t l sh sw := ⟨a.t1, a.l1, a.sh1, a.sw1, a.t2, a.l2⟩
theorem plX_turn (h bh g t sh : Int) (o : Option Sd) : plX h bh g t sh (o.map turn) = plY h bh g t sh o := by
  cases o with
  | none => rfl
  | some x => cases x <;> rfl
theorem plY_turn (w bw g l sw : Int) (o : Option Sd) : plY w bw g l sw (o.map turn) = plX w bw g l sw o := by
  cases o with
  | none => rfl
  | some x => cases x <;> rfl
theorem off_turn (mx my X Y bw bh : Int) (o : Option Sd) : offD my mx Y X bh bw (o.map turn) = offD mx my X Y bw bh o := by
  cases o with
  | none => rfl
  | some x => cases x <;> rfl
theorem arr_turn (mx my X Y bw bh : Int) (o : Option Sd) : (o = none ∧ arrD my mx Y X bh bw (o.map turn) = .non) ∨ (∃ a b, arrD mx my X Y bw bh o = .tup [.int a, .int b] ∧ arrD my mx Y X bh bw (o.map turn) = .tup [.int b, .int a]) := by
  cases o with
  | none => exact .inl ⟨rfl, rfl⟩
  | some x => cases x <;> exact .inr ⟨_, _, rfl, rfl⟩
@[simp] theorem e_toVs {x : Str} : toV (.str x) = some (.str x) := rfl
@[simp] theorem e_ofVs {x : Str} : ofV (.str x) = .str x := rfl
theorem kw4 (a b c d : L2.V) : L2.mergeK [] [(Sum.inr ("top" : Str), a), (Sum.inr ("left" : Str), b), (Sum.inr ("bottom" : Str), c), (Sum.inr ("right" : Str), d)] = ([(Sum.inr ("top" : Str), a), (Sum.inr ("left" : Str), b), (Sum.inr ("bottom" : Str), c), (Sum.inr ("right" : Str), d)] : List (L2.Key × L2.V)) := rfl
def wordsK : List (L2.Key × L2.V) := [(Sum.inr ("top" : Str), .str "left"), (Sum.inr ("left" : Str), .str "top"), (Sum.inr ("bottom" : Str), .str "right"), (Sum.inr ("right" : Str), .str "bottom")]
theorem word_turn (x : Sd) : dGetK (.dic wordsK) (sdD x) = some (sdD (turn x)) := by cases x <;> rfl
theorem rev2_pair (a b : D) : dRev2 (.tup [a, b]) = some (.tup [b, a]) := rfl
end Pk
namespace Pk
open PySem Dl
theorem v_maxN (i j : Int) : dMax2 [.int i, .int j] = some (.int (max i j)) := by
  show some (D.int (if j > i then j else i)) = _
  congr 2
  split <;> omega
theorem v_minN (i j : Int) : dMin2 [.int i, .int j] = some (.int (min i j)) := by
  show some (D.int (if j < i then j else i)) = _
  congr 2
  split <;> omega
theorem fl_2 : divOk 2 = true := by decide
def mvI (x b lo ln : Int) : Int := max lo (min x (lo + ln - b))
theorem p_L_moved (x b lo ln : Int) : f_L_moved [.int x, .int b, .int lo, .int ln] = some (.ok (.int (mvI x b lo ln))) := by
  simp [f_L_moved, b_L_moved, mvI, v_maxN, v_minN, -v_max, -v_min]
theorem mv_in (x : Int) {b lo ln : Int} (h : b ≤ ln) : lo ≤ mvI x b lo ln ∧ mvI x b lo ln + b ≤ lo + ln := by unfold mvI; omega
theorem jtb (o : Option Sd) : dIn (sdO o) (.tup [.str "top", .str "bottom"]) = some (.bl (o == some .t || o == some .b)) := by
  cases o with
  | none => rfl
  | some x => cases x <;> rfl
theorem jlr (o : Option Sd) : dIn (sdO o) (.tup [.str "left", .str "right"]) = some (.bl (o == some .l || o == some .r)) := by
  cases o with
  | none => rfl
  | some x => cases x <;> rfl
theorem jt (o : Option Sd) : dEq (sdO o) (.str "top") = some (.bl (o == some .t)) := eq_sdO o (some .t)
theorem jl (o : Option Sd) : dEq (sdO o) (.str "left") = some (.bl (o == some .l)) := eq_sdO o (some .l)
def spX (g bw l sw ax aw : Int) : Option Sd → Int
  | some .l => l - g - bw
  | some .r => l + sw + g
  | _ => mvI (l + (sw - bw) / 2) bw ax aw
def spY (g bh t sh ay ah : Int) : Option Sd → Int
  | some .t => t - g - bh
  | some .b => t + sh + g
  | _ => mvI (t + (sh - bh) / 2) bh ay ah
theorem p_L_spot (w h bw bh g l t sw sh ax ay aw ah : Int) (c : D) (o : Option Sd) : f_L_spot [.tup [.tup [.int w, .int h], .tup [.int bw, .int bh], .int g, c], anD l t sw sh, sdO o, anD ax ay aw ah] = some (.ok (anD (spX g bw l sw ax aw o) (spY g bh t sh ay ah o) bw bh)) := by
  have a := jtb o
  have b := jlr o
  have c := jt o
  have d := jl o
  have hs : spX g bw l sw ax aw o = if (o == some .l) = true then l - g - bw else if (o == some .r) = true then l + sw + g else mvI (l + (sw - bw) / 2) bw ax aw := by
    cases o with
    | none => rfl
    | some x => cases x <;> rfl
  have ht : spY g bh t sh ay ah o = if (o == some .t) = true then t - g - bh else if (o == some .b) = true then t + sh + g else mvI (t + (sh - bh) / 2) bh ay ah := by
    cases o with
    | none => rfl
    | some x => cases x <;> rfl
  rw [hs, ht]
  generalize sdO o = so at *
  cases o with
  | none => simp [f_L_spot, b_L_spot, p_L_moved, fl_2, lf, a, b, c, d]
  | some x => cases x <;> simp [f_L_spot, b_L_spot, p_L_moved, fl_2, lf, a, b, c, d]
def wiB (x y a b ax ay aw ah : Int) : Bool := decide (ax ≤ x ∧ ay ≤ y ∧ x + a ≤ ax + aw ∧ y + b ≤ ay + ah)
theorem p_L_within (x y a b ax ay aw ah : Int) : f_L_within [anD x y a b, anD ax ay aw ah] = some (.ok (.bl (wiB x y a b ax ay aw ah))) := by
  unfold wiB
  by_cases h1 : x < ax
  · simp [f_L_within, b_L_within, h1, show ¬ (ax ≤ x) by omega]
  · by_cases h2 : y < ay
    · simp [f_L_within, b_L_within, h1, h2, show ¬ (ay ≤ y) by omega]
    · by_cases h3 : x + a ≤ ax + aw
      · simp [f_L_within, b_L_within, h1, h2, h3, show ax ≤ x by omega, show ay ≤ y by omega]
      · simp [f_L_within, b_L_within, h1, h2, h3]
/-- a box beside lies in the area as far as there is room -/
theorem wi_room {w h bw bh g l t sw sh : Int} (hg : 0 ≤ g) (b1 : 1 ≤ bw) (b2 : bw ≤ w) (b3 : 1 ≤ bh) (b4 : bh ≤ h) (a : OkA w h l t sw sh) (x : Sd) :
    wiB (spX g bw l sw 0 w (some x)) (spY g bh t sh 0 h (some x)) bw bh 0 0 w h = roomB w h bw bh g l t sw sh x := by
  obtain ⟨h1, h2, h3, h4, h5, h6⟩ := a
  have m1 := mv_in (l + (sw - bw) / 2) (lo := 0) b2
  have m2 := mv_in (t + (sh - bh) / 2) (lo := 0) b4
  cases x
  · exact decide_eq_decide.mpr (by show 0 ≤ mvI _ _ _ _ ∧ 0 ≤ t - g - bh ∧ mvI _ _ _ _ + bw ≤ 0 + w ∧ t - g - bh + bh ≤ 0 + h ↔ bh + g ≤ t; omega)
  · exact decide_eq_decide.mpr (by show 0 ≤ mvI _ _ _ _ ∧ 0 ≤ t + sh + g ∧ mvI _ _ _ _ + bw ≤ 0 + w ∧ t + sh + g + bh ≤ 0 + h ↔ t + sh + g + bh ≤ h; omega)
  · exact decide_eq_decide.mpr (by show 0 ≤ l - g - bw ∧ 0 ≤ mvI _ _ _ _ ∧ l - g - bw + bw ≤ 0 + w ∧ mvI _ _ _ _ + bh ≤ 0 + h ↔ bw + g ≤ l; omega)
  · exact decide_eq_decide.mpr (by show 0 ≤ l + sw + g ∧ 0 ≤ mvI _ _ _ _ ∧ l + sw + g + bw ≤ 0 + w ∧ mvI _ _ _ _ + bh ≤ 0 + h ↔ l + sw + g + bw ≤ w; omega)
theorem p_Ln_side {w h bw bh g l t sw sh : Int} {s : List Sd} (o : OkS w h bw bh g s) (a : OkA w h l t sw sh) : f_L_side [stD w h bw bh g s, anD l t sw sh] = some (.ok (sdO (s.find? (roomB w h bw bh g l t sw sh)))) := by
  have e := for_ret (t := tgN 3) (b := sAft [3] (sIf [] (toB (sFn 2 f_L_within (sCons (sFn 4 f_L_spot (sCons (sV 0) (sCons (sV 1) (sCons (sV 3) (sCons (sV 2) sNil))))) (sCons (sV 2) sNil)))) (sRet [] (sV 3)) sNext)) (ρ0 := [.dat (stD w h bw bh g s), .dat (anD l t sw sh), .dat (anD 0 0 w h), .no]) (onSd (roomB w h bw bh g l t sw sh)) id (s.map sdD) fun d hd => by
    obtain ⟨x, _, rfl⟩ := List.mem_map.mp hd
    refine ⟨_, rfl, ?_⟩
    have e1 := p_L_spot w h bw bh g l t sw sh 0 0 w h (.tup (s.map sdD)) (some x)
    have e2 := p_L_within (spX g bw l sw 0 w (some x)) (spY g bh t sh 0 h (some x)) bw bh 0 0 w h
    rw [wi_room o.g1 o.bw1 o.bw2 o.bh1 o.bh2 a x] at e2
    change f_L_spot [_, _, .str x.nm, _] = _ at e1
    cases q : roomB w h bw bh g l t sw sh x <;> simp [e1, e2, q]
  rw [find_sd] at e
  generalize s.find? (roomB w h bw bh g l t sw sh) = o at e ⊢
  cases o with
  | none => simp [f_L_side, b_L_side, e, sdO]
  | some x => simp [f_L_side, b_L_side, e, sdO]
def coB (x y a b c d e f : Int) : Bool := decide (c < x + a ∧ x < c + e ∧ d < y + b ∧ y < d + f)
/-- the law's spot is the place -/
theorem sp_pl {w h bw bh g l t sw sh : Int} (hg : 0 ≤ g) (b1 : 1 ≤ bw) (b2 : bw ≤ w) (b3 : 1 ≤ bh) (b4 : bh ≤ h) (a : OkA w h l t sw sh) (o : Option Sd) (ho : ∀ x, o = some x → roomB w h bw bh g l t sw sh x = true) :
    spX g bw l sw 0 w o = plX w bw g l sw o ∧ spY g bh t sh 0 h o = plY h bh g t sh o := by
  obtain ⟨h1, h2, h3, h4, h5, h6⟩ := a
  have c1 : mvI (l + (sw - bw) / 2) bw 0 w = clampI (l + (sw - bw) / 2) (w - bw) := by unfold mvI clampI; split <;> (try split) <;> omega
  have c2 : mvI (t + (sh - bh) / 2) bh 0 h = clampI (t + (sh - bh) / 2) (h - bh) := by unfold mvI clampI; split <;> (try split) <;> omega
  cases o with
  | none => exact ⟨c1, c2⟩
  | some x =>
    have r := ho x rfl
    cases x
    · have r := of_decide_eq_true r
      refine ⟨c1, ?_⟩
      show _ = clampI (t - g - bh) (h - bh)
      unfold clampI
      rw [if_neg (by omega), if_neg (by omega)]; rfl
    · have r := of_decide_eq_true r
      refine ⟨c1, ?_⟩
      show _ = clampI (t + sh + g) (h - bh)
      unfold clampI
      rw [if_neg (by omega), if_neg (by omega)]; rfl
    · have r := of_decide_eq_true r
      refine ⟨?_, c2⟩
      show _ = clampI (l - g - bw) (w - bw)
      unfold clampI
      rw [if_neg (by omega), if_neg (by omega)]; rfl
    · have r := of_decide_eq_true r
      refine ⟨?_, c2⟩
      show _ = clampI (l + sw + g) (w - bw)
      unfold clampI
      rw [if_neg (by omega), if_neg (by omega)]; rfl
theorem co_ovl {x y a b c d e f : Int} (a1 : 0 < a) (b1 : 0 < b) (e1 : 0 < e) (f1 : 0 < f) : coB x y a b c d e f = decide (0 < ovl x y a b c d e f) := by
  refine decide_eq_decide.mpr ?_
  unfold ovl
  have p1 := cmn_pos x a c e
  have p2 := cmn_pos y b d f
  have n1 := cmn_nn x a c e
  have n2 := cmn_nn y b d f
  constructor
  · intro z
    exact Int.mul_pos (p1.mpr (by omega)) (p2.mpr (by omega))
  · intro z
    have q1 : 0 < cmn x a c e := by
      rcases Int.lt_or_eq_of_le n1 with q | q
      · exact q
      · rw [← q, Int.zero_mul] at z; exact absurd z (by omega)
    have q2 : 0 < cmn y b d f := by
      rcases Int.lt_or_eq_of_le n2 with q | q
      · exact q
      · rw [← q, Int.mul_zero] at z; exact absurd z (by omega)
    have := p1.mp q1
    have := p2.mp q2
    omega
theorem p_anchorsC (w h sw sh : Int) (b g s : D) (w2 : w ≤ 100) (h2 : h ≤ 100) (sw1 : 0 ≤ sw) (sw2 : sw ≤ 1000) (sh1 : 0 ≤ sh) (sh2 : sh ≤ 1000) (w1 : 0 ≤ w) (h1 : 0 ≤ h) :
    f_L_anchors [.tup [.tup [.int w, .int h], b, g, s], .tup [.int sw, .int sh]] = some (.ok (.lst (ancA w h sw sh))) := by
  rw [f_L_anchors, runD_fin]
  unfold b_L_anchors
  rw [fin_seq (ρ' := [.dat (.tup [.tup [.int w, .int h], b, g, s]), .dat (.tup [.int sw, .int sh]), .own (.lst []), .no, .no]) (by simp [lfAll])]
  have hn : (h - sh + 1).toNat ≤ 101 := by omega
  have hr : (rgD 0 (h - sh + 1).toNat).length = (h - sh + 1).toNat := rgD_len _ _
  have a1 : (-1000000 : Int) ≤ h - sh + 1 := by omega
  have a2 : h - sh + 1 ≤ 1000000 := by omega
  have a3 : (-1000000 : Int) ≤ w - sw + 1 := by omega
  have a4 : w - sw + 1 ≤ 1000000 := by omega
  have nl : (rgD 0 (w - sw + 1).toNat).length ≤ 101 := by rw [rgD_len]; omega
  obtain ⟨ρ', eρ, done, k, rfl⟩ := for_at (t := tgN 3) (b := sAft [3] (sSetL [2] 2 (sCat (sV 2) (sOfL (sLc (sRange (sCons (sOp dAdd (sOp dSub (sOp dIx (sOp dIx (sV 0) (sC (.int 0))) (sC (.int 1))) (sOp dIx (sV 1) (sC (.int 1)))) (sC (.int 1))) sNil)) [4] (tgRN 4) bTrue (sTup (sCons (sV 3) (sCons (sV 4) (sCons (sOp dIx (sV 1) (sC (.int 0))) (sCons (sOp dIx (sV 1) (sC (.int 1))) sNil))))))))))
    (fun k ρ => ∃ done : List D, done = ((rgD 0 (w - sw + 1).toNat).take k).flatMap (fun l => (rgD 0 (h - sh + 1).toNat).map fun t => .tup [l, t, .int sw, .int sh]) ∧ ρ = [.dat (.tup [.tup [.int w, .int h], b, g, s]), .dat (.tup [.int sw, .int sh]), .own (.lst done), .no, .no])
    (rgD 0 (w - sw + 1).toNat) 0 [.dat (.tup [.tup [.int w, .int h], b, g, s]), .dat (.tup [.int sw, .int sh]), .own (.lst []), .no, .no] ⟨[], by simp, rfl⟩
    (fun i d hd ρ hi => by
      obtain ⟨done, hdone, rfl⟩ := hi
      obtain ⟨hi1, rfl⟩ := rgD_get hd
      rw [Nat.zero_add] at hdone ⊢
      have lfd : lfAll done = true := lfAll_of fun d hd => by
        rw [hdone] at hd
        obtain ⟨x, hx, hd⟩ := List.mem_flatMap.mp hd
        obtain ⟨t, ht, rfl⟩ := List.mem_map.mp hd
        obtain ⟨j, _, rfl⟩ := rgD_mem ht
        obtain ⟨j, _, rfl⟩ := rgD_mem (List.mem_of_mem_take hx)
        rfl
      have len : done.length ≤ 101 * i := by
        rw [hdone, List.length_flatMap]
        have : ∀ (xs : List D), ((xs.map fun l => ((rgD 0 (h - sh + 1).toNat).map fun t => D.tup [l, t, .int sw, .int sh]).length)).sum ≤ 101 * xs.length := fun xs => by
          induction xs with
          | nil => simp
          | cons x xs ih => simp only [List.map_cons, List.sum_cons, List.length_cons, List.length_map, hr] at ih ⊢; omega
        refine Nat.le_trans (this _) ?_
        rw [List.length_take]
        exact Nat.mul_le_mul_left _ (Nat.min_le_left _ _)
      have e := lc_map (t := tgRN 4) (elt := sTup (sCons (sV 3) (sCons (sV 4) (sCons (sOp dIx (sV 1) (sC (.int 0))) (sCons (sOp dIx (sV 1) (sC (.int 1))) sNil))))) (ρ := [some (.tup [.tup [.int w, .int h], b, g, s]), some (.tup [.int sw, .int sh]), some (.lst done), some (.int (0 + i)), none])
        (fun t => .tup [.int (0 + i), t, .int sw, .int sh]) (rgD 0 (h - sh + 1).toNat) (fun d hd => ⟨_, rfl, by simp⟩)
      have hi2 : i < 101 := by rw [rgD_len] at nl; omega
      have ok1 : (h - sh + 1).toNat ≤ 1000000 := by omega
      have ok2 : done.length + (h - sh + 1).toNat ≤ 1000000 := by omega
      have lfa : lfAll (done ++ (rgD 0 (h - sh + 1).toNat).map fun t => D.tup [.int (0 + i), t, .int sw, .int sh]) = true := lfAll_of fun d hd => by
        rcases List.mem_append.mp hd with hd | hd
        · rw [hdone] at hd
          obtain ⟨x, hx, hd⟩ := List.mem_flatMap.mp hd
          obtain ⟨t, ht, rfl⟩ := List.mem_map.mp hd
          obtain ⟨j, _, rfl⟩ := rgD_mem ht
          obtain ⟨j, _, rfl⟩ := rgD_mem (List.mem_of_mem_take hx)
          rfl
        · obtain ⟨t, ht, rfl⟩ := List.mem_map.mp hd
          obtain ⟨j, _, rfl⟩ := rgD_mem ht
          rfl
      refine ⟨_, rfl, [.dat (.tup [.tup [.int w, .int h], b, g, s]), .dat (.tup [.int sw, .int sh]), .own (.lst (done ++ (rgD 0 (h - sh + 1).toNat).map fun t => .tup [.int (0 + i), t, .int sw, .int sh])), .no, .no], ?_, done ++ ((rgD 0 (h - sh + 1).toNat).map fun t => .tup [.int (0 + i), t, .int sw, .int sh]), ?_, rfl⟩
      · simp only [Int.zero_add] at e lfa ⊢
        simp [a1, a2, hr, ok1, ok2, e, lfa]
      · rw [List.take_add_one, hd, List.flatMap_append, ← hdone]
        simp)
  rw [Nat.zero_add, List.take_length] at k
  rw [fin_seq (by
    simp only [e_For]
    simp [a3, a4]
    exact eρ)]
  subst k
  simp [ancA]
def isK (k : Int) : D → Bool
  | .int v => v == k
  | _ => false
theorem any_rgK (k : Int) (n : Nat) : (rgD 0 n).any (isK k) = decide (0 ≤ k ∧ k < n) := by
  rw [← Bool.coe_iff_coe, List.any_eq_true, decide_eq_true_eq]
  constructor
  · rintro ⟨d, hd, hp⟩
    obtain ⟨i, hi, rfl⟩ := rg0_mem hd
    have : (i : Int) = k := by simpa [isK] using hp
    omega
  · intro ⟨z1, z2⟩
    exact ⟨.int k, rgD_in z1 (by omega), by simp [isK]⟩
theorem eqS_t (x : Sd) : dEq (sdD x) (.str "top") = some (.bl (some x == some Sd.t)) := eq_sdO (some x) (some .t)
theorem eqS_b (x : Sd) : dEq (sdD x) (.str "bottom") = some (.bl (some x == some Sd.b)) := eq_sdO (some x) (some .b)
theorem eqS_l (x : Sd) : dEq (sdD x) (.str "left") = some (.bl (some x == some Sd.l)) := eq_sdO (some x) (some .l)
theorem find_any (s : List Sd) (p : Sd → Bool) : s.any p = !(s.find? p == none) := by
  induction s with
  | nil => rfl
  | cons x s ih =>
    rw [List.any_cons, List.find?_cons, ih]
    cases p x <;> simp
def n9 : D := .tup [.int 9, .int 9]
def n2 : D := .tup [.int 2, .int 2]
def tt : D := .tup [.str "top"]
def badS : List D := [.non, .tup [], .tup [n9, n2, .int 1], .tup [.tup [.int 0, .int 9], n2, .int 1, tt], .tup [.tup [.int 31, .int 9], n2, .int 1, tt], .tup [n9, .tup [.int 10, .int 1], .int 1, tt],
  .tup [n9, n2, .int 6, tt], .tup [n9, n2, .int 1, .tup []], .tup [n9, n2, .int 1, .tup [.str "top", .str "top"]], .tup [n9, n2, .int 1, .tup [.str "over"]], .lst [n9, n2, .int 1, tt], .tup [n9, n2, .bl true, tt],
  .tup [n9, n2, .int 1, .lst [.str "top"]], .tup [n9, n2, .int 1, .str "top"]]
def noS (d : D) : Bool := match f_is_setting [d] with
  | some (.ok (.bl false)) => true
  | _ => false
theorem badS_no : badS.all noS = true := by decide +kernel
theorem of_noS {d : D} (h : noS d = true) : f_is_setting [d] = some (.ok (.bl false)) := by
  unfold noS at h
  split at h
  · assumption
  · cases h
theorem p_badsetting (ns : List Int) (at_ : Int) (hn : ns.length ≤ 1000) (ha : 0 ≤ at_) (ha2 : at_ ≤ 90000) : ∃ d, f_L_badsetting [.scr ns, .int at_] = some (.ok d) ∧ f_check_setting [d] = some (.error "InvalidSetting") := by
  obtain ⟨r, r1, r2, er⟩ := p_drawn ns at_ 14 hn ha (by omega) (by omega)
  have hr : r.toNat < badS.length := by show r.toNat < 14; omega
  have hb : badS[r.toNat]? = some badS[r.toNat] := List.getElem?_eq_getElem hr
  have hno := of_noS (List.all_eq_true.mp badS_no _ (List.getElem_mem hr))
  refine ⟨badS[r.toNat], ?_, by simp [f_check_setting, b_check_setting, hno]⟩
  have hi : dIx (.lst badS) (.int r) = some badS[r.toNat] := by rw [v_ixL, at_natL _ _ r1, hb]
  generalize badS[r.toNat] = d at hi
  rw [f_L_badsetting, runD_fin]
  unfold b_L_badsetting
  refine fin_run [.dat (.scr ns), .dat (.int at_), .dat (.tup [n9, n2, .int 1, tt]), .no] (by rfl) ?_
  refine fin_run [.dat (.scr ns), .dat (.int at_), .dat (.tup [n9, n2, .int 1, tt]), .own (.lst (badS.take 5))] (by rfl) ?_
  refine fin_run [.dat (.scr ns), .dat (.int at_), .dat (.tup [n9, n2, .int 1, tt]), .own (.lst (badS.take 6))] (by rfl) ?_
  refine fin_run [.dat (.scr ns), .dat (.int at_), .dat (.tup [n9, n2, .int 1, tt]), .own (.lst (badS.take 9))] (by rfl) ?_
  refine fin_run [.dat (.scr ns), .dat (.int at_), .dat (.tup [n9, n2, .int 1, tt]), .own (.lst (badS.take 10))] (by rfl) ?_
  refine fin_run [.dat (.scr ns), .dat (.int at_), .dat (.tup [n9, n2, .int 1, tt]), .own (.lst (badS.take 13))] ?_ ?_
  · rfl
  refine fin_run [.dat (.scr ns), .dat (.int at_), .dat (.tup [n9, n2, .int 1, tt]), .own (.lst badS)] ?_ ?_
  · rfl
  simp [er, hi, -v_ixL]
def badA (w h : Int) : List D := [.non, .tup [], .tup [.int 0, .int 0, .int 1], anD w 0 1 1, anD 0 h 1 1, anD 0 0 (w + 1) 1, anD 0 0 1 (h + 1), anD (-1) 0 1 1, anD 0 0 0 1, .lst [.int 0, .int 0, .int 1, .int 1], .tup [.bl false, .int 0, .int 1, .int 1], .tup [.int 0, .int 0, .str "1", .int 1]]
theorem p_is_intS (v : Str) (a b : Int) : f_is_int [.str v, .int a, .int b] = some (.ok (.bl false)) := by
  simp [f_is_int, b_is_int, tyInt, tyBool]
theorem badA_no {w h : Int} (w1 : 1 ≤ w) (h1 : 1 ≤ h) (a b c : D) {d : D} (m : d ∈ badA w h) : f_has_anchor [.tup [.tup [.int w, .int h], a, b, c], d] = some (.ok (.bl false)) := by
  unfold badA at m
  simp only [List.mem_cons, List.not_mem_nil, or_false] at m
  rcases m with rfl | rfl | rfl | rfl | rfl | rfl | rfl | rfl | rfl | rfl | rfl | rfl
  · exact p_no_anchorN rfl
  · simp [f_has_anchor, b_has_anchor, tyTuple]
  · exact p_no_anchor3
  · exact p_no_anchor _ _ _ (by omega)
  · exact p_no_anchor _ _ _ (by omega)
  · exact p_no_anchor _ _ _ (by omega)
  · exact p_no_anchor _ _ _ (by omega)
  · exact p_no_anchor _ _ _ (by omega)
  · exact p_no_anchor _ _ _ (by omega)
  · exact p_no_anchorN rfl
  · simp [f_has_anchor, b_has_anchor, tyTuple, p_is_intB]
  · have e1 := p_is_int 0 0 w
    have e2 := p_is_int 0 0 h
    rw [inI_yes (by omega) (by omega)] at e1 e2
    simp [f_has_anchor, b_has_anchor, tyTuple, e1, e2, p_is_intS]
theorem p_badanchor (ns : List Int) (at_ w h : Int) (a b c : D) (hn : ns.length ≤ 1000) (ha : 0 ≤ at_) (ha2 : at_ ≤ 90000) (w1 : 1 ≤ w) (h1 : 1 ≤ h) : ∃ d, f_L_badanchor [.scr ns, .int at_, .tup [.tup [.int w, .int h], a, b, c]] = some (.ok d) ∧ f_check_anchor [.tup [.tup [.int w, .int h], a, b, c], d] = some (.error "InvalidAnchor") := by
  obtain ⟨r, r1, r2, er⟩ := p_drawn ns at_ 12 hn ha (by omega) (by omega)
  have hr : r.toNat < (badA w h).length := by show r.toNat < 12; omega
  have hb : (badA w h)[r.toNat]? = some (badA w h)[r.toNat] := List.getElem?_eq_getElem hr
  have hno := badA_no w1 h1 a b c (List.getElem_mem hr)
  refine ⟨(badA w h)[r.toNat], ?_, by simp [f_check_anchor, b_check_anchor, hno]⟩
  have hi : dIx (.lst (badA w h)) (.int r) = some (badA w h)[r.toNat] := by rw [v_ixL, at_natL _ _ r1, hb]
  generalize (badA w h)[r.toNat] = d at hi
  rw [f_L_badanchor, runD_fin]
  unfold b_L_badanchor
  refine fin_run [.dat (.scr ns), .dat (.int at_), .dat (.tup [.tup [.int w, .int h], a, b, c]), .dat (.int w), .dat (.int h), .no] (by simp) ?_
  refine fin_run [.dat (.scr ns), .dat (.int at_), .dat (.tup [.tup [.int w, .int h], a, b, c]), .dat (.int w), .dat (.int h), .own (.lst ((badA w h).take 6))] (by simp [badA, lf, lfAll]) ?_
  refine fin_run [.dat (.scr ns), .dat (.int at_), .dat (.tup [.tup [.int w, .int h], a, b, c]), .dat (.int w), .dat (.int h), .own (.lst ((badA w h).take 8))] (by simp [badA, lf, lfAll]) ?_
  unfold badA at hi
  simp [er, hi, badA, -v_ixL]
theorem p_badanchorH (ns : List Int) (at_ w h : Int) (a b c : D) (hn : ns.length ≤ 1000) (ha : 0 ≤ at_) (ha2 : at_ ≤ 90000) (w1 : 1 ≤ w) (h1 : 1 ≤ h) : ∃ d, f_L_badanchor [.scr ns, .int at_, .tup [.tup [.int w, .int h], a, b, c]] = some (.ok d) ∧ f_has_anchor [.tup [.tup [.int w, .int h], a, b, c], d] = some (.ok (.bl false)) := by
  obtain ⟨r, r1, r2, er⟩ := p_drawn ns at_ 12 hn ha (by omega) (by omega)
  have hr : r.toNat < (badA w h).length := by show r.toNat < 12; omega
  have hb : (badA w h)[r.toNat]? = some (badA w h)[r.toNat] := List.getElem?_eq_getElem hr
  have hno := badA_no w1 h1 a b c (List.getElem_mem hr)
  refine ⟨(badA w h)[r.toNat], ?_, hno⟩
  have hi : dIx (.lst (badA w h)) (.int r) = some (badA w h)[r.toNat] := by rw [v_ixL, at_natL _ _ r1, hb]
  generalize (badA w h)[r.toNat] = d at hi
  rw [f_L_badanchor, runD_fin]
  unfold b_L_badanchor
  refine fin_run [.dat (.scr ns), .dat (.int at_), .dat (.tup [.tup [.int w, .int h], a, b, c]), .dat (.int w), .dat (.int h), .no] (by simp) ?_
  refine fin_run [.dat (.scr ns), .dat (.int at_), .dat (.tup [.tup [.int w, .int h], a, b, c]), .dat (.int w), .dat (.int h), .own (.lst ((badA w h).take 6))] (by simp [badA, lf, lfAll]) ?_
  refine fin_run [.dat (.scr ns), .dat (.int at_), .dat (.tup [.tup [.int w, .int h], a, b, c]), .dat (.int w), .dat (.int h), .own (.lst ((badA w h).take 8))] (by simp [badA, lf, lfAll]) ?_
  unfold badA at hi
  simp [er, hi, badA, -v_ixL]
theorem ne_nc : (("naive_covers" : Str) = "naive_over") = False := eq_false (by decide)
end Pk
namespace Pk
open PySem Dl
theorem lf_st (w h bw bh g : Int) (s : List Sd) : lf (stD w h bw bh g s) = true := by
  have : lfAll (s.map sdD) = true := lfAll_of fun d hd => by
    obtain ⟨x, _, rfl⟩ := List.mem_map.mp hd
    rfl
  simp [lf, lfAll, this]
def rgI (lo : Int) (n : Nat) : List Int := (List.range n).map fun (i : Nat) => lo + i
theorem rgD_I (lo : Int) (n : Nat) : rgD lo n = (rgI lo n).map D.int := by unfold rgD rgI; rw [List.map_map]; rfl
theorem intL_rg (lo : Int) (n : Nat) : intL (rgD lo n) = some (rgI lo n) := by rw [rgD_I]; exact intL_map _
theorem rgI_mem {lo x : Int} {n : Nat} : x ∈ rgI lo n ↔ lo ≤ x ∧ x < lo + n := by
  unfold rgI
  rw [List.mem_map]
  constructor
  · rintro ⟨i, hi, rfl⟩
    have := List.mem_range.mp hi
    omega
  · rintro ⟨h1, h2⟩
    exact ⟨(x - lo).toNat, List.mem_range.mpr (by omega), by omega⟩
theorem le_dist (c a b : Int) : PySem.W.dataLe false (fun n => PyData.int (LamO.dist c n)) a b = decide (LamO.dist c a ≤ LamO.dist c b) := by
  show (!PyProof.Rows.lexLt PyProof.Rows.itemOrd [.inl (LamO.dist c b)] [.inl (LamO.dist c a)]) = _
  simp [PyProof.Rows.lexLt, PyProof.Rows.itemLt, PyProof.Rows.itemOrd]
  by_cases h : LamO.dist c b < LamO.dist c a
  · simp [h, show ¬ (LamO.dist c a ≤ LamO.dist c b) by omega]
  · simp [h, show LamO.dist c a ≤ LamO.dist c b by omega]
theorem sort_head (c lo : Int) (n : Nat) (hn : 1 ≤ n) : ∃ r, LamO.sortD c (rgI lo n) = max lo (min c (lo + n - 1)) :: r := by
  have hs := List.pairwise_mergeSort (le := PySem.W.dataLe false fun n => PyData.int (LamO.dist c n)) (fun a b d h1 h2 => by
    rw [le_dist] at *; simp only [decide_eq_true_eq] at *; omega) (fun a b => by
    rw [le_dist, le_dist]; simp only [Bool.or_eq_true, decide_eq_true_eq]; omega) (rgI lo n)
  have hp := List.mergeSort_perm (rgI lo n) (PySem.W.dataLe false fun n => PyData.int (LamO.dist c n))
  unfold LamO.sortD
  generalize (rgI lo n).mergeSort (PySem.W.dataLe false fun n => PyData.int (LamO.dist c n)) = L at hs hp ⊢
  have hm : max lo (min c (lo + n - 1)) ∈ L := hp.mem_iff.mpr (rgI_mem.mpr (by omega))
  cases L with
  | nil => cases hm
  | cons x r =>
    have hx : x ∈ rgI lo n := hp.mem_iff.mp List.mem_cons_self
    have hx := rgI_mem.mp hx
    have hle : LamO.dist c x ≤ LamO.dist c (max lo (min c (lo + n - 1))) := by
      rcases List.mem_cons.mp hm with e | e
      · rw [e]; exact Int.le_refl _
      · have := List.rel_of_pairwise_cons hs e
        rw [le_dist] at this
        exact of_decide_eq_true this
    refine ⟨r, ?_⟩
    congr 1
    unfold LamO.dist at hle
    split at hle <;> split at hle <;> omega
theorem at_head (c lo : Int) (n : Nat) (hn : 1 ≤ n) : L2.atI ((LamO.sortD c (rgI lo n)).map D.int) 0 = some (.int (max lo (min c (lo + n - 1)))) := by
  obtain ⟨r, e⟩ := sort_head c lo n hn
  rw [e]
  exact at_nat _ 0
theorem cut_rg (lo : Int) (n : Nat) (hn : 2 < n) : cutD (rgD lo n) (some 1) (some (-1)) = rgD (lo + 1) (n - 2) := by
  unfold cutD HT.sIx
  rw [rgD_len]
  have e1 : (if (1 : Int) < 0 then ((1 : Int) + (n : Int)).toNat else min (1 : Int).toNat n) = 1 := by rw [if_neg (by omega)]; omega
  have e2 : (if (-1 : Int) < 0 then ((-1 : Int) + (n : Int)).toNat else min (-1 : Int).toNat n) = n - 1 := by rw [if_pos (by omega)]; omega
  show ((rgD lo n).drop (if (1 : Int) < 0 then ((1 : Int) + (n : Int)).toNat else min (1 : Int).toNat n)).take ((if (-1 : Int) < 0 then ((-1 : Int) + (n : Int)).toNat else min (-1 : Int).toNat n) - (if (1 : Int) < 0 then ((1 : Int) + (n : Int)).toNat else min (1 : Int).toNat n)) = _
  rw [e1, e2]
  unfold rgD
  refine List.ext_getElem (by simp; omega) fun i h1 h2 => ?_
  simp
  omega
@[simp] theorem e_SortD {a : Sx} {i : Nat} {ρ : Rho} : sSortD a i ρ = bd (a ρ) fun d =>
  match d, (ρ[i]?).bind id with
  | .lst ds, some (.int c) => lift ((intL ds).map fun ns => (LamO.sortD c ns).map D.int)
  | _, _ => none := rfl
theorem near_big (v st : Int) (n : Nat) (h : 2 < n) : max (st + 1) (min v (st + 1 + ((n - 2 : Nat) : Int) - 1)) = nearI v st n := by
  unfold nearI
  rw [if_pos (by omega)]
  congr 2
  omega
theorem near_small (v st : Int) (n : Nat) (h : ¬ 2 < n) : max st (min v (st + (n : Int) - 1)) = nearI v st n := by
  unfold nearI
  rw [if_neg (by omega)]
  congr 2 <;> omega
theorem lfA_rg (lo : Int) (n : Nat) : lfAll (rgD lo n) = true := lfAll_of fun d hd => by
  obtain ⟨i, _, rfl⟩ := rgD_mem hd
  rfl
/-- places, the best of them -/
theorem best_at (v st : Int) (n : Nat) (hn : 1 ≤ n) : ∃ L : List D, (if 2 < n then rgD (st + 1) (n - 2) else rgD st n) = L ∧ (∃ ns, intL L = some ns ∧ L2.atI ((LamO.sortD v ns).map D.int) 0 = some (.int (nearI v st n))) := by
  by_cases h : 2 < n
  · exact ⟨_, if_pos h, _, intL_rg _ _, by rw [at_head _ _ _ (by omega), near_big _ _ _ h]⟩
  · exact ⟨_, if_neg h, _, intL_rg _ _, by rw [at_head _ _ _ hn, near_small _ _ _ h]⟩
theorem fin_ret {a b : Ss} {ρ : Sig} {d : D} (h : a ρ = some (.rt d)) : fin (sSeq a b ρ) = some (.ok d) := by simp only [sSeq, h]; rfl
theorem fin_rt2 {o : Option Fl} {d : D} (h : o = some (.rt d)) : fin o = some (.ok d) := by rw [h]; rfl
theorem in_tbt : dIn (.str "top") (.tup [.str "top", .str "bottom"]) = some (.bl true) := rfl
theorem in_tbb : dIn (.str "bottom") (.tup [.str "top", .str "bottom"]) = some (.bl true) := rfl
theorem in_tbl : dIn (.str "left") (.tup [.str "top", .str "bottom"]) = some (.bl false) := rfl
theorem in_tbr : dIn (.str "right") (.tup [.str "top", .str "bottom"]) = some (.bl false) := rfl
theorem p_Lk_arrow {w h bw bh g l t sw sh : Int} {s : List Sd} (o : OkS w h bw bh g s) (a : OkA w h l t sw sh) {q : Option Sd} (hq : s.find? (roomB w h bw bh g l t sw sh) = q) :
    f_L_arrow [stD w h bw bh g s, anD l t sw sh] = some (.ok (.tup [arrD (midI l sw) (midI t sh) (plX w bw g l sw q) (plY h bh g t sh q) bw bh q, offD (midI l sw) (midI t sh) (plX w bw g l sw q) (plY h bh g t sh q) bw bh q])) := by
  have e1 := p_Ln_side o a
  have hf : ∀ x, q = some x → roomB w h bw bh g l t sw sh x = true := fun x hx => List.find?_some (hq.trans hx)
  rw [hq] at e1
  have e2 := p_L_spot w h bw bh g l t sw sh 0 0 w h (.tup (s.map sdD)) q
  obtain ⟨p1, p2⟩ := sp_pl o.g1 o.bw1 o.bw2 o.bh1 o.bh2 a q hf
  rw [p1, p2] at e2
  have bx : 0 ≤ plX w bw g l sw q ∧ plX w bw g l sw q ≤ w - bw := clamp_in _ (by have := o.bw2; omega)
  have by_ : 0 ≤ plY h bh g t sh q ∧ plY h bh g t sh q ≤ h - bh := clamp_in _ (by have := o.bh2; omega)
  have w2 := o.w2
  have h2 := o.h2
  have bw1 := o.bw1
  have bh1 := o.bh1
  have bw2 := o.bw2
  have bh2 := o.bh2
  have lfs := lf_st w h bw bh g s
  clear hq hf p1 p2
  generalize plX w bw g l sw q = X at *
  generalize plY h bh g t sh q = Y at *
  obtain ⟨n, rfl⟩ : ∃ n : Nat, bw = n := ⟨bw.toNat, by omega⟩
  obtain ⟨m, rfl⟩ : ∃ m : Nat, bh = m := ⟨bh.toNat, by omega⟩
  have d2 : divOk 2 = true := by decide
  obtain ⟨L, hL, nL, iL, aL⟩ := best_at (midI l sw) X n (by omega)
  obtain ⟨M, hM, nM, iM, aM⟩ := best_at (midI t sh) Y m (by omega)
  have lL : lfAll (rgD X n) = true := lfA_rg _ _
  have lM : lfAll (rgD Y m) = true := lfA_rg _ _
  rw [f_L_arrow, runD_fin]
  unfold b_L_arrow
  refine fin_run [.dat (stD w h n m g s), .dat (anD l t sw sh), .dat (sdO q), .no, .no, .no, .no, .no, .no, .no, .no] (by simp [e1]) ?_
  cases q with
  | none => simp [sdO, arrD, offD, lf, lfAll]
  | some x =>
    have eqo : dEq (sdO (some x)) (.str "over") = some (.bl false) := eq_sdO (some x) none
    refine fin_run [.dat (stD w h n m g s), .dat (anD l t sw sh), .dat (sdO (some x)), .no, .no, .no, .no, .no, .no, .no, .no] (by simp [eqo]) ?_
    refine fin_run [.dat (stD w h n m g s), .dat (anD l t sw sh), .dat (sdO (some x)), .dat (.int X), .dat (.int Y), .dat (.int n), .dat (.int m), .no, .no, .no, .no] (by simp [e2, lf, lfAll]) ?_
    refine fin_run [.dat (stD w h n m g s), .dat (anD l t sw sh), .dat (sdO (some x)), .dat (.int X), .dat (.int Y), .dat (.int n), .dat (.int m), .dat (.int (midI l sw)), .no, .no, .no] (by simp [d2, midI]) ?_
    refine fin_run [.dat (stD w h n m g s), .dat (anD l t sw sh), .dat (sdO (some x)), .dat (.int X), .dat (.int Y), .dat (.int n), .dat (.int m), .dat (.int (midI l sw)), .dat (.int (midI t sh)), .no, .no] (by simp [d2, midI]) ?_
    have hX : (X + (n : Int) - X).toNat = n := by omega
    have hY : (Y + (m : Int) - Y).toNat = m := by omega
    have b1 : -1000000 ≤ X ∧ X ≤ 1000000 := by omega
    have b2 : -1000000 ≤ X + n ∧ X + n ≤ 1000000 := by omega
    have b3 : -1000000 ≤ Y ∧ Y ≤ 1000000 := by omega
    have b4 : -1000000 ≤ Y + m ∧ Y + m ≤ 1000000 := by omega
    cases x with
    | t =>
      simp only [sdO, sdD] at *
      refine fin_ret ?_
      refine run_if1 (by simp [in_tbt]) ?_
      refine run_seq [.dat (stD w h n m g s), .dat (anD l t sw sh), .dat (.str "top"), .dat (.int X), .dat (.int Y), .dat (.int n), .dat (.int m), .dat (.int (midI l sw)), .dat (.int (midI t sh)), .own (.lst (rgD X n)), .no] (by simp [sListRg, b1, b2, b3, b4, lL, hX]) ?_
      refine run_seq [.dat (stD w h n m g s), .dat (anD l t sw sh), .dat (.str "top"), .dat (.int X), .dat (.int Y), .dat (.int n), .dat (.int m), .dat (.int (midI l sw)), .dat (.int (midI t sh)), .dat (.lst L), .no] (by
        by_cases h2 : 2 < n
        · simp only [h2, if_true] at hL
          subst hL
          simp [show (2 : Int) < (n : Int) by omega, cut_rg, h2, rgD_len, lf, lL, lfA_rg]
        · simp only [h2, if_false] at hL
          subst hL
          simp [show ¬ ((2 : Int) < (n : Int)) by omega, rgD_len, lf, lL, lfA_rg]) ?_
      refine run_seq [.dat (stD w h n m g s), .dat (anD l t sw sh), .dat (.str "top"), .dat (.int X), .dat (.int Y), .dat (.int n), .dat (.int m), .dat (.int (midI l sw)), .dat (.int (midI t sh)), .dat (.lst L), .dat (.int (nearI (midI l sw) X n))] (by simp [iL, aL, lf]) ?_
      simp [arrD, offD, v_absA, lf, lfAll]
    | b =>
      simp only [sdO, sdD] at *
      refine fin_ret ?_
      refine run_if1 (by simp [in_tbb]) ?_
      refine run_seq [.dat (stD w h n m g s), .dat (anD l t sw sh), .dat (.str "bottom"), .dat (.int X), .dat (.int Y), .dat (.int n), .dat (.int m), .dat (.int (midI l sw)), .dat (.int (midI t sh)), .own (.lst (rgD X n)), .no] (by simp [sListRg, b1, b2, b3, b4, lL, hX]) ?_
      refine run_seq [.dat (stD w h n m g s), .dat (anD l t sw sh), .dat (.str "bottom"), .dat (.int X), .dat (.int Y), .dat (.int n), .dat (.int m), .dat (.int (midI l sw)), .dat (.int (midI t sh)), .dat (.lst L), .no] (by
        by_cases h2 : 2 < n
        · simp only [h2, if_true] at hL
          subst hL
          simp [show (2 : Int) < (n : Int) by omega, cut_rg, h2, rgD_len, lf, lL, lfA_rg]
        · simp only [h2, if_false] at hL
          subst hL
          simp [show ¬ ((2 : Int) < (n : Int)) by omega, rgD_len, lf, lL, lfA_rg]) ?_
      refine run_seq [.dat (stD w h n m g s), .dat (anD l t sw sh), .dat (.str "bottom"), .dat (.int X), .dat (.int Y), .dat (.int n), .dat (.int m), .dat (.int (midI l sw)), .dat (.int (midI t sh)), .dat (.lst L), .dat (.int (nearI (midI l sw) X n))] (by simp [iL, aL, lf]) ?_
      simp [arrD, offD, v_absA, lf, lfAll]
    | l =>
      simp only [sdO, sdD] at *
      refine fin_run [.dat (stD w h n m g s), .dat (anD l t sw sh), .dat (.str "left"), .dat (.int X), .dat (.int Y), .dat (.int n), .dat (.int m), .dat (.int (midI l sw)), .dat (.int (midI t sh)), .no, .no] (by simp [in_tbl]) ?_
      refine (fin_rt2 ?_)
      refine run_seq [.dat (stD w h n m g s), .dat (anD l t sw sh), .dat (.str "left"), .dat (.int X), .dat (.int Y), .dat (.int n), .dat (.int m), .dat (.int (midI l sw)), .dat (.int (midI t sh)), .own (.lst (rgD Y m)), .no] (by simp [sListRg, b1, b2, b3, b4, lM, hY]) ?_
      refine run_seq [.dat (stD w h n m g s), .dat (anD l t sw sh), .dat (.str "left"), .dat (.int X), .dat (.int Y), .dat (.int n), .dat (.int m), .dat (.int (midI l sw)), .dat (.int (midI t sh)), .dat (.lst M), .no] (by
        by_cases h2 : 2 < m
        · simp only [h2, if_true] at hM
          subst hM
          simp [show (2 : Int) < (m : Int) by omega, cut_rg, h2, rgD_len, lf, lM, lfA_rg]
        · simp only [h2, if_false] at hM
          subst hM
          simp [show ¬ ((2 : Int) < (m : Int)) by omega, rgD_len, lf, lM, lfA_rg]) ?_
      refine run_seq [.dat (stD w h n m g s), .dat (anD l t sw sh), .dat (.str "left"), .dat (.int X), .dat (.int Y), .dat (.int n), .dat (.int m), .dat (.int (midI l sw)), .dat (.int (midI t sh)), .dat (.lst M), .dat (.int (nearI (midI t sh) Y m))] (by simp [iM, aM, lf]) ?_
      simp [arrD, offD, v_absA, lf, lfAll]
    | r =>
      simp only [sdO, sdD] at *
      refine fin_run [.dat (stD w h n m g s), .dat (anD l t sw sh), .dat (.str "right"), .dat (.int X), .dat (.int Y), .dat (.int n), .dat (.int m), .dat (.int (midI l sw)), .dat (.int (midI t sh)), .no, .no] (by simp [in_tbr]) ?_
      refine (fin_rt2 ?_)
      refine run_seq [.dat (stD w h n m g s), .dat (anD l t sw sh), .dat (.str "right"), .dat (.int X), .dat (.int Y), .dat (.int n), .dat (.int m), .dat (.int (midI l sw)), .dat (.int (midI t sh)), .own (.lst (rgD Y m)), .no] (by simp [sListRg, b1, b2, b3, b4, lM, hY]) ?_
      refine run_seq [.dat (stD w h n m g s), .dat (anD l t sw sh), .dat (.str "right"), .dat (.int X), .dat (.int Y), .dat (.int n), .dat (.int m), .dat (.int (midI l sw)), .dat (.int (midI t sh)), .dat (.lst M), .no] (by
        by_cases h2 : 2 < m
        · simp only [h2, if_true] at hM
          subst hM
          simp [show (2 : Int) < (m : Int) by omega, cut_rg, h2, rgD_len, lf, lM, lfA_rg]
        · simp only [h2, if_false] at hM
          subst hM
          simp [show ¬ ((2 : Int) < (m : Int)) by omega, rgD_len, lf, lM, lfA_rg]) ?_
      refine run_seq [.dat (stD w h n m g s), .dat (anD l t sw sh), .dat (.str "right"), .dat (.int X), .dat (.int Y), .dat (.int n), .dat (.int m), .dat (.int (midI l sw)), .dat (.int (midI t sh)), .dat (.lst M), .dat (.int (nearI (midI t sh) Y m))] (by simp [iM, aM, lf]) ?_
      simp [arrD, offD, v_absA, lf, lfAll]
end Pk
namespace Pk
open PySem Dl
theorem cut3 (a b c d : D) : cutD [a, b, c, d] (some 2) none = [c, d] := rfl
theorem ne_bb (a b : Bool) : dNe (.bl a) (.bl b) = some (.bl (!(a == b))) := by cases a <;> cases b <;> rfl
theorem fin_for {t : Tgt} {b rest : Ss} {it : Sl} {ms : List Nat} {ρ : Sig} {o : Oe D} (I : Nat → Sig → Prop) (ds : List D) (hi : it (expo ms ρ) = some (.ok ds)) (hI : I 0 (frz ms ρ))
    (hb : ∀ i d, ds[i]? = some d → ∀ ρ, I i ρ → ∃ ρ1, t d ρ = some ρ1 ∧ ∃ ρ2, b ρ1 = some (.nx ρ2) ∧ I (i + 1) ρ2) (hk : ∀ ρ', I ds.length ρ' → fin (rest ρ') = o) : fin (sSeq (sFor ms it t b) rest ρ) = o := by
  obtain ⟨ρ', e, h⟩ := for_at (t := t) (b := b) I ds 0 (frz ms ρ) hI fun i d hd ρ hρ => by
    rw [Nat.zero_add] at hρ ⊢
    exact hb i d hd ρ hρ
  rw [Nat.zero_add] at h
  refine fin_run ρ' ?_ (hk ρ' h)
  unfold sFor
  rw [hi]
  exact e
def wrL (w h : Int) : List D := [.non, .tup [.int 0, .int 1], .tup [.int 1, .int 0], .tup [.int (w + 1), .int 1], .tup [.int 1, .int (h + 1)], .lst [.int 1, .int 1], .tup [.bl true, .int 1], .tup [.int 1]]
theorem wr_no {w h : Int} (w1 : 1 ≤ w) (h1 : 1 ≤ h) {d : D} (m : d ∈ wrL w h) : f_is_size [d, .int w, .int h] = some (.ok (.bl false)) := by
  unfold wrL at m
  simp only [List.mem_cons, List.not_mem_nil, or_false] at m
  rcases m with rfl | rfl | rfl | rfl | rfl | rfl | rfl | rfl
  · simp [f_is_size, b_is_size, tyTuple]
  · rw [p_is_size, inI_no (show ¬ ((1 : Int) ≤ 0 ∧ (0 : Int) ≤ w) by omega)]; rfl
  · rw [p_is_size, inI_no (show ¬ ((1 : Int) ≤ 0 ∧ (0 : Int) ≤ h) by omega), Bool.and_false]
  · rw [p_is_size, inI_no (show ¬ ((1 : Int) ≤ w + 1 ∧ w + 1 ≤ w) by omega)]; rfl
  · rw [p_is_size, inI_no (show ¬ ((1 : Int) ≤ h + 1 ∧ h + 1 ≤ h) by omega), Bool.and_false]
  · simp [f_is_size, b_is_size, tyTuple]
  · simp [f_is_size, b_is_size, tyTuple, p_is_intB]
  · simp [f_is_size, b_is_size, tyTuple]
theorem ok_arr (mx my X Y bw bh : Int) (o : Option Sd) : okN 10 (arrD mx my X Y bw bh o) = true := by
  cases o with
  | none => rfl
  | some x => cases x <;> rfl
theorem ok_off (mx my X Y bw bh : Int) (o : Option Sd) : okN 10 (offD mx my X Y bw bh o) = true := by
  cases o with
  | none => rfl
  | some x => cases x <;> rfl
theorem lf_arr (mx my X Y bw bh : Int) (o : Option Sd) : lf (arrD mx my X Y bw bh o) = true := by
  cases o with
  | none => rfl
  | some x => cases x <;> rfl
theorem lf_off (mx my X Y bw bh : Int) (o : Option Sd) : lf (offD mx my X Y bw bh o) = true := by
  cases o with
  | none => rfl
  | some x => cases x <;> rfl
theorem ne_am : (("arrow" : Str) = "middle") = False := eq_false (by decide)
theorem ne_ao : (("arrow" : Str) = "off_by") = False := eq_false (by decide)
theorem ne_ac : (("arrow" : Str) = "count_straight") = False := eq_false (by decide)
theorem ne_mo : (("middle" : Str) = "off_by") = False := eq_false (by decide)
theorem ne_mc : (("middle" : Str) = "count_straight") = False := eq_false (by decide)
theorem ne_oc : (("off_by" : Str) = "count_straight") = False := eq_false (by decide)
def waysD : D := .lst [.fn "arrow", .fn "middle", .fn "off_by", .fn "count_straight"]
theorem p_er0 {a b : D} {c : Str} {k : D} (h : f_arrow [a, b] = some (.error c)) (hr : r_L_error c = some k) : f_L_error [.int 0, a, b] = some (.ok k) := by
  have e1 : dIx (.lst [.fn "arrow", .fn "middle", .fn "off_by", .fn "count_straight"]) (.int 0) = some (.fn "arrow") := rfl
  simp [f_L_error, b_L_error, e1, callT, ne_am, ne_ao, ne_ac, ne_mo, ne_mc, ne_oc, h, hr, -v_ixL]
theorem p_er1 {a b : D} {c : Str} {k : D} (h : f_middle [a, b] = some (.error c)) (hr : r_L_error c = some k) : f_L_error [.int 1, a, b] = some (.ok k) := by
  have e1 : dIx (.lst [.fn "arrow", .fn "middle", .fn "off_by", .fn "count_straight"]) (.int 1) = some (.fn "middle") := rfl
  simp [f_L_error, b_L_error, e1, callT, ne_am, ne_ao, ne_ac, ne_mo, ne_mc, ne_oc, h, hr, -v_ixL]
theorem p_er2 {a b : D} {c : Str} {k : D} (h : f_off_by [a, b] = some (.error c)) (hr : r_L_error c = some k) : f_L_error [.int 2, a, b] = some (.ok k) := by
  have e1 : dIx (.lst [.fn "arrow", .fn "middle", .fn "off_by", .fn "count_straight"]) (.int 2) = some (.fn "off_by") := rfl
  simp [f_L_error, b_L_error, e1, callT, ne_am, ne_ao, ne_ac, ne_mo, ne_mc, ne_oc, h, hr, -v_ixL]
theorem p_er3 {a b : D} {c : Str} {k : D} (h : f_count_straight [a, b] = some (.error c)) (hr : r_L_error c = some k) : f_L_error [.int 3, a, b] = some (.ok k) := by
  have e1 : dIx (.lst [.fn "arrow", .fn "middle", .fn "off_by", .fn "count_straight"]) (.int 3) = some (.fn "count_straight") := rfl
  simp [f_L_error, b_L_error, e1, callT, ne_am, ne_ao, ne_ac, ne_mo, ne_mc, ne_oc, h, hr, -v_ixL]
theorem plain : ∀ ns : List Int, ns.length ≤ 63 → f_law [.scr ns] = some (.ok (.bl true)) := by
  intro ns hn0
  have hn : ns.length ≤ 1000 := by omega
  obtain ⟨w, h, bw, bh, g, s, o, w2, h2, bw2, bh2, g2, es⟩ := p_L_setting ns 10 hn (by omega) (by omega)
  have hw1 := o.w1
  have hh1 := o.h1
  have lfs := lf_st w h bw bh g s
  have d2 : divOk 2 = true := by decide
  rw [f_law, runD_fin]
  unfold b_law
  refine fin_run [.dat (.scr ns), .dat (stD w h bw bh g s), .no, .no, .no, .no, .no, .no, .no, .no, .no, .no, .no, .no, .no] (by simp [es]) ?_
  refine fin_for (fun k ρ => ∃ x3 : SL, ρ = [.dat (.scr ns), .dat (stD w h bw bh g s), .no, x3, .no, .no, .no, .no, .no, .no, .no, .no, .no, .no, .no] ∧ (0 < k → ∃ l t sw sh : Int, x3 = .dat (anD l t sw sh) ∧ OkA w h l t sw sh))
    (rgD 0 5) (by simp) ⟨.no, by simp, fun q => absurd q (Nat.lt_irrefl 0)⟩ ?_ ?_
  · rintro i d hd ρ ⟨x3, rfl, -⟩
    obtain ⟨hi, rfl⟩ := rgD_get hd
    rw [Int.zero_add]
    obtain ⟨l, t, sw, sh, a, sw4, sh4, ea⟩ := p_L_anchor ns (40 + 6 * i) w h (.tup [.int bw, .int bh]) (.int g) (.tup (s.map sdD)) hn (by omega) (by omega) hw1 hh1
    refine ⟨_, rfl, [.dat (.scr ns), .dat (stD w h bw bh g s), .no, .dat (anD l t sw sh), .no, .no, .no, .no, .no, .no, .no, .no, .no, .no, .no], ?_, .dat (anD l t sw sh), rfl, fun _ => ⟨l, t, sw, sh, rfl, a⟩⟩
    have e1 := p_Lk_arrow o a rfl
    have e2 := p_arrow o a rfl
    have e3 := p_middle o a
    have e4 := p_off_by o a rfl
    generalize s.find? (roomB w h bw bh g l t sw sh) = q at *
    have kA := ne_same (ok_arr (midI l sw) (midI t sh) (plX w bw g l sw q) (plY h bh g t sh q) bw bh q)
    have kO := ne_same (ok_off (midI l sw) (midI t sh) (plX w bw g l sw q) (plY h bh g t sh q) bw bh q)
    have lA := lf_arr (midI l sw) (midI t sh) (plX w bw g l sw q) (plY h bh g t sh q) bw bh q
    have lO := lf_off (midI l sw) (midI t sh) (plX w bw g l sw q) (plY h bh g t sh q) bw bh q
    generalize arrD (midI l sw) (midI t sh) (plX w bw g l sw q) (plY h bh g t sh q) bw bh q = due at *
    generalize offD (midI l sw) (midI t sh) (plX w bw g l sw q) (plY h bh g t sh q) bw bh q = off at *
    have kM := ne_same (d := .tup [.int (midI l sw), .int (midI t sh)]) rfl
    have hmx : l + (sw - 1) / 2 = midI l sw := rfl
    have hmy : t + (sh - 1) / 2 = midI t sh := rfl
    refine run_aft [.dat (.scr ns), .dat (stD w h bw bh g s), .dat (.int i), .dat (anD l t sw sh), .dat due, .dat off, .dat (.tup [.int (midI l sw), .int (midI t sh)]), .no, .no, .no, .no, .no, .no, .no, .no] ?_ rfl
    refine run_seq [.dat (.scr ns), .dat (stD w h bw bh g s), .dat (.int i), .dat (anD l t sw sh), .no, .no, .no, .no, .no, .no, .no, .no, .no, .no, .no] (by simp [ea, sm 6 (by omega) (by omega), lf, lfAll]) ?_
    refine run_seq [.dat (.scr ns), .dat (stD w h bw bh g s), .dat (.int i), .dat (anD l t sw sh), .dat due, .dat off, .no, .no, .no, .no, .no, .no, .no, .no, .no] (by simp [e1, lf, lfAll, lA, lO]) ?_
    refine run_seq [.dat (.scr ns), .dat (stD w h bw bh g s), .dat (.int i), .dat (anD l t sw sh), .dat due, .dat off, .dat (.tup [.int (midI l sw), .int (midI t sh)]), .no, .no, .no, .no, .no, .no, .no, .no] (by simp [d2, hmx, hmy, lf, lfAll]) ?_
    refine run_seq [.dat (.scr ns), .dat (stD w h bw bh g s), .dat (.int i), .dat (anD l t sw sh), .dat due, .dat off, .dat (.tup [.int (midI l sw), .int (midI t sh)]), .no, .no, .no, .no, .no, .no, .no, .no] (by simp [e3, kM]) ?_
    simp [e2, e4, kA, kO]
  · rintro ρ' ⟨x3, rfl, hx⟩
    rw [rgD_len] at hx
    obtain ⟨l, t, sw, sh, rfl, a⟩ := hx (by decide)
    have a1 := a.sw1
    have a2 := a.sh1
    have a3 := a.l1
    have a4 := a.t1
    have a5 := a.l2
    have a6 := a.t2
    have c0 := p_anchorsC w h sw sh (.tup [.int bw, .int bh]) (.int g) (.tup (s.map sdD)) (by omega) (by omega) (by omega) (by omega) (by omega) (by omega) (by omega) (by omega)
    have c1 := p_count_straight o a1 (show sw ≤ w by omega) a2 (show sh ≤ h by omega)
    have len := ancA_len (w := w) (h := h) (sw := sw) (sh := sh) (by omega) (by omega) (by omega) (by omega)
    have e := lc_filter (t := tgRN 13) (test := toB (sOp dEq (sOp dIx (sFn 2 f_L_arrow (sCons (sV 1) (sCons (sV 13) sNil))) (sC (.int 1))) (sC (.int 0)))) (elt := sV 13)
      (ρ := [some (.scr ns), some (stD w h bw bh g s), none, some (anD l t sw sh), none, none, none, some (.tup [.int sw, .int sh]), none, none, none, none, none, none, none]) (zeroA w h bw bh g s) id (ancA w h sw sh) fun d hd => by
        obtain ⟨l', t', rfl, a'⟩ := ancA_mem hd a1 a2
        have e1 := p_Lk_arrow o a' rfl
        have e2 := eq_off0 (midI l' sw) (midI t' sh) (plX w bw g l' sw (s.find? (roomB w h bw bh g l' t' sw sh))) (plY h bh g t' sh (s.find? (roomB w h bw bh g l' t' sw sh))) bw bh (s.find? (roomB w h bw bh g l' t' sw sh))
        have hZ : zeroA w h bw bh g s (anD l' t' sw sh) = (match offD (midI l' sw) (midI t' sh) (plX w bw g l' sw (s.find? (roomB w h bw bh g l' t' sw sh))) (plY h bh g t' sh (s.find? (roomB w h bw bh g l' t' sw sh))) bw bh (s.find? (roomB w h bw bh g l' t' sw sh)) with | .int i => i == 0 | _ => false) := rfl
        rw [hZ]
        generalize s.find? (roomB w h bw bh g l' t' sw sh) = q at *
        generalize arrD (midI l' sw) (midI t' sh) (plX w bw g l' sw q) (plY h bh g t' sh q) bw bh q = due at *
        generalize offD (midI l' sw) (midI t' sh) (plX w bw g l' sw q) (plY h bh g t' sh q) bw bh q = off at *
        have ix : dIx (.tup [due, off]) (.int 1) = some off := rfl
        exact ⟨_, rfl, by (simp [e1, e2, ix, -v_ixT] <;> cases off <;> rfl), by simp⟩
    rw [List.map_id] at e
    have len1 : (ancA w h sw sh).length ≤ 1000000 := by omega
    have len2 : ((ancA w h sw sh).filter (zeroA w h bw bh g s)).length ≤ 1000000 := Nat.le_trans (List.length_filter_le _ _) len1
    have lfL : lfAll ((ancA w h sw sh).filter (zeroA w h bw bh g s)) = true := lfAll_of fun d hd => by
      obtain ⟨l', t', rfl, a'⟩ := ancA_mem (List.mem_filter.mp hd).1 a1 a2
      rfl
    generalize (ancA w h sw sh).filter (zeroA w h bw bh g s) = L at *
    obtain ⟨odd, eo, ko⟩ := p_badsetting ns 1 hn (by omega) (by omega)
    obtain ⟨bad, eb, kb⟩ := p_badanchor ns 2 w h (.tup [.int bw, .int bh]) (.int g) (.tup (s.map sdD)) hn (by omega) (by omega) hw1 hh1
    obtain ⟨u, u1, u2, eu⟩ := p_drawn ns 3 8 hn (by omega) (by omega) (by omega)
    have hu : u.toNat < (wrL w h).length := by show u.toNat < 8; omega
    have hb : (wrL w h)[u.toNat]? = some (wrL w h)[u.toNat] := List.getElem?_eq_getElem hu
    have hno := wr_no hw1 hh1 (List.getElem_mem hu)
    have hi : dIx (.lst (wrL w h)) (.int u) = some (wrL w h)[u.toNat] := by rw [v_ixL, at_natL _ _ u1, hb]
    generalize (wrL w h)[u.toNat] = wrong at hi hno
    unfold wrL at hi
    have kc : ∀ y, f_check_both [odd, y] = some (.error "InvalidSetting") := fun y => by simp [f_check_both, b_check_both, ko]
    have kz : ∀ y, f_check_size [odd, y] = some (.error "InvalidSetting") := fun y => by simp [f_check_size, b_check_size, ko]
    have kd : f_check_both [stD w h bw bh g s, bad] = some (.error "InvalidAnchor") := by simp [f_check_both, b_check_both, p_check_setting o, kb]
    have kw : f_check_size [stD w h bw bh g s, wrong] = some (.error "InvalidSize") := by simp [f_check_size, b_check_size, p_check_setting o, hno]
    have rS : r_L_error "InvalidSetting" = some (.int 0) := by simp [r_L_error]
    have rA : r_L_error "InvalidAnchor" = some (.int 1) := by simp [r_L_error, ne_InvalidAnchor_InvalidSetting]
    have rZ : r_L_error "InvalidSize" = some (.int 2) := by simp [r_L_error, ne_InvalidSize_InvalidSetting, ne_InvalidSize_InvalidAnchor]
    have q0 : f_L_error [.int 0, odd, bad] = some (.ok (.int 0)) := p_er0 (c := "InvalidSetting") (by simp [f_arrow, b_arrow, kc]) rS
    have q1 : f_L_error [.int 1, odd, bad] = some (.ok (.int 0)) := p_er1 (c := "InvalidSetting") (by simp [f_middle, b_middle, kc]) rS
    have q2 : f_L_error [.int 2, odd, bad] = some (.ok (.int 0)) := p_er2 (c := "InvalidSetting") (by simp [f_off_by, b_off_by, kc]) rS
    have q3 : f_L_error [.int 3, odd, bad] = some (.ok (.int 0)) := p_er3 (c := "InvalidSetting") (by simp [f_count_straight, b_count_straight, kz]) rS
    have s0 : f_L_error [.int 0, stD w h bw bh g s, bad] = some (.ok (.int 1)) := p_er0 (c := "InvalidAnchor") (by simp [f_arrow, b_arrow, kd]) rA
    have s1 : f_L_error [.int 1, stD w h bw bh g s, bad] = some (.ok (.int 1)) := p_er1 (c := "InvalidAnchor") (by simp [f_middle, b_middle, kd]) rA
    have s2 : f_L_error [.int 2, stD w h bw bh g s, bad] = some (.ok (.int 1)) := p_er2 (c := "InvalidAnchor") (by simp [f_off_by, b_off_by, kd]) rA
    have t3 : f_L_error [.int 3, stD w h bw bh g s, wrong] = some (.ok (.int 2)) := p_er3 (c := "InvalidSize") (by simp [f_count_straight, b_count_straight, kw]) rZ
    refine fin_run [.dat (.scr ns), .dat (stD w h bw bh g s), .no, .dat (anD l t sw sh), .no, .no, .no, .dat (.tup [.int sw, .int sh]), .no, .no, .no, .no, .no, .no, .no] (by simp [cut3, lf, lfAll]) ?_
    refine fin_run [.dat (.scr ns), .dat (stD w h bw bh g s), .no, .dat (anD l t sw sh), .no, .no, .no, .dat (.tup [.int sw, .int sh]), .own (.lst L), .no, .no, .no, .no, .no, .no] (by simp [c0, e, len1, len2, lfL]) ?_
    refine fin_run [.dat (.scr ns), .dat (stD w h bw bh g s), .no, .dat (anD l t sw sh), .no, .no, .no, .dat (.tup [.int sw, .int sh]), .own (.lst L), .no, .no, .no, .no, .no, .no] (by simp [c1, len2]) ?_
    refine fin_run [.dat (.scr ns), .dat (stD w h bw bh g s), .no, .dat (anD l t sw sh), .no, .no, .no, .dat (.tup [.int sw, .int sh]), .own (.lst L), .dat odd, .dat bad, .no, .no, .no, .no] (by simp [eo, eb, parS]) ?_
    refine fin_run [.dat (.scr ns), .dat (stD w h bw bh g s), .no, .dat (anD l t sw sh), .no, .no, .no, .dat (.tup [.int sw, .int sh]), .own (.lst L), .dat odd, .dat bad, .own (.lst ((wrL w h).take 6)), .no, .no, .no] (by simp [wrL, lf, lfAll]) ?_
    refine fin_run [.dat (.scr ns), .dat (stD w h bw bh g s), .no, .dat (anD l t sw sh), .no, .no, .no, .dat (.tup [.int sw, .int sh]), .own (.lst L), .dat odd, .dat bad, .own (.lst (wrL w h)), .no, .no, .no] (by simp [wrL, lf, lfAll]) ?_
    refine fin_run [.dat (.scr ns), .dat (stD w h bw bh g s), .no, .dat (anD l t sw sh), .no, .no, .no, .dat (.tup [.int sw, .int sh]), .own (.lst L), .dat odd, .dat bad, .dat wrong, .no, .no, .no] (by unfold wrL; cases hl : lf wrong <;> simp [eu, hi, hl, -v_ixL]) ?_
    have m1 := lc_map (t := tgRN 14) (elt := sFn 3 f_L_error (sCons (sV 14) (sCons (sV 9) (sCons (sV 10) sNil))))
      (ρ := [some (.scr ns), some (stD w h bw bh g s), none, some (anD l t sw sh), none, none, none, some (.tup [.int sw, .int sh]), none, some odd, some bad, some wrong, none, none, none]) (fun _ => .int 0) (rgD 0 4) fun d hd => by
        obtain ⟨i, hi, rfl⟩ := rg0_mem hd
        refine ⟨_, rfl, ?_⟩
        match i, hi with
        | 0, _ => simp [q0]
        | 1, _ => simp [q1]
        | 2, _ => simp [q2]
        | 3, _ => simp [q3]
    have m2 := lc_map (t := tgRN 14) (elt := sFn 3 f_L_error (sCons (sV 14) (sCons (sV 1) (sCons (sV 10) sNil))))
      (ρ := [some (.scr ns), some (stD w h bw bh g s), none, some (anD l t sw sh), none, none, none, some (.tup [.int sw, .int sh]), none, some odd, some bad, some wrong, none, none, none]) (fun _ => .int 1) (rgD 0 3) fun d hd => by
        obtain ⟨i, hi, rfl⟩ := rg0_mem hd
        refine ⟨_, rfl, ?_⟩
        match i, hi with
        | 0, _ => simp [s0]
        | 1, _ => simp [s1]
        | 2, _ => simp [s2]
    change lcS _ _ _ _ _ = some [.int 0, .int 0, .int 0, .int 0] at m1
    change lcS _ _ _ _ _ = some [.int 1, .int 1, .int 1] at m2
    refine fin_run [.dat (.scr ns), .dat (stD w h bw bh g s), .no, .dat (anD l t sw sh), .no, .no, .no, .dat (.tup [.int sw, .int sh]), .own (.lst L), .dat odd, .dat bad, .dat wrong, .own (.lst [.int 0, .int 0, .int 0, .int 0, .int 1, .int 1, .int 1]), .no, .no] (by simp [m1, m2, rgD_len, lf, lfAll]) ?_
    have fe : dEq (.lst [.int 0, .int 0, .int 0, .int 0, .int 1, .int 1, .int 1, .int 2]) (.lst [.int 0, .int 0, .int 0, .int 0, .int 1, .int 1, .int 1, .int 2]) = some (.bl true) := rfl
    simp [t3, fe, List.replicate]
end Pk
namespace Pk
open PySem L2 Dl
theorem all_mk {P : Program} {w : World} {K : PySem.W.Frag} {h : Heap} {mg : Str → Option Value} {fa : Addr} (X : K.In h) (G : h.Ns mainGlobals mg) (hfa : mg "law" = some (.ref fa))
    (i_L_drawn : DefIn K "_law_drawn" s_L_drawn)
    (i_L_setting : DefIn K "_law_setting" s_L_setting)
    (i_L_anchor : DefIn K "_law_anchor" s_L_anchor)
    (i_L_within : DefIn K "_law_within" s_L_within)
    (i_L_moved : DefIn K "_law_moved" s_L_moved)
    (i_L_spot : DefIn K "_law_spot" s_L_spot)
    (i_L_side : DefIn K "_law_side" s_L_side)
    (i_L_arrow : DefIn K "_law_arrow" s_L_arrow)
    (i_is_int : DefIn K "is_int" s_is_int)
    (i_is_side : DefIn K "is_side" s_is_side)
    (i_are_sides : DefIn K "are_sides" s_are_sides)
    (i_is_size : DefIn K "is_size" s_is_size)
    (i_is_setting : DefIn K "is_setting" s_is_setting)
    (i_check_setting : DefIn K "check_setting" s_check_setting)
    (i_check_size : DefIn K "check_size" s_check_size)
    (i_all_anchors : DefIn K "all_anchors" s_all_anchors)
    (i_has_room : DefIn K "has_room" s_has_room)
    (i_find_fitting : DefIn K "find_fitting" s_find_fitting)
    (i_find_side : DefIn K "find_side" s_find_side)
    (i_centred : DefIn K "centred" s_centred)
    (i_find_raw : DefIn K "find_raw" s_find_raw)
    (i_within : DefIn K "within" s_within)
    (i_find_place : DefIn K "find_place" s_find_place)
    (i_find_middle : DefIn K "find_middle" s_find_middle)
    (i_nearest : DefIn K "nearest" s_nearest)
    (i_find_arrow : DefIn K "find_arrow" s_find_arrow)
    (i_find_off : DefIn K "find_off" s_find_off)
    (i_count_straight : DefIn K "count_straight" s_count_straight)
    (i_L_badsetting : DefIn K "_law_badsetting" s_L_badsetting)
    (i_L_badanchor : DefIn K "_law_badanchor" s_L_badanchor)
    (i_has_anchor : DefIn K "has_anchor" s_has_anchor)
    (i_check_anchor : DefIn K "check_anchor" s_check_anchor)
    (i_check_both : DefIn K "check_both" s_check_both)
    (i_middle : DefIn K "middle" s_middle)
    (i_L_anchors : DefIn K "_law_anchors" s_L_anchors)
    (i_arrow : DefIn K "arrow" s_arrow)
    (i_off_by : DefIn K "off_by" s_off_by)
    (i_L_error : DefIn K "_law_error" s_L_error)
    (i_law : DefIn K "law" s_law)
    (b_abs : PySem.W.nsIn K mainGlobals "abs" = some none)
    (b_all : PySem.W.nsIn K mainGlobals "all" = some none)
    (b_bool : PySem.W.nsIn K mainGlobals "bool" = some none)
    (b_int : PySem.W.nsIn K mainGlobals "int" = some none)
    (b_isinstance : PySem.W.nsIn K mainGlobals "isinstance" = some none)
    (b_len : PySem.W.nsIn K mainGlobals "len" = some none)
    (b_list : PySem.W.nsIn K mainGlobals "list" = some none)
    (b_max : PySem.W.nsIn K mainGlobals "max" = some none)
    (b_min : PySem.W.nsIn K mainGlobals "min" = some none)
    (b_range : PySem.W.nsIn K mainGlobals "range" = some none)
    (b_set : PySem.W.nsIn K mainGlobals "set" = some none)
    (b_sorted : PySem.W.nsIn K mainGlobals "sorted" = some none)
    (b_str : PySem.W.nsIn K mainGlobals "str" = some none)
    (b_tuple : PySem.W.nsIn K mainGlobals "tuple" = some none)
    (c_BOTTOM : GlIn K "BOTTOM" (.str "bottom"))
    (c_LEFT : GlIn K "LEFT" (.str "left"))
    (c_MAX_GAP : GlIn K "MAX_GAP" (.int 5))
    (c_MAX_SIZE : GlIn K "MAX_SIZE" (.int 30))
    (c_OVER : GlIn K "OVER" (.str "over"))
    (c_RIGHT : GlIn K "RIGHT" (.str "right"))
    (c_SIDES : GlIn K "SIDES" (.tup [(.str "top"), (.str "bottom"), (.str "left"), (.str "right")]))
    (c_TOP : GlIn K "TOP" (.str "top"))
    (x_InvalidAnchor : ExcIn K "InvalidAnchor")
    (x_InvalidSetting : ExcIn K "InvalidSetting")
    (x_InvalidSize : ExcIn K "InvalidSize")
    (ec_InvalidSetting : ExcCIn K "InvalidSetting")
    (eg_InvalidSetting : CaughtIn K "InvalidSetting" "PopupError")
    (ec_InvalidAnchor : ExcCIn K "InvalidAnchor")
    (eg_InvalidAnchor : CaughtIn K "InvalidAnchor" "PopupError")
    (ec_InvalidSize : ExcCIn K "InvalidSize")
    (eg_InvalidSize : CaughtIn K "InvalidSize" "PopupError")
    (ek_InvalidSetting_InvalidSetting : KitIn K "InvalidSetting" "InvalidSetting" (decide (("InvalidSetting" : Str) = "InvalidSetting")))
    (ek_InvalidSetting_InvalidAnchor : KitIn K "InvalidSetting" "InvalidAnchor" (decide (("InvalidSetting" : Str) = "InvalidAnchor")))
    (ek_InvalidSetting_InvalidSize : KitIn K "InvalidSetting" "InvalidSize" (decide (("InvalidSetting" : Str) = "InvalidSize")))
    (ek_InvalidAnchor_InvalidSetting : KitIn K "InvalidAnchor" "InvalidSetting" (decide (("InvalidAnchor" : Str) = "InvalidSetting")))
    (ek_InvalidAnchor_InvalidAnchor : KitIn K "InvalidAnchor" "InvalidAnchor" (decide (("InvalidAnchor" : Str) = "InvalidAnchor")))
    (ek_InvalidAnchor_InvalidSize : KitIn K "InvalidAnchor" "InvalidSize" (decide (("InvalidAnchor" : Str) = "InvalidSize")))
    (ek_InvalidSize_InvalidSetting : KitIn K "InvalidSize" "InvalidSetting" (decide (("InvalidSize" : Str) = "InvalidSetting")))
    (ek_InvalidSize_InvalidAnchor : KitIn K "InvalidSize" "InvalidAnchor" (decide (("InvalidSize" : Str) = "InvalidAnchor")))
    (ek_InvalidSize_InvalidSize : KitIn K "InvalidSize" "InvalidSize" (decide (("InvalidSize" : Str) = "InvalidSize")))
    (iL : LamIn K)
    (plain : ∀ ns : List Int, ns.length ≤ 63 → f_law [.scr ns] = some (.ok (.bl true))) :
    ∃ (fd : FuncData) (fx c P0 : Addr), mg "_law_arrow" = some (.ref fx) ∧ TabOf K fx c P0 ∧ K.lookup P0 = none ∧ PySem.W.CodeHd h c P0 ∧ (∀ (s : Shared) (u : Value), BindsTo s fd ⟨[u], []⟩ [("_law_script", u)]) ∧ ∀ base : Heap, K.In base → base.Ns mainGlobals mg → LamX.TabB base mg c P0 → FnOk P w K mg base (L2.CX P w) 11 fa fd ["_law_script"] (spLaw K mg 63) := by
  have e_is : ∀ c, c ∈ exs → ∀ x, x ∈ exs → IsE K mg c x (decide (c = x)) := by
    intro c hc x hx
    simp only [exs, List.mem_cons, List.not_mem_nil, or_false] at hc hx
    rcases hc with rfl | rfl | rfl <;> rcases hx with rfl | rfl | rfl <;> first | exact isE_of ec_InvalidSetting ek_InvalidSetting_InvalidSetting X G | exact isE_of ec_InvalidSetting ek_InvalidSetting_InvalidAnchor X G | exact isE_of ec_InvalidSetting ek_InvalidSetting_InvalidSize X G | exact isE_of ec_InvalidAnchor ek_InvalidAnchor_InvalidSetting X G | exact isE_of ec_InvalidAnchor ek_InvalidAnchor_InvalidAnchor X G | exact isE_of ec_InvalidAnchor ek_InvalidAnchor_InvalidSize X G | exact isE_of ec_InvalidSize ek_InvalidSize_InvalidSetting X G | exact isE_of ec_InvalidSize ek_InvalidSize_InvalidAnchor X G | exact isE_of ec_InvalidSize ek_InvalidSize_InvalidSize X G
  have e_c : ∀ c, c ∈ exs → Caught K mg c "PopupError" := by
    intro c hc
    simp only [exs, List.mem_cons, List.not_mem_nil, or_false] at hc
    rcases hc with rfl | rfl | rfl <;> first | exact eg_InvalidSetting.gl X G | exact eg_InvalidAnchor.gl X G | exact eg_InvalidSize.gl X G
  have T : Txt K mg := { b_abs := PySem.W.mg_none_of X G b_abs, b_all := PySem.W.mg_none_of X G b_all, b_bool := PySem.W.mg_none_of X G b_bool, b_int := PySem.W.mg_none_of X G b_int, b_isinstance := PySem.W.mg_none_of X G b_isinstance, b_len := PySem.W.mg_none_of X G b_len, b_list := PySem.W.mg_none_of X G b_list, b_max := PySem.W.mg_none_of X G b_max, b_min := PySem.W.mg_none_of X G b_min, b_range := PySem.W.mg_none_of X G b_range, b_set := PySem.W.mg_none_of X G b_set, b_sorted := PySem.W.mg_none_of X G b_sorted, b_str := PySem.W.mg_none_of X G b_str, b_tuple := PySem.W.mg_none_of X G b_tuple, c_BOTTOM := c_BOTTOM.gl X G, c_LEFT := c_LEFT.gl X G, c_MAX_GAP := c_MAX_GAP.gl X G, c_MAX_SIZE := c_MAX_SIZE.gl X G, c_OVER := c_OVER.gl X G, c_RIGHT := c_RIGHT.gl X G, c_SIDES := c_SIDES.gl X G, c_TOP := c_TOP.gl X G, x_InvalidAnchor := x_InvalidAnchor.gl X G, x_InvalidSetting := x_InvalidSetting.gl X G, x_InvalidSize := x_InvalidSize.gl X G, e_is := e_is, e_c := e_c, e_P := eg_InvalidSetting.gp X G }
  obtain ⟨a_L_drawn, fd_L_drawn, F_L_drawn, m_L_drawn, bi_L_drawn, be_L_drawn⟩ := i_L_drawn.get (ps := ["_law_script", "_law_k", "_law_many"]) X G (fun _ _ _ _ _ _ us hl => match us, hl with | [_, _, _], _ => rfl)
  obtain ⟨a_L_setting, fd_L_setting, F_L_setting, m_L_setting, bi_L_setting, be_L_setting⟩ := i_L_setting.get (ps := ["_law_script", "_law_at"]) X G (fun _ _ _ _ _ _ us hl => match us, hl with | [_, _], _ => rfl)
  obtain ⟨a_L_anchor, fd_L_anchor, F_L_anchor, m_L_anchor, bi_L_anchor, be_L_anchor⟩ := i_L_anchor.get (ps := ["_law_script", "_law_at", "_law_setting_here"]) X G (fun _ _ _ _ _ _ us hl => match us, hl with | [_, _, _], _ => rfl)
  obtain ⟨a_L_within, fd_L_within, F_L_within, m_L_within, bi_L_within, be_L_within⟩ := i_L_within.get (ps := ["_law_spot_here", "_law_area"]) X G (fun _ _ _ _ _ _ us hl => match us, hl with | [_, _], _ => rfl)
  obtain ⟨a_L_moved, fd_L_moved, F_L_moved, m_L_moved, bi_L_moved, be_L_moved⟩ := i_L_moved.get (ps := ["_law_start", "_law_size", "_law_low", "_law_length"]) X G (fun _ _ _ _ _ _ us hl => match us, hl with | [_, _, _, _], _ => rfl)
  obtain ⟨a_L_spot, fd_L_spot, F_L_spot, m_L_spot, bi_L_spot, be_L_spot⟩ := i_L_spot.get (ps := ["_law_setting_here", "_law_anchor_here", "_law_side_here", "_law_area"]) X G (fun _ _ _ _ _ _ us hl => match us, hl with | [_, _, _, _], _ => rfl)
  obtain ⟨a_L_side, fd_L_side, F_L_side, m_L_side, bi_L_side, be_L_side⟩ := i_L_side.get (ps := ["_law_setting_here", "_law_anchor_here"]) X G (fun _ _ _ _ _ _ us hl => match us, hl with | [_, _], _ => rfl)
  obtain ⟨a_L_arrow, fd_L_arrow, F_L_arrow, m_L_arrow, bi_L_arrow, be_L_arrow⟩ := i_L_arrow.get (ps := ["_law_setting_here", "_law_anchor_here"]) X G (fun _ _ _ _ _ _ us hl => match us, hl with | [_, _], _ => rfl)
  obtain ⟨a_is_int, fd_is_int, F_is_int, m_is_int, bi_is_int, be_is_int⟩ := i_is_int.get (ps := ["value", "least", "most"]) X G (fun _ _ _ _ _ _ us hl => match us, hl with | [_, _, _], _ => rfl)
  obtain ⟨a_is_side, fd_is_side, F_is_side, m_is_side, bi_is_side, be_is_side⟩ := i_is_side.get (ps := ["value"]) X G (fun _ _ _ _ _ _ us hl => match us, hl with | [_], _ => rfl)
  obtain ⟨a_are_sides, fd_are_sides, F_are_sides, m_are_sides, bi_are_sides, be_are_sides⟩ := i_are_sides.get (ps := ["value"]) X G (fun _ _ _ _ _ _ us hl => match us, hl with | [_], _ => rfl)
  obtain ⟨a_is_size, fd_is_size, F_is_size, m_is_size, bi_is_size, be_is_size⟩ := i_is_size.get (ps := ["value", "wide", "high"]) X G (fun _ _ _ _ _ _ us hl => match us, hl with | [_, _, _], _ => rfl)
  obtain ⟨a_is_setting, fd_is_setting, F_is_setting, m_is_setting, bi_is_setting, be_is_setting⟩ := i_is_setting.get (ps := ["candidate"]) X G (fun _ _ _ _ _ _ us hl => match us, hl with | [_], _ => rfl)
  obtain ⟨a_check_setting, fd_check_setting, F_check_setting, m_check_setting, bi_check_setting, be_check_setting⟩ := i_check_setting.get (ps := ["value"]) X G (fun _ _ _ _ _ _ us hl => match us, hl with | [_], _ => rfl)
  obtain ⟨a_check_size, fd_check_size, F_check_size, m_check_size, bi_check_size, be_check_size⟩ := i_check_size.get (ps := ["setting", "size"]) X G (fun _ _ _ _ _ _ us hl => match us, hl with | [_, _], _ => rfl)
  obtain ⟨a_all_anchors, fd_all_anchors, F_all_anchors, m_all_anchors, bi_all_anchors, be_all_anchors⟩ := i_all_anchors.get (ps := ["setting", "size"]) X G (fun _ _ _ _ _ _ us hl => match us, hl with | [_, _], _ => rfl)
  obtain ⟨a_has_room, fd_has_room, F_has_room, m_has_room, bi_has_room, be_has_room⟩ := i_has_room.get (ps := ["setting", "anchor", "side"]) X G (fun _ _ _ _ _ _ us hl => match us, hl with | [_, _, _], _ => rfl)
  obtain ⟨a_find_fitting, fd_find_fitting, F_find_fitting, m_find_fitting, bi_find_fitting, be_find_fitting⟩ := i_find_fitting.get (ps := ["setting", "anchor"]) X G (fun _ _ _ _ _ _ us hl => match us, hl with | [_, _], _ => rfl)
  obtain ⟨a_find_side, fd_find_side, F_find_side, m_find_side, bi_find_side, be_find_side⟩ := i_find_side.get (ps := ["setting", "anchor"]) X G (fun _ _ _ _ _ _ us hl => match us, hl with | [_, _], _ => rfl)
  obtain ⟨a_centred, fd_centred, F_centred, m_centred, bi_centred, be_centred⟩ := i_centred.get (ps := ["start", "size", "box"]) X G (fun _ _ _ _ _ _ us hl => match us, hl with | [_, _, _], _ => rfl)
  obtain ⟨a_find_raw, fd_find_raw, F_find_raw, m_find_raw, bi_find_raw, be_find_raw⟩ := i_find_raw.get (ps := ["setting", "anchor"]) X G (fun _ _ _ _ _ _ us hl => match us, hl with | [_, _], _ => rfl)
  obtain ⟨a_within, fd_within, F_within, m_within, bi_within, be_within⟩ := i_within.get (ps := ["start", "box", "screen"]) X G (fun _ _ _ _ _ _ us hl => match us, hl with | [_, _, _], _ => rfl)
  obtain ⟨a_find_place, fd_find_place, F_find_place, m_find_place, bi_find_place, be_find_place⟩ := i_find_place.get (ps := ["setting", "anchor"]) X G (fun _ _ _ _ _ _ us hl => match us, hl with | [_, _], _ => rfl)
  obtain ⟨a_find_middle, fd_find_middle, F_find_middle, m_find_middle, bi_find_middle, be_find_middle⟩ := i_find_middle.get (ps := ["anchor"]) X G (fun _ _ _ _ _ _ us hl => match us, hl with | [_], _ => rfl)
  obtain ⟨a_nearest, fd_nearest, F_nearest, m_nearest, bi_nearest, be_nearest⟩ := i_nearest.get (ps := ["value", "start", "size"]) X G (fun _ _ _ _ _ _ us hl => match us, hl with | [_, _, _], _ => rfl)
  obtain ⟨a_find_arrow, fd_find_arrow, F_find_arrow, m_find_arrow, bi_find_arrow, be_find_arrow⟩ := i_find_arrow.get (ps := ["setting", "anchor"]) X G (fun _ _ _ _ _ _ us hl => match us, hl with | [_, _], _ => rfl)
  obtain ⟨a_find_off, fd_find_off, F_find_off, m_find_off, bi_find_off, be_find_off⟩ := i_find_off.get (ps := ["setting", "anchor"]) X G (fun _ _ _ _ _ _ us hl => match us, hl with | [_, _], _ => rfl)
  obtain ⟨a_count_straight, fd_count_straight, F_count_straight, m_count_straight, bi_count_straight, be_count_straight⟩ := i_count_straight.get (ps := ["setting", "size"]) X G (fun _ _ _ _ _ _ us hl => match us, hl with | [_, _], _ => rfl)
  obtain ⟨a_L_badsetting, fd_L_badsetting, F_L_badsetting, m_L_badsetting, bi_L_badsetting, be_L_badsetting⟩ := i_L_badsetting.get (ps := ["_law_script", "_law_at"]) X G (fun _ _ _ _ _ _ us hl => match us, hl with | [_, _], _ => rfl)
  obtain ⟨a_L_badanchor, fd_L_badanchor, F_L_badanchor, m_L_badanchor, bi_L_badanchor, be_L_badanchor⟩ := i_L_badanchor.get (ps := ["_law_script", "_law_at", "_law_setting_here"]) X G (fun _ _ _ _ _ _ us hl => match us, hl with | [_, _, _], _ => rfl)
  obtain ⟨a_has_anchor, fd_has_anchor, F_has_anchor, m_has_anchor, bi_has_anchor, be_has_anchor⟩ := i_has_anchor.get (ps := ["setting", "candidate"]) X G (fun _ _ _ _ _ _ us hl => match us, hl with | [_, _], _ => rfl)
  obtain ⟨a_check_anchor, fd_check_anchor, F_check_anchor, m_check_anchor, bi_check_anchor, be_check_anchor⟩ := i_check_anchor.get (ps := ["setting", "value"]) X G (fun _ _ _ _ _ _ us hl => match us, hl with | [_, _], _ => rfl)
  obtain ⟨a_check_both, fd_check_both, F_check_both, m_check_both, bi_check_both, be_check_both⟩ := i_check_both.get (ps := ["setting", "anchor"]) X G (fun _ _ _ _ _ _ us hl => match us, hl with | [_, _], _ => rfl)
  obtain ⟨a_middle, fd_middle, F_middle, m_middle, bi_middle, be_middle⟩ := i_middle.get (ps := ["setting", "anchor"]) X G (fun _ _ _ _ _ _ us hl => match us, hl with | [_, _], _ => rfl)
  obtain ⟨a_L_anchors, fd_L_anchors, F_L_anchors, m_L_anchors, bi_L_anchors, be_L_anchors⟩ := i_L_anchors.get (ps := ["_law_setting_here", "_law_size"]) X G (fun _ _ _ _ _ _ us hl => match us, hl with | [_, _], _ => rfl)
  obtain ⟨a_arrow, fd_arrow, F_arrow, m_arrow, bi_arrow, be_arrow⟩ := i_arrow.get (ps := ["setting", "anchor"]) X G (fun _ _ _ _ _ _ us hl => match us, hl with | [_, _], _ => rfl)
  obtain ⟨a_off_by, fd_off_by, F_off_by, m_off_by, bi_off_by, be_off_by⟩ := i_off_by.get (ps := ["setting", "anchor"]) X G (fun _ _ _ _ _ _ us hl => match us, hl with | [_, _], _ => rfl)
  obtain ⟨a_L_error, fd_L_error, F_L_error, m_L_error, bi_L_error, be_L_error⟩ := i_L_error.get (ps := ["_law_way", "_law_one", "_law_two"]) X G (fun _ _ _ _ _ _ us hl => match us, hl with | [_, _, _], _ => rfl)
  obtain ⟨a_law, fd_law, F_law, m_law, bi_law, be_law⟩ := i_law.get (ps := ["_law_script"]) X G (fun _ _ _ _ _ _ us hl => match us, hl with | [_], _ => rfl)
  have e := hfa.symm.trans m_law
  cases e
  obtain ⟨fx, cA, PA, oA, fdx, hxA, hTA, hout, hhd, hlk, hdat, hcA⟩ := iL.get X G
  have eA := m_L_arrow.symm.trans hxA
  cases eA
  have hcA2 : fd_L_arrow.code = .ref cA := by rw [← Fun.code_of F_L_arrow hlk hdat]; exact hcA
  refine ⟨fd_law, _, cA, PA, hxA, hTA, hout, hhd, fun s u => be_law s [u] rfl, fun base _ _ TB => law_ok ?_ plain⟩
  have G_L_drawn : FnD P w K mg base 2 "_law_drawn" 3 f_L_drawn := w_L_drawn T F_L_drawn m_L_drawn bi_L_drawn
  have G_L_setting : FnD P w K mg base 3 "_law_setting" 2 f_L_setting := w_L_setting T F_L_setting m_L_setting bi_L_setting G_L_drawn
  have G_L_anchor : FnD P w K mg base 3 "_law_anchor" 3 f_L_anchor := w_L_anchor T F_L_anchor m_L_anchor bi_L_anchor G_L_drawn
  have G_L_within : FnD P w K mg base 2 "_law_within" 2 f_L_within := w_L_within T F_L_within m_L_within bi_L_within
  have G_L_moved : FnD P w K mg base 2 "_law_moved" 4 f_L_moved := w_L_moved T F_L_moved m_L_moved bi_L_moved
  have G_L_spot : FnD P w K mg base 3 "_law_spot" 4 f_L_spot := w_L_spot T F_L_spot m_L_spot bi_L_spot G_L_moved
  have G_L_side : FnD P w K mg base 4 "_law_side" 2 f_L_side := w_L_side T F_L_side m_L_side bi_L_side G_L_within G_L_spot
  have G_L_arrow : FnD P w K mg base 5 "_law_arrow" 2 f_L_arrow := w_L_arrow T hxA hTA TB hcA2 F_L_arrow m_L_arrow bi_L_arrow G_L_side G_L_spot
  have G_is_int : FnD P w K mg base 2 "is_int" 3 f_is_int := w_is_int T F_is_int m_is_int bi_is_int
  have G_is_side : FnD P w K mg base 2 "is_side" 1 f_is_side := w_is_side T F_is_side m_is_side bi_is_side
  have G_are_sides : FnD P w K mg base 3 "are_sides" 1 f_are_sides := w_are_sides T F_are_sides m_are_sides bi_are_sides G_is_side
  have G_is_size : FnD P w K mg base 3 "is_size" 3 f_is_size := w_is_size T F_is_size m_is_size bi_is_size G_is_int
  have G_is_setting : FnD P w K mg base 4 "is_setting" 1 f_is_setting := w_is_setting T F_is_setting m_is_setting bi_is_setting G_is_int G_are_sides G_is_size
  have G_check_setting : FnD P w K mg base 5 "check_setting" 1 f_check_setting := w_check_setting T F_check_setting m_check_setting bi_check_setting G_is_setting
  have G_check_size : FnD P w K mg base 6 "check_size" 2 f_check_size := w_check_size T F_check_size m_check_size bi_check_size G_check_setting G_is_size
  have G_all_anchors : FnD P w K mg base 2 "all_anchors" 2 f_all_anchors := w_all_anchors T F_all_anchors m_all_anchors bi_all_anchors
  have G_has_room : FnD P w K mg base 2 "has_room" 3 f_has_room := w_has_room T F_has_room m_has_room bi_has_room
  have G_find_fitting : FnD P w K mg base 3 "find_fitting" 2 f_find_fitting := w_find_fitting T F_find_fitting m_find_fitting bi_find_fitting G_has_room
  have G_find_side : FnD P w K mg base 4 "find_side" 2 f_find_side := w_find_side T F_find_side m_find_side bi_find_side G_find_fitting
  have G_centred : FnD P w K mg base 2 "centred" 3 f_centred := w_centred T F_centred m_centred bi_centred
  have G_find_raw : FnD P w K mg base 5 "find_raw" 2 f_find_raw := w_find_raw T F_find_raw m_find_raw bi_find_raw G_centred G_find_side
  have G_within : FnD P w K mg base 2 "within" 3 f_within := w_within T F_within m_within bi_within
  have G_find_place : FnD P w K mg base 6 "find_place" 2 f_find_place := w_find_place T F_find_place m_find_place bi_find_place G_find_raw G_within
  have G_find_middle : FnD P w K mg base 2 "find_middle" 1 f_find_middle := w_find_middle T F_find_middle m_find_middle bi_find_middle
  have G_nearest : FnD P w K mg base 2 "nearest" 3 f_nearest := w_nearest T F_nearest m_nearest bi_nearest
  have G_find_arrow : FnD P w K mg base 7 "find_arrow" 2 f_find_arrow := w_find_arrow T F_find_arrow m_find_arrow bi_find_arrow G_find_side G_find_place G_find_middle G_nearest
  have G_find_off : FnD P w K mg base 8 "find_off" 2 f_find_off := w_find_off T F_find_off m_find_off bi_find_off G_find_arrow G_find_middle G_find_side
  have G_count_straight : FnD P w K mg base 9 "count_straight" 2 f_count_straight := w_count_straight T F_count_straight m_count_straight bi_count_straight G_check_size G_all_anchors G_find_off
  have G_L_badsetting : FnD P w K mg base 3 "_law_badsetting" 2 f_L_badsetting := w_L_badsetting T F_L_badsetting m_L_badsetting bi_L_badsetting G_L_drawn
  have G_L_badanchor : FnD P w K mg base 3 "_law_badanchor" 3 f_L_badanchor := w_L_badanchor T F_L_badanchor m_L_badanchor bi_L_badanchor G_L_drawn
  have G_has_anchor : FnD P w K mg base 3 "has_anchor" 2 f_has_anchor := w_has_anchor T F_has_anchor m_has_anchor bi_has_anchor G_is_int
  have G_check_anchor : FnD P w K mg base 4 "check_anchor" 2 f_check_anchor := w_check_anchor T F_check_anchor m_check_anchor bi_check_anchor G_has_anchor
  have G_check_both : FnD P w K mg base 6 "check_both" 2 f_check_both := w_check_both T F_check_both m_check_both bi_check_both G_check_setting G_check_anchor
  have G_middle : FnD P w K mg base 7 "middle" 2 f_middle := w_middle T F_middle m_middle bi_middle G_check_both G_find_middle
  have G_L_anchors : FnD P w K mg base 2 "_law_anchors" 2 f_L_anchors := w_L_anchors T F_L_anchors m_L_anchors bi_L_anchors
  have G_arrow : FnD P w K mg base 8 "arrow" 2 f_arrow := w_arrow T F_arrow m_arrow bi_arrow G_check_both G_find_arrow
  have G_off_by : FnD P w K mg base 9 "off_by" 2 f_off_by := w_off_by T F_off_by m_off_by bi_off_by G_check_both G_find_off
  have G_L_error : FnD P w K mg base 10 "_law_error" 3 f_L_error := w_L_error T F_L_error m_L_error bi_L_error G_arrow G_middle G_off_by G_count_straight
  exact w_law T F_law hfa bi_law G_L_setting G_L_anchor G_L_arrow G_count_straight G_L_badsetting G_L_badanchor G_L_drawn G_middle G_L_anchors G_L_error G_arrow G_off_by
end Pk
open PySem PySem.W PyProof.Rows in
set_option maxRecDepth 100000 in
set_option maxHeartbeats 0 in
theorem PySem.Challenge.cw_popupsides_k52_arrows_holds : PySem.Challenge.rw_popupsides_k52_arrows.Holds := by
  w_on; o_law; k_head; (case hw => w_witness2)
  k_fill
  refine Dl.walk_law (l := PySem.Challenge.rw_popupsides_k52_arrows) (n := 63) (k := 11) rfl (by decide) rfl ⟨rfl, by decide, by decide⟩ (by decide +kernel) (fun w h Y => PySem.W.km_in_of Y) ?F
  case F =>
    intro w mg fa h KX G hmg
    refine' Pk.all_mk KX G hmg ?i_L_drawn ?i_L_setting ?i_L_anchor ?i_L_within ?i_L_moved ?i_L_spot ?i_L_side ?i_L_arrow ?i_is_int ?i_is_side ?i_are_sides ?i_is_size ?i_is_setting ?i_check_setting ?i_check_size ?i_all_anchors ?i_has_room ?i_find_fitting ?i_find_side ?i_centred ?i_find_raw ?i_within ?i_find_place ?i_find_middle ?i_nearest ?i_find_arrow ?i_find_off ?i_count_straight ?i_L_badsetting ?i_L_badanchor ?i_has_anchor ?i_check_anchor ?i_check_both ?i_middle ?i_L_anchors ?i_arrow ?i_off_by ?i_L_error ?i_law ?b_abs ?b_all ?b_bool ?b_int ?b_isinstance ?b_len ?b_list ?b_max ?b_min ?b_range ?b_set ?b_sorted ?b_str ?b_tuple ?c_BOTTOM ?c_LEFT ?c_MAX_GAP ?c_MAX_SIZE ?c_OVER ?c_RIGHT ?c_SIDES ?c_TOP ?x_InvalidAnchor ?x_InvalidSetting ?x_InvalidSize ?ec_InvalidSetting ?eg_InvalidSetting ?ec_InvalidAnchor ?eg_InvalidAnchor ?ec_InvalidSize ?eg_InvalidSize ?ek_InvalidSetting_InvalidSetting ?ek_InvalidSetting_InvalidAnchor ?ek_InvalidSetting_InvalidSize ?ek_InvalidAnchor_InvalidSetting ?ek_InvalidAnchor_InvalidAnchor ?ek_InvalidAnchor_InvalidSize ?ek_InvalidSize_InvalidSetting ?ek_InvalidSize_InvalidAnchor ?ek_InvalidSize_InvalidSize ?iL Pk.plain
    (case iL => refine' Dl.lamIn ?zA ?zB ?zC ?zD ?zE ?zF ?zG; (case zA => k_is); (case zB => k_is); (case zC => rfl); (case zD => k_is); (case zE => rfl); (case zF => kernel_rfl); (case zG => kernel_rfl))
    (case i_L_drawn => refine' Dl.defIn ?a ?l ?c ?k; (case a => k_is); (case l => k_is); (case c => k_is); (case k => k_is))
    (case i_L_setting => refine' Dl.defIn ?a ?l ?c ?k; (case a => k_is); (case l => k_is); (case c => k_is); (case k => k_is))
    (case i_L_anchor => refine' Dl.defIn ?a ?l ?c ?k; (case a => k_is); (case l => k_is); (case c => k_is); (case k => k_is))
    (case i_L_within => refine' Dl.defIn ?a ?l ?c ?k; (case a => k_is); (case l => k_is); (case c => k_is); (case k => k_is))
    (case i_L_moved => refine' Dl.defIn ?a ?l ?c ?k; (case a => k_is); (case l => k_is); (case c => k_is); (case k => k_is))
    (case i_L_spot => refine' Dl.defIn ?a ?l ?c ?k; (case a => k_is); (case l => k_is); (case c => k_is); (case k => k_is))
    (case i_L_side => refine' Dl.defIn ?a ?l ?c ?k; (case a => k_is); (case l => k_is); (case c => k_is); (case k => k_is))
    (case i_L_arrow => refine' Dl.defIn ?a ?l ?c ?k; (case a => k_is); (case l => k_is); (case c => k_is); (case k => k_is))
    (case i_is_int => refine' Dl.defIn ?a ?l ?c ?k; (case a => k_is); (case l => k_is); (case c => k_is); (case k => k_is))
    (case i_is_side => refine' Dl.defIn ?a ?l ?c ?k; (case a => k_is); (case l => k_is); (case c => k_is); (case k => k_is))
    (case i_are_sides => refine' Dl.defIn ?a ?l ?c ?k; (case a => k_is); (case l => k_is); (case c => k_is); (case k => k_is))
    (case i_is_size => refine' Dl.defIn ?a ?l ?c ?k; (case a => k_is); (case l => k_is); (case c => k_is); (case k => k_is))
    (case i_is_setting => refine' Dl.defIn ?a ?l ?c ?k; (case a => k_is); (case l => k_is); (case c => k_is); (case k => k_is))
    (case i_check_setting => refine' Dl.defIn ?a ?l ?c ?k; (case a => k_is); (case l => k_is); (case c => k_is); (case k => k_is))
    (case i_check_size => refine' Dl.defIn ?a ?l ?c ?k; (case a => k_is); (case l => k_is); (case c => k_is); (case k => k_is))
    (case i_all_anchors => refine' Dl.defIn ?a ?l ?c ?k; (case a => k_is); (case l => k_is); (case c => k_is); (case k => k_is))
    (case i_has_room => refine' Dl.defIn ?a ?l ?c ?k; (case a => k_is); (case l => k_is); (case c => k_is); (case k => k_is))
    (case i_find_fitting => refine' Dl.defIn ?a ?l ?c ?k; (case a => k_is); (case l => k_is); (case c => k_is); (case k => k_is))
    (case i_find_side => refine' Dl.defIn ?a ?l ?c ?k; (case a => k_is); (case l => k_is); (case c => k_is); (case k => k_is))
    (case i_centred => refine' Dl.defIn ?a ?l ?c ?k; (case a => k_is); (case l => k_is); (case c => k_is); (case k => k_is))
    (case i_find_raw => refine' Dl.defIn ?a ?l ?c ?k; (case a => k_is); (case l => k_is); (case c => k_is); (case k => k_is))
    (case i_within => refine' Dl.defIn ?a ?l ?c ?k; (case a => k_is); (case l => k_is); (case c => k_is); (case k => k_is))
    (case i_find_place => refine' Dl.defIn ?a ?l ?c ?k; (case a => k_is); (case l => k_is); (case c => k_is); (case k => k_is))
    (case i_find_middle => refine' Dl.defIn ?a ?l ?c ?k; (case a => k_is); (case l => k_is); (case c => k_is); (case k => k_is))
    (case i_nearest => refine' Dl.defIn ?a ?l ?c ?k; (case a => k_is); (case l => k_is); (case c => k_is); (case k => k_is))
    (case i_find_arrow => refine' Dl.defIn ?a ?l ?c ?k; (case a => k_is); (case l => k_is); (case c => k_is); (case k => k_is))
    (case i_find_off => refine' Dl.defIn ?a ?l ?c ?k; (case a => k_is); (case l => k_is); (case c => k_is); (case k => k_is))
    (case i_count_straight => refine' Dl.defIn ?a ?l ?c ?k; (case a => k_is); (case l => k_is); (case c => k_is); (case k => k_is))
    (case i_L_badsetting => refine' Dl.defIn ?a ?l ?c ?k; (case a => k_is); (case l => k_is); (case c => k_is); (case k => k_is))
    (case i_L_badanchor => refine' Dl.defIn ?a ?l ?c ?k; (case a => k_is); (case l => k_is); (case c => k_is); (case k => k_is))
    (case i_has_anchor => refine' Dl.defIn ?a ?l ?c ?k; (case a => k_is); (case l => k_is); (case c => k_is); (case k => k_is))
    (case i_check_anchor => refine' Dl.defIn ?a ?l ?c ?k; (case a => k_is); (case l => k_is); (case c => k_is); (case k => k_is))
    (case i_check_both => refine' Dl.defIn ?a ?l ?c ?k; (case a => k_is); (case l => k_is); (case c => k_is); (case k => k_is))
    (case i_middle => refine' Dl.defIn ?a ?l ?c ?k; (case a => k_is); (case l => k_is); (case c => k_is); (case k => k_is))
    (case i_L_anchors => refine' Dl.defIn ?a ?l ?c ?k; (case a => k_is); (case l => k_is); (case c => k_is); (case k => k_is))
    (case i_arrow => refine' Dl.defIn ?a ?l ?c ?k; (case a => k_is); (case l => k_is); (case c => k_is); (case k => k_is))
    (case i_off_by => refine' Dl.defIn ?a ?l ?c ?k; (case a => k_is); (case l => k_is); (case c => k_is); (case k => k_is))
    (case i_L_error => refine' Dl.defIn ?a ?l ?c ?k; (case a => k_is); (case l => k_is); (case c => k_is); (case k => k_is))
    (case i_law => refine' Dl.defIn ?a ?l ?c ?k; (case a => k_is); (case l => k_is); (case c => k_is); (case k => k_is))
    (case b_abs => k_is)
    (case b_all => k_is)
    (case b_bool => k_is)
    (case b_int => k_is)
    (case b_isinstance => k_is)
    (case b_len => k_is)
    (case b_list => k_is)
    (case b_max => k_is)
    (case b_min => k_is)
    (case b_range => k_is)
    (case b_set => k_is)
    (case b_sorted => k_is)
    (case b_str => k_is)
    (case b_tuple => k_is)
    (case c_BOTTOM => refine' Dl.glIn ?a ?v; (case a => k_is); (case v => exact Dl.gv_str))
    (case c_LEFT => refine' Dl.glIn ?a ?v; (case a => k_is); (case v => exact Dl.gv_str))
    (case c_MAX_GAP => refine' Dl.glIn ?a ?v; (case a => k_is); (case v => exact Dl.gv_int))
    (case c_MAX_SIZE => refine' Dl.glIn ?a ?v; (case a => k_is); (case v => exact Dl.gv_int))
    (case c_OVER => refine' Dl.glIn ?a ?v; (case a => k_is); (case v => exact Dl.gv_str))
    (case c_RIGHT => refine' Dl.glIn ?a ?v; (case a => k_is); (case v => exact Dl.gv_str))
    (case c_SIDES => refine' Dl.glIn ?a ?v; (case a => k_is); (case v => refine' Dl.gv_tup ?l ?t ?z; (case l => k_is); (case z => decide); (case t => refine' Dl.gvs_cons ?v ?t; (case v => exact Dl.gv_str); (case t => refine' Dl.gvs_cons ?v ?t; (case v => exact Dl.gv_str); (case t => refine' Dl.gvs_cons ?v ?t; (case v => exact Dl.gv_str); (case t => refine' Dl.gvs_cons ?v ?t; (case v => exact Dl.gv_str); (case t => exact Dl.gvs_nil)))))))
    (case c_TOP => refine' Dl.glIn ?a ?v; (case a => k_is); (case v => exact Dl.gv_str))
    (case x_InvalidAnchor => refine' Dl.excIn ?a ?e ?k ?s ?t; (case a => k_is); (case e => k_exc); (case k => k_is); (case s => k_is); (case t => k_is))
    (case x_InvalidSetting => refine' Dl.excIn ?a ?e ?k ?s ?t; (case a => k_is); (case e => k_exc); (case k => k_is); (case s => k_is); (case t => k_is))
    (case x_InvalidSize => refine' Dl.excIn ?a ?e ?k ?s ?t; (case a => k_is); (case e => k_exc); (case k => k_is); (case s => k_is); (case t => k_is))
    (case ec_InvalidSetting => refine' Dl.excCIn ?n ?a ?b ?c ?d ?e ?f ?g ?h; (case n => k_is); (case a => k_is); (case b => k_is); (case c => k_is); (case d => k_is); (case e => k_is); (case f => k_is); (case g => k_is); (case h => k_is))
    (case eg_InvalidSetting => refine' Dl.caughtIn ?n ?m ?a ?b ?c ?d; (case n => k_is); (case m => k_is); (case a => k_is); (case b => k_is); (case c => k_is); (case d => k_is))
    (case ec_InvalidAnchor => refine' Dl.excCIn ?n ?a ?b ?c ?d ?e ?f ?g ?h; (case n => k_is); (case a => k_is); (case b => k_is); (case c => k_is); (case d => k_is); (case e => k_is); (case f => k_is); (case g => k_is); (case h => k_is))
    (case eg_InvalidAnchor => refine' Dl.caughtIn ?n ?m ?a ?b ?c ?d; (case n => k_is); (case m => k_is); (case a => k_is); (case b => k_is); (case c => k_is); (case d => k_is))
    (case ec_InvalidSize => refine' Dl.excCIn ?n ?a ?b ?c ?d ?e ?f ?g ?h; (case n => k_is); (case a => k_is); (case b => k_is); (case c => k_is); (case d => k_is); (case e => k_is); (case f => k_is); (case g => k_is); (case h => k_is))
    (case eg_InvalidSize => refine' Dl.caughtIn ?n ?m ?a ?b ?c ?d; (case n => k_is); (case m => k_is); (case a => k_is); (case b => k_is); (case c => k_is); (case d => k_is))
    (case ek_InvalidSetting_InvalidSetting => show Dl.KitIn _ _ _ true; refine' Dl.kitIn ?n ?m ?k; (case n => k_is); (case m => k_is); (case k => kit_is))
    (case ek_InvalidSetting_InvalidAnchor => show Dl.KitIn _ _ _ false; refine' Dl.kitIn ?n ?m ?k; (case n => k_is); (case m => k_is); (case k => kit_is))
    (case ek_InvalidSetting_InvalidSize => show Dl.KitIn _ _ _ false; refine' Dl.kitIn ?n ?m ?k; (case n => k_is); (case m => k_is); (case k => kit_is))
    (case ek_InvalidAnchor_InvalidSetting => show Dl.KitIn _ _ _ false; refine' Dl.kitIn ?n ?m ?k; (case n => k_is); (case m => k_is); (case k => kit_is))
    (case ek_InvalidAnchor_InvalidAnchor => show Dl.KitIn _ _ _ true; refine' Dl.kitIn ?n ?m ?k; (case n => k_is); (case m => k_is); (case k => kit_is))
    (case ek_InvalidAnchor_InvalidSize => show Dl.KitIn _ _ _ false; refine' Dl.kitIn ?n ?m ?k; (case n => k_is); (case m => k_is); (case k => kit_is))
    (case ek_InvalidSize_InvalidSetting => show Dl.KitIn _ _ _ false; refine' Dl.kitIn ?n ?m ?k; (case n => k_is); (case m => k_is); (case k => kit_is))
    (case ek_InvalidSize_InvalidAnchor => show Dl.KitIn _ _ _ false; refine' Dl.kitIn ?n ?m ?k; (case n => k_is); (case m => k_is); (case k => kit_is))
    (case ek_InvalidSize_InvalidSize => show Dl.KitIn _ _ _ true; refine' Dl.kitIn ?n ?m ?k; (case n => k_is); (case m => k_is); (case k => kit_is))
