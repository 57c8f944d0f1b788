import PyProof.Rows.All
import Wide.All
import OpenK.AllK
import Wide.FinOn
import HandS.ForMost
import HandS.Exc
import HandS.Lambda
import HandS.IsInst
import HandS.Property
import HandS.TupAny
import HandS.TupMul
import HandS.Walk
import HandS.SortKw
import HandS.Codes
import HandS.Conv
import HandS.MakeKw
import HandS.OwnEq
import PyProof.ListStr
import PyProof.TupleOfStr
import HandS.Nested
import KE.GoesMore
import KE.GoesEnum
import PyProof.NeData
import HandS.TupLe
import HandS.SortOrd
import PyProof.Rows.SortStr
import PyProof.Rows.SortKeyStr
import PyProof.InstNe
import HandS.Style
import HandS.GenCall
import HandS.Head0
import HandS.Head1
import HandS.Head2
import HandS.HeadEnd
import HandS.HeadHook1
import HandS.HeadHook2
import HandS.HeadHook3
import HandS.HeadHook4
import HandS.HeadWalk
import HandS.EndTab
import HandS.EndBits
import PySem.Challenge.RW_touchpress_k01_whole_books
set_option Elab.async false
set_option linter.all false
set_option maxRecDepth 100000
set_option maxHeartbeats 8000000
/-! The pure layer: values, stores, what an evaluation gives. -/
namespace TP
open PySem PySem.Spec PyProof.Rows L2

/-- pure values; tuples by value, lists and instances by their place in the store -/
inductive D where
  | non | bl (b : Bool) | int (i : Int) | str (x : List Nat) | tup (xs : List D) | ref (n : Nat)
  deriving Inhabited
mutual
def D.beq : D → D → Bool
  | .non, .non => true
  | .bl a, .bl b => a == b
  | .int a, .int b => a == b
  | .str a, .str b => a == b
  | .tup xs, .tup ys => D.beqs xs ys
  | .ref a, .ref b => a == b
  | _, _ => false
def D.beqs : List D → List D → Bool
  | [], [] => true
  | x :: xs, y :: ys => D.beq x y && D.beqs xs ys
  | _, _ => false
end
mutual
theorem D.beq_eq : ∀ a b : D, D.beq a b = true → a = b
  | .non, b, h => by cases b <;> simp [D.beq] at h ⊢
  | .bl x, b, h => by cases b <;> simp [D.beq] at h ⊢; exact h
  | .int x, b, h => by cases b <;> simp [D.beq] at h ⊢; exact h
  | .str x, b, h => by cases b <;> simp [D.beq] at h ⊢; exact h
  | .ref x, b, h => by cases b <;> simp [D.beq] at h ⊢; exact h
  | .tup xs, b, h => by
    cases b with
    | tup ys => simp [D.beq] at h; rw [D.beqs_eq xs ys h]
    | _ => simp [D.beq] at h
theorem D.beqs_eq : ∀ a b : List D, D.beqs a b = true → a = b
  | [], [], _ => rfl
  | [], _ :: _, h => by simp [D.beqs] at h
  | _ :: _, [], h => by simp [D.beqs] at h
  | x :: xs, y :: ys, h => by
    simp [D.beqs] at h
    rw [D.beq_eq x y h.1, D.beqs_eq xs ys h.2]
end
mutual
theorem D.beq_refl : ∀ a : D, D.beq a a = true
  | .non => rfl
  | .bl x => by simp [D.beq]
  | .int x => by simp [D.beq]
  | .str x => by simp [D.beq]
  | .ref x => by simp [D.beq]
  | .tup xs => by simp only [D.beq]; exact D.beqs_refl xs
theorem D.beqs_refl : ∀ a : List D, D.beqs a a = true
  | [] => rfl
  | x :: xs => by simp [D.beqs, D.beq_refl x, D.beqs_refl xs]
end
instance : DecidableEq D := fun a b => if h : D.beq a b = true then .isTrue (D.beq_eq a b h) else .isFalse fun e => h (e ▸ D.beq_refl a)
/-- what the store holds: a list (that may be written), a list that is only read, an instance of the class of a name -/
inductive Cell where
  | lst (xs : List D) | frz (xs : List D) | ins (c : List Nat) (fs : List (List Nat × D))
  deriving DecidableEq, Inhabited
abbrev Sto := List Cell
/-- an exception: its class's name, its fields -/
structure Exn where
  cls : List Nat
  fs : List (List Nat × D)
  deriving DecidableEq, Inhabited
/-- none: stuck -/
abbrev R (α : Type) := Option (Except Exn α × Sto)
/-- what a name of a frame may hold: a value, or a function -/
inductive A where
  | d (x : D) | f (n : Nat) (g : List D → Sto → R D)
abbrev Env := List (Option A)
abbrev Ev := Env → Sto → R D
abbrev EvB := Env → Sto → R Bool
abbrev EvA := Env → Sto → R (List A)
abbrev Fn := List A → Sto → R D
inductive Fl where
  | nx (e : Env) | rt (d : D) | bk (e : Env) | ct (e : Env)
abbrev EvS := Env → Sto → R Fl

def ret {α : Type} (a : α) (s : Sto) : R α := some (.ok a, s)
def bind {α β : Type} (m : R α) (k : α → Sto → R β) : R β := match m with
  | none => none
  | some (.ok a, s) => k a s
  | some (.error x, s) => some (.error x, s)
@[simp] theorem bind_none {α β : Type} (k : α → Sto → R β) : bind none k = none := rfl
@[simp] theorem bind_ok {α β : Type} (a : α) (s : Sto) (k : α → Sto → R β) : bind (some (.ok a, s)) k = k a s := rfl
@[simp] theorem bind_ret {α β : Type} (a : α) (s : Sto) (k : α → Sto → R β) : bind (ret a s) k = k a s := rfl
@[simp] theorem bind_error {α β : Type} (x : Exn) (s : Sto) (k : α → Sto → R β) : bind (some (.error x, s)) k = some (.error x, s) := rfl

/-! ### what is represented -/
/-- all but lists, instances, dicts stays -/
structure Ext (H H' : Hp) : Prop where
  tup : ∀ a xs, H a = some (.tup xs) → H' a = some (.tup xs)
  frz : ∀ a o u, H a = some (.frz o u) → H' a = some (.frz o u)
  ext : ∀ a φ, H a = some (.ext φ) → H' a = some (.ext φ)
theorem Ext.refl (H : Hp) : Ext H H := ⟨fun _ _ h => h, fun _ _ _ h => h, fun _ _ h => h⟩
theorem Ext.trans {H H1 H2 : Hp} (a : Ext H H1) (b : Ext H1 H2) : Ext H H2 :=
  ⟨fun c x h => b.tup c x (a.tup c x h), fun c o u h => b.frz c o u (a.frz c o u h), fun c p h => b.ext c p (a.ext c p h)⟩
theorem Ext.new {H : Hp} {p : Addr} {o : HO} (n : H p = none) : Ext H (upd H p o) :=
  ⟨fun a x h => by rw [upd_ne (ne_of_none h n)]; exact h, fun a x u h => by rw [upd_ne (ne_of_none h n)]; exact h, fun a x h => by rw [upd_ne (ne_of_none h n)]; exact h⟩
theorem Ext.lst {H : Hp} {p : Addr} {o : HO} {xs : List V} (n : H p = some (.lst xs)) : Ext H (upd H p o) :=
  ⟨fun a x h => by rw [upd_ne (ne_of h n (by intro z; cases z))]; exact h, fun a x u h => by rw [upd_ne (ne_of h n (by intro z; cases z))]; exact h, fun a x h => by rw [upd_ne (ne_of h n (by intro z; cases z))]; exact h⟩
theorem Ext.ins {H : Hp} {p : Addr} {o : HO} {C dx : Addr} {fs : List (Str × V)} (n : H p = some (.ins C dx fs)) : Ext H (upd H p o) :=
  ⟨fun a x h => by rw [upd_ne (ne_of h n (by intro z; cases z))]; exact h, fun a x u h => by rw [upd_ne (ne_of h n (by intro z; cases z))]; exact h, fun a x h => by rw [upd_ne (ne_of h n (by intro z; cases z))]; exact h⟩
theorem Ext.seqT {K : PySem.W.Frag} {H H' : Hp} {a : Addr} {xs : List V} (e : Ext H H') (h : SqT K H a xs) : SqT K H' a xs := by
  rcases h with (h | ⟨o, h⟩) | h
  · exact .inl (.inl (e.tup _ _ h))
  · exact .inl (.inr ⟨o, e.frz _ _ _ h⟩)
  · exact .inr h

mutual
/-- the value v stands for d -/
def Rp (K : PySem.W.Frag) (H : Hp) (μ : List Addr) : D → V → Prop
  | .non, v => v = .non
  | .bl b, v => v = .bl b
  | .int i, v => v = .int i
  | .str x, v => v = .str ⟨x.toArray⟩
  | .tup ds, v => ∃ a vs, v = .ref a ∧ SqT K H a vs ∧ Rps K H μ ds vs
  | .ref n, v => ∃ a, μ[n]? = some a ∧ v = .ref a
def Rps (K : PySem.W.Frag) (H : Hp) (μ : List Addr) : List D → List V → Prop
  | [], vs => vs = []
  | d :: ds, vs => ∃ v ws, vs = v :: ws ∧ Rp K H μ d v ∧ Rps K H μ ds ws
end
section
variable {K : PySem.W.Frag} {H H' : Hp} {μ μ' : List Addr}
mutual
theorem Rp.mono (e : Ext H H') (m : ∀ (n : Nat) (a : Addr), μ[n]? = some a → μ'[n]? = some a) : ∀ {d : D} {v : V}, Rp K H μ d v → Rp K H' μ' d v
  | .non, _, h => h
  | .bl _, _, h => h
  | .int _, _, h => h
  | .str _, _, h => h
  | .tup _, _, ⟨a, vs, h1, h2, h3⟩ => ⟨a, vs, h1, e.seqT h2, Rps.mono e m h3⟩
  | .ref _, _, ⟨a, h1, h2⟩ => ⟨a, m _ _ h1, h2⟩
theorem Rps.mono (e : Ext H H') (m : ∀ (n : Nat) (a : Addr), μ[n]? = some a → μ'[n]? = some a) : ∀ {ds : List D} {vs : List V}, Rps K H μ ds vs → Rps K H' μ' ds vs
  | [], _, h => h
  | _ :: _, _, ⟨v, ws, h1, h2, h3⟩ => ⟨v, ws, h1, Rp.mono e m h2, Rps.mono e m h3⟩
end
theorem Rps.length : ∀ {ds : List D} {vs : List V}, Rps K H μ ds vs → vs.length = ds.length
  | [], _, h => by rw [show _ = _ from h]; rfl
  | _ :: _, _, ⟨v, ws, h1, _, h3⟩ => by rw [h1]; simp [Rps.length h3]
theorem Rps.get : ∀ {ds : List D} {vs : List V} {i : Nat} {d : D}, Rps K H μ ds vs → ds[i]? = some d → ∃ v, vs[i]? = some v ∧ Rp K H μ d v
  | [], _, _, _, _, e => by simp at e
  | x :: _, _, 0, d, ⟨v, ws, h1, h2, _⟩, e => by simp at e; subst e; subst h1; exact ⟨v, rfl, h2⟩
  | _ :: _, _, i + 1, d, ⟨v, ws, h1, _, h3⟩, e => by subst h1; simp at e; exact Rps.get (i := i) h3 e
theorem Rps.append : ∀ {ds es : List D} {vs ws : List V}, Rps K H μ ds vs → Rps K H μ es ws → Rps K H μ (ds ++ es) (vs ++ ws)
  | [], _, _, _, h, h' => by rw [show _ = _ from h]; exact h'
  | _ :: _, _, _, _, ⟨v, vs', h1, h2, h3⟩, h' => by subst h1; exact ⟨v, _, rfl, h2, Rps.append h3 h'⟩
theorem Rps.take : ∀ {ds : List D} {vs : List V} (n : Nat), Rps K H μ ds vs → Rps K H μ (ds.take n) (vs.take n)
  | _, _, 0, _ => rfl
  | [], _, _ + 1, h => by rw [show _ = _ from h]; rfl
  | _ :: _, _, n + 1, ⟨v, vs', h1, h2, h3⟩ => by subst h1; exact ⟨v, _, rfl, h2, Rps.take n h3⟩
theorem Rps.drop : ∀ {ds : List D} {vs : List V} (n : Nat), Rps K H μ ds vs → Rps K H μ (ds.drop n) (vs.drop n)
  | _, _, 0, h => h
  | [], _, _ + 1, h => by rw [show _ = _ from h]; rfl
  | _ :: _, _, n + 1, ⟨v, vs', h1, h2, h3⟩ => by subst h1; exact Rps.drop n h3
theorem Rps.set : ∀ {ds : List D} {vs : List V} {d : D} {v : V} (i : Nat), Rps K H μ ds vs → Rp K H μ d v → Rps K H μ (ds.set i d) (vs.set i v)
  | [], _, _, _, _, h, _ => by rw [show _ = _ from h]; rfl
  | _ :: _, _, _, _, 0, ⟨v, vs', h1, h2, h3⟩, q => by subst h1; exact ⟨_, _, rfl, q, h3⟩
  | _ :: _, _, _, _, i + 1, ⟨v, vs', h1, h2, h3⟩, q => by subst h1; exact ⟨_, _, rfl, h2, Rps.set i h3 q⟩
theorem Rps.eraseIdx : ∀ {ds : List D} {vs : List V} (i : Nat), Rps K H μ ds vs → Rps K H μ (ds.eraseIdx i) (vs.eraseIdx i)
  | [], _, _, h => by rw [show _ = _ from h]; rfl
  | _ :: _, _, 0, ⟨v, vs', h1, h2, h3⟩ => by subst h1; exact h3
  | _ :: _, _, i + 1, ⟨v, vs', h1, h2, h3⟩ => by subst h1; exact ⟨_, _, rfl, h2, Rps.eraseIdx i h3⟩
theorem Rps.snoc {ds : List D} {vs : List V} {d : D} {v : V} (h : Rps K H μ ds vs) (q : Rp K H μ d v) : Rps K H μ (ds ++ [d]) (vs ++ [v]) :=
  h.append ⟨v, [], rfl, q, rfl⟩
end
end TP
/-! The relation to the abstract heap; expressions. -/
namespace TP
open PySem PySem.Spec PyProof.Rows L2 LamX

def sn (x : List Nat) : Str := ⟨x.toArray⟩

/-! ### cells and stores -/
/-- the fields of an instance -/
def Rfs (K : PySem.W.Frag) (H : Hp) (μ : List Addr) : List (List Nat × D) → List (Str × V) → Prop
  | [], vs => vs = []
  | (n, d) :: fs, vs => ∃ v ws, vs = (sn n, v) :: ws ∧ Rp K H μ d v ∧ Rfs K H μ fs ws
def RepC (K : PySem.W.Frag) (mg : Str → Option Value) (H : Hp) (μ : List Addr) (a : Addr) : Cell → Prop
  | .lst ds => ∃ vs, H a = some (.lst vs) ∧ Rps K H μ ds vs
  | .frz ds => ∃ o vs, H a = some (.frz o (.lst vs)) ∧ Rps K H μ ds vs
  | .ins c fs => ∃ C dx vs, mg (sn c) = some (.ref C) ∧ H a = some (.ins C dx vs) ∧ Rfs K H μ fs vs
structure RepH (K : PySem.W.Frag) (mg : Str → Option Value) (T : List (Addr × Str)) (μ : List Addr) (sto : Sto) (H : Hp) : Prop where
  len : μ.length = sto.length
  nd : μ.Nodup
  cell : ∀ (n : Nat) (c : Cell) (a : Addr), sto[n]? = some c → μ[n]? = some a → RepC K mg H μ a c
  tabs : Tabs T H
section
variable {K : PySem.W.Frag} {mg : Str → Option Value} {T : List (Addr × Str)} {H H' : Hp} {μ μ' : List Addr} {sto : Sto} {a p : Addr} {c : Cell} {n : Nat}
theorem Rfs.mono (e : Ext H H') (m : ∀ (n : Nat) (a : Addr), μ[n]? = some a → μ'[n]? = some a) : ∀ {fs : List (List Nat × D)} {vs : List (Str × V)}, Rfs K H μ fs vs → Rfs K H' μ' fs vs
  | [], _, h => h
  | (_, _) :: _, _, ⟨v, ws, h1, h2, h3⟩ => ⟨v, ws, h1, h2.mono e m, Rfs.mono e m h3⟩
theorem RepC.mono (e : Ext H H') (m : ∀ (n : Nat) (a : Addr), μ[n]? = some a → μ'[n]? = some a) (ha : H' a = H a) : ∀ {c : Cell}, RepC K mg H μ a c → RepC K mg H' μ' a c
  | .lst _, ⟨vs, h1, h2⟩ => ⟨vs, ha.trans h1, h2.mono e m⟩
  | .frz _, ⟨o, vs, h1, h2⟩ => ⟨o, vs, ha.trans h1, h2.mono e m⟩
  | .ins _ _, ⟨C, dx, vs, h0, h1, h2⟩ => ⟨C, dx, vs, h0, ha.trans h1, h2.mono e m⟩
theorem RepC.some (h : RepC K mg H μ a c) : ∃ o, H a = some o ∧ ∀ ps, o ≠ .tbl ps := by
  cases c with
  | lst ds => obtain ⟨vs, h1, _⟩ := h; exact ⟨_, h1, fun _ z => by cases z⟩
  | frz ds => obtain ⟨o, vs, h1, _⟩ := h; exact ⟨_, h1, fun _ z => by cases z⟩
  | ins c fs => obtain ⟨C, dx, vs, _, h1, _⟩ := h; exact ⟨_, h1, fun _ z => by cases z⟩
theorem tabs_of (t : Tabs T H) (e : Ext H H') (k : ∀ b ps, H b = some (.tbl ps) → H' b = some (.tbl ps)) : Tabs T H' := fun q hq => by
  obtain ⟨ps, h1, h2, h3⟩ := t q hq
  refine ⟨ps, k _ _ h1, h2, fun pos cv hc => ?_⟩
  obtain ⟨c, e1, e2⟩ := h3 pos cv hc
  exact ⟨c, e1, e.ext _ _ e2⟩
theorem RepH.at_ (h : RepH K mg T μ sto H) (e : sto[n]? = some c) : ∃ a, μ[n]? = some a ∧ RepC K mg H μ a c := by
  have hl : n < sto.length := (List.getElem?_eq_some_iff.mp e).1
  have hm : n < μ.length := by rw [h.len]; exact hl
  exact ⟨μ[n], List.getElem?_eq_getElem hm, h.cell n c _ e (List.getElem?_eq_getElem hm)⟩
theorem RepH.none_ne (h : RepH K mg T μ sto H) (e : μ[n]? = some a) (q : H p = none) : a ≠ p := by
  have hm : n < sto.length := by rw [← h.len]; exact (List.getElem?_eq_some_iff.mp e).1
  obtain ⟨o, ho, _⟩ := (h.cell n _ a (List.getElem?_eq_getElem hm) e).some
  exact ne_of_none ho q
/-- the heap changed elsewhere -/
theorem RepH.keep (h : RepH K mg T μ sto H) (e : Ext H H') (k : ∀ (n : Nat) (a : Addr), μ[n]? = some a → H' a = H a) (kt : ∀ b ps, H b = some (.tbl ps) → H' b = some (.tbl ps)) : RepH K mg T μ sto H' :=
  ⟨h.len, h.nd, fun n c a h1 h2 => (h.cell n c a h1 h2).mono e (fun _ _ x => x) (k n a h2), tabs_of h.tabs e kt⟩
theorem RepH.fresh {o : HO} (h : RepH K mg T μ sto H) (q : H p = none) : RepH K mg T μ sto (upd H p o) :=
  h.keep (Ext.new q) (fun n a e => upd_ne (h.none_ne e q)) fun b ps e => by rw [upd_ne (ne_of_none e q)]; exact e
theorem get_snoc {α : Type} {l : List α} {x y : α} {n : Nat} (e : l[n]? = some y) : (l ++ [x])[n]? = some y := by
  rw [List.getElem?_append_left (List.getElem?_eq_some_iff.mp e).1]; exact e
theorem RepH.alloc {o : HO} (h : RepH K mg T μ sto H) (q : H p = none) (r : RepC K mg (upd H p o) (μ ++ [p]) p c) : RepH K mg T (μ ++ [p]) (sto ++ [c]) (upd H p o) := by
  have hf := h.fresh (o := o) q
  refine ⟨by simp [h.len], ?_, fun n c' a h1 h2 => ?_, hf.tabs⟩
  · rw [List.nodup_append]
    refine ⟨h.nd, by simp, fun x hx y hy => ?_⟩
    have : y = p := by simpa using hy
    subst this
    obtain ⟨n, hn, e⟩ := List.getElem_of_mem hx
    exact h.none_ne (n := n) (by rw [List.getElem?_eq_getElem hn, e]) q
  · by_cases hn : n < sto.length
    · rw [List.getElem?_append_left hn] at h1
      rw [List.getElem?_append_left (by rw [h.len]; exact hn)] at h2
      exact (hf.cell n c' a h1 h2).mono (Ext.refl _) (fun _ _ e => get_snoc e) rfl
    · have hn' : n = sto.length := by
        have := (List.getElem?_eq_some_iff.mp h1).1
        simp at this; omega
      subst hn'
      rw [List.getElem?_append_right (Nat.le_refl _)] at h1
      rw [← h.len, List.getElem?_append_right (Nat.le_refl _)] at h2
      simp at h1 h2
      subst h1; subst h2
      exact r
/-- one cell is written -/
theorem RepH.set {o : HO} {c' : Cell} (h : RepH K mg T μ sto H) (e : μ[n]? = some a) (x : Ext H (upd H a o)) (nt : ∀ ps, H a ≠ some (.tbl ps)) (r : RepC K mg (upd H a o) μ a c') : RepH K mg T μ (sto.set n c') (upd H a o) := by
  have hm : n < μ.length := (List.getElem?_eq_some_iff.mp e).1
  refine ⟨by simp [h.len], h.nd, fun i d b h1 h2 => ?_, tabs_of h.tabs x fun b ps q => ?_⟩
  · by_cases hi : n = i
    · subst hi
      rw [List.getElem?_set_self (by rw [← h.len]; exact hm)] at h1
      cases h1
      rw [e] at h2; cases h2
      exact r
    · rw [List.getElem?_set_ne hi] at h1
      have nb : b ≠ a := fun z => by
        subst z
        obtain ⟨h3, e3⟩ := List.getElem?_eq_some_iff.mp e
        obtain ⟨h4, e4⟩ := List.getElem?_eq_some_iff.mp h2
        exact hi ((List.getElem_inj h.nd).mp (e3.trans e4.symm))
      exact (h.cell i d b h1 h2).mono x (fun _ _ z => z) (upd_ne nb)
  · rw [upd_ne (fun z => nt ps (by rw [← z]; exact q))]
    exact q
end

/-! ### functions held by names -/
abbrev FnD := List D → Sto → R D
/-- how an exception is told -/
structure ExnPost (K : PySem.W.Frag) (mg : Str → Option Value) (T : List (Addr × Str)) (μ : List Addr) (H : Hp) (x : Exn) (sto' : Sto) (cls : Value) (dx : Option Addr) (H' : Hp) : Prop where
  ext : Ext H H'
  ex : ∃ more d C fvs, mg (sn x.cls) = some (.ref C) ∧ cls = .ref C ∧ dx = some d ∧ H' d = some (.xd fvs) ∧ Rfs K H' (μ ++ more) x.fs fvs ∧ RepH K mg T (μ ++ more) sto' H'
structure Post (K : PySem.W.Frag) (mg : Str → Option Value) (T : List (Addr × Str)) (μ : List Addr) (H : Hp) (sto' : Sto) (H' : Hp) (μ' : List Addr) : Prop where
  ext : Ext H H'
  pre : ∃ more, μ' = μ ++ more
  rep : RepH K mg T μ' sto' H'
theorem Post.mono {K : PySem.W.Frag} {mg : Str → Option Value} {T : List (Addr × Str)} {μ μ' : List Addr} {H H' : Hp} {sto' : Sto} (p : Post K mg T μ H sto' H' μ') : ∀ (n : Nat) (a : Addr), μ[n]? = some a → μ'[n]? = some a := fun n a e => by
  obtain ⟨more, rfl⟩ := p.pre
  rw [List.getElem?_append_left (List.getElem?_eq_some_iff.mp e).1]; exact e
theorem Post.trans {K : PySem.W.Frag} {mg : Str → Option Value} {T : List (Addr × Str)} {μ μ1 μ2 : List Addr} {H H1 H2 : Hp} {s1 s2 : Sto} (p : Post K mg T μ H s1 H1 μ1) (q : Post K mg T μ1 H1 s2 H2 μ2) : Post K mg T μ H s2 H2 μ2 := by
  obtain ⟨m1, rfl⟩ := p.pre
  obtain ⟨m2, rfl⟩ := q.pre
  exact ⟨p.ext.trans q.ext, ⟨m1 ++ m2, by simp⟩, q.rep⟩
theorem Post.refl {K : PySem.W.Frag} {mg : Str → Option Value} {T : List (Addr × Str)} {μ : List Addr} {H : Hp} {sto : Sto} (h : RepH K mg T μ sto H) : Post K mg T μ H sto H μ := ⟨Ext.refl _, ⟨[], by simp⟩, h⟩
/-- what is wanted of a result (over values) -/
def Den (K : PySem.W.Frag) (mg : Str → Option Value) (T : List (Addr × Str)) (W : XK) (μ : List Addr) (H : Hp) (Q : VK) : R D → Prop
  | none => False
  | some (.ok d, sto') => ∀ v H' μ', Post K mg T μ H sto' H' μ' → Rp K H' μ' d v → Q v H'
  | some (.error x, sto') => ∀ cls dx H', ExnPost K mg T μ H x sto' cls dx H' → W cls dx H'
/-- the objects PL stand, untracked, no frames -/
def Pinned (h : Heap) (H : Hp) (fs ex : List Addr) (PL : List (Addr × Obj)) : Prop := ∀ p ∈ PL, (∃ sl, h.get? p.1 = some { p.2 with slots := sl }) ∧ H p.1 = none ∧ p.1 ∉ ex
/-- f may be called wherever PL stands -/
def Callable (P : Program) (w : World) (K : PySem.W.Frag) (mg : Str → Option Value) (base : Heap) (T : List (Addr × Str)) (k : Nat) (PL : List (Addr × Obj)) (μ0 : List Addr) (Hc : Hp) (f : Addr) (g : FnD) : Prop :=
  (∀ h H fs ex, Pinned h H fs ex PL → K.In h → PySem.W.FnAt f h) ∧
  ∀ (A : Around) (outer : List PySem.Env) (s : Shared) (H : Hp) (us : List Value) (vs : List V) (ds : List D) (μ : List Addr) (sto : Sto) (Q : VK) (E : XK), Room k A → Env0 P w K mg base A outer s H → Pinned s.heap H (frs outer) [] PL →
    Ext Hc H → (∃ more, μ = μ0 ++ more) → RepH K mg T μ sto H → Rps K H μ ds vs → Vals vs us → Den K mg T E μ H Q (g ds sto) →
    codeAny (model P w) A (.call (.ref f) ⟨us, []⟩) (CR (L2.CX P w) outer P w H s Q E) s
/-- a function that the context X knows -/
def CloX (X : Cx) (T : List (Addr × Str)) (k : Nat) (H : Hp) (μ : List Addr) (n : Nat) (g : FnD) (v : V) : Prop := ∃ f PL μ0 Hc, v = .ref f ∧ Pinned X.s_0.heap X.H_0 X.fs X.ex PL ∧ (μ0.length ≤ n ∧ ∃ more, μ = μ0 ++ more) ∧ Ext Hc H ∧
  Callable X.prog X.w X.K X.mg X.base T k PL μ0 Hc f g
def RpA (X : Cx) (T : List (Addr × Str)) (k : Nat) (H : Hp) (μ : List Addr) : A → V → Prop
  | .d x, v => Rp X.K H μ x v
  | .f n g, v => CloX X T k H μ n g v
structure RepE (X : Cx) (T : List (Addr × Str)) (k : Nat) (H : Hp) (μ : List Addr) (env : Env) (σ : L2.St) : Prop where
  len : env.length = σ.length
  slot : ∀ (i : Nat) (x : A), env[i]? = some (some x) → ∃ v, σ[i]? = some (some v) ∧ RpA X T k H μ x v
section
variable {X : Cx} {T : List (Addr × Str)} {k : Nat} {H H' : Hp} {μ μ' : List Addr} {env : Env} {σ : L2.St} {sto sto' : Sto}
theorem RpA.mono (p : Post X.K X.mg T μ H sto' H' μ') : ∀ {x : A} {v : V}, RpA X T k H μ x v → RpA X T k H' μ' x v
  | .d _, _, h => Rp.mono p.ext p.mono h
  | .f _ _, _, ⟨f, PL, μ0, Hc, h1, h2, ⟨hn, m, h3⟩, h4, h5⟩ => ⟨f, PL, μ0, Hc, h1, h2, ⟨hn, by obtain ⟨m', e⟩ := p.pre; exact ⟨m ++ m', by rw [e, h3]; simp⟩⟩, h4.trans p.ext, h5⟩
theorem RepE.mono (h : RepE X T k H μ env σ) (p : Post X.K X.mg T μ H sto' H' μ') : RepE X T k H' μ' env σ := ⟨h.len, fun i x e => by
  obtain ⟨v, h1, h2⟩ := h.slot i x e
  exact ⟨v, h1, h2.mono p⟩⟩
theorem RepE.set (h : RepE X T k H μ env σ) {i : Nat} {x : A} {v : V} (r : RpA X T k H μ x v) : RepE X T k H μ (env.set i (some x)) (σ.set i (some v)) := ⟨by simp [h.len], fun j y e => by
  by_cases hj : i = j
  · subst hj
    have hi : i < env.length := by have := (List.getElem?_eq_some_iff.mp e).1; simpa using this
    rw [List.getElem?_set_self hi] at e
    cases e
    exact ⟨v, by rw [List.getElem?_set_self (by rw [← h.len]; exact hi)], r⟩
  · rw [List.getElem?_set_ne hj] at e
    obtain ⟨w, h1, h2⟩ := h.slot j y e
    exact ⟨w, by rw [List.getElem?_set_ne hj]; exact h1, h2⟩⟩
end

/-! ### expressions -/
/-- what is wanted of exceptions in this context -/
abbrev WXs := WX
def DenW (X : Cx) (T : List (Addr × Str)) (W : WX) (σ : L2.St) (μ : List Addr) (H : Hp) {α : Type} (P : α → Sto → Prop) : R α → Prop
  | none => False
  | some (.ok d, sto') => P d sto'
  | some (.error x, sto') => ∀ cls dx H', ExnPost X.K X.mg T μ H x sto' cls dx H' → W cls dx σ H'
def tE (X : Cx) (T : List (Addr × Str)) (k : Nat) (W : WX) (f : Ev) : TE := fun σ H Q => ∃ μ env sto, RepH X.K X.mg T μ sto H ∧ RepE X T k H μ env σ ∧
  DenW X T W σ μ H (fun d sto' => ∀ v H' μ', Post X.K X.mg T μ H sto' H' μ' → Rp X.K H' μ' d v → Q v H') (f env sto)
def tB' (X : Cx) (T : List (Addr × Str)) (k : Nat) (W : WX) (f : EvB) : TT := fun σ H Q => ∃ μ env sto, RepH X.K X.mg T μ sto H ∧ RepE X T k H μ env σ ∧
  DenW X T W σ μ H (fun b sto' => ∀ H' μ', Post X.K X.mg T μ H sto' H' μ' → Q b H') (f env sto)
def RpAs (X : Cx) (T : List (Addr × Str)) (k : Nat) (H : Hp) (μ : List Addr) : List A → List V → Prop
  | [], vs => vs = []
  | x :: xs, vs => ∃ v ws, vs = v :: ws ∧ RpA X T k H μ x v ∧ RpAs X T k H μ xs ws
theorem RpAs.mono {X : Cx} {T : List (Addr × Str)} {k : Nat} {H H' : Hp} {μ μ' : List Addr} {sto' : Sto} (p : Post X.K X.mg T μ H sto' H' μ') : ∀ {x : List A} {v : List V}, RpAs X T k H μ x v → RpAs X T k H' μ' x v
  | [], _, h => h
  | _ :: _, _, ⟨v, ws, h1, h2, h3⟩ => ⟨v, ws, h1, h2.mono p, RpAs.mono p h3⟩
def tA (X : Cx) (T : List (Addr × Str)) (k : Nat) (W : WX) (f : EvA) : TA := fun σ H Q => ∃ μ env sto, RepH X.K X.mg T μ sto H ∧ RepE X T k H μ env σ ∧
  DenW X T W σ μ H (fun ds sto' => ∀ vs H' μ', Post X.K X.mg T μ H sto' H' μ' → RpAs X T k H' μ' ds vs → Q vs H') (f env sto)
abbrev QE (X : Cx) (T : List (Addr × Str)) (k : Nat) (W : WX) (e : Expr) (f : Ev) : Prop := PE X e (tE X T k W f)
abbrev QB (X : Cx) (T : List (Addr × Str)) (k : Nat) (W : WX) (e : Expr) (f : EvB) : Prop := PT X e (tB' X T k W f)
abbrev QA (X : Cx) (T : List (Addr × Str)) (k : Nat) (W : WX) (es : List Expr) (f : EvA) : Prop := PA X es (tA X T k W f)

theorem PE.of {X : Cx} {e : Expr} {t t' : TE} (h : PE X e t) (i : ∀ σ H Q, t' σ H Q → t σ H Q) : PE X e t' := ⟨fun pins s σ H Q I q => h.run pins s σ H Q I (i σ H Q q)⟩
theorem PT.of {X : Cx} {e : Expr} {t t' : TT} (h : PT X e t) (i : ∀ σ H Q, t' σ H Q → t σ H Q) : PT X e t' := ⟨fun pins s σ H Q I q => h.run pins s σ H Q I (i σ H Q q)⟩
theorem PW.of {X : Cx} {e : Expr} {t t' : TT} (h : PW X e t) (i : ∀ σ H Q, t' σ H Q → t σ H Q) : PW X e t' := ⟨fun wh pins s σ H Q I q => h.run wh pins s σ H Q I (i σ H Q q)⟩
theorem PA.of {X : Cx} {e : List Expr} {t t' : TA} (h : PA X e t) (i : ∀ σ H Q, t' σ H Q → t σ H Q) : PA X e t' := ⟨fun pos pins s σ H Q I q => h.run pos pins s σ H Q I (i σ H Q q)⟩
section
variable {X : Cx} {T : List (Addr × Str)} {k : Nat} {W : WX} {σ : L2.St} {μ : List Addr} {H : Hp} {env : Env} {sto : Sto}
theorem DenW.error {α β : Type} {P : α → Sto → Prop} {P' : β → Sto → Prop} {x : Exn} {s : Sto} (h : DenW X T W σ μ H P (some (.error x, s))) : DenW X T W σ μ H P' (some (.error x, s)) := h
theorem ExnPost.pre {μ1 : List Addr} {H1 : Hp} {s1 : Sto} {x : Exn} {s2 : Sto} {cls : Value} {dx : Option Addr} {H2 : Hp} (p : Post X.K X.mg T μ H s1 H1 μ1) (q : ExnPost X.K X.mg T μ1 H1 x s2 cls dx H2) : ExnPost X.K X.mg T μ H x s2 cls dx H2 := by
  obtain ⟨m1, rfl⟩ := p.pre
  obtain ⟨more, d, C, fvs, h1, h2, h3, h4, h5, h6⟩ := q.ex
  exact ⟨p.ext.trans q.ext, m1 ++ more, d, C, fvs, h1, h2, h3, h4, by rw [← List.append_assoc]; exact h5, by rw [← List.append_assoc]; exact h6⟩
/-- one evaluation behind another one -/
theorem DenW.bind {α β : Type} {P : α → Sto → Prop} {m : R β} {f : β → Sto → R α} (h : DenW X T W σ μ H P (bind m f)) : DenW X T W σ μ H (fun b s1 => DenW X T W σ μ H P (f b s1)) m := by
  match m, h with
  | none, h => exact h
  | some (.ok b, s1), h => exact h
  | some (.error x, s1), h => exact h
/-- behind something: from there on -/
theorem DenW.later {α : Type} {P P' : α → Sto → Prop} {m : R α} {μ1 : List Addr} {H1 : Hp} {s1 : Sto} (p : Post X.K X.mg T μ H s1 H1 μ1) (h : DenW X T W σ μ H P m) (i : ∀ a s, P a s → P' a s) : DenW X T W σ μ1 H1 P' m := by
  match m, h with
  | none, h => exact h
  | some (.ok b, s1), h => exact i _ _ h
  | some (.error x, s1), h => exact fun cls dx H' q => h cls dx H' (ExnPost.pre p q)
theorem DenW.imp {α : Type} {P P' : α → Sto → Prop} {m : R α} (h : DenW X T W σ μ H P m) (i : ∀ a s, P a s → P' a s) : DenW X T W σ μ H P' m := by
  match m, h with
  | none, h => exact h
  | some (.ok b, s1), h => exact i _ _ h
  | some (.error x, s1), h => exact h
/-- the start of an expression's reading, and what is wanted behind it -/
theorem tE.go {f : Ev} {Q : VK} (rh : RepH X.K X.mg T μ sto H) (re : RepE X T k H μ env σ)
    (h : DenW X T W σ μ H (fun d s1 => ∀ v H1 μ1, Post X.K X.mg T μ H s1 H1 μ1 → RepE X T k H1 μ1 env σ → Rp X.K H1 μ1 d v → Q v H1) (f env sto)) : tE X T k W f σ H Q :=
  ⟨μ, env, sto, rh, re, h.imp fun d s1 q v H1 μ1 p r => q v H1 μ1 p (re.mono p) r⟩
theorem tB.go {f : EvB} {Q : Bool → Hp → Prop} (rh : RepH X.K X.mg T μ sto H) (re : RepE X T k H μ env σ)
    (h : DenW X T W σ μ H (fun d s1 => ∀ H1 μ1, Post X.K X.mg T μ H s1 H1 μ1 → RepE X T k H1 μ1 env σ → Q d H1) (f env sto)) : tB' X T k W f σ H Q :=
  ⟨μ, env, sto, rh, re, h.imp fun d s1 q H1 μ1 p => q H1 μ1 p (re.mono p)⟩
theorem tA.go {f : EvA} {Q : List V → Hp → Prop} (rh : RepH X.K X.mg T μ sto H) (re : RepE X T k H μ env σ)
    (h : DenW X T W σ μ H (fun d s1 => ∀ vs H1 μ1, Post X.K X.mg T μ H s1 H1 μ1 → RepE X T k H1 μ1 env σ → RpAs X T k H1 μ1 d vs → Q vs H1) (f env sto)) : tA X T k W f σ H Q :=
  ⟨μ, env, sto, rh, re, h.imp fun d s1 q v H1 μ1 p r => q v H1 μ1 p (re.mono p) r⟩
end
end TP
/-! Expressions: names, constants, operators, comparisons, truth, displays. -/
namespace TP
open PySem PySem.Spec PyProof.Rows L2 LamX

abbrev RV := Option (D × Sto)
def lift : RV → R D
  | none => none
  | some (d, s) => some (.ok d, s)
@[simp] theorem lift_none : lift none = none := rfl
@[simp] theorem lift_some (d : D) (s : Sto) : lift (some (d, s)) = some (.ok d, s) := rfl
def DenV (X : Cx) (T : List (Addr × Str)) (μ : List Addr) (H : Hp) (Q : VK) : RV → Prop
  | none => False
  | some (d, s1) => ∀ v H' μ', Post X.K X.mg T μ H s1 H' μ' → Rp X.K H' μ' d v → Q v H'
theorem DenV.of {X : Cx} {T : List (Addr × Str)} {W : WX} {σ : L2.St} {μ μ0 : List Addr} {H H0 : Hp} {P : D → Sto → Prop} {Q : VK} {o : RV} (h : DenW X T W σ μ0 H0 P (lift o))
    (i : ∀ d s1, P d s1 → ∀ v H' μ', Post X.K X.mg T μ H s1 H' μ' → Rp X.K H' μ' d v → Q v H') : DenV X T μ H Q o := by
  match o, h with
  | none, h => exact h
  | some (d, s1), h => exact i d s1 h

section
variable {X : Cx} {T : List (Addr × Str)} {k : Nat} {W : WX} {a b c : Expr} {f g h : Ev} {pos : Pos}

/-! ### names, constants -/
def eVar (i : Nat) : Ev := fun env s => match env[i]? with
  | some (some (.d x)) => ret x s
  | _ => none
theorem qe_var {i : Nat} {x : Str} (hN : X.N[i]? = some x) (hv : Vis X.env.scope x) (hd : (x == ("__debug__" : Str)) = false := by decide) (hcd : (x == ("__classdict__" : Str)) = false := by decide) : QE X T k W (.Name x pos) (eVar i) := by
  refine PE.of (pe_var hN hv hd hcd) fun σ H Q q => ?_
  obtain ⟨μ, env, sto, rh, re, q⟩ := q
  unfold eVar at q
  split at q
  · rename_i x e
    obtain ⟨v, h1, h2⟩ := re.slot i _ e
    exact ⟨v, h1, q v H μ (Post.refl rh) h2⟩
  · exact q.elim
theorem qv (i : Nat) {x : Str} {pos : Pos} (hN : X.N[i]? = some x := by rfl) (hv : Vis X.env.scope x := by first | exact Or.inl rfl | exact Or.inr (Or.inl rfl) | exact Or.inr (Or.inr rfl)) (hd : (x == ("__debug__" : Str)) = false := by decide)
    (hcd : (x == ("__classdict__" : Str)) = false := by decide) : QE X T k W (.Name x pos) (eVar i) := qe_var hN hv hd hcd
def eC (d : D) : Ev := fun _ s => ret d s
theorem qe_const {e : Expr} {v : V} {d : D} (he : PE X e (tC v)) (r : ∀ H μ, Rp X.K H μ d v) : QE X T k W e (eC d) :=
  PE.of he fun σ H Q q => by
    obtain ⟨μ, env, sto, rh, re, q⟩ := q
    exact q v H μ (Post.refl rh) (r H μ)
theorem qe_int {i : Int} {j pos} : QE X T k W (.Constant (.int i) j pos) (eC (.int i)) := qe_const pe_int fun _ _ => rfl
theorem qe_bl {i : Bool} {j pos} : QE X T k W (.Constant (.bool i) j pos) (eC (.bl i)) := qe_const pe_bl fun _ _ => rfl
theorem qe_non {j pos} : QE X T k W (.Constant .none j pos) (eC .non) := qe_const pe_non fun _ _ => rfl
theorem qe_str {x : Str} {l : List Nat} {j pos} (e : x = sn l := by decide +kernel) : QE X T k W (.Constant (.str x) j pos) (eC (.str l)) := qe_const pe_str fun _ _ => by rw [e]; rfl
/-- a constant of the module -/
theorem qe_glob {x : Str} {v : V} {u : Value} {d : D} (hg : Gl X x) (hm : X.mg x = some u) (r : RelV v u) (q : ∀ H μ, Rp X.K H μ d v) (hd : (x == ("__debug__" : Str)) = false := by decide) : QE X T k W (.Name x pos) (eC d) :=
  qe_const (pe_glob hg hm r hd) q

/-! ### two operands -/
def eOp (op : D → D → Sto → RV) (f g : Ev) : Ev := fun env s => bind (f env s) fun x s1 => bind (g env s1) fun y s2 => lift (op x y s2)
def OpS (X : Cx) (T : List (Addr × Str)) (f : Value → Value → Sem Value) (op : D → D → Sto → RV) : Prop := ∃ r : R2, OpR X f r ∧
  ∀ μ H sto d e v u (Q : VK), RepH X.K X.mg T μ sto H → Rp X.K H μ d v → Rp X.K H μ e u → DenV X T μ H Q (op d e sto) → r v u H Q
theorem two_of {op : D → D → Sto → RV} {r : R2} (hr : ∀ μ H sto d e v u (Q : VK), RepH X.K X.mg T μ sto H → Rp X.K H μ d v → Rp X.K H μ e u → DenV X T μ H Q (op d e sto) → r v u H Q) (σ : L2.St) (H : Hp) (Q : VK)
    (q : tE X T k W (eOp op f g) σ H Q) : tOp r (tE X T k W f) (tE X T k W g) σ H Q := by
  obtain ⟨μ, env, sto, rh, re, q⟩ := q
  refine tE.go rh re (q.bind.imp fun d s1 q1 v H1 μ1 p1 re1 r1 => ?_)
  refine tE.go p1.rep re1 ((q1.later p1 fun _ _ z => z).bind.imp fun e s2 q2 u H2 μ2 p2 re2 r2 => ?_)
  refine hr μ2 H2 s2 d e v u Q p2.rep (Rp.mono p2.ext p2.mono r1) r2 (DenV.of q2 fun x s3 q3 w H3 μ3 p3 r3 => ?_)
  exact q3 w H3 μ3 ((p1.trans p2).trans p3) r3
theorem qe_op {op : Operator} {opd : D → D → Sto → RV} (ho : OpS X T (binaryOp op) opd) (ha : QE X T k W a f) (hb : QE X T k W b g) : QE X T k W (.BinOp a op b pos) (eOp opd f g) := by
  obtain ⟨r, h1, h2⟩ := ho
  exact PE.of (pe_op h1 ha hb) (two_of h2)
theorem qe_cmp {op : CmpOp} {opd : D → D → Sto → RV} (ho : OpS X T (compareOp op) opd) (ha : QE X T k W a f) (hb : QE X T k W b g) (hm : behindInMarks op b = false) : QE X T k W (.Compare a [op] [b] pos) (eOp opd f g) := by
  obtain ⟨r, h1, h2⟩ := ho
  exact PE.of (pe_cmpR h1 ha hb hm) (two_of h2)
theorem OpS.or {f : Value → Value → Sem Value} {p q : D → D → Sto → RV} (hp : OpS X T f p) (hq : OpS X T f q) : OpS X T f (fun x y s => match p x y s with
    | some z => some z
    | none => q x y s) := by
  obtain ⟨r, a1, a2⟩ := hp
  obtain ⟨r', b1, b2⟩ := hq
  refine ⟨_, a1.or b1, fun μ H sto d e v u Q rh rv ru h => ?_⟩
  cases hc : p d e sto with
  | some z =>
    simp only [hc] at h
    exact .inl (a2 μ H sto d e v u Q rh rv ru (by rw [hc]; exact h))
  | none =>
    simp only [hc] at h
    exact .inr (b2 μ H sto d e v u Q rh rv ru h)

/-! the value behind: nothing new, a new tuple, a new list -/
theorem DenV.same {μ : List Addr} {H : Hp} {sto : Sto} {Q : VK} {d : D} {v : V} (h : DenV X T μ H Q (some (d, sto))) (rh : RepH X.K X.mg T μ sto H) (r : Rp X.K H μ d v) : Q v H := h v H μ (Post.refl rh) r
theorem DenV.tup {μ : List Addr} {H : Hp} {sto : Sto} {Q : VK} {ds : List D} {vs : List V} (h : DenV X T μ H Q (some (.tup ds, sto))) (rh : RepH X.K X.mg T μ sto H) (r : Rps X.K H μ ds vs) : ∀ p, H p = none → Q (.ref p) (upd H p (.tup vs)) := fun p hp =>
  h _ _ μ ⟨Ext.new hp, ⟨[], by simp⟩, rh.fresh hp⟩ ⟨p, vs, rfl, SqT.of upd_same, r.mono (Ext.new hp) fun _ _ z => z⟩
theorem DenV.lst {μ : List Addr} {H : Hp} {sto : Sto} {Q : VK} {ds : List D} {vs : List V} (h : DenV X T μ H Q (some (.ref sto.length, sto ++ [.lst ds]))) (rh : RepH X.K X.mg T μ sto H) (r : Rps X.K H μ ds vs) : ∀ p, H p = none → Q (.ref p) (upd H p (.lst vs)) := fun p hp =>
  h _ _ (μ ++ [p]) ⟨Ext.new hp, ⟨[p], rfl⟩, rh.alloc hp ⟨vs, upd_same, r.mono (Ext.new hp) fun _ _ z => get_snoc z⟩⟩ ⟨p, by rw [← rh.len]; simp, rfl⟩

/-! ### ints -/
def onI (C : Int → Int → Bool) (g : Int → Int → Int) : D → D → Sto → RV := fun x y s => match x, y with
  | .int i, .int j => if C i j then some (.int (g i j), s) else none
  | _, _ => none
theorem ops_I {f : Value → Value → Sem Value} {C : Int → Int → Bool} {C' : Int → Int → Prop} {g : Int → Int → Int} (h : OpR X f (rI C' fun i j => .int (g i j))) (hc : ∀ i j, C i j = true → C' i j) : OpS X T f (onI C g) := by
  refine ⟨_, h, fun μ H sto d e v u Q rh rv ru q => ?_⟩
  unfold onI at q
  split at q
  · rename_i i j
    split at q
    · rename_i h
      exact ⟨i, j, rv, ru, hc i j h, q.same rh rfl⟩
    · exact q.elim
  · exact q.elim
theorem ops_I0 {f : Value → Value → Sem Value} {g : Int → Int → Int} (h : OpR X f (rI0 fun i j => .int (g i j))) : OpS X T f (onI (fun _ _ => true) g) := by
  refine ⟨_, h, fun μ H sto d e v u Q rh rv ru q => ?_⟩
  unfold onI at q
  split at q
  · rename_i i j
    rw [if_pos rfl] at q
    exact ⟨i, j, rv, ru, q.same rh rfl⟩
  · exact q.elim
def onIB (g : Int → Int → Bool) : D → D → Sto → RV := fun x y s => match x, y with
  | .int i, .int j => some (.bl (g i j), s)
  | _, _ => none
theorem ops_IB {f : Value → Value → Sem Value} {g : Int → Int → Bool} (h : OpR X f (rI0 fun i j => .bl (g i j))) : OpS X T f (onIB g) := by
  refine ⟨_, h, fun μ H sto d e v u Q rh rv ru q => ?_⟩
  unfold onIB at q
  split at q
  · rename_i i j
    exact ⟨i, j, rv, ru, q.same rh rfl⟩
  · exact q.elim
def mulC (i j : Int) : Bool := Nat.ble i.natAbs 18446744073709551615 || Nat.ble j.natAbs 18446744073709551615
theorem mulC_iff {i j : Int} : mulC i j = true ↔ (-(2 ^ 64) < i ∧ i < 2 ^ 64) ∨ (-(2 ^ 64) < j ∧ j < 2 ^ 64) := by
  unfold mulC
  rw [Bool.or_eq_true, Nat.ble_eq, Nat.ble_eq]
  omega
abbrev subD : D → D → Sto → RV := onI (fun _ _ => true) fun i j => i - j
abbrev mulI : D → D → Sto → RV := onI mulC fun i j => i * j
abbrev fdivD : D → D → Sto → RV := onI (fun _ j => decide (0 < j) && decide (j < 1073741824)) fun i j => i / j
abbrev modD : D → D → Sto → RV := onI (fun _ j => decide (0 < j)) fun i j => i % j
abbrev powD : D → D → Sto → RV := onI (fun i j => decide (0 ≤ j) && decide (j ≤ 1000000) && decide (i.natAbs < 2 ^ 64)) fun i j => i ^ j.toNat
theorem ops_sub : OpS X T (binaryOp .Sub) subD := ops_I0 op_sub
theorem ops_mulI : OpS X T (binaryOp .Mult) mulI := ops_I op_mul fun i j h => by
  have h := mulC_iff.mp h
  exact h
theorem ops_fdiv : OpS X T (binaryOp .FloorDiv) fdivD := ops_I op_fdiv fun i j h => by
  simp only [Bool.and_eq_true, decide_eq_true_eq] at h
  exact h
theorem ops_mod : OpS X T (binaryOp .Mod) modD := ops_I op_mod fun i j h => of_decide_eq_true h
theorem ops_pow : OpS X T (binaryOp .Pow) powD := ops_I op_pow fun i j h => by
  simp only [Bool.and_eq_true, decide_eq_true_eq] at h
  exact ⟨h.1.1, h.1.2, h.2⟩

/-! ### + -/
def addD : D → D → Sto → RV := fun x y s => match x, y with
  | .int i, .int j => some (.int (i + j), s)
  | .str a, .str b => if a.length + b.length ≤ sizeLine then some (.str (a ++ b), s) else none
  | .tup a, .tup b => if a.length + b.length ≤ sizeLine then some (.tup (a ++ b), s) else none
  | .ref m, .ref n => match s[m]?, s[n]? with
    | some (.lst a), some (.lst b) => if a.length + b.length ≤ sizeLine then some (.ref s.length, s ++ [.lst (a ++ b)]) else none
    | _, _ => none
  | _, _ => none
theorem str_app (a b : List Nat) : (⟨a.toArray⟩ : Str) ++ (⟨b.toArray⟩ : Str) = ⟨(a ++ b).toArray⟩ := by
  show Str.append _ _ = _
  unfold Str.append
  simp
theorem str_len (a : List Nat) : (⟨a.toArray⟩ : Str).length = a.length := by simp [Str.length]
theorem ops_add : OpS X T (binaryOp .Add) addD := by
  refine ⟨_, op_add.or (op_add_str.or (op_catA.or op_cat)), fun μ H sto d e v u Q rh rv ru q => ?_⟩
  unfold addD at q
  split at q
  · rename_i i j
    exact .inl ⟨i, j, rv, ru, q.same rh rfl⟩
  · rename_i a b
    split at q
    · rename_i h
      exact .inr (.inl ⟨_, _, rv, ru, by rw [str_len, str_len]; exact h, q.same rh (by rw [str_app]; rfl)⟩)
    · exact q.elim
  · rename_i a b
    split at q
    · rename_i h
      obtain ⟨p, vs, e1, e2, e3⟩ := rv
      obtain ⟨p', vs', f1, f2, f3⟩ := ru
      refine .inr (.inr (.inl ⟨p, p', vs, vs', e1, f1, e2, f2, by rw [e3.length, f3.length]; exact h, fun z => ?_, fun _ z => ?_, fun _ _ => q.tup rh (e3.append f3)⟩))
      · have : a = [] := List.length_eq_zero_iff.mp (by rw [← e3.length, z]; rfl)
        subst this
        exact q.same rh ⟨p', vs', rfl, f2, f3⟩
      · have : b = [] := List.length_eq_zero_iff.mp (by rw [← f3.length, z]; rfl)
        subst this
        rw [List.append_nil] at q
        exact q.same rh ⟨p, vs, rfl, e2, e3⟩
    · exact q.elim
  · rename_i m n
    split at q
    · rename_i a b hm hn
      split at q
      · rename_i h
        obtain ⟨p, h1, vs, h2, h3⟩ := rh.at_ hm
        obtain ⟨p', h1', vs', h2', h3'⟩ := rh.at_ hn
        obtain ⟨_, g1, rfl⟩ := rv
        obtain ⟨_, g2, rfl⟩ := ru
        rw [h1] at g1; cases g1
        rw [h1'] at g2; cases g2
        exact .inr (.inr (.inr ⟨p, p', vs, vs', rfl, rfl, h2, h2', by rw [h3.length, h3'.length]; exact h, q.lst rh (h3.append h3')⟩))
      · exact q.elim
    · exact q.elim
  · exact q.elim

/-! ### < and its kin -/
abbrev ltI : D → D → Sto → RV := onIB fun i j => decide (i < j)
def onSB (g : List Nat → List Nat → Bool) : D → D → Sto → RV := fun x y s => match x, y with
  | .str i, .str j => some (.bl (g i j), s)
  | _, _ => none
theorem ops_SB {f : Value → Value → Sem Value} {g : List Nat → List Nat → Bool} (h : OpR X f (fun x y H Q => ∃ i j, x = .str i ∧ y = .str j ∧ Q (.bl (g i.cps.toList j.cps.toList)) H)) : OpS X T f (onSB g) := by
  refine ⟨_, h, fun μ H sto d e v u Q rh rv ru q => ?_⟩
  unfold onSB at q
  split at q
  · rename_i i j
    exact ⟨_, _, rv, ru, q.same rh (by simp; rfl)⟩
  · exact q.elim
theorem ops_ltI : OpS X T (compareOp .Lt) ltI := ops_IB op_lt
theorem ops_leI : OpS X T (compareOp .LtE) (onIB fun i j => decide (i ≤ j)) := ops_IB op_le
theorem ops_gtI : OpS X T (compareOp .Gt) (onIB fun i j => decide (j < i)) := ops_IB op_gt
theorem ops_geI : OpS X T (compareOp .GtE) (onIB fun i j => decide (j ≤ i)) := ops_IB op_ge
theorem ops_ltS : OpS X T (compareOp .Lt) (onSB fun i j => decide (i < j)) := ops_SB op_lt_str
/-- c in s, c one sign -/
def inSign (neg : Bool) : D → D → Sto → RV := fun x y s => match x, y with
  | .str [c], .str z => some (.bl (if neg then !decide (c ∈ z) else decide (c ∈ z)), s)
  | _, _ => none
theorem ops_inSign : OpS X T (compareOp .In) (inSign false) := by
  refine ⟨_, op_in_sign, fun μ H sto d e v u Q rh rv ru q => ?_⟩
  unfold inSign at q
  split at q
  · rename_i c z
    exact ⟨c, _, rv, ru, q.same rh (by simp; rfl)⟩
  · exact q.elim
theorem ops_notInSign : OpS X T (compareOp .NotIn) (inSign true) := by
  refine ⟨_, op_notIn_sign, fun μ H sto d e v u Q rh rv ru q => ?_⟩
  unfold inSign at q
  split at q
  · rename_i c z
    exact ⟨c, _, rv, ru, q.same rh (by simp; rfl)⟩
  · exact q.elim
/-- is None -/
def isNon (neg : Bool) : D → D → Sto → RV := fun x y s => match y with
  | .non => some (.bl (if neg then !decide (x = .non) else decide (x = .non)), s)
  | _ => none
theorem Rp.non_iff {H : Hp} {μ : List Addr} {K : PySem.W.Frag} {d : D} {v : V} (r : Rp K H μ d v) : decide (v = .non) = decide (d = .non) := by
  cases d with
  | non => rw [show v = _ from r]; rfl
  | bl b => rw [show v = _ from r]; rfl
  | int b => rw [show v = _ from r]; rfl
  | str b => rw [show v = _ from r]; rfl
  | tup b => obtain ⟨a, vs, rfl, _⟩ := r; rfl
  | ref b => obtain ⟨a, _, rfl⟩ := r; rfl
theorem ops_isN : OpS X T (compareOp .Is) (isNon false) := by
  refine ⟨_, op_isN, fun μ H sto d e v u Q rh rv ru q => ?_⟩
  unfold isNon at q
  split at q
  · exact ⟨ru, by rw [rv.non_iff]; exact q.same rh rfl⟩
  · exact q.elim
theorem ops_notN : OpS X T (compareOp .IsNot) (isNon true) := by
  refine ⟨_, op_notN, fun μ H sto d e v u Q rh rv ru q => ?_⟩
  unfold isNon at q
  split at q
  · exact ⟨ru, by rw [rv.non_iff]; exact q.same rh rfl⟩
  · exact q.elim

/-! ### tests -/
/-- the truth of a bool -/
def bOf (f : Ev) : EvB := fun env s => bind (f env s) fun x s1 => match x with
  | .bl b => ret b s1
  | _ => none
theorem bOf_of (σ : L2.St) (H : Hp) (Q : Bool → Hp → Prop) (q : tB' X T k W (bOf f) σ H Q) : tE X T k W f σ H (fun x H1 => ∃ c, x = .bl c ∧ Q c H1) := by
  obtain ⟨μ, env, sto, rh, re, q⟩ := q
  refine tE.go rh re (q.bind.imp fun d s1 q1 v H1 μ1 p1 re1 r1 => ?_)
  split at q1
  · exact ⟨_, r1, q1 H1 μ1 p1⟩
  · exact q1.elim
theorem qb_val {e : Expr} (he : QE X T k W e f) (ht : ∀ whole, isTrue e X.env whole = (do let v ← whole; standAt e.pos; holding [v] (truthy v)) := by intro _; rfl) : QB X T k W e (bOf f) := PT.of (pt_val he ht) bOf_of
theorem qb_cmp {op : CmpOp} {opd : D → D → Sto → RV} (ho : OpS X T (compareOp op) opd) (ha : QE X T k W a f) (hb : QE X T k W b g) (hm : behindInMarks op b = false) : QB X T k W (.Compare a [op] [b] pos) (bOf (eOp opd f g)) := by
  obtain ⟨r, h1, h2⟩ := ho
  refine PT.of (pt_cmpR h1 ha hb hm) fun σ H Q q => ?_
  exact two_of h2 σ H _ (bOf_of σ H Q q)
def eB (t : EvB) : Ev := fun env s => bind (t env s) fun b s1 => ret (.bl b) s1

/-- a test within and, or -/
abbrev QW (X : Cx) (T : List (Addr × Str)) (k : Nat) (W : WX) (e : Expr) (f : EvB) : Prop := PW X e (tB' X T k W f)
variable {t u : EvB} {rest : List Expr}
def bAnd (t u : EvB) : EvB := fun env s => bind (t env s) fun b s1 => if b then u env s1 else ret false s1
def bOr (t u : EvB) : EvB := fun env s => bind (t env s) fun b s1 => if b then ret true s1 else u env s1
def bNot (t : EvB) : EvB := fun env s => bind (t env s) fun b s1 => ret (!b) s1
theorem DenW.bool {α : Type} {σ : L2.St} {μ μ1 : List Addr} {H H1 : Hp} {s1 : Sto} {P P' : α → Sto → Prop} {m : R α} (p : Post X.K X.mg T μ H s1 H1 μ1) (q : DenW X T W σ μ H P m) (i : ∀ a s, P a s → P' a s) : DenW X T W σ μ1 H1 P' m := q.later p i
theorem bAnd_of (σ : L2.St) (H : Hp) (Q : Bool → Hp → Prop) (q : tB' X T k W (bAnd t u) σ H Q) : tAnd (tB' X T k W t) (tB' X T k W u) σ H Q := by
  obtain ⟨μ, env, sto, rh, re, q⟩ := q
  refine tB.go rh re (q.bind.imp fun d s1 q1 H1 μ1 p1 re1 => ?_)
  cases d with
  | true => exact tB.go p1.rep re1 ((DenW.later p1 q1 fun _ _ z => z).imp fun e s2 q2 H2 μ2 p2 _ => q2 H2 μ2 (p1.trans p2))
  | false => exact q1 H1 μ1 p1
theorem bOr_of (σ : L2.St) (H : Hp) (Q : Bool → Hp → Prop) (q : tB' X T k W (bOr t u) σ H Q) : tOr (tB' X T k W t) (tB' X T k W u) σ H Q := by
  obtain ⟨μ, env, sto, rh, re, q⟩ := q
  refine tB.go rh re (q.bind.imp fun d s1 q1 H1 μ1 p1 re1 => ?_)
  cases d with
  | false => exact tB.go p1.rep re1 ((DenW.later p1 q1 fun _ _ z => z).imp fun e s2 q2 H2 μ2 p2 _ => q2 H2 μ2 (p1.trans p2))
  | true => exact q1 H1 μ1 p1
theorem qw_and1 (ha : QB X T k W a t) : QW X T k W (.BoolOp .And [a] pos) t := pw_and1 ha
theorem qw_or1 (ha : QB X T k W a t) : QW X T k W (.BoolOp .Or [a] pos) t := pw_or1 ha
theorem qw_and (ha : QB X T k W a t) (hb : QW X T k W (.BoolOp .And (b :: rest) pos) u) : QW X T k W (.BoolOp .And (a :: b :: rest) pos) (bAnd t u) := PW.of (pw_and ha hb) bAnd_of
theorem qw_or (ha : QB X T k W a t) (hb : QW X T k W (.BoolOp .Or (b :: rest) pos) u) : QW X T k W (.BoolOp .Or (a :: b :: rest) pos) (bOr t u) := PW.of (pw_or ha hb) bOr_of
theorem qb_bool {e : Expr} (h : QW X T k W e t) : QB X T k W e t := PW.pt h
theorem qb_not (ha : QB X T k W a t) : QB X T k W (.UnaryOp .Not a pos) (bNot t) := PT.of (pt_not ha) fun σ H Q q => by
  obtain ⟨μ, env, sto, rh, re, q⟩ := q
  exact tB.go rh re (q.bind.imp fun d s1 q1 H1 μ1 p1 re1 => q1 H1 μ1 p1)
/-! .. as values -/
def eAnd (f g : Ev) : Ev := fun env s => bind (f env s) fun x s1 => match x with
  | .bl true => g env s1
  | .bl false => ret (.bl false) s1
  | _ => none
def eOr (f g : Ev) : Ev := fun env s => bind (f env s) fun x s1 => match x with
  | .bl false => g env s1
  | .bl true => ret (.bl true) s1
  | _ => none
def eNot (f : Ev) : Ev := fun env s => bind (f env s) fun x s1 => match x with
  | .bl b => ret (.bl (!b)) s1
  | _ => none
theorem qe_one {op} (h : QE X T k W a f) : QE X T k W (.BoolOp op [a] pos) f := pe_one h
theorem qe_and (ha : QE X T k W a f) (hb : QE X T k W (.BoolOp .And (b :: rest) pos) g) : QE X T k W (.BoolOp .And (a :: b :: rest) pos) (eAnd f g) := PE.of (pe_and ha hb) fun σ H Q q => by
  obtain ⟨μ, env, sto, rh, re, q⟩ := q
  refine tE.go rh re (q.bind.imp fun d s1 q1 v H1 μ1 p1 re1 r1 => ?_)
  split at q1
  · exact ⟨true, r1, tE.go p1.rep re1 ((DenW.later p1 q1 fun _ _ z => z).imp fun e s2 q2 w H2 μ2 p2 _ r2 => q2 w H2 μ2 (p1.trans p2) r2)⟩
  · exact ⟨false, r1, q1 _ H1 μ1 p1 rfl⟩
  · exact q1.elim
theorem qe_or (ha : QE X T k W a f) (hb : QE X T k W (.BoolOp .Or (b :: rest) pos) g) : QE X T k W (.BoolOp .Or (a :: b :: rest) pos) (eOr f g) := PE.of (pe_or ha hb) fun σ H Q q => by
  obtain ⟨μ, env, sto, rh, re, q⟩ := q
  refine tE.go rh re (q.bind.imp fun d s1 q1 v H1 μ1 p1 re1 r1 => ?_)
  split at q1
  · exact ⟨false, r1, tE.go p1.rep re1 ((DenW.later p1 q1 fun _ _ z => z).imp fun e s2 q2 w H2 μ2 p2 _ r2 => q2 w H2 μ2 (p1.trans p2) r2)⟩
  · exact ⟨true, r1, q1 _ H1 μ1 p1 rfl⟩
  · exact q1.elim
theorem qe_not (ha : QE X T k W a f) : QE X T k W (.UnaryOp .Not a pos) (eNot f) := PE.of (pe_not ha) fun σ H Q q => by
  obtain ⟨μ, env, sto, rh, re, q⟩ := q
  refine tE.go rh re (q.bind.imp fun d s1 q1 v H1 μ1 p1 re1 r1 => ?_)
  split at q1
  · exact ⟨_, r1, q1 _ H1 μ1 p1 rfl⟩
  · exact q1.elim
/-- a if t else b -/
def eIf (t : EvB) (f g : Ev) : Ev := fun env s => bind (t env s) fun b s1 => if b then f env s1 else g env s1
theorem qe_if (hc : QB X T k W c t) (ha : QE X T k W a f) (hb : QE X T k W b g) : QE X T k W (.IfExp c a b pos) (eIf t f g) := PE.of (pe_ifExp hc ha hb) fun σ H Q q => by
  obtain ⟨μ, env, sto, rh, re, q⟩ := q
  refine tB.go rh re (q.bind.imp fun d s1 q1 H1 μ1 p1 re1 => ?_)
  cases d with
  | true => exact tE.go p1.rep re1 ((DenW.later p1 q1 fun _ _ z => z).imp fun e s2 q2 w H2 μ2 p2 _ r2 => q2 w H2 μ2 (p1.trans p2) r2)
  | false => exact tE.go p1.rep re1 ((DenW.later p1 q1 fun _ _ z => z).imp fun e s2 q2 w H2 μ2 p2 _ r2 => q2 w H2 μ2 (p1.trans p2) r2)
/-- a op1 b op2 c -/
def eChain (op op' : D → D → Sto → RV) (f g h : Ev) : Ev := fun env s => bind (f env s) fun x s1 => bind (g env s1) fun y s2 => bind (lift (op x y s2)) fun z s3 => match z with
  | .bl true => bind (h env s3) fun w s4 => lift (op' y w s4)
  | .bl false => ret (.bl false) s3
  | _ => none
theorem chain_of {op op' : D → D → Sto → RV} {r r' : R2} (hr : ∀ μ H sto d e v u (Q : VK), RepH X.K X.mg T μ sto H → Rp X.K H μ d v → Rp X.K H μ e u → DenV X T μ H Q (op d e sto) → r v u H Q)
    (hr' : ∀ μ H sto d e v u (Q : VK), RepH X.K X.mg T μ sto H → Rp X.K H μ d v → Rp X.K H μ e u → DenV X T μ H Q (op' d e sto) → r' v u H Q) (σ : L2.St) (H : Hp) (Q : VK)
    (q : tE X T k W (eChain op op' f g h) σ H Q) : tChain r r' (tE X T k W f) (tE X T k W g) (tE X T k W h) σ H Q := by
  obtain ⟨μ, env, sto, rh, re, q⟩ := q
  refine tE.go rh re (q.bind.imp fun d s1 q1 v H1 μ1 p1 re1 r1 => ?_)
  refine tE.go p1.rep re1 ((q1.later p1 fun _ _ z => z).bind.imp fun e s2 q2 u H2 μ2 p2 re2 r2 => ?_)
  have p12 := p1.trans p2
  refine hr μ2 H2 s2 d e v u _ p2.rep (Rp.mono p2.ext p2.mono r1) r2 (DenV.of (q2.later p2 fun _ _ z => z).bind fun x s3 q3 w H3 μ3 p3 r3 => ?_)
  have p13 := p12.trans p3
  split at q3
  · refine ⟨true, r3, ?_⟩
    rw [if_pos rfl]
    refine tE.go p3.rep (re2.mono p3) ((q3.later p3 fun _ _ z => z).bind.imp fun y s4 q4 w4 H4 μ4 p4 re4 r4 => ?_)
    refine hr' μ4 H4 s4 e y u w4 Q p4.rep (Rp.mono p4.ext p4.mono (Rp.mono p3.ext p3.mono r2)) r4 (DenV.of q4 fun z s5 q5 w5 H5 μ5 p5 r5 => ?_)
    exact q5 w5 H5 μ5 ((p13.trans p4).trans p5) r5
  · refine ⟨false, r3, ?_⟩
    rw [if_neg Bool.false_ne_true]
    exact q3 _ H3 μ3 p13 rfl
  · exact q3.elim
theorem qe_chain {op op' : CmpOp} {p p' : D → D → Sto → RV} (ho : OpS X T (compareOp op) p) (ho' : OpS X T (compareOp op') p') (ha : QE X T k W a f) (hb : QE X T k W b g) (hc : QE X T k W c h)
    (hm : lastMarks [op, op'] [b, c] = false := by with_unfolding_all rfl) : QE X T k W (.Compare a [op, op'] [b, c] pos) (eChain p p' f g h) := by
  obtain ⟨r, h1, h2⟩ := ho
  obtain ⟨r', h1', h2'⟩ := ho'
  exact PE.of (pe_chain h1 h1' ha hb hc hm) (chain_of h2 h2')
theorem qb_chain {op op' : CmpOp} {p p' : D → D → Sto → RV} (ho : OpS X T (compareOp op) p) (ho' : OpS X T (compareOp op') p') (ha : QE X T k W a f) (hb : QE X T k W b g) (hc : QE X T k W c h)
    (hm : lastMarks [op, op'] [b, c] = false := by with_unfolding_all rfl) : QB X T k W (.Compare a [op, op'] [b, c] pos) (bOf (eChain p p' f g h)) := by
  obtain ⟨r, h1, h2⟩ := ho
  obtain ⟨r', h1', h2'⟩ := ho'
  exact PT.of (pt_chain h1 h1' ha hb hc hm) fun σ H Q q => chain_of h2 h2' σ H _ (bOf_of σ H Q q)

/-! ### arguments, displays -/
def aNil : EvA := fun _ s => ret [] s
def aCons (f : Ev) (fs : EvA) : EvA := fun env s => bind (f env s) fun x s1 => bind (fs env s1) fun xs s2 => ret (.d x :: xs) s2
variable {es : List Expr} {fs : EvA}
theorem qa_nil : QA X T k W [] aNil := PA.of pa_nil fun σ H Q q => by
  obtain ⟨μ, env, sto, rh, re, q⟩ := q
  exact q [] H μ (Post.refl rh) rfl
theorem qa_cons (ha : QE X T k W a f) (hr : QA X T k W es fs) (hs : starEach (a :: es) X.env = (false, eval a X.env) :: starEach es X.env := by rfl) : QA X T k W (a :: es) (aCons f fs) := PA.of (pa_cons ha hr hs) fun σ H Q q => by
  obtain ⟨μ, env, sto, rh, re, q⟩ := q
  refine tE.go rh re (q.bind.imp fun d s1 q1 v H1 μ1 p1 re1 r1 => ?_)
  refine tA.go p1.rep re1 ((q1.later p1 fun _ _ z => z).bind.imp fun xs s2 q2 vs H2 μ2 p2 re2 r2 => ?_)
  exact q2 (v :: vs) H2 μ2 (p1.trans p2) ⟨v, vs, rfl, Rp.mono p2.ext p2.mono r1, r2⟩
/-- plain values -/
def plain : List A → Option (List D)
  | [] => some []
  | .d x :: xs => (plain xs).map (x :: ·)
  | .f _ _ :: _ => none
theorem RpAs.plain {H : Hp} {μ : List Addr} : ∀ {xs : List A} {ds : List D} {vs : List V}, plain xs = some ds → RpAs X T k H μ xs vs → Rps X.K H μ ds vs
  | [], _, _, e, r => by cases e; exact r
  | .d x :: xs, _, _, e, ⟨v, ws, h1, h2, h3⟩ => by
    simp only [TP.plain] at e
    cases hp : TP.plain xs with
    | none => rw [hp] at e; cases e
    | some ys =>
      rw [hp] at e; cases e
      exact ⟨v, ws, h1, h2, RpAs.plain hp h3⟩
  | .f _ g :: xs, _, _, e, _ => by cases e
/-- an operation on some values -/
def eFn (op : List D → Sto → RV) (fs : EvA) : Ev := fun env s => bind (fs env s) fun xs s1 => match plain xs with
  | some ds => lift (op ds s1)
  | none => none
theorem eFn_of {op : List D → Sto → RV} {r : List V → Hp → VK → Prop} (hr : ∀ μ H sto ds vs (Q : VK), RepH X.K X.mg T μ sto H → Rps X.K H μ ds vs → DenV X T μ H Q (op ds sto) → r vs H Q) (σ : L2.St) (H : Hp) (Q : VK)
    (q : tE X T k W (eFn op fs) σ H Q) : tA X T k W fs σ H (fun vs H1 => r vs H1 Q) := by
  obtain ⟨μ, env, sto, rh, re, q⟩ := q
  refine tA.go rh re (q.bind.imp fun xs s1 q1 vs H1 μ1 p1 re1 r1 => ?_)
  split at q1
  · rename_i ds hp
    exact hr μ1 H1 s1 ds vs Q p1.rep (r1.plain hp) (DenV.of q1 fun d s2 q2 v H2 μ2 p2 r2 => q2 v H2 μ2 (p1.trans p2) r2)
  · exact q1.elim
def mkTup : List D → Sto → RV := fun ds s => if ds.length ≤ sizeLine then some (.tup ds, s) else none
def mkLst : List D → Sto → RV := fun ds s => if ds.length ≤ sizeLine then some (.ref s.length, s ++ [.lst ds]) else none
theorem qe_tup {x1} (h : QA X T k W es fs) : QE X T k W (.Tuple es x1 pos) (eFn mkTup fs) := PE.of (pe_tup h) fun σ H Q q =>
  eFn_of (r := fun vs H1 Q => vs.length ≤ sizeLine ∧ ∀ p, H1 p = none → Q (.ref p) (upd H1 p (.tup vs))) (fun μ H sto ds vs Q rh rv q => by
    unfold mkTup at q
    split at q
    · rename_i hl
      exact ⟨by rw [rv.length]; exact hl, q.tup rh rv⟩
    · exact q.elim) σ H Q q
theorem qe_lst (h : QA X T k W es fs) : QE X T k W (.List es pos) (eFn mkLst fs) := PE.of (pe_lst h) fun σ H Q q =>
  eFn_of (r := fun vs H1 Q => vs.length ≤ sizeLine ∧ ∀ p, H1 p = none → Q (.ref p) (upd H1 p (.lst vs))) (fun μ H sto ds vs Q rh rv q => by
    unfold mkLst at q
    split at q
    · rename_i hl
      exact ⟨by rw [rv.length]; exact hl, q.lst rh rv⟩
    · exact q.elim) σ H Q q
end
end TP
/-! Statements. -/
namespace TP
open PySem PySem.Spec PyProof.Rows L2 LamX

/-! ### bounds of references; what is no more reached is dropped -/
mutual
def bndD (n : Nat) : D → Bool
  | .ref m => decide (m < n)
  | .tup xs => bndDs n xs
  | _ => true
def bndDs (n : Nat) : List D → Bool
  | [] => true
  | x :: xs => bndD n x && bndDs n xs
end
def bndFs (n : Nat) : List (List Nat × D) → Bool
  | [] => true
  | (_, x) :: xs => bndD n x && bndFs n xs
def bndC (n : Nat) : Cell → Bool
  | .lst xs => bndDs n xs
  | .frz xs => bndDs n xs
  | .ins _ fs => bndFs n fs
def okCells (n : Nat) (old new : Sto) : Bool := (List.range n).all fun i => decide (new[i]? = old[i]?) || (match new[i]? with
  | some c => bndC n c
  | none => true)
def trim (old : Sto) (roots : Bool) (new : Sto) : Sto := if (roots && okCells old.length old new) = true then new.take old.length else new
theorem trim_cases (old : Sto) (r : Bool) (new : Sto) : trim old r new = new ∨ (r = true ∧ okCells old.length old new = true ∧ trim old r new = new.take old.length) := by
  unfold trim
  by_cases h : (r && okCells old.length old new) = true
  · rw [if_pos h]
    simp only [Bool.and_eq_true] at h
    exact .inr ⟨h.1, h.2, rfl⟩
  · rw [if_neg h]; exact .inl rfl
@[simp] theorem trim_same (old : Sto) (r : Bool) : trim old r old = old := by
  unfold trim; split <;> simp
theorem trim_len {old new : Sto} (r : Bool) (h : new.length = old.length) : trim old r new = new := by
  unfold trim; split
  · rw [← h]; simp
  · rfl
@[simp] theorem trim_set (old : Sto) (r : Bool) (i : Nat) (c : Cell) : trim old r (old.set i c) = old.set i c := trim_len r (by simp)
theorem okCells_app (old g : Sto) : okCells old.length old (old ++ g) = true := by
  unfold okCells
  rw [List.all_eq_true]
  intro i hi
  rw [List.getElem?_append_left (by simpa using hi)]
  simp
@[simp] theorem trim_app (old g : Sto) : trim old true (old ++ g) = old := by
  unfold trim
  rw [okCells_app]; simp
theorem okCells_set (old g : Sto) (i : Nat) (c : Cell) (h : bndC old.length c = true) : okCells old.length old (old.set i c ++ g) = true := by
  unfold okCells
  rw [List.all_eq_true]
  intro j hj
  have hj : j < old.length := by simpa using hj
  rw [List.getElem?_append_left (by simpa using hj)]
  by_cases e : i = j
  · subst e
    rw [List.getElem?_set_self hj]
    simp [h]
  · rw [List.getElem?_set_ne e]; simp
theorem trim_set_app (old g : Sto) (i : Nat) (c : Cell) (h : bndC old.length c = true) : trim old true (old.set i c ++ g) = old.set i c := by
  unfold trim
  rw [okCells_set old g i c h]
  simp
section
variable {K : PySem.W.Frag} {mg : Str → Option Value} {T : List (Addr × Str)} {H H' : Hp} {μ μ' : List Addr} {n : Nat}
theorem take_get {α : Type} {l : List α} {n m : Nat} (h : m < n) : (l.take n)[m]? = l[m]? := List.getElem?_take_of_lt h
theorem take_pre {α : Type} {l m : List α} {n : Nat} (h : l.length ≤ n) : (l ++ m).take n = l ++ m.take (n - l.length) := by
  rw [List.take_append, List.take_of_length_le h]
mutual
theorem Rp.cut : ∀ {d : D} {v : V}, Rp K H μ d v → bndD n d = true → Rp K H (μ.take n) d v
  | .non, _, h, _ => h
  | .bl _, _, h, _ => h
  | .int _, _, h, _ => h
  | .str _, _, h, _ => h
  | .tup _, _, ⟨a, vs, h1, h2, h3⟩, b => ⟨a, vs, h1, h2, Rps.cut h3 (by simpa [bndD] using b)⟩
  | .ref m, _, ⟨a, h1, h2⟩, b => ⟨a, by rw [take_get (by simpa [bndD] using b)]; exact h1, h2⟩
theorem Rps.cut : ∀ {ds : List D} {vs : List V}, Rps K H μ ds vs → bndDs n ds = true → Rps K H (μ.take n) ds vs
  | [], _, h, _ => h
  | _ :: _, _, ⟨v, ws, h1, h2, h3⟩, b => by
    simp only [bndDs, Bool.and_eq_true] at b
    exact ⟨v, ws, h1, Rp.cut h2 b.1, Rps.cut h3 b.2⟩
end
mutual
theorem Rp.bnd : ∀ {d : D} {v : V}, Rp K H μ d v → bndD μ.length d = true
  | .non, _, _ => rfl
  | .bl _, _, _ => rfl
  | .int _, _, _ => rfl
  | .str _, _, _ => rfl
  | .tup _, _, ⟨a, vs, h1, h2, h3⟩ => by simp only [bndD]; exact Rps.bnd h3
  | .ref m, _, ⟨a, h1, h2⟩ => by simp only [bndD, decide_eq_true_eq]; exact (List.getElem?_eq_some_iff.mp h1).1
theorem Rps.bnd : ∀ {ds : List D} {vs : List V}, Rps K H μ ds vs → bndDs μ.length ds = true
  | [], _, _ => rfl
  | _ :: _, _, ⟨v, ws, h1, h2, h3⟩ => by simp only [bndDs, Bool.and_eq_true]; exact ⟨Rp.bnd h2, Rps.bnd h3⟩
end
theorem Rfs.bnd : ∀ {ds : List (List Nat × D)} {vs : List (Str × V)}, Rfs K H μ ds vs → bndFs μ.length ds = true
  | [], _, _ => rfl
  | (_, _) :: _, _, ⟨v, ws, h1, h2, h3⟩ => by simp only [bndFs, Bool.and_eq_true]; exact ⟨h2.bnd, Rfs.bnd h3⟩
theorem Rfs.cut : ∀ {ds : List (List Nat × D)} {vs : List (Str × V)}, Rfs K H μ ds vs → bndFs n ds = true → Rfs K H (μ.take n) ds vs
  | [], _, h, _ => h
  | (_, _) :: _, _, ⟨v, ws, h1, h2, h3⟩, b => by
    simp only [bndFs, Bool.and_eq_true] at b
    exact ⟨v, ws, h1, h2.cut b.1, Rfs.cut h3 b.2⟩
theorem RepC.bnd {a : Addr} {c : Cell} (h : RepC K mg H μ a c) : bndC μ.length c = true := by
  cases c with
  | lst ds => obtain ⟨vs, _, h⟩ := h; exact h.bnd
  | frz ds => obtain ⟨o, vs, _, h⟩ := h; exact h.bnd
  | ins c fs => obtain ⟨_, _, _, _, _, h⟩ := h; exact h.bnd
theorem RepC.cut {a : Addr} {c : Cell} (h : RepC K mg H μ a c) (b : bndC n c = true) : RepC K mg H (μ.take n) a c := by
  cases c with
  | lst ds => obtain ⟨vs, h1, h⟩ := h; exact ⟨vs, h1, h.cut b⟩
  | frz ds => obtain ⟨o, vs, h1, h⟩ := h; exact ⟨o, vs, h1, h.cut b⟩
  | ins c fs => obtain ⟨C, dx, vs, h0, h1, h⟩ := h; exact ⟨C, dx, vs, h0, h1, h.cut b⟩
/-- the store cut back -/
theorem Post.cut {sto new : Sto} (rh : RepH K mg T μ sto H) (p : Post K mg T μ H new H' μ') (ok : okCells sto.length sto new = true) : Post K mg T μ H (new.take sto.length) H' (μ'.take sto.length) := by
  obtain ⟨more, e⟩ := p.pre
  have hl : sto.length ≤ new.length := by rw [← p.rep.len, e, ← rh.len]; simp
  refine ⟨p.ext, ⟨[], ?_⟩, ⟨by simp [p.rep.len], p.rep.nd.sublist (List.take_sublist _ _), fun i c a h1 h2 => ?_, p.rep.tabs⟩⟩
  · rw [e, ← rh.len]; simp
  · have hi : i < sto.length := by
      have := (List.getElem?_eq_some_iff.mp h1).1
      simp at this; omega
    rw [take_get hi] at h1 h2
    refine (p.rep.cell i c a h1 h2).cut ?_
    have := List.all_eq_true.mp ok i (by simpa using hi)
    simp only [Bool.or_eq_true, decide_eq_true_eq] at this
    rcases this with q | q
    · rw [h1] at q
      obtain ⟨b, _, r⟩ := rh.at_ q.symm
      rw [← rh.len]; exact r.bnd
    · rw [h1] at q; exact q
end
def bndA (n : Nat) : Option A → Bool
  | some (.d x) => bndD n x
  | some (.f m _) => decide (m ≤ n)
  | none => true
def rootsE (n : Nat) (e : Env) : Bool := e.all (bndA n)
def rootsF (n : Nat) : Fl → Bool
  | .nx e => rootsE n e
  | .bk e => rootsE n e
  | .ct e => rootsE n e
  | .rt d => bndD n d
def trimS (old : Sto) : R Fl → R Fl
  | some (.ok fl, new) => some (.ok fl, trim old (rootsF old.length fl) new)
  | r => r

/-! ### statements -/
def DenS (X : Cx) (T : List (Addr × Str)) (k : Nat) (W : WX) (μ : List Addr) (H : Hp) (D : Ends) : R Fl → Prop
  | none => False
  | some (.ok (.nx e), s1) => ∀ σ' H' μ', Post X.K X.mg T μ H s1 H' μ' → RepE X T k H' μ' e σ' → D.nx σ' H'
  | some (.ok (.bk e), s1) => ∀ σ' H' μ', Post X.K X.mg T μ H s1 H' μ' → RepE X T k H' μ' e σ' → D.bk σ' H'
  | some (.ok (.ct e), s1) => ∀ σ' H' μ', Post X.K X.mg T μ H s1 H' μ' → RepE X T k H' μ' e σ' → D.ct σ' H'
  | some (.ok (.rt d), s1) => ∀ v H' μ', Post X.K X.mg T μ H s1 H' μ' → Rp X.K H' μ' d v → D.rt v H'
  | some (.error x, s1) => ∀ cls dx H' σ', ExnPost X.K X.mg T μ H x s1 cls dx H' → W cls dx σ' H'
def tS (X : Cx) (T : List (Addr × Str)) (k : Nat) (W : WX) (f : EvS) : TS := fun D σ H => ∃ μ env sto, RepH X.K X.mg T μ sto H ∧ RepE X T k H μ env σ ∧ DenS X T k W μ H D (f env sto)
abbrev QS (X : Cx) (T : List (Addr × Str)) (k : Nat) (W : WX) (st : Stmt) (f : EvS) : Prop := PS X st (tS X T k W f)
abbrev QSs (X : Cx) (T : List (Addr × Str)) (k : Nat) (W : WX) (st : List Stmt) (f : EvS) : Prop := PSs X st (tS X T k W f)
theorem PS.of {X : Cx} {e : Stmt} {t t' : TS} (h : PS X e t) (i : ∀ D σ H, t' D σ H → t D σ H) : PS X e t' := ⟨fun pins s σ H Q I q => h.run pins s σ H Q I (i _ σ H q)⟩
theorem PSs.of {X : Cx} {e : List Stmt} {t t' : TS} (h : PSs X e t) (i : ∀ D σ H, t' D σ H → t D σ H) : PSs X e t' := ⟨fun pins s σ H Q I q => h.run pins s σ H Q I (i _ σ H q)⟩
theorem PG.of {X : Cx} {e : Expr} {t t' : TG} (h : PG X e t) (i : ∀ v σ H Q, t' v σ H Q → t v σ H Q) : PG X e t' := ⟨fun pins s σ H v u Q I r q => h.run pins s σ H v u Q I r (i v σ H Q q)⟩
theorem PGs.of {X : Cx} {e : List Expr} {t t' : TGs} (h : PGs X e t) (i : ∀ v σ H Q, t' v σ H Q → t v σ H Q) : PGs X e t' := ⟨fun pins s σ H v u Q I r q => h.run pins s σ H v u Q I r (i v σ H Q q)⟩
theorem PI.of {X : Cx} {tg e : Expr} {t t' : TI} (h : PI X tg e t) (i : ∀ σ H Q, t' σ H Q → t σ H Q) : PI X tg e t' := ⟨fun pins s σ H Q I q => h.run pins s σ H Q I (i σ H Q q)⟩
section
variable {X : Cx} {T : List (Addr × Str)} {k : Nat} {W : WX} {σ : L2.St} {μ μ1 : List Addr} {H H1 : Hp} {env : Env} {sto s1 : Sto} {pos : Pos}
theorem DenS.later {D : Ends} {m : R Fl} (p : Post X.K X.mg T μ H s1 H1 μ1) (h : DenS X T k W μ H D m) : DenS X T k W μ1 H1 D m := by
  match m, h with
  | none, h => exact h
  | some (.ok (.nx e), _), h => exact fun σ' H' μ' q r => h σ' H' μ' (p.trans q) r
  | some (.ok (.bk e), _), h => exact fun σ' H' μ' q r => h σ' H' μ' (p.trans q) r
  | some (.ok (.ct e), _), h => exact fun σ' H' μ' q r => h σ' H' μ' (p.trans q) r
  | some (.ok (.rt e), _), h => exact fun σ' H' μ' q r => h σ' H' μ' (p.trans q) r
  | some (.error x, _), h => exact fun cls dx H' σ' q => h cls dx H' σ' (ExnPost.pre p q)
/-- an evaluation, then a statement's rest -/
theorem DenS.bind {α : Type} {D : Ends} {m : R α} {f : α → Sto → R Fl} (h : DenS X T k W μ H D (bind m f)) : DenW X T W σ μ H (fun a s1 => DenS X T k W μ H D (f a s1)) m := by
  match m, h with
  | none, h => exact h
  | some (.ok b, s1), h => exact h
  | some (.error x, s1), h => exact fun cls dx H' q => h cls dx H' σ q
theorem tS.go {f : EvS} {D : Ends} (rh : RepH X.K X.mg T μ sto H) (re : RepE X T k H μ env σ) (h : DenS X T k W μ H D (f env sto)) : tS X T k W f D σ H := ⟨μ, env, sto, rh, re, h⟩
theorem RepE.cut {n : Nat} (h : RepE X T k H μ env σ) (b : rootsE n env = true) : RepE X T k H (μ.take n) env σ := ⟨h.len, fun i x e => by
  obtain ⟨v, h1, h2⟩ := h.slot i x e
  have b1 := List.all_eq_true.mp b _ (List.mem_of_getElem? e)
  refine ⟨v, h1, ?_⟩
  cases x with
  | d x => exact Rp.cut h2 b1
  | f m g =>
    obtain ⟨f, PL, μ0, Hc, e1, e2, ⟨hn, more, e3⟩, e4, e5⟩ := h2
    have hm : m ≤ n := of_decide_eq_true b1
    refine ⟨f, PL, μ0, Hc, e1, e2, ⟨hn, more.take (n - μ0.length), ?_⟩, e4, e5⟩
    rw [e3, take_pre (by omega)]⟩
/-- the store is cut back behind a statement -/
theorem DenS.trim {D : Ends} {m : R Fl} (rh : RepH X.K X.mg T μ sto H) (h : DenS X T k W μ H D (trimS sto m)) : DenS X T k W μ H D m := by
  match m, h with
  | none, h => exact h
  | some (.error x, _), h => exact h
  | some (.ok (.nx e), s1), h =>
    intro σ' H' μ' p r
    have h' := h
    simp only [trimS, DenS] at h'
    rcases trim_cases sto (rootsF sto.length _) s1 with z | ⟨z1, z2, z⟩
    · exact h' σ' H' μ' (by rw [z]; exact p) r
    · exact h' σ' H' _ (by rw [z]; exact p.cut rh z2) (r.cut z1)
  | some (.ok (.bk e), s1), h =>
    intro σ' H' μ' p r
    have h' := h
    simp only [trimS, DenS] at h'
    rcases trim_cases sto (rootsF sto.length _) s1 with z | ⟨z1, z2, z⟩
    · exact h' σ' H' μ' (by rw [z]; exact p) r
    · exact h' σ' H' _ (by rw [z]; exact p.cut rh z2) (r.cut z1)
  | some (.ok (.ct e), s1), h =>
    intro σ' H' μ' p r
    have h' := h
    simp only [trimS, DenS] at h'
    rcases trim_cases sto (rootsF sto.length _) s1 with z | ⟨z1, z2, z⟩
    · exact h' σ' H' μ' (by rw [z]; exact p) r
    · exact h' σ' H' _ (by rw [z]; exact p.cut rh z2) (r.cut z1)
  | some (.ok (.rt e), s1), h =>
    intro σ' H' μ' p r
    have h' := h
    simp only [trimS, DenS] at h'
    rcases trim_cases sto (rootsF sto.length _) s1 with z | ⟨z1, z2, z⟩
    · exact h' σ' H' μ' (by rw [z]; exact p) r
    · exact h' σ' H' _ (by rw [z]; exact p.cut rh z2) (r.cut z1)
def sTrim (f : EvS) : EvS := fun env s => trimS s (f env s)
theorem qs_trim {st : Stmt} {f : EvS} (h : QS X T k W st f) : QS X T k W st (sTrim f) := PS.of h fun D σ H ⟨μ, env, sto, rh, re, q⟩ => ⟨μ, env, sto, rh, re, q.trim rh⟩
theorem qss_trim {st : List Stmt} {f : EvS} (h : QSs X T k W st f) : QSs X T k W st (sTrim f) := PSs.of h fun D σ H ⟨μ, env, sto, rh, re, q⟩ => ⟨μ, env, sto, rh, re, q.trim rh⟩

/-! blocks -/
variable {st : Stmt} {rest : List Stmt} {f g : EvS} {e : Expr} {fe : Ev}
def sNext : EvS := fun env s => ret (.nx env) s
def sSeq (f g : EvS) : EvS := fun env s => bind (f env s) fun fl s1 => match fl with
  | .nx e => g e s1
  | fl => ret fl s1
theorem DenS.seq {D : Ends} {m : R Fl} {g : EvS} (h : DenS X T k W μ H D (TP.bind m fun fl s1 => match fl with
  | .nx e => g e s1
  | fl => ret fl s1)) : DenS X T k W μ H { D with nx := tS X T k W g D } m := by
  match m, h with
  | none, h => exact h
  | some (.error x, _), h => exact h
  | some (.ok (.nx e), s1), h => exact fun σ' H' μ' p r => ⟨μ', e, s1, p.rep, r, DenS.later p h⟩
  | some (.ok (.bk e), s1), h => exact h
  | some (.ok (.ct e), s1), h => exact h
  | some (.ok (.rt e), s1), h => exact h
theorem qss_nil : QSs X T k W [] sNext := PSs.of pss_nil fun D σ H ⟨μ, env, sto, rh, re, q⟩ => q σ H μ (Post.refl rh) re
theorem qss_one (h : QS X T k W st f) : QSs X T k W [st] f := pss_one h
theorem qss_cons (h : QS X T k W st f) (hr : QSs X T k W rest g) : QSs X T k W (st :: rest) (sSeq f g) := PSs.of (pss_cons h hr) fun D σ H ⟨μ, env, sto, rh, re, q⟩ => ⟨μ, env, sto, rh, re, q.seq⟩
theorem qs_pass : QS X T k W (.Pass pos) sNext := PS.of ps_pass fun D σ H ⟨μ, env, sto, rh, re, q⟩ => q σ H μ (Post.refl rh) re
theorem qs_break : QS X T k W (.Break pos) (fun env s => ret (.bk env) s) := PS.of ps_break fun D σ H ⟨μ, env, sto, rh, re, q⟩ => q σ H μ (Post.refl rh) re
theorem qs_continue : QS X T k W (.Continue pos) (fun env s => ret (.ct env) s) := PS.of ps_continue fun D σ H ⟨μ, env, sto, rh, re, q⟩ => q σ H μ (Post.refl rh) re
def sNever : EvS := fun _ _ => none
theorem qs_never : QS X T k W st sNever := PS.of ps_never fun D σ H ⟨μ, env, sto, rh, re, q⟩ => q
def sExpr (f : Ev) : EvS := fun env s => bind (f env s) fun _ s1 => ret (.nx env) s1
theorem qs_expr (he : QE X T k W e fe) (hs : swapsWith e none pos.line X.env = pure false := by rfl) : QS X T k W (.Expr e pos) (sExpr fe) := PS.of (ps_expr he hs) fun D σ H ⟨μ, env, sto, rh, re, q⟩ =>
  tE.go rh re ((DenS.bind q).imp fun d s1 q1 v H1 μ1 p1 re1 r1 => q1 σ H1 μ1 p1 re1)
def sRet (f : Ev) : EvS := fun env s => bind (f env s) fun x s1 => ret (.rt x) s1
theorem qs_ret (he : QE X T k W e fe) : QS X T k W (.Return (some e) pos) (sRet fe) := PS.of (ps_ret he) fun D σ H ⟨μ, env, sto, rh, re, q⟩ =>
  tE.go rh re ((DenS.bind q).imp fun d s1 q1 v H1 μ1 p1 re1 r1 => q1 v H1 μ1 p1 r1)
def sRetN : EvS := fun env s => ret (.rt .non) s
theorem qs_retN : QS X T k W (.Return none pos) sRetN := PS.of ps_retN fun D σ H ⟨μ, env, sto, rh, re, q⟩ => q _ H μ (Post.refl rh) rfl
def sIf (c : EvB) (f g : EvS) : EvS := fun env s => bind (c env s) fun b s1 => if b then f env s1 else g env s1
theorem qs_if {c : Expr} {a b : List Stmt} {tc : EvB} (hc : QB X T k W c tc) (ha : QSs X T k W a f) (hb : QSs X T k W b g) : QS X T k W (.If c a b pos) (sIf tc f g) := PS.of (ps_if hc ha hb) fun D σ H ⟨μ, env, sto, rh, re, q⟩ =>
  tB.go rh re ((DenS.bind q).imp fun d s1 q1 H1 μ1 p1 re1 => by
    cases d with
    | true => exact ⟨μ1, env, s1, p1.rep, re1, DenS.later p1 q1⟩
    | false => exact ⟨μ1, env, s1, p1.rep, re1, DenS.later p1 q1⟩)

/-! targets -/
abbrev EvG := D → Env → Sto → R Env
def DenG (X : Cx) (T : List (Addr × Str)) (k : Nat) (W : WX) (σ : L2.St) (μ : List Addr) (H : Hp) (Q : L2.St → Hp → Prop) : R Env → Prop
  | none => False
  | some (.ok e, s1) => ∀ σ' H' μ', Post X.K X.mg T μ H s1 H' μ' → RepE X T k H' μ' e σ' → Q σ' H'
  | some (.error x, s1) => False
def tG (X : Cx) (T : List (Addr × Str)) (k : Nat) (W : WX) (f : EvG) : TG := fun v σ H Q => ∃ μ env sto d, RepH X.K X.mg T μ sto H ∧ RepE X T k H μ env σ ∧ Rp X.K H μ d v ∧ DenG X T k W σ μ H Q (f d env sto)
abbrev QG (X : Cx) (T : List (Addr × Str)) (k : Nat) (W : WX) (tg : Expr) (f : EvG) : Prop := PG X tg (tG X T k W f)
abbrev EvGs := List D → Env → Sto → R Env
def tGs (X : Cx) (T : List (Addr × Str)) (k : Nat) (W : WX) (f : EvGs) : TGs := fun vs σ H Q => ∃ μ env sto ds, RepH X.K X.mg T μ sto H ∧ RepE X T k H μ env σ ∧ Rps X.K H μ ds vs ∧ DenG X T k W σ μ H Q (f ds env sto)
abbrev QGs (X : Cx) (T : List (Addr × Str)) (k : Nat) (W : WX) (tg : List Expr) (f : EvGs) : Prop := PGs X tg (tGs X T k W f)
def gSet (i : Nat) : EvG := fun d env s => ret (env.set i (some (.d d))) s
theorem qg_name {i : Nat} {x : Str} (hN : X.N.Nodup) (hi : X.N[i]? = some x) (hx : Loc X.env.scope x) (hf : X.fn x = true ∨ X.env.scope.names.lookup x = some .local := by first | exact .inl rfl | exact .inr rfl | assumption) : QG X T k W (.Name x pos) (gSet i) :=
  PG.of (pg_name hN hi hx hf) fun v σ H Q ⟨μ, env, sto, d, rh, re, r, q⟩ => q _ H μ (Post.refl rh) (re.set r)
def gsNil : EvGs := fun ds env s => match ds with
  | [] => ret env s
  | _ => none
def gsCons (g : EvG) (gs : EvGs) : EvGs := fun ds env s => match ds with
  | [] => none
  | d :: ds => match g d env s with
    | some (.ok e, s1) => gs ds e s1
    | _ => none
theorem qgs_nil : QGs X T k W [] gsNil := PGs.of pgs_nil fun vs σ H Q ⟨μ, env, sto, ds, rh, re, r, q⟩ => by
  cases ds with
  | nil => exact ⟨r, q σ H μ (Post.refl rh) re⟩
  | cons d ds => exact q.elim
theorem qgs_cons {tg : Expr} {tgs : List Expr} {g : EvG} {gs : EvGs} (h1 : QG X T k W tg g) (h2 : QGs X T k W tgs gs)
    (hs : (assignEach (tg :: tgs) X.env).map (·.2) = assign tg X.env :: (assignEach tgs X.env).map (·.2) := by rfl) : QGs X T k W (tg :: tgs) (gsCons g gs) := PGs.of (pgs_cons h1 h2 hs) fun vs σ H Q ⟨μ, env, sto, ds, rh, re, r, q⟩ => by
  cases ds with
  | nil => exact q.elim
  | cons d ds =>
    obtain ⟨v, ws, rfl, rv, rw'⟩ := r
    refine ⟨v, ws, rfl, μ, env, sto, d, rh, re, rv, ?_⟩
    unfold gsCons at q
    simp only at q
    generalize g d env sto = m at q
    match m, q with
    | some (.ok e, s1), q =>
      intro σ' H' μ' p re'
      refine ⟨μ', e, s1, ds, p.rep, re', Rps.mono p.ext p.mono rw', ?_⟩
      simp only at q
      generalize gs ds e s1 = m2 at q
      match m2, q with
      | some (.ok e2, s2), q => exact fun σ2 H2 μ2 p2 re2 => q σ2 H2 μ2 (p.trans p2) re2
def gTupD (n : Nat) (gs : EvGs) : EvG := fun d env s => match d with
  | .tup ds => if ds.length = n then gs ds env s else none
  | _ => none
theorem qg_tup {tgs : List Expr} {kt : Nat} {gs : EvGs} {n : Nat} (hc : X.calm = true) (h : QGs X T k W tgs gs) (hn : (assignEach tgs X.env).length = n := by rfl) (hst : (assignEach tgs X.env).findIdx? (·.1) = none := by rfl) :
    QG X T k W (.Tuple tgs kt pos) (gTupD n gs) := PG.of (pg_tup hc h hn hst) fun v σ H Q ⟨μ, env, sto, d, rh, re, r, q⟩ => by
  unfold gTupD at q
  split at q
  · rename_i ds
    split at q
    · rename_i hl
      obtain ⟨a, vs, rfl, h2, h3⟩ := r
      exact ⟨a, vs, rfl, h2, by rw [h3.length]; exact hl, μ, env, sto, ds, rh, re, h3, q⟩
    · exact q.elim
  · exact q.elim
/-- o[i] = v for a list -/
def setD (o i v : D) (s : Sto) : Option Sto := match o, i with
  | .ref n, .int j => match s[n]? with
    | some (.lst xs) => match ixN xs.length j with
      | some m => some (s.set n (.lst (xs.set m v)))
      | none => none
    | _ => none
  | _, _ => none
def gSubD (fo fi : Ev) : EvG := fun d env s => match fo env s with
  | some (.ok o, s1) => match fi env s1 with
    | some (.ok i, s2) => match setD o i d s2 with
      | some s3 => ret env s3
      | none => none
    | _ => none
  | _ => none
theorem setD_ok {o i d : D} {ov iv v : V} {s' : Sto} (rh : RepH X.K X.mg T μ sto H) (ro : Rp X.K H μ o ov) (ri : Rp X.K H μ i iv) (rv : Rp X.K H μ d v) (h : setD o i d sto = some s') {Q : Hp → Prop} (q : ∀ H', Post X.K X.mg T μ H s' H' μ → Q H') : rSetL ov iv v H Q := by
  unfold setD at h
  split at h
  · rename_i n j
    split at h
    · rename_i xs hn
      split at h
      · rename_i m hm
        cases h
        obtain ⟨a, h1, vs, h2, h3⟩ := rh.at_ hn
        obtain ⟨_, g1, rfl⟩ := ro
        rw [h1] at g1; cases g1
        refine ⟨a, vs, j, m, rfl, ri, h2, by rw [h3.length]; exact hm, q _ ⟨Ext.lst h2, ⟨[], by simp⟩, rh.set h1 (Ext.lst h2) (fun ps z => by rw [h2] at z; cases z) ⟨_, upd_same, ?_⟩⟩⟩
        exact Rps.set m (h3.mono (Ext.lst h2) fun _ _ z => z) (Rp.mono (Ext.lst h2) (fun _ _ z => z) rv)
      · cases h
    · cases h
  · cases h
theorem qg_sub {o i : Expr} {fo fi : Ev} (ho : QE X T k W o fo) (hi : QE X T k W i fi)
    (ha : ∀ v, assign (.Subscript o i pos) X.env v = (do
      let ov ← holding [v] (eval o X.env)
      let iv ← holding [v, ov] (eval i X.env)
      standAt pos
      holding [v, ov, iv] (setItem ov iv v)
      release [v, ov, iv] []) := by intro _; rfl) : QG X T k W (.Subscript o i pos) (gSubD fo fi) := PG.of (pg_sub ho hi set_list ha) fun v σ H Q ⟨μ, env, sto, d, rh, re, r, q⟩ => by
  unfold gSubD at q
  refine tE.go rh re ?_
  generalize fo env sto = m1 at q ⊢
  match m1, q with
  | some (.ok o, s1), q =>
    intro ov H1 μ1 p1 re1 r1
    refine tE.go p1.rep re1 ?_
    simp only at q
    generalize fi env s1 = m2 at q ⊢
    match m2, q with
    | some (.ok i, s2), q =>
      intro iv H2 μ2 p2 re2 r2
      simp only at q
      have p12 := p1.trans p2
      cases hs : setD o i d s2 with
      | none => rw [hs] at q; exact q.elim
      | some s3 =>
        rw [hs] at q
        exact setD_ok p2.rep (Rp.mono p2.ext p2.mono r1) r2 (Rp.mono p12.ext p12.mono r) hs fun H3 p3 => q σ H3 μ2 (p12.trans p3) (re2.mono p3)
/-- target = value -/
def sAsg (fe : Ev) (g : EvG) : EvS := fun env s => bind (fe env s) fun x s1 => match g x env s1 with
  | some (.ok e, s2) => ret (.nx e) s2
  | _ => none
theorem sAsg_of {D : Ends} {g : EvG} (q : tS X T k W (sAsg fe g) D σ H) : tE X T k W fe σ H (fun x H1 => tG X T k W g x σ H1 D.nx) := by
  obtain ⟨μ, env, sto, rh, re, q⟩ := q
  refine tE.go rh re ((DenS.bind q).imp fun d s1 q1 v H1 μ1 p1 re1 r1 => ⟨μ1, env, s1, d, p1.rep, re1, r1, ?_⟩)
  generalize g d env s1 = m at q1 ⊢
  match m, q1 with
  | some (.ok e, s2), q1 => exact fun σ' H' μ' p re' => q1 σ' H' μ' (p1.trans p) re'
theorem qs_asg {tg : Expr} {g : EvG} (he : QE X T k W e fe) (hg : QG X T k W tg g) (hs : swapsWithSole [tg] e pos.line X.env = pure false := by rfl) (hw : swappedStores [tg] e X.env = pure none := by rfl)
    (h1 : (assignEach [tg] X.env).map (·.2) = [assign tg X.env] := by rfl) : QS X T k W (.Assign [tg] e pos) (sAsg fe g) := PS.of (ps_asg he hg hs hw h1) fun D σ H q => sAsg_of q
theorem qs_set {i : Nat} {x : Str} {pos' : Pos} (hN : X.N.Nodup) (hi : X.N[i]? = some x) (hx : Loc X.env.scope x) (he : QE X T k W e fe) (hs : swapsWith e (some (.Name x pos')) pos.line X.env = pure false := by rfl) (hf : X.fn x = true ∨ X.env.scope.names.lookup x = some .local := by first | exact .inl rfl | exact .inr rfl | assumption) :
    QS X T k W (.Assign [.Name x pos'] e pos) (sAsg fe (gSet i)) := PS.of (ps_set hN hi hx he hs hf) fun D σ H q => by
  obtain ⟨μ, env, sto, rh, re, q⟩ := q
  exact tE.go rh re ((DenS.bind q).imp fun d s1 q1 v H1 μ1 p1 re1 r1 => q1 _ H1 μ1 p1 (re1.set r1))
end
end TP
/-! What is walked; for, while. -/
namespace TP
open PySem PySem.Spec PyProof.Rows L2 LamX

structure Src where
  items : List D
  chk : Sto → Bool
abbrev EvI := Env → Sto → R Src
def SrcOk (X : Cx) (T : List (Addr × Str)) (J : It) (src : Src) (μ : List Addr) (H : Hp) : Prop := ∀ (H1 : Hp) (μ1 : List Addr) (s1 : Sto), Ext H H1 → (∀ (n : Nat) (a : Addr), μ[n]? = some a → μ1[n]? = some a) →
  RepH X.K X.mg T μ1 s1 H1 → src.chk s1 = true → (∀ (i : Nat) (d : D), src.items[i]? = some d → J.go i H1 ∧ ∀ x H', J.yld i H1 x H' → Ext H1 H' ∧ RepH X.K X.mg T μ1 s1 H' ∧ Rp X.K H' μ1 d x) ∧ J.stop src.items.length H1
def tI (X : Cx) (T : List (Addr × Str)) (k : Nat) (W : WX) (f : EvI) : TI := fun σ H Q => ∃ μ env sto, RepH X.K X.mg T μ sto H ∧ RepE X T k H μ env σ ∧
  DenW X T W σ μ H (fun src s1 => ∀ J H1 μ1, Post X.K X.mg T μ H s1 H1 μ1 → SrcOk X T J src μ1 H1 → Q J H1) (f env sto)
abbrev QI (X : Cx) (T : List (Addr × Str)) (k : Nat) (W : WX) (tg iter : Expr) (f : EvI) : Prop := PI X tg iter (tI X T k W f)
section
variable {X : Cx} {T : List (Addr × Str)} {k : Nat} {W : WX} {σ : L2.St} {μ : List Addr} {H : Hp} {env : Env} {sto : Sto} {pos : Pos} {tg e : Expr} {f : Ev} {es : List Expr} {fs : EvA}
theorem tI.go {f : EvI} {Q : It → Hp → Prop} (rh : RepH X.K X.mg T μ sto H) (re : RepE X T k H μ env σ)
    (h : DenW X T W σ μ H (fun src s1 => ∀ J H1 μ1, Post X.K X.mg T μ H s1 H1 μ1 → RepE X T k H1 μ1 env σ → SrcOk X T J src μ1 H1 → Q J H1) (f env sto)) : tI X T k W f σ H Q :=
  ⟨μ, env, sto, rh, re, h.imp fun src s1 q J H1 μ1 p r => q J H1 μ1 p (re.mono p) r⟩

/-! a list: it must stand as it stood -/
def isLst (n : Nat) (xs : List D) (s : Sto) : Bool := decide (s[n]? = some (.lst xs)) || decide (s[n]? = some (.frz xs))
def lstAt (s : Sto) (n : Nat) : Option (List D) := match s[n]? with
  | some (.lst xs) => some xs
  | some (.frz xs) => some xs
  | _ => none
theorem isLst_of {n : Nat} {xs : List D} {s : Sto} (h : isLst n xs s = true) : lstAt s n = some xs := by
  simp only [isLst, Bool.or_eq_true, decide_eq_true_eq] at h
  unfold lstAt
  rcases h with h | h <;> rw [h]
theorem RepH.lst {K : PySem.W.Frag} {mg : Str → Option Value} {n : Nat} {xs : List D} (rh : RepH K mg T μ sto H) (h : lstAt sto n = some xs) : ∃ a vs, μ[n]? = some a ∧ SqL K H a vs ∧ Rps K H μ xs vs ∧ (∃ o, H a = some o ∧ ∀ ys, o ≠ .tup ys) := by
  unfold lstAt at h
  split at h
  · rename_i ys e
    cases h
    obtain ⟨a, h1, vs, h2, h3⟩ := rh.at_ e
    exact ⟨a, vs, h1, .inl (.inl h2), h3, _, h2, fun _ z => by cases z⟩
  · rename_i ys e
    cases h
    obtain ⟨a, h1, o, vs, h2, h3⟩ := rh.at_ e
    exact ⟨a, vs, h1, .inl (.inr ⟨o, h2⟩), h3, _, h2, fun _ z => by cases z⟩
  · cases h
def iLst (f : Ev) : EvI := fun env s => bind (f env s) fun x s1 => match x with
  | .ref n => match lstAt s1 n with
    | some xs => ret ⟨xs, isLst n xs⟩ s1
    | none => none
  | _ => none
theorem qi_list (he : QE X T k W e f) : QI X T k W tg e (iLst f) := PI.of (pi_list he) fun σ H Q ⟨μ, env, sto, rh, re, q⟩ =>
  tE.go rh re (q.bind.imp fun d s1 q1 v H1 μ1 p1 re1 r1 => by
    split at q1
    · rename_i n
      split at q1
      · rename_i xs hx
        obtain ⟨a, vs, h1, h2, h3, _⟩ := p1.rep.lst hx
        obtain ⟨_, g1, rfl⟩ := r1
        rw [h1] at g1; cases g1
        refine ⟨a, rfl, ⟨vs, h2⟩, q1 _ H1 μ1 p1 fun H2 μ2 s2 e2 m2 rh2 hc => ?_⟩
        obtain ⟨a', vs', h1', h2', h3', _⟩ := rh2.lst (isLst_of hc)
        rw [m2 _ _ h1] at h1'; cases h1'
        refine ⟨fun i d hd => ?_, ⟨vs', h2', by rw [h3'.length]; exact Nat.le_refl _⟩⟩
        obtain ⟨v, hv, rv⟩ := h3'.get hd
        refine ⟨⟨vs', v, h2', hv⟩, fun x H' ⟨y1, y2⟩ => ?_⟩
        subst y1
        have := y2 _ h2'
        rw [hv] at this; cases this
        exact ⟨Ext.refl _, rh2, rv⟩
      · exact q1.elim
    · exact q1.elim)
/-! a tuple -/
def iTupD (f : Ev) : EvI := fun env s => bind (f env s) fun x s1 => match x with
  | .tup xs => ret ⟨xs, fun _ => true⟩ s1
  | _ => none
theorem qi_tup (he : QE X T k W e f) : QI X T k W tg e (iTupD f) := PI.of (pi_tup he) fun σ H Q ⟨μ, env, sto, rh, re, q⟩ =>
  tE.go rh re (q.bind.imp fun d s1 q1 v H1 μ1 p1 re1 r1 => by
    split at q1
    · rename_i xs
      obtain ⟨a, vs, rfl, h2, h3⟩ := r1
      refine ⟨a, rfl, ⟨vs, h2⟩, q1 _ H1 μ1 p1 fun H2 μ2 s2 e2 m2 rh2 hc => ?_⟩
      refine ⟨fun i d hd => ?_, ⟨vs, e2.seqT h2, by rw [h3.length]; exact Nat.le_refl _⟩⟩
      obtain ⟨v, hv, rv⟩ := h3.get hd
      refine ⟨⟨vs, v, e2.seqT h2, hv⟩, fun x H' ⟨y1, y2⟩ => ?_⟩
      subst y1
      have := y2 _ (e2.seqT h2)
      rw [hv] at this; cases this
      exact ⟨Ext.refl _, rh2, Rp.mono e2 m2 rv⟩
    · exact q1.elim)
/-! a text -/
def iStrD (f : Ev) : EvI := fun env s => bind (f env s) fun x s1 => match x with
  | .str z => ret ⟨z.map fun c => .str [c], fun _ => true⟩ s1
  | _ => none
theorem qi_str (he : QE X T k W e f) : QI X T k W tg e (iStrD f) := PI.of (pi_str he) fun σ H Q ⟨μ, env, sto, rh, re, q⟩ =>
  tE.go rh re (q.bind.imp fun d s1 q1 v H1 μ1 p1 re1 r1 => by
    split at q1
    · rename_i z
      refine ⟨_, r1, q1 _ H1 μ1 p1 fun H2 μ2 s2 e2 m2 rh2 hc => ?_⟩
      refine ⟨fun i d hd => ?_, by show z.toArray.size ≤ _; simp⟩
      simp only [List.getElem?_map, Option.map_eq_some_iff] at hd
      obtain ⟨c, hc, rfl⟩ := hd
      have hi : i < z.length := (List.getElem?_eq_some_iff.mp hc).1
      refine ⟨by show i < z.toArray.size; simpa using hi, fun x H' ⟨y1, c', y2, y3⟩ => ?_⟩
      subst y1
      have y2 : z.toArray[i]? = some c' := y2
      rw [show z.toArray[i]? = z[i]? by simp, hc] at y2
      cases y2
      exact ⟨Ext.refl _, rh2, y3⟩
    · exact q1.elim)
/-! range -/
def rangeD (lo : Int) (n : Nat) : List D := (List.range n).map fun i => .int (lo + (i : Nat))
theorem srcRange {lo : Int} {n : Nat} : SrcOk X T (Itr lo n) ⟨rangeD lo n, fun _ => true⟩ μ H := fun H2 μ2 s2 e2 m2 rh2 hc => by
  refine ⟨fun i d hd => ?_, by show n ≤ (rangeD lo n).length; simp [rangeD]⟩
  simp only [rangeD, List.getElem?_map, Option.map_eq_some_iff] at hd
  obtain ⟨j, hj, rfl⟩ := hd
  have hi : i < n := by simpa using (List.getElem?_eq_some_iff.mp hj).1
  have hj : i = j := by
    rw [List.getElem?_range hi] at hj; exact Option.some.inj hj
  subst hj
  refine ⟨hi, fun x H' ⟨y1, y2⟩ => ?_⟩
  subst y1
  exact ⟨Ext.refl _, rh2, y2⟩
def smallI (i : Int) : Bool := Nat.ble i.natAbs 4000000000000000000
theorem smallI_iff {i : Int} (h : smallI i = true) : -(2 ^ 62) ≤ i ∧ i < 2 ^ 62 := by
  unfold smallI at h
  rw [Nat.ble_eq] at h
  omega
def iRange1 (fs : EvA) : EvI := fun env s => bind (fs env s) fun xs s1 => match xs with
  | [.d (.int j)] => if smallI j then ret ⟨rangeD 0 j.toNat, fun _ => true⟩ s1 else none
  | _ => none
theorem qi_range1 {a : Expr} {p pos : Pos} (hg : Gl X "range") (hm : X.mg "range" = none) (ha : QA X T k W [a] fs) (hs : starEach [a] X.env = [(false, eval a X.env)] := by rfl) : QI X T k W tg (.Call (.Name "range" p) [a] [] pos) (iRange1 fs) :=
  PI.of (pi_range1 hg hm ha hs) fun σ H Q ⟨μ, env, sto, rh, re, q⟩ => tA.go rh re (q.bind.imp fun xs s1 q1 vs H1 μ1 p1 re1 r1 => by
    split at q1
    · rename_i j
      obtain ⟨v, ws, rfl, rv, rfl⟩ := r1
      split at q1
      · rename_i hj
        have hj := smallI_iff hj
        exact ⟨j, by rw [show v = _ from rv], hj.1, hj.2, q1 _ H1 μ1 p1 srcRange⟩
      · exact q1.elim
    · exact q1.elim)
def iRange2 (fs : EvA) : EvI := fun env s => bind (fs env s) fun xs s1 => match xs with
  | [.d (.int i), .d (.int j)] => if smallI i && smallI j then ret ⟨rangeD i (j - i).toNat, fun _ => true⟩ s1 else none
  | _ => none
theorem qi_range2 {a b : Expr} {p pos : Pos} (hg : Gl X "range") (hm : X.mg "range" = none) (ha : QA X T k W [a, b] fs) (hs : starEach [a, b] X.env = [(false, eval a X.env), (false, eval b X.env)] := by rfl) (hs2 : starEach [b] X.env = [(false, eval b X.env)] := by rfl) :
    QI X T k W tg (.Call (.Name "range" p) [a, b] [] pos) (iRange2 fs) :=
  PI.of (pi_range2 hg hm ha hs hs2) fun σ H Q ⟨μ, env, sto, rh, re, q⟩ => tA.go rh re (q.bind.imp fun xs s1 q1 vs H1 μ1 p1 re1 r1 => by
    split at q1
    · rename_i i j
      obtain ⟨v, ws, rfl, rv, v2, ws2, rfl, rv2, rfl⟩ := r1
      split at q1
      · rename_i hj
        rw [Bool.and_eq_true] at hj
        have hj := And.intro (smallI_iff hj.1) (smallI_iff hj.2)
        exact ⟨i, j, by rw [show v = _ from rv, show v2 = _ from rv2], ⟨hj.1.1, hj.1.2, hj.2.1, hj.2.2⟩, q1 _ H1 μ1 p1 srcRange⟩
      · exact q1.elim
    · exact q1.elim)

/-! enumerate: of a tuple, of a text -/
def IteT (K : PySem.W.Frag) (a : Addr) (xs : List V) : It :=
  ⟨fun i H => SqT K H a xs ∧ i < xs.length, fun i H v H' => ∃ T x, v = .ref T ∧ H T = none ∧ H' = upd H T (.tup [.int (i : Nat), x]) ∧ xs[i]? = some x, fun i H => SqT K H a xs ∧ i = xs.length⟩
def IteS (z : List Nat) : It :=
  ⟨fun i H => i < z.length, fun i H v H' => ∃ T c, v = .ref T ∧ H T = none ∧ H' = upd H T (.tup [.int (i : Nat), .str ⟨#[c]⟩]) ∧ z[i]? = some c, fun i H => i = z.length⟩
theorem isStrIter_at {h h' : Heap} {it : Addr} {ty : String} {x : Str} {t : Tok} {i : Nat} (q : h.IsStrIter it ty x t i) (k : ∀ o, h.get? it = some o → h'.get? it = some o) : h'.IsStrIter it ty x t i := by
  obtain ⟨o, e, c, d⟩ := q
  exact ⟨o, k _ e, c, d⟩
theorem turn_enumT {P : Program} {w : World} {K : PySem.W.Frag} {elts : List Expr} {kk : Nat} {tpos : Pos} (a e it : Addr) (xs : List V) :
    Turn P w K (.Tuple elts kk tpos) (IteT K a xs) [e, it] e (fun i h => (∃ old, IsEnum h e it ((i : Nat) : Int) old) ∧ h.IsTupleIter it a i ∧ e ≠ it) where
  mem := by simp
  obj := fun i h st b hb => by
    obtain ⟨⟨old, he⟩, ⟨o, ho, hc, hd⟩, _⟩ := st
    have e' : b = e ∨ b = it := by simpa using hb
    rcases e' with z | z
    · rw [z]; exact ⟨_, he, fun v q => nomatch q⟩
    · rw [z]; exact ⟨o, ho, fun v q => by rw [hd] at q; cases q⟩
  keep := fun i h h' st k => let ⟨⟨old, he⟩, hi, hne⟩ := st; ⟨⟨old, k e (by simp) _ he⟩, hi.at fun o q => k it (by simp) o q, hne⟩
  item := by
    intro X hP hw hK hc i pins s σ H E I hf st hg
    subst hP hw hK
    obtain ⟨⟨old, he⟩, hit, hne⟩ := st
    obtain ⟨hq, hi⟩ := hg
    obtain ⟨its, rv, p, hz⟩ := I.tuple hq
    have hel : e < s.heap.objs.size := Heap.lt_size he
    have hil : it < s.heap.objs.size := by obtain ⟨_, q, _⟩ := hit; exact Heap.lt_size q
    have nea : a ≠ it := by
      rintro rfl
      obtain ⟨o1, h1, _, h2⟩ := hit
      obtain ⟨o2, h3, _, n, h4⟩ := p
      rw [h1] at h3; cases h3
      rw [h2] at h4; cases h4
    have neaE : e ≠ a := by
      rintro rfl
      obtain ⟨o2, h3, _, n, h4⟩ := p
      have : IsEnum s.heap e it ((i : Nat) : Int) old := he
      have h1 : s.heap.get? e = some _ := this
      rw [h1] at h3; cases h3
      cases h4
    have Dr := Draws.tuple (prog := X.prog) (w := X.w) (A := X.A.in1) (I.ok.hd hc) it a nea its.toArray
    refine wpAny_pyNext_enum_itemC (i := i) Dr he ⟨hit, p⟩ (by simp; rw [← rv.length]; exact hi) hne (by simp; exact ⟨hne, neaE⟩) fun u h' tk hu ho hst' hT hsz hk => ?_
    have hxi : xs[i]? = some xs[i] := List.getElem?_eq_getElem hi
    obtain ⟨u', hu', ru⟩ := rv.get hxi
    have huu : u' = u := by
      have h1 : its.toArray[i]? = some u := hu
      have h2 : its[i]? = some u := by simpa using h1
      rw [hu'] at h2; exact Option.some.inj h2
    subst huu
    refine ⟨_, rfl, wpAny_letOwnedTupleGo_enum (s := { s with heap := h', toks := tk + 1 }) ho fun h'' he' sb => ?_⟩
    have hT2 : h''.get? s.heap.objs.size = some { cls := .type "tuple", data := .seq #[.int i tk, u'] } := (sb.2 _ (Nat.ne_of_gt hel)).trans hT
    have new : ObjOk X.prog X.w (upd H s.heap.objs.size (.tup [.int (i : Nat), xs[i]])) h'' s.heap.objs.size (.tup [.int (i : Nat), xs[i]]) :=
      ⟨by show 2 ≤ sizeLine; decide, [.int i tk, u'], .cons ⟨_, rfl⟩ (.cons ru .nil), ⟨_, hT2, rfl, _, rfl⟩⟩
    have I1 : Inv X pins σ (upd H s.heap.objs.size (.tup [.int (i : Nat), xs[i]])) { s with heap := h'', toks := tk + 1 } :=
      I.turnedNew (ch := [e, it]) (fun b ob hb q => (sb.2 b (fun z => hb (by simp [z]))).trans (hk b ob (fun z => hb (by simp [z])) (fun z => hb (by simp [z])) q)) hf (Nat.le_refl _) new
    refine ⟨.ref s.heap.objs.size, _, I1, rfl, ⟨_, _, rfl, I.hok.fresh (Nat.le_refl _), rfl, hxi⟩, ⟨⟨u', ?_⟩, hst'.1.at fun o q => (sb.2 it (Ne.symm hne)).trans q, hne⟩, fun b hb => ?_⟩
    · have e1 : ((i + 1 : Nat) : Int) = (i : Int) + 1 := by omega
      rw [e1]; exact he'
    · have hb' : b < s.heap.objs.size := by
        have e' : b = e ∨ b = it := by simpa using hb
        rcases e' with z | z
        · rw [z]; exact hel
        · rw [z]; exact hil
      rw [upd_ne (Nat.ne_of_lt hb')]
      exact (hf b hb).1
  done := by
    intro X hP hw hK hc i pins s σ H E I hf st hg
    subst hP hw hK
    obtain ⟨⟨old, he⟩, hit, hne⟩ := st
    obtain ⟨hq, hx⟩ := hg
    obtain ⟨its, rv, p, hz⟩ := I.tuple hq
    obtain ⟨f0, f1, f2, f3, f4, f5⟩ := hf it (by simp)
    have hl := rv.length
    have nea : a ≠ it := by
      rintro rfl
      obtain ⟨o1, h1, _, h2⟩ := hit
      obtain ⟨o2, h3, _, n, h4⟩ := p
      rw [h1] at h3; cases h3
      rw [h2] at h4; cases h4
    have Dr := Draws.tuple (prog := X.prog) (w := X.w) (A := X.A.in1) (I.ok.hd hc) it a nea its.toArray
    exact wpAny_pyNext_enum_endD Dr he (by rw [show its.toArray.size = i by simp; omega]; exact ⟨hit, p⟩) fun h' eb => ⟨rfl, I.turned (t' := s.toks) (fun b o hb q => eb b o hb q) f0 f1 f3 f4 f5⟩
  self := fun A i s Q E st h => let ⟨⟨_, he⟩, _⟩ := st; wpAny_pyIter_enum he h
theorem turn_enumS {P : Program} {w : World} {K : PySem.W.Frag} {elts : List Expr} {kk : Nat} {tpos : Pos} (e it : Addr) (z : List Nat) (t : Tok) :
    Turn P w K (.Tuple elts kk tpos) (IteS z) [e, it] e (fun i h => (∃ old, IsEnum h e it ((i : Nat) : Int) old) ∧ h.IsStrIter it (strIterType ⟨z.toArray⟩) ⟨z.toArray⟩ t i ∧ e ≠ it) where
  mem := by simp
  obj := fun i h st b hb => by
    obtain ⟨⟨old, he⟩, ⟨o, ho, hc, hd⟩, _⟩ := st
    have e' : b = e ∨ b = it := by simpa using hb
    rcases e' with z | z
    · rw [z]; exact ⟨_, he, fun v q => nomatch q⟩
    · rw [z]; exact ⟨o, ho, fun v q => by rw [hd] at q; cases q⟩
  keep := fun i h h' st k => let ⟨⟨old, he⟩, hi, hne⟩ := st; ⟨⟨old, k e (by simp) _ he⟩, isStrIter_at hi fun o q => k it (by simp) o q, hne⟩
  item := by
    intro X hP hw hK hc i pins s σ H E I hf st hg
    subst hP hw hK
    obtain ⟨⟨old, he⟩, hit, hne⟩ := st
    have hi : i < z.length := hg
    have hel : e < s.heap.objs.size := Heap.lt_size he
    have hil : it < s.heap.objs.size := by obtain ⟨_, q, _⟩ := hit; exact Heap.lt_size q
    have Dr := Draws.text (prog := X.prog) (w := X.w) (A := X.A.in1) (I.ok.hd hc) it ⟨z.toArray⟩ t
    refine wpAny_pyNext_enum_itemC (i := i) Dr he hit (by simpa using hi) hne (by simp; exact hne) fun u h' tk hu ho hst' hT hsz hk => ?_
    obtain ⟨c, t', hc', rfl⟩ := hu
    have hc' : z[i]? = some c := by simpa using hc'
    refine ⟨_, rfl, wpAny_letOwnedTupleGo_enum (s := { s with heap := h', toks := tk + 1 }) ho fun h'' he' sb => ?_⟩
    have hT2 : h''.get? s.heap.objs.size = some { cls := .type "tuple", data := .seq #[.int i tk, .str ⟨#[c]⟩ t'] } := (sb.2 _ (Nat.ne_of_gt hel)).trans hT
    have new : ObjOk X.prog X.w (upd H s.heap.objs.size (.tup [.int (i : Nat), .str ⟨#[c]⟩])) h'' s.heap.objs.size (.tup [.int (i : Nat), .str ⟨#[c]⟩]) :=
      ⟨by show 2 ≤ sizeLine; decide, [.int i tk, .str ⟨#[c]⟩ t'], .cons ⟨_, rfl⟩ (.cons ⟨_, rfl⟩ .nil), ⟨_, hT2, rfl, _, rfl⟩⟩
    have I1 : Inv X pins σ (upd H s.heap.objs.size (.tup [.int (i : Nat), .str ⟨#[c]⟩])) { s with heap := h'', toks := tk + 1 } :=
      I.turnedNew (ch := [e, it]) (fun b ob hb q => (sb.2 b (fun z => hb (by simp [z]))).trans (hk b ob (fun z => hb (by simp [z])) (fun z => hb (by simp [z])) q)) hf (Nat.le_refl _) new
    refine ⟨.ref s.heap.objs.size, _, I1, rfl, ⟨_, _, rfl, I.hok.fresh (Nat.le_refl _), rfl, hc'⟩, ⟨⟨.str ⟨#[c]⟩ t', ?_⟩, isStrIter_at hst' fun o q => (sb.2 it (Ne.symm hne)).trans q, hne⟩, fun b hb => ?_⟩
    · have e1 : ((i + 1 : Nat) : Int) = (i : Int) + 1 := by omega
      rw [e1]; exact he'
    · have hb' : b < s.heap.objs.size := by
        have e' : b = e ∨ b = it := by simpa using hb
        rcases e' with z | z
        · rw [z]; exact hel
        · rw [z]; exact hil
      rw [upd_ne (Nat.ne_of_lt hb')]
      exact (hf b hb).1
  done := by
    intro X hP hw hK hc i pins s σ H E I hf st hg
    subst hP hw hK
    obtain ⟨⟨old, he⟩, hit, hne⟩ := st
    have hi : i = z.length := hg
    obtain ⟨f0, f1, f2, f3, f4, f5⟩ := hf it (by simp)
    have Dr := Draws.text (prog := X.prog) (w := X.w) (A := X.A.in1) (I.ok.hd hc) it ⟨z.toArray⟩ t
    exact wpAny_pyNext_enum_endD Dr he (by rw [show (⟨z.toArray⟩ : Str).cps.size = i by simp; omega]; exact hit) fun h' eb => ⟨rfl, I.turned (t' := s.toks) (fun b o hb q => eb b o hb q) f0 f1 f3 f4 f5⟩
  self := fun A i s Q E st h => let ⟨⟨_, he⟩, _⟩ := st; wpAny_pyIter_enum he h
end
set_option maxHeartbeats 1000000 in
theorem meets_enumerate_newB1 {v : Value} {o : Obj} {H : Heap → Prop} (B : Begins v o H) :
    Meets (Builtin.«enumerate.__new__» ⟨[.type "enumerate", v], []⟩) (fun _ R s => H s.heap ∧
      R (.ok (.ret (.ref (s.heap.push o).objs.size))) { s with heap := (s.heap.push o).push { cls := .type "enumerate", data := .fields #[.none, .bool false, .ref s.heap.objs.size, rawInt 0, .none, .none] } }) :=
  .of_wp fun prog w A R s h => by
    obtain ⟨hp, g, d, tk, os⟩ := s; obtain ⟨h1, h⟩ := h
    have hsub := sub_enumerate
    have q1 : ∀ {A' : Around} {E : Value → Shared → Prop} {Q : Value → Shared → Prop}, Q (.ref hp.objs.size) ⟨hp.push o, g, d, tk, os⟩ → wpAny (model prog w) A' (pyIter v) Q E ⟨hp, g, d, tk, os⟩ :=
      fun q => B.iter prog w _ _ ⟨hp, g, d, tk, os⟩ _ h1 q
    wp_walk using q1
    refine wpAny_stack_any fun st => wpAny_pure ?_
    split
    · rename_i c _ _ _ _ _
      cases (c == Value.type "enumerate")
      · wp_walk using q1
        exact ⟨_, rfl, h⟩
      · wp_walk using q1
        exact ⟨_, rfl, h⟩
    · wp_walk using q1
      exact ⟨_, rfl, h⟩
theorem enum_begins1 {prog : Program} {w : World} {A : Around} {E : Value → Shared → Prop} {s : Shared} {v : Value} {o : Obj} {H : Heap → Prop} {Q : Value → Shared → Prop} (B : Begins v o H) (h1 : H s.heap)
    (h : ∀ h', IsEnum h' (s.heap.objs.size + 1) s.heap.objs.size 0 .none → h'.get? s.heap.objs.size = some o → h'.objs.size = s.heap.objs.size + 2 →
      (∀ b o, s.heap.get? b = some o → h'.get? b = some o) → Q (.ref (s.heap.objs.size + 1)) { s with heap := h' }) :
    wpAny (model prog w) A (call (.type "enumerate") [v]) Q E s := by
  refine callType_new F.called_enumerate (by decide) (F.typeCall_enumerate_1 _) (F.newCall_enumerate_1 _) (fun obj => F.args_object_init_2 obj _) F.entry_enumerate_new
    (meets_enumerate_newB1 B) ⟨h1, ?_⟩
  have hz : (s.heap.push o).objs.size = s.heap.objs.size + 1 := Heap.size_push ..
  show _ ∧ _
  rw [hz]
  have he : IsEnum ((s.heap.push o).push { cls := .type "enumerate", data := .fields #[.none, .bool false, .ref s.heap.objs.size, rawInt 0, .none, .none] }) (s.heap.objs.size + 1) s.heap.objs.size 0 .none := by
    have := Heap.get?_push_size (s.heap.push o) (o := { cls := .type "enumerate", data := .fields #[.none, .bool false, .ref s.heap.objs.size, rawInt 0, .none, .none] }) rfl
    rw [hz] at this; exact this
  refine ⟨⟨_, he, rfl⟩, h _ he (Heap.get?_push_of_some _ (Heap.get?_push_size _ B.free)) (by rw [Heap.size_push, hz]) fun b o x => Heap.get?_push_of_some _ (Heap.get?_push_of_some _ x)⟩

section
variable {X : Cx} {T : List (Addr × Str)} {k : Nat} {W : WX} {σ : L2.St} {μ : List Addr} {H : Hp} {env : Env} {sto : Sto} {pos : Pos} {tg e : Expr} {f : Ev} {es : List Expr} {fs : EvA}
/-- any of the three, as it comes -/
def iAnyV (K : PySem.W.Frag) (tl : TE) : TI := fun σ H R => tl σ H fun x H1 => (∃ a, x = .ref a ∧ (∃ xs, SqL K H1 a xs) ∧ R (Itl K a) H1) ∨ (∃ a, x = .ref a ∧ (∃ xs, SqT K H1 a xs) ∧ R (Itt K a) H1) ∨ ∃ z, x = .str z ∧ R (Its z) H1
theorem pi_any {tl : TE} (he : PE X e tl) : PI X tg e (iAnyV X.K tl) := by
  refine ⟨fun pins s σ H R I h => ?_⟩
  refine thn (he.run pins s σ H _ I h) fun v s1 ⟨x, H1, I1, r1, q1⟩ => ?_
  rcases q1 with ⟨a, rfl, ⟨xs, hq⟩, q⟩ | ⟨a, rfl, ⟨xs, hq⟩, q⟩ | ⟨z, rfl, q⟩
  · cases r1
    obtain ⟨its, rv, p, hz⟩ := I1.list hq
    refine wpAny_pyIter_list p.isList ?_
    refine ⟨s1.heap.objs.size, [s1.heap.objs.size], _, _, H1, rfl, I1.kept (t' := s1.toks) fun b o e => Heap.get?_push_of_some _ e, turn_list a _, ⟨_, Heap.get?_push_size _ rfl, rfl, rfl⟩, fun b hb => ?_, q⟩
    have e : b = s1.heap.objs.size := by simpa using hb
    subst e
    exact I1.fpOk (Nat.le_refl _) (I1.hok.fresh (Nat.le_refl _))
  · cases r1
    obtain ⟨its, rv, p, hz⟩ := I1.tuple hq
    refine wpAny_pyIter_tuple (show s1.heap.IsTuple a its.toArray from p) ?_
    refine ⟨s1.heap.objs.size, [s1.heap.objs.size], _, _, H1, rfl, I1.kept (t' := s1.toks) fun b o e => Heap.get?_push_of_some _ e, turn_tuple a _, ⟨_, Heap.get?_push_size _ rfl, rfl, rfl⟩, fun b hb => ?_, q⟩
    have e : b = s1.heap.objs.size := by simpa using hb
    subst e
    exact I1.fpOk (Nat.le_refl _) (I1.hok.fresh (Nat.le_refl _))
  · obtain ⟨t, rfl⟩ := r1
    cases ha : z.cps.all (· < 128)
    · exact wpAny_pyIter_wide ha (pi_one (tk := s1.toks) I1 _ (turn_str _ z t "str_iterator" (.inr rfl)) ⟨_, Heap.get?_push_size _ rfl, rfl, rfl⟩ q)
    · exact wpAny_pyIter_ascii ha (pi_one (tk := s1.toks) I1 _ (turn_str _ z t "str_ascii_iterator" (.inl rfl)) ⟨_, Heap.get?_push_size _ rfl, rfl, rfl⟩ q)
def itemsOf (x : D) (s : Sto) : Option Src := match x with
  | .ref n => (lstAt s n).map fun xs => ⟨xs, isLst n xs⟩
  | .tup xs => some ⟨xs, fun _ => true⟩
  | .str z => some ⟨z.map fun c => .str [c], fun _ => true⟩
  | _ => none
def iAny (f : Ev) : EvI := fun env s => bind (f env s) fun x s1 => match itemsOf x s1 with
  | some src => ret src s1
  | none => none
theorem srcList {a : Addr} {n : Nat} {xs : List D} {H1 : Hp} {μ1 : List Addr} (h1 : μ1[n]? = some a) : SrcOk X T (Itl X.K a) ⟨xs, isLst n xs⟩ μ1 H1 := fun H2 μ2 s2 e2 m2 rh2 hc => by
  obtain ⟨a', vs', h1', h2', h3', _⟩ := rh2.lst (isLst_of hc)
  rw [m2 _ _ h1] at h1'; cases h1'
  refine ⟨fun i d hd => ?_, ⟨vs', h2', by rw [h3'.length]; exact Nat.le_refl _⟩⟩
  obtain ⟨v, hv, rv⟩ := h3'.get hd
  refine ⟨⟨vs', v, h2', hv⟩, fun x H' ⟨y1, y2⟩ => ?_⟩
  subst y1
  have := y2 _ h2'
  rw [hv] at this; cases this
  exact ⟨Ext.refl _, rh2, rv⟩
theorem srcTup {a : Addr} {xs : List D} {vs : List V} {H1 : Hp} {μ1 : List Addr} (h2 : SqT X.K H1 a vs) (h3 : Rps X.K H1 μ1 xs vs) : SrcOk X T (Itt X.K a) ⟨xs, fun _ => true⟩ μ1 H1 := fun H2 μ2 s2 e2 m2 rh2 hc => by
  refine ⟨fun i d hd => ?_, ⟨vs, e2.seqT h2, by rw [h3.length]; exact Nat.le_refl _⟩⟩
  obtain ⟨v, hv, rv⟩ := h3.get hd
  refine ⟨⟨vs, v, e2.seqT h2, hv⟩, fun x H' ⟨y1, y2⟩ => ?_⟩
  subst y1
  have := y2 _ (e2.seqT h2)
  rw [hv] at this; cases this
  exact ⟨Ext.refl _, rh2, Rp.mono e2 m2 rv⟩
theorem srcStr {z : List Nat} {H1 : Hp} {μ1 : List Addr} : SrcOk X T (Its ⟨z.toArray⟩) ⟨z.map fun c => .str [c], fun _ => true⟩ μ1 H1 := fun H2 μ2 s2 e2 m2 rh2 hc => by
  refine ⟨fun i d hd => ?_, by show z.toArray.size ≤ _; simp⟩
  simp only [List.getElem?_map, Option.map_eq_some_iff] at hd
  obtain ⟨c, hc, rfl⟩ := hd
  have hi : i < z.length := (List.getElem?_eq_some_iff.mp hc).1
  refine ⟨by show i < z.toArray.size; simpa using hi, fun x H' ⟨y1, c', y2, y3⟩ => ?_⟩
  subst y1
  have y2 : z.toArray[i]? = some c' := y2
  rw [show z.toArray[i]? = z[i]? by simp, hc] at y2
  cases y2
  exact ⟨Ext.refl _, rh2, y3⟩
theorem qi_any (he : QE X T k W e f) : QI X T k W tg e (iAny f) := PI.of (pi_any he) fun σ H Q ⟨μ, env, sto, rh, re, q⟩ =>
  tE.go rh re (q.bind.imp fun d s1 q1 v H1 μ1 p1 re1 r1 => by
    cases d with
    | ref n =>
      cases hx : lstAt s1 n with
      | none => simp only [itemsOf, hx, Option.map] at q1; exact q1.elim
      | some xs =>
        simp only [itemsOf, hx, Option.map] at q1
        obtain ⟨a, vs, h1, h2, h3, _⟩ := p1.rep.lst hx
        obtain ⟨_, g1, rfl⟩ := r1
        rw [h1] at g1; cases g1
        exact .inl ⟨a, rfl, ⟨vs, h2⟩, q1 _ H1 μ1 p1 (srcList h1)⟩
    | tup xs =>
      obtain ⟨a, vs, rfl, h2, h3⟩ := r1
      exact .inr (.inl ⟨a, rfl, ⟨vs, h2⟩, q1 _ H1 μ1 p1 (srcTup h2 h3)⟩)
    | str z => exact .inr (.inr ⟨_, r1, q1 _ H1 μ1 p1 srcStr⟩)
    | non => exact q1.elim
    | bl b => exact q1.elim
    | int b => exact q1.elim)
/-- enumerate(..) of any of the three -/
def iEnumV (K : PySem.W.Frag) (ta : TA) : TI := fun σ H R => ta σ H fun vs H1 => (∃ a xs, vs = [.ref a] ∧ SqL K H1 a xs ∧ R (Ite K a) H1) ∨ (∃ a xs, vs = [.ref a] ∧ SqT K H1 a xs ∧ R (IteT K a xs) H1) ∨ ∃ z : List Nat, vs = [.str ⟨z.toArray⟩] ∧ R (IteS z) H1
theorem pi_enumAny {ta : TA} {p tpos : Pos} {elts : List Expr} {kk : Nat} (hg : Gl X "enumerate") (hm : X.mg "enumerate" = none) (ha : PA X [e] ta) (hs : starEach [e] X.env = [(false, eval e X.env)] := by rfl) :
    PI X (.Tuple elts kk tpos) (.Call (.Name "enumerate" p) [e] [] pos) (iEnumV X.K ta) := by
  refine ⟨fun pins s σ H R I h => ?_⟩
  refine Call_ (ld_blt I hg hm boot_enumerate (PyProof.Rows.callWith_type1 (thn (ha.run pos pins s σ H _ I h) fun us s1 ⟨vs, H1, I1, r1, q1⟩ => ?_) hs rfl))
  have fp : ∀ b ∈ [s1.heap.objs.size + 1, s1.heap.objs.size], FpOk X pins H1 b := fun b hb => by
    have e' : b = s1.heap.objs.size + 1 ∨ b = s1.heap.objs.size := by simpa using hb
    have hle : s1.heap.objs.size ≤ b := by
      rcases e' with z | z
      · rw [z]; exact Nat.le_add_right _ _
      · rw [z]; exact Nat.le_refl _
    exact I1.fpOk hle (I1.hok.fresh hle)
  rcases q1 with ⟨a, xs, rfl, hq, q⟩ | ⟨a, xs, rfl, hq, q⟩ | ⟨z, rfl, q⟩
  · cases r1 with
    | cons r rr =>
      cases rr
      cases r
      obtain ⟨its, rv, p', hz⟩ := I1.list hq
      refine call_enumerate_list p'.isList fun h' he hit hsz hk => wpAny_pyIter_enum he ?_
      have I2 : Inv X pins σ H1 { s1 with heap := h' } := I1.kept (t' := s1.toks) hk
      exact ⟨s1.heap.objs.size + 1, [s1.heap.objs.size + 1, s1.heap.objs.size], _, _, H1, rfl, I2, turn_enum a (s1.heap.objs.size + 1) s1.heap.objs.size, ⟨⟨.none, he⟩, hit, Nat.succ_ne_self _⟩, fp, q⟩
  · cases r1 with
    | cons r rr =>
      cases rr
      cases r
      obtain ⟨its, rv, p', hz⟩ := I1.tuple hq
      refine enum_begins1 (begins_tuple a its.toArray) p' fun h' he hit hsz hk => wpAny_pyIter_enum he ?_
      have I2 : Inv X pins σ H1 { s1 with heap := h' } := I1.kept (t' := s1.toks) hk
      exact ⟨s1.heap.objs.size + 1, [s1.heap.objs.size + 1, s1.heap.objs.size], _, _, H1, rfl, I2, turn_enumT a (s1.heap.objs.size + 1) s1.heap.objs.size xs, ⟨⟨.none, he⟩, ⟨_, hit, rfl, rfl⟩, Nat.succ_ne_self _⟩, fp, q⟩
  · cases r1 with
    | cons r rr =>
      cases rr
      obtain ⟨t, rfl⟩ := r
      refine enum_begins1 (begins_text ⟨z.toArray⟩ t) trivial fun h' he hit hsz hk => wpAny_pyIter_enum he ?_
      have I2 : Inv X pins σ H1 { s1 with heap := h' } := I1.kept (t' := s1.toks) hk
      exact ⟨s1.heap.objs.size + 1, [s1.heap.objs.size + 1, s1.heap.objs.size], _, _, H1, rfl, I2, turn_enumS (s1.heap.objs.size + 1) s1.heap.objs.size z t, ⟨⟨.none, he⟩, ⟨_, hit, rfl, rfl⟩, Nat.succ_ne_self _⟩, fp, q⟩
def enumD (xs : List D) : List D := xs.zipIdx.map fun p => .tup [.int (p.2 : Nat), p.1]
theorem enumD_get {xs : List D} {i : Nat} {d : D} (h : (enumD xs)[i]? = some d) : ∃ x, xs[i]? = some x ∧ d = .tup [.int (i : Nat), x] := by
  simp only [enumD, List.getElem?_map, Option.map_eq_some_iff, List.getElem?_zipIdx] at h
  obtain ⟨p, ⟨x, h1, h2⟩, rfl⟩ := h
  subst h2
  exact ⟨x, h1, by simp⟩
def iEnumD (fs : EvA) : EvI := fun env s => bind (fs env s) fun xs s1 => match xs with
  | [.d x] => match itemsOf x s1 with
    | some src => ret ⟨enumD src.items, src.chk⟩ s1
    | none => none
  | _ => none
theorem pair_rep {H1 : Hp} {μ1 : List Addr} {s1 : Sto} {p : Addr} {i : Nat} {d : D} {v : V} (rh : RepH X.K X.mg T μ1 s1 H1) (n : H1 p = none) (r : Rp X.K H1 μ1 d v) :
    Ext H1 (upd H1 p (.tup [.int (i : Nat), v])) ∧ RepH X.K X.mg T μ1 s1 (upd H1 p (.tup [.int (i : Nat), v])) ∧ Rp X.K (upd H1 p (.tup [.int (i : Nat), v])) μ1 (.tup [.int (i : Nat), d]) (.ref p) :=
  ⟨Ext.new n, rh.fresh n, p, _, rfl, SqT.of upd_same, _, _, rfl, rfl, _, _, rfl, Rp.mono (Ext.new n) (fun _ _ z => z) r, rfl⟩
theorem qi_enum {p tpos : Pos} {elts : List Expr} {kk : Nat} (hg : Gl X "enumerate") (hm : X.mg "enumerate" = none) (ha : QA X T k W [e] fs) (hs : starEach [e] X.env = [(false, eval e X.env)] := by rfl) :
    QI X T k W (.Tuple elts kk tpos) (.Call (.Name "enumerate" p) [e] [] pos) (iEnumD fs) := PI.of (pi_enumAny hg hm ha hs) fun σ H Q ⟨μ, env, sto, rh, re, q⟩ => tA.go rh re (q.bind.imp fun xs s1 q1 vs H1 μ1 p1 re1 r1 => by
    split at q1
    · rename_i d
      obtain ⟨v, ws, rfl, r1, rfl⟩ := r1
      cases d with
      | ref n =>
        cases hx : lstAt s1 n with
        | none => simp only [itemsOf, hx, Option.map] at q1; exact q1.elim
        | some xs =>
          simp only [itemsOf, hx, Option.map] at q1
          obtain ⟨a, vs, h1, h2, h3, _⟩ := p1.rep.lst hx
          obtain ⟨_, g1, rfl⟩ := r1
          rw [h1] at g1; cases g1
          refine .inl ⟨a, vs, rfl, h2, q1 _ H1 μ1 p1 fun H2 μ2 s2 e2 m2 rh2 hc => ?_⟩
          obtain ⟨a', vs', h1', h2', h3', _⟩ := rh2.lst (isLst_of hc)
          rw [m2 _ _ h1] at h1'; cases h1'
          refine ⟨fun i d hd => ?_, ⟨vs', h2', by rw [h3'.length]; simp [enumD]⟩⟩
          obtain ⟨x, hx, rfl⟩ := enumD_get hd
          obtain ⟨v, hv, rv⟩ := h3'.get hx
          refine ⟨⟨vs', v, h2', hv⟩, fun x H' ⟨p, y, y1, y2, y3, y4⟩ => ?_⟩
          subst y1 y3
          have := y4 _ h2'
          rw [hv] at this; cases this
          exact pair_rep rh2 y2 rv
      | tup xs =>
        obtain ⟨a, vs, rfl, h2, h3⟩ := r1
        refine .inr (.inl ⟨a, vs, rfl, h2, q1 _ H1 μ1 p1 fun H2 μ2 s2 e2 m2 rh2 hc => ?_⟩)
        refine ⟨fun i d hd => ?_, ⟨e2.seqT h2, by rw [h3.length]; simp [enumD]⟩⟩
        obtain ⟨x, hx, rfl⟩ := enumD_get hd
        obtain ⟨v, hv, rv⟩ := h3.get hx
        refine ⟨⟨e2.seqT h2, (List.getElem?_eq_some_iff.mp hv).1⟩, fun x H' ⟨p, y, y1, y2, y3, y4⟩ => ?_⟩
        subst y1 y3
        rw [hv] at y4; cases y4
        exact pair_rep rh2 y2 (Rp.mono e2 m2 rv)
      | str z =>
        refine .inr (.inr ⟨z, by rw [show v = _ from r1], q1 _ H1 μ1 p1 fun H2 μ2 s2 e2 m2 rh2 hc => ?_⟩)
        refine ⟨fun i d hd => ?_, by show (enumD _).length = z.length; simp [enumD]⟩
        obtain ⟨x, hx, rfl⟩ := enumD_get hd
        simp only [List.getElem?_map, Option.map_eq_some_iff] at hx
        obtain ⟨c, hc, rfl⟩ := hx
        refine ⟨(List.getElem?_eq_some_iff.mp hc).1, fun x H' ⟨p, c', y1, y2, y3, y4⟩ => ?_⟩
        subst y1 y3
        rw [hc] at y4; cases y4
        exact pair_rep rh2 y2 rfl
      | non => exact q1.elim
      | bl b => exact q1.elim
      | int b => exact q1.elim
    · exact q1.elim)

/-! ### for -/
variable {body : List Stmt} {fb : EvS}
def forL (g : EvG) (b : EvS) (chk : Sto → Bool) : List D → Env → Sto → R Fl
  | [], env, s => if chk s then ret (.nx env) s else none
  | d :: ds, env, s => if chk s then match g d env s with
      | some (.ok e, s1) => bind (b e s1) fun fl s2 => match fl with
        | .nx e => forL g b chk ds e s2
        | .ct e => forL g b chk ds e s2
        | .bk e => ret (.nx e) s2
        | .rt d => ret (.rt d) s2
      | _ => none
    else none
def sFor (fi : EvI) (g : EvG) (b : EvS) : EvS := fun env s => bind (fi env s) fun src s1 => forL g b src.chk src.items env s1
theorem qs_for {iter : Expr} {fi : EvI} {g : EvG} (hp : PassesOwn (model X.prog X.w) X.A X.env X.xe) (hc : X.calm = true) (hi : QI X T k W tg iter fi) (hg : QG X T k W tg g) (hb : QSs X T k W body fb)
    (hs : ∀ x, foldedSetIterable iter X.env x = pure x := by intro _; rfl) : QS X T k W (.For tg iter body [] pos) (sFor fi g fb) := PS.of (ps_for hp hc hi hg hb hs) fun D σ H ⟨μ, env, sto, rh, re, q⟩ =>
  tI.go rh re ((DenS.bind q).imp fun src s1 q1 J H1 μ1 p1 re1 so => by
    refine ⟨fun i m σ H => m = src.items.length - i ∧ i ≤ src.items.length ∧ ∃ μ2 env s2, Post X.K X.mg T μ1 H1 s2 H μ2 ∧ RepE X T k H μ2 env σ ∧ DenS X T k W μ2 H D (forL g fb src.chk (src.items.drop i) env s2),
      ⟨_, rfl, Nat.zero_le _, μ1, env, s1, Post.refl p1.rep, re1, by rw [List.drop_zero]; exact DenS.later p1 q1⟩, ?_⟩
    rintro i m σ H ⟨rfl, hi, μ2, env, s2, p2, re2, q2⟩
    by_cases hlt : i < src.items.length
    · have hd : src.items.drop i = src.items[i] :: src.items.drop (i + 1) := List.drop_eq_getElem_cons hlt
      rw [hd] at q2
      unfold forL at q2
      split at q2
      · rename_i hc
        obtain ⟨j1, j2⟩ := (so H μ2 s2 p2.ext p2.mono p2.rep hc).1 i src.items[i] (List.getElem?_eq_getElem hlt)
        refine .inr ⟨j1, fun σ' H' => i + 1 ≤ src.items.length ∧ ∃ μ2 env s2, Post X.K X.mg T μ1 H1 s2 H' μ2 ∧ RepE X T k H' μ2 env σ' ∧ DenS X T k W μ2 H' D (forL g fb src.chk (src.items.drop (i + 1)) env s2),
          fun σ' H' ⟨z1, z2⟩ => ⟨_, by omega, rfl, z1, z2⟩, fun x H' y => ?_⟩
        obtain ⟨e3, rh3, r3⟩ := j2 x H' y
        have p3 : Post X.K X.mg T μ2 H s2 H' μ2 := ⟨e3, ⟨[], by simp⟩, rh3⟩
        refine ⟨μ2, env, s2, _, rh3, re2.mono p3, r3, ?_⟩
        generalize g src.items[i] env s2 = m at q2 ⊢
        match m, q2 with
        | some (.ok e, s4), q2 =>
          intro σ4 H4 μ4 p4 re4
          have p34 := p3.trans p4
          refine ⟨μ4, e, s4, p4.rep, re4, ?_⟩
          have q2 := DenS.later p34 q2
          simp only at q2
          generalize fb e s4 = m2 at q2 ⊢
          match m2, q2 with
          | some (.error x, s5), q2 => exact q2
          | some (.ok (.nx e), s5), q2 => exact fun σ5 H5 μ5 p5 re5 => ⟨hlt, μ5, e, s5, (p2.trans p34).trans p5, re5, DenS.later p5 q2⟩
          | some (.ok (.ct e), s5), q2 => exact fun σ5 H5 μ5 p5 re5 => ⟨hlt, μ5, e, s5, (p2.trans p34).trans p5, re5, DenS.later p5 q2⟩
          | some (.ok (.bk e), s5), q2 => exact q2
          | some (.ok (.rt d), s5), q2 => exact q2
      · exact q2.elim
    · have he : i = src.items.length := by omega
      subst he
      rw [List.drop_length] at q2
      unfold forL at q2
      split at q2
      · rename_i hc
        exact .inl ⟨(so H μ2 s2 p2.ext p2.mono p2.rep hc).2, q2 σ H μ2 (Post.refl p2.rep) re2⟩
      · exact q2.elim)

/-! ### while -/
def whN (c : EvB) (b : EvS) : Nat → Env → Sto → R Fl
  | 0, _, _ => none
  | n + 1, env, s => bind (c env s) fun t s1 => if t then bind (b env s1) fun fl s2 => match fl with
      | .nx e => whN c b n e s2
      | .ct e => whN c b n e s2
      | .bk e => ret (.nx e) s2
      | .rt d => ret (.rt d) s2
    else ret (.nx env) s1
open Classical in
noncomputable def sWhile (c : EvB) (b : EvS) : EvS := fun env s => if h : ∃ n, whN c b n env s ≠ none then whN c b (Classical.choose h) env s else none
theorem whN_succ {c : EvB} {b : EvS} : ∀ {n : Nat} {env : Env} {s : Sto}, whN c b n env s ≠ none → whN c b (n + 1) env s = whN c b n env s
  | 0, _, _, h => absurd rfl h
  | n + 1, env, s, h => by
    rw [whN] at h
    rw [whN, whN.eq_def c b (n + 1)]
    simp only
    generalize c env s = m at h ⊢
    match m, h with
    | none, h => rfl
    | some (.error x, s1), h => rfl
    | some (.ok false, s1), h => rfl
    | some (.ok true, s1), h =>
      simp only [bind_ok, if_true] at h ⊢
      generalize b env s1 = m2 at h ⊢
      match m2, h with
      | none, h => rfl
      | some (.error x, s2), h => rfl
      | some (.ok (.nx e), s2), h => exact whN_succ h
      | some (.ok (.ct e), s2), h => exact whN_succ h
      | some (.ok (.bk e), s2), h => rfl
      | some (.ok (.rt e), s2), h => rfl
theorem whN_le {c : EvB} {b : EvS} {n : Nat} {env : Env} {s : Sto} (h : whN c b n env s ≠ none) : ∀ j, whN c b (n + j) env s = whN c b n env s
  | 0 => rfl
  | j + 1 => by
    have ih := whN_le h j
    rw [← Nat.add_assoc, whN_succ (by rw [ih]; exact h), ih]
theorem sWhile_of {c : EvB} {b : EvS} {n : Nat} {env : Env} {s : Sto} {r : R Fl} (h : whN c b n env s = r) (hr : r ≠ none) : sWhile c b env s = r := by
  have hn : whN c b n env s ≠ none := by rw [h]; exact hr
  have he : ∃ n, whN c b n env s ≠ none := ⟨n, hn⟩
  unfold sWhile
  rw [dif_pos he]
  have hc := Classical.choose_spec he
  rcases Nat.le_total n (Classical.choose he) with q | q
  · obtain ⟨j, hj⟩ := Nat.le.dest q
    rw [← hj, whN_le hn j, h]
  · obtain ⟨j, hj⟩ := Nat.le.dest q
    have := whN_le hc j
    rw [hj] at this
    rw [← this, h]
theorem sWhile_eq {c : EvB} {b : EvS} {env : Env} {s : Sto} : sWhile c b env s = bind (c env s) fun t s1 => if t then bind (b env s1) fun fl s2 => match fl with
      | .nx e => sWhile c b e s2
      | .ct e => sWhile c b e s2
      | .bk e => ret (.nx e) s2
      | .rt d => ret (.rt d) s2
    else ret (.nx env) s1 := by
  have key : ∀ {e : Env} {s2 : Sto} {r : R Fl}, sWhile c b e s2 = r → r ≠ none → ∃ n, whN c b n e s2 = r := fun {e s2 r} h hr => by
    unfold sWhile at h
    split at h
    · exact ⟨_, h⟩
    · exact absurd h.symm hr
  have step : ∀ (f : Env → Sto → R Fl), (∀ e s2, f e s2 ≠ none → ∃ n, whN c b n e s2 = f e s2) → ∀ r, (bind (c env s) fun t s1 => if t then bind (b env s1) fun fl s2 => match fl with
      | .nx e => f e s2
      | .ct e => f e s2
      | .bk e => ret (.nx e) s2
      | .rt d => ret (.rt d) s2
    else ret (.nx env) s1) = r → r ≠ none → ∃ n, whN c b n env s = r := by
    intro f hf r h hr
    generalize hm : c env s = m at h
    match m, h with
    | none, h => exact absurd h.symm hr
    | some (.error x, s1), h => exact ⟨1, by rw [whN, hm]; exact h⟩
    | some (.ok false, s1), h => exact ⟨1, by rw [whN, hm]; exact h⟩
    | some (.ok true, s1), h =>
      simp only [bind_ok, if_true] at h
      generalize hm2 : b env s1 = m2 at h
      match m2, h with
      | none, h => exact absurd h.symm hr
      | some (.error x, s2), h => exact ⟨1, by rw [whN, hm]; simp only [bind_ok, if_true]; rw [hm2]; exact h⟩
      | some (.ok (.bk e), s2), h => exact ⟨1, by rw [whN, hm]; simp only [bind_ok, if_true]; rw [hm2]; exact h⟩
      | some (.ok (.rt e), s2), h => exact ⟨1, by rw [whN, hm]; simp only [bind_ok, if_true]; rw [hm2]; exact h⟩
      | some (.ok (.nx e), s2), h =>
        simp only [bind_ok] at h
        obtain ⟨n, hn⟩ := hf e s2 (by rw [h]; exact hr)
        exact ⟨n + 1, by rw [whN, hm]; simp only [bind_ok, if_true]; rw [hm2]; simp only [bind_ok]; rw [hn, h]⟩
      | some (.ok (.ct e), s2), h =>
        simp only [bind_ok] at h
        obtain ⟨n, hn⟩ := hf e s2 (by rw [h]; exact hr)
        exact ⟨n + 1, by rw [whN, hm]; simp only [bind_ok, if_true]; rw [hm2]; simp only [bind_ok]; rw [hn, h]⟩
  generalize hr : (bind (c env s) fun t s1 => if t then bind (b env s1) fun fl s2 => match fl with
      | .nx e => sWhile c b e s2
      | .ct e => sWhile c b e s2
      | .bk e => ret (.nx e) s2
      | .rt d => ret (.rt d) s2
    else ret (.nx env) s1) = r
  by_cases hn : r = none
  · subst hn
    -- both are stuck
    cases hs : sWhile c b env s with
    | none => rfl
    | some z =>
      obtain ⟨n, e⟩ := key hs (by simp)
      cases n with
      | zero => cases e
      | succ n =>
        exfalso
        rw [whN] at e
        revert hr e
        generalize c env s = m
        intro hr e
        match m, hr, e with
        | some (.error x, s1), hr, e => cases hr
        | some (.ok false, s1), hr, e => cases hr
        | some (.ok true, s1), hr, e =>
          simp only [bind_ok, if_true] at hr e
          revert hr e
          generalize b env s1 = m2
          intro hr e
          match m2, hr, e with
          | some (.error x, s2), hr, e => cases hr
          | some (.ok (.bk _), s2), hr, e => cases hr
          | some (.ok (.rt _), s2), hr, e => cases hr
          | some (.ok (.nx e'), s2), hr, e =>
            simp only [bind_ok] at hr e
            rw [sWhile_of e (by simp)] at hr
            cases hr
          | some (.ok (.ct e'), s2), hr, e =>
            simp only [bind_ok] at hr e
            rw [sWhile_of e (by simp)] at hr
            cases hr
  · obtain ⟨n, e⟩ := step _ (fun e s2 h => key rfl h) r hr hn
    exact sWhile_of e hn
theorem qs_while {c : Expr} {tc : EvB} (hp : PassesOwn (model X.prog X.w) X.A X.env X.xe) (hc : QB X T k W c tc) (hb : QSs X T k W body fb) : QS X T k W (.While c body [] pos) (sWhile tc fb) := PS.of (ps_while hp hc hb) fun D σ H ⟨μ, env, sto, rh, re, q⟩ => by
  unfold sWhile at q
  split at q
  · rename_i h
    refine ⟨fun m σ H => ∃ μ env s, RepH X.K X.mg T μ s H ∧ RepE X T k H μ env σ ∧ DenS X T k W μ H D (whN tc fb m env s), ⟨_, μ, env, sto, rh, re, q⟩, ?_⟩
    rintro m σ H ⟨μ, env, s, rh, re, q⟩
    cases m with
    | zero => exact q.elim
    | succ m =>
      rw [whN] at q
      refine tB.go rh re ((DenS.bind q).imp fun t s1 q1 H1 μ1 p1 re1 => ?_)
      have q1 := DenS.later p1 q1
      cases t with
      | false => exact q1 σ H1 μ1 (Post.refl p1.rep) re1
      | true =>
        simp only [if_true] at q1 ⊢
        refine ⟨fun σ' H' => ∃ μ env s, RepH X.K X.mg T μ s H' ∧ RepE X T k H' μ env σ' ∧ DenS X T k W μ H' D (whN tc fb m env s), fun σ' H' z => ⟨m, Nat.lt_succ_self _, z⟩, μ1, env, s1, p1.rep, re1, ?_⟩
        generalize fb env s1 = m2 at q1 ⊢
        match m2, q1 with
        | some (.error x, s5), q2 => exact q2
        | some (.ok (.nx e), s5), q2 => exact fun σ5 H5 μ5 p5 re5 => ⟨μ5, e, s5, p5.rep, re5, DenS.later p5 q2⟩
        | some (.ok (.ct e), s5), q2 => exact fun σ5 H5 μ5 p5 re5 => ⟨μ5, e, s5, p5.rep, re5, DenS.later p5 q2⟩
        | some (.ok (.bk e), s5), q2 => exact q2
        | some (.ok (.rt d), s5), q2 => exact q2
  · exact q.elim
end
end TP
/-! Defs, calls, functions held by names. -/
namespace TP
open PySem PySem.Spec PyProof.Rows L2 LamX

/-- what a name holds, told of a heap -/
def CloAt (P : Program) (w : World) (K : PySem.W.Frag) (mg : Str → Option Value) (base : Heap) (T : List (Addr × Str)) (k : Nat) (h : Heap) (H0 : Hp) (fs ex : List Addr) (H : Hp) (μ : List Addr) (n : Nat) (g : FnD) (v : V) : Prop :=
  ∃ f PL μ0 Hc, v = .ref f ∧ Pinned h H0 fs ex PL ∧ (μ0.length ≤ n ∧ ∃ more, μ = μ0 ++ more) ∧ Ext Hc H ∧ Callable P w K mg base T k PL μ0 Hc f g
def RpAt (P : Program) (w : World) (K : PySem.W.Frag) (mg : Str → Option Value) (base : Heap) (T : List (Addr × Str)) (k : Nat) (h : Heap) (H0 : Hp) (fs ex : List Addr) (H : Hp) (μ : List Addr) : A → V → Prop
  | .d x, v => Rp K H μ x v
  | .f n g, v => CloAt P w K mg base T k h H0 fs ex H μ n g v
def RpAts (P : Program) (w : World) (K : PySem.W.Frag) (mg : Str → Option Value) (base : Heap) (T : List (Addr × Str)) (k : Nat) (h : Heap) (H0 : Hp) (fs ex : List Addr) (H : Hp) (μ : List Addr) : List A → List V → Prop
  | [], vs => vs = []
  | x :: xs, vs => ∃ v ws, vs = v :: ws ∧ RpAt P w K mg base T k h H0 fs ex H μ x v ∧ RpAts P w K mg base T k h H0 fs ex H μ xs ws
theorem RpA.at_ {X : Cx} {T : List (Addr × Str)} {k : Nat} {H : Hp} {μ : List Addr} {x : A} {v : V} : RpA X T k H μ x v = RpAt X.prog X.w X.K X.mg X.base T k X.s_0.heap X.H_0 X.fs X.ex H μ x v := by
  cases x <;> rfl
section
variable {X : Cx} {T : List (Addr × Str)} {k j : Nat} {W : WX} {σ : L2.St} {μ μ' : List Addr} {H H' : Hp} {env : Env} {sto sto' : Sto} {pins : List (Addr × Obj)} {s : Shared} {PL : List (Addr × Obj)}
theorem Callable.mono {P : Program} {w : World} {K : PySem.W.Frag} {mg : Str → Option Value} {base : Heap} {μ0 : List Addr} {Hc : Hp} {f : Addr} {g : FnD} (c : Callable P w K mg base T j PL μ0 Hc f g) (h : j ≤ k) : Callable P w K mg base T k PL μ0 Hc f g :=
  ⟨c.1, fun A outer s H us vs ds μ sto Q E hr => c.2 A outer s H us vs ds μ sto Q E (hr.mono h)⟩
/-- what the context knows stands now -/
theorem Pinned.now (I : Inv X pins σ H s) (p : Pinned X.s_0.heap X.H_0 X.fs X.ex PL) : Pinned s.heap H (frs X.stack) [] PL := fun q hq => by
  obtain ⟨⟨sl, h1⟩, h2, h4⟩ := p q hq
  obtain ⟨sl', h1'⟩ := I.base.any h1 h2 h4
  exact ⟨⟨sl', h1'⟩, I.base.free _ _ h1 h2 h4, by simp⟩
theorem RpA.now (I : Inv X pins σ H' s) (hk : j ≤ k) : ∀ {x : A} {v : V}, RpA X T j H μ x v → RpAt X.prog X.w X.K X.mg X.base T k s.heap H' (frs X.stack) [] H μ x v
  | .d _, _, h => h
  | .f _ _, _, ⟨f, PL, μ0, Hc, h1, h2, h3, h4, h5⟩ => ⟨f, PL, μ0, Hc, h1, h2.now I, h3, h4, h5.mono hk⟩
theorem RpAt.mono {P : Program} {w : World} {K : PySem.W.Frag} {mg : Str → Option Value} {base : Heap} {h : Heap} {H0 : Hp} {fs ex : List Addr} (p : Post K mg T μ H sto' H' μ') : ∀ {x : A} {v : V}, RpAt P w K mg base T k h H0 fs ex H μ x v → RpAt P w K mg base T k h H0 fs ex H' μ' x v
  | .d _, _, h => Rp.mono p.ext p.mono h
  | .f _ _, _, ⟨f, PL, μ0, Hc, h1, h2, ⟨hn, m, h3⟩, h4, h5⟩ => ⟨f, PL, μ0, Hc, h1, h2, ⟨hn, by obtain ⟨m', e⟩ := p.pre; exact ⟨m ++ m', by rw [e, h3]; simp⟩⟩, h4.trans p.ext, h5⟩
end

/-! ### a def -/
/-- the def at f does what F says -/
def FOk (P : Program) (w : World) (K : PySem.W.Frag) (mg : Str → Option Value) (base : Heap) (T : List (Addr × Str)) (k kc : Nat) (f : Addr) (fd : FuncData) (ps : List Str) (F : Fn) : Prop :=
  ∀ (A : Around) (outer : List PySem.Env) (s : Shared) (H : Hp) (args : Args) (us : List Value) (vs : List V) (xs : List TP.A) (μ : List Addr) (sto : Sto) (Q : VK) (E : XK), Room k A → Env0 P w K mg base A outer s H → BindsTo s fd args (ps.zip us) → Vals vs us → vs.length = ps.length →
    RepH K mg T μ sto H → RpAts P w K mg base T kc s.heap H (frs outer) [] H μ xs vs → Den K mg T E μ H Q (F xs sto) →
    codeAny (model P w) A (.call (.ref f) args) (CR (L2.CX P w) outer P w H s Q E) s
theorem FOk.mono {P : Program} {w : World} {K : PySem.W.Frag} {mg : Str → Option Value} {base : Heap} {T : List (Addr × Str)} {j k kc : Nat} {f : Addr} {fd : FuncData} {ps : List Str} {F : Fn} (h : FOk P w K mg base T j kc f fd ps F) (q : j ≤ k) : FOk P w K mg base T k kc f fd ps F :=
  fun A outer s H args us vs xs μ sto Q E hr => h A outer s H args us vs xs μ sto Q E (hr.mono q)
def callF (n m : Nat) (b : EvS) : Fn := fun xs s => if xs.length = m then match trimS s (b (xs.map some ++ List.replicate (n - m) none) s) with
    | some (.ok (.rt d), s1) => some (.ok d, s1)
    | some (.ok (.nx _), s1) => some (.ok .non, s1)
    | some (.error x, s1) => some (.error x, s1)
    | _ => none
  else none
abbrev WE (E : XK) : WX := fun cls d _ H => E cls d H
/-- the context of a def's body -/
abbrev dX (P : Program) (w : World) (K : PySem.W.Frag) (mg : Str → Option Value) (base : Heap) (N : List Str) (qual : Str) (st : Stmt) (f : Addr) (cdv : Value) (A : Around) (outer : List PySem.Env) (s : Shared) (H : Hp) (E : XK) : Cx := cxOf (L2.CX P w) P w K mg base N qual (defScope st) f cdv A outer s H E
section
variable {P : Program} {w : World} {K : PySem.W.Frag} {mg : Str → Option Value} {base : Heap} {T : List (Addr × Str)}
theorem RpAts.length {k : Nat} {h : Heap} {H0 : Hp} {fs ex : List Addr} {H : Hp} {μ : List Addr} : ∀ {xs : List A} {vs : List V}, RpAts P w K mg base T k h H0 fs ex H μ xs vs → vs.length = xs.length
  | [], _, e => by rw [show _ = _ from e]; rfl
  | _ :: _, _, ⟨v, ws, e, _, r⟩ => by rw [e]; simp [r.length]
theorem RpAts.get {k : Nat} {h : Heap} {H0 : Hp} {fs ex : List Addr} {H : Hp} {μ : List Addr} : ∀ {xs : List A} {vs : List V} {i : Nat} {x : A}, RpAts P w K mg base T k h H0 fs ex H μ xs vs → xs[i]? = some x → ∃ v, vs[i]? = some v ∧ RpAt P w K mg base T k h H0 fs ex H μ x v
  | [], _, _, _, _, e => by simp at e
  | y :: _, _, 0, x, ⟨v, ws, h1, h2, _⟩, e => by simp at e; subst e; subst h1; exact ⟨v, rfl, h2⟩
  | _ :: _, _, i + 1, x, ⟨v, ws, h1, _, h3⟩, e => by subst h1; simp at e; exact RpAts.get (i := i) h3 e
/-- the frame's start -/
theorem start_rep {X : Cx} {k : Nat} {H : Hp} {μ : List Addr} {xs : List A} {vs : List V} {N : List Str} {m : Nat} (hm : xs.length = m) (r : RpAts X.prog X.w X.K X.mg X.base T k X.s_0.heap X.H_0 X.fs X.ex H μ xs vs) :
    RepE X T k H μ (xs.map some ++ List.replicate (N.length - m) none) (L2.start N vs) := by
  have hl := r.length
  refine ⟨by unfold L2.start; simp [hl, hm], fun i x e => ?_⟩
  have hi : i < xs.length := by
    by_cases hi : i < xs.length
    · exact hi
    · rw [List.getElem?_append_right (by simpa using hi), List.getElem?_replicate] at e
      split at e <;> cases e
  rw [List.getElem?_append_left (by simpa using hi), List.getElem?_map] at e
  cases hx : xs[i]? with
  | none => rw [hx] at e; cases e
  | some y =>
    rw [hx] at e
    cases e
    obtain ⟨v, h1, h2⟩ := r.get hx
    refine ⟨v, ?_, by rw [RpA.at_]; exact h2⟩
    unfold L2.start
    rw [List.getElem?_append_left (by rw [List.length_map, hl]; exact hi), List.getElem?_map, h1]
    rfl
/-- THE RULE for a def, by its body -/
theorem fok_of {k kc : Nat} {x qual : Str} {st : Stmt} {f : Addr} {fd : FuncData} {N ps : List Str} {fb : EvS} (F : L2.Fun K x qual st f fd) (S : FnScope N ps (defScope st))
    (body : ∀ (cdv : Value) (A : Around) (outer : List PySem.Env) (s : Shared) (H : Hp) (E : XK), Room k (dX P w K mg base N qual st f cdv A outer s H E).A → QSs (dX P w K mg base N qual st f cdv A outer s H E) T kc (WE E) (defBody st) fb) :
    FOk P w K mg base T (k + 1) kc f fd ps (callF N.length ps.length fb) := by
  intro A outer s H args us vs xs μ sto Q E hr e0 hb r hl rh ra q
  obtain ⟨oc, od, kV, doc, pm, an, cdv, ct, osl, rfl, lk, hcd⟩ := F.ex
  refine run_ofS lk hcd S hr e0 hb r hl fun hr' => ⟨_, qss_trim (body cdv A outer s H E hr'), ?_⟩
  have hx : xs.length = ps.length := by rw [← hl]; exact ra.length.symm
  refine tS.go rh (start_rep (X := dX P w K mg base N qual st f cdv A outer s H E) hx ra) ?_
  unfold callF at q
  rw [if_pos hx] at q
  show DenS _ T kc (WE E) μ H _ (trimS sto (fb _ sto))
  generalize trimS sto (fb (xs.map some ++ List.replicate (N.length - ps.length) none) sto) = m at q ⊢
  match m, q with
  | some (.error y, s1), q => exact fun cls dx H' σ' p => q cls dx H' p
  | some (.ok (.rt d), s1), q => exact q
  | some (.ok (.nx e), s1), q => exact fun σ' H' μ' p _ => q .non H' μ' p rfl
  | some (.ok (.bk e), s1), q => exact q.elim
  | some (.ok (.ct e), s1), q => exact q.elim
end

/-! ### arguments, at the state in which they stand -/
section
variable {X : Cx} {T : List (Addr × Str)} {k j kc : Nat} {W : WX} {a e : Expr} {es : List Expr} {f : Ev} {fs : EvA} {pos : Pos}
def QAR (X : Cx) (T : List (Addr × Str)) (k kc : Nat) (W : WX) (es : List Expr) (fs : EvA) : Prop := ∀ (pos : Pos) (pins : List (Addr × Obj)) (s : Shared) (σ : L2.St) (H : Hp) (μ : List Addr) (env : Env) (sto : Sto) (Q : List Value → Shared → Prop),
  Inv X pins σ H s → RepH X.K X.mg T μ sto H → RepE X T k H μ env σ →
  DenW X T W σ μ H (fun xs s1 => ∀ us s' vs H' μ', Inv X pins σ H' s' → Post X.K X.mg T μ H s1 H' μ' → Vals vs us → RpAts X.prog X.w X.K X.mg X.base T kc s'.heap H' (frs X.stack) [] H' μ' xs vs → Q us s') (fs env sto) →
  wpAny (model X.prog X.w) X.A (spliced (backTo pos (starEach es X.env))) Q X.xe s
theorem qar_nil : QAR X T k kc W [] aNil := fun pos pins s σ H μ env sto Q I rh re q => Calls.spliced_nil (q [] s [] H μ I (Post.refl rh) .nil rfl)
theorem qar_cons (ha : QE X T k W a f) (hr : QAR X T k kc W es fs) (hs : starEach (a :: es) X.env = (false, eval a X.env) :: starEach es X.env := by rfl) : QAR X T k kc W (a :: es) (aCons f fs) := fun pos pins s σ H μ env sto Q I rh re q => by
  rw [hs]
  show wpAny _ _ (spliced ((false, eval a X.env) :: backTo pos (starEach es X.env))) _ _ s
  refine Calls.spliced_cons (thn (ha.run pins s σ H (fun v H1 => ∃ μ1 d s1, Post X.K X.mg T μ H s1 H1 μ1 ∧ RepE X T k H1 μ1 env σ ∧ Rp X.K H1 μ1 d v ∧ DenW X T W σ μ H _ (bind (fs env s1) fun xs s2 => ret (TP.A.d d :: xs) s2)) I
    (tE.go rh re (q.bind.imp fun d s1 q1 v H1 μ1 p1 re1 r1 => ⟨μ1, d, s1, p1, re1, r1, q1⟩))) fun u s1 ⟨v, H1, I1, rv, μ1, d, sto1, p1, re1, r1, q1⟩ => ?_)
  refine hr pos pins s1 σ H1 μ1 env sto1 _ I1 p1.rep re1 ((q1.later p1 fun _ _ z => z).bind.imp fun xs s2 q2 us s' vs H' μ' I' p' r' ra => ?_)
  exact q2 (u :: us) s' (v :: vs) H' μ' I' (p1.trans p') (.cons rv r') ⟨v, vs, rfl, Rp.mono p'.ext p'.mono r1, ra⟩
/-- a name that holds a function is handed on -/
def aClo (i : Nat) (fs : EvA) : EvA := fun env s => match env[i]? with
  | some (some (.f n g)) => bind (fs env s) fun xs s1 => ret (.f n g :: xs) s1
  | _ => none
theorem qar_clo {i : Nat} {x : Str} {p : Pos} (hk : k ≤ kc) (hN : X.N[i]? = some x) (hv : Vis X.env.scope x) (hr : QAR X T k kc W es fs) (hs : starEach (.Name x p :: es) X.env = (false, eval (.Name x p) X.env) :: starEach es X.env := by rfl)
    (hd : (x == ("__debug__" : Str)) = false := by decide) (hcd : (x == ("__classdict__" : Str)) = false := by decide) : QAR X T k kc W (.Name x p :: es) (aClo i fs) := fun pos pins s σ H μ env sto Q I rh re q => by
  rw [hs]
  show wpAny _ _ (spliced ((false, eval (.Name x p) X.env) :: backTo pos (starEach es X.env))) _ _ s
  unfold aClo at q
  split at q
  · rename_i n g hi
    obtain ⟨v, h1, h2⟩ := re.slot i _ hi
    refine Calls.spliced_cons (thn ((pe_var (pos := p) hN hv hd hcd).run pins s σ H (fun u H1 => u = v ∧ H1 = H) I ⟨v, h1, rfl, rfl⟩) fun u s1 ⟨v', H1, I1, rv, e1, e2⟩ => ?_)
    subst e1; rw [e2] at I1
    refine hr pos pins s1 σ H μ env sto _ I1 rh re (q.bind.imp fun xs s2 q2 us s' vs H' μ' I' p' r' ra => ?_)
    refine q2 (u :: us) s' (v' :: vs) H' μ' I' p' (.cons rv r') ⟨v', vs, rfl, ?_, ra⟩
    exact RpAt.mono p' (RpA.now (x := .f n g) I' hk h2)
  · exact q.elim
/-- a def of the module as a value -/
def aGlb (F : Fn) (fs : EvA) : EvA := fun env s => bind (fs env s) fun xs s1 => ret (.f 0 (fun ds s => F (ds.map TP.A.d) s) :: xs) s1
theorem RpAts.plains {P : Program} {w : World} {K : PySem.W.Frag} {mg : Str → Option Value} {base : Heap} {h : Heap} {H0 : Hp} {fs ex : List Addr} {H : Hp} {μ : List Addr} : ∀ {ds : List D} {vs : List V}, Rps K H μ ds vs → RpAts P w K mg base T k h H0 fs ex H μ (ds.map TP.A.d) vs
  | [], _, h => h
  | _ :: _, _, ⟨v, ws, h1, h2, h3⟩ => ⟨v, ws, h1, h2, RpAts.plains h3⟩
theorem FOk.callable {P : Program} {w : World} {K : PySem.W.Frag} {mg : Str → Option Value} {base : Heap} {x qual : Str} {st : Stmt} {fa : Addr} {fd : FuncData} {ps : List Str} {F : Fn} {μ0 : List Addr} {Hc : Hp} (G : FOk P w K mg base T j kc fa fd ps F) (Fu : L2.Fun K x qual st fa fd) (hb : Binds K fd ps [])
    (hj : j ≤ k) (hF : ∀ xs s, xs.length ≠ ps.length → F xs s = none) (hkin : ∀ b o, K.lookup b = some o → True) : Callable P w K mg base T k [] μ0 Hc fa (fun ds s => F (ds.map TP.A.d) s) := by
  refine ⟨fun h H fs ex _ hk => ?_, fun A outer s H us vs ds μ sto Q E hr e0 _ _ _ rh rd rv q => ?_⟩
  · obtain ⟨oc, od, kV, doc, pm, an, cdv, ct, osl, _, lk, _⟩ := Fu.ex
    exact ⟨_, _, _, _, hk _ _ lk⟩
  · have hl : ds.length = ps.length := by
      by_cases z : ds.length = ps.length
      · exact z
      · have := hF (ds.map TP.A.d) sto (by simpa using z)
        simp only [this] at q
        exact q.elim
    have hv : vs.length = ps.length := by rw [rd.length, hl]
    have hu : us.length = ps.length := by rw [← rv.length, hv]
    have KX : K.In s.heap := e0.mod.kin.keeps fun b o e => (e0.bs b o e).1
    refine G A outer s H ⟨us, []⟩ us vs (ds.map TP.A.d) μ sto Q E (hr.mono hj) e0 ?_ rv hv rh (RpAts.plains rd) q
    have := hb s us KX (by simpa using hu)
    simpa using this
theorem callF_len {n m : Nat} {b : EvS} {xs : List TP.A} {s : Sto} (h : xs.length ≠ m) : callF n m b xs s = none := by
  unfold callF; rw [if_neg h]
theorem qar_glb {x y qual : Str} {p : Pos} {st : Stmt} {fa : Addr} {fd : FuncData} {ps : List Str} {F : Fn} {kc' : Nat} (G : FOk X.prog X.w X.K X.mg X.base T j kc' fa fd ps F) (Fu : L2.Fun X.K y qual st fa fd) (hb : Binds X.K fd ps []) (hj : j ≤ kc) (hF : ∀ xs s, xs.length ≠ ps.length → F xs s = none)
    (hg : Gl X x) (hm : X.mg x = some (.ref fa)) (hr : QAR X T k kc W es fs) (hs : starEach (.Name x p :: es) X.env = (false, eval (.Name x p) X.env) :: starEach es X.env := by rfl) (hd : (x == ("__debug__" : Str)) = false := by decide) :
    QAR X T k kc W (.Name x p :: es) (aGlb F fs) := fun pos pins s σ H μ env sto Q I rh re q => by
  rw [hs]
  show wpAny _ _ (spliced ((false, eval (.Name x p) X.env) :: backTo pos (starEach es X.env))) _ _ s
  refine Calls.spliced_cons (ld_glob I hg hm ?_ hd)
  refine hr pos pins s σ H μ env sto _ I rh re (q.bind.imp fun xs s2 q2 us s' vs H' μ' I' p' r' ra => ?_)
  refine q2 (.ref fa :: us) s' (.ref fa :: vs) H' μ' I' p' (.cons rfl r') ⟨.ref fa, vs, rfl, ?_, ra⟩
  exact ⟨fa, [], [], H', rfl, (fun _ h => nomatch h), ⟨Nat.le_refl _, μ', rfl⟩, Ext.refl _, G.callable Fu hb hj hF fun _ _ _ => trivial⟩

/-! ### calls -/
def eCall (F : Fn) (fs : EvA) : Ev := fun env s => bind (fs env s) fun xs s1 => F xs s1
/-- from values and facts at a state: the callee runs -/
theorem run_fok {pins : List (Addr × Obj)} {σ : L2.St} {s : Shared} {H : Hp} {μ : List Addr} {sto : Sto} {args : Args} {us : List Value} {vs : List V} {xs : List TP.A} {fa : Addr} {fd : FuncData} {ps : List Str} {F : Fn} {Q : VK} {call : Sem Value} (G : FOk X.prog X.w X.K X.mg X.base T j kc fa fd ps F) (hr : Room j X.A) (tk : Takes X W)
    (I : Inv X pins σ H s) (hb : BindsTo s fd args (ps.zip us)) (rv : Vals vs us) (hl : vs.length = ps.length) (rh : RepH X.K X.mg T μ sto H) (ra : RpAts X.prog X.w X.K X.mg X.base T kc s.heap H (frs X.stack) [] H μ xs vs)
    (q : DenW X T W σ μ H (fun d s1 => ∀ v H' μ', Post X.K X.mg T μ H s1 H' μ' → Rp X.K H' μ' d v → Q v H') (F xs sto))
    (hcall : codeAny (model X.prog X.w) X.A (.call (.ref fa) args) (CR (L2.CX X.prog X.w) X.stack X.prog X.w H s Q (fun cls dx H' => W cls dx σ H')) s → wpAny (model X.prog X.w) X.A call (EP X pins σ Q) X.xe s) : wpAny (model X.prog X.w) X.A call (EP X pins σ Q) X.xe s := by
  refine hcall (G X.A X.stack s H args us vs xs μ sto Q (fun cls dx H' => W cls dx σ H') hr I.env0 hb rv hl rh ra ?_)
  generalize F xs sto = m at q ⊢
  match m, q with
  | some (.ok d, s1), q => exact q
  | some (.error x, s1), q => exact q
theorem pass_of {pins : List (Addr × Obj)} {σ : L2.St} {s : Shared} {H : Hp} {fa : Addr} {us : List Value} {kws : List (Str × Value)} {Q : VK} (tk : Takes X W) (I : Inv X pins σ H s)
    (h : codeAny (model X.prog X.w) X.A (.call (.ref fa) ⟨us, kws⟩) (CR (L2.CX X.prog X.w) X.stack X.prog X.w H s Q (fun cls dx H' => W cls dx σ H')) s) : wpAny (model X.prog X.w) X.A (call (.ref fa) us kws) (EP X pins σ Q) X.xe s := by
  refine wpAny_call (codeAny_mono h fun r s' hq => ?_)
  cases r with
  | error e => exact tk e s' (XE.of_call I (fun cls d H' h => h) hq)
  | ok fl =>
    cases fl with
    | ret u => exact I.after hq
    | next => exact False.elim hq
    | brk => exact False.elim hq
    | cont => exact False.elim hq
theorem qe_call {x p : _} {fa : Addr} {fd : FuncData} {ps : List Str} {F : Fn} (G : FOk X.prog X.w X.K X.mg X.base T j kc fa fd ps F) (hr : Room j X.A) (hg : Gl X x) (hm : X.mg x = some (.ref fa)) (hk : PySem.W.keepIn X.K (.ref fa) = true) (hb : Binds X.K fd ps []) (tk : Takes X W) (hF : ∀ xs s, xs.length ≠ ps.length → F xs s = none)
    (ha : QAR X T k kc W (e :: es) fs) (hdb : (x == ("__debug__" : Str)) = false := by decide) (he : starEach (e :: es) X.env = (false, eval e X.env) :: starEach es X.env := by rfl) (hpl : (backTo pos (starEach es X.env)).any (·.1) = false := by rfl) :
    QE X T k W (.Call (.Name x p) (e :: es) [] pos) (eCall F fs) := ⟨fun pins s σ H Q I ⟨μ, env, sto, rh, re, q⟩ => by
  refine wpAny_Call_Name_kw (ld_glob I hg hm ?_ hdb)
  refine PySem.W.callWith_K (h₀ := X.base) I.ok.mod.kin hk (ha pos pins s σ H μ env sto _ I rh re (q.bind.imp fun xs s1 q1 us s' vs H' μ' I' p' rv ra => ⟨I'.kIn, ?_⟩)) he hpl
  have q1 := q1.later p' fun d s2 (z : ∀ v H' μ', _ → _ → _) => (fun v H2 μ2 p2 r2 => z v H2 μ2 (p'.trans p2) r2 : ∀ v H2 μ2, Post X.K X.mg T μ' H' s2 H2 μ2 → Rp X.K H2 μ2 d v → Q v H2)
  have hl : vs.length = ps.length := by
    by_cases z : xs.length = ps.length
    · rw [ra.length, z]
    · rw [hF xs s1 z] at q1; exact q1.elim
  have hu : us.length = ps.length := by rw [← rv.length, hl]
  have hbb := hb s' us I'.kIn (by simpa using hu)
  rw [List.append_nil] at hbb
  exact run_fok G hr tk I' hbb rv hl p'.rep ra q1 fun h => pass_of tk I' h⟩
theorem qe_call0 {x p : _} {fa : Addr} {fd : FuncData} {F : Fn} (G : FOk X.prog X.w X.K X.mg X.base T j kc fa fd [] F) (hr : Room j X.A) (hg : Gl X x) (hm : X.mg x = some (.ref fa)) (hk : PySem.W.keepIn X.K (.ref fa) = true) (hb : Binds X.K fd [] []) (tk : Takes X W)
    (hdb : (x == ("__debug__" : Str)) = false := by decide) : QE X T k W (.Call (.Name x p) [] [] pos) (eCall F aNil) := ⟨fun pins s σ H Q I ⟨μ, env, sto, rh, re, q⟩ => by
  refine wpAny_Call_Name_kw (ld_glob I hg hm ?_ hdb)
  refine PySem.W.callWith_K0 I.kIn hk ?_
  exact run_fok (vs := []) (xs := []) G hr tk I (hb s [] I.kIn rfl) .nil rfl rh rfl q fun h => pass_of tk I h⟩
/-- x(..), x a name that holds a function -/
def eSlot (i : Nat) (fs : EvA) : Ev := fun env s => match env[i]? with
  | some (some (.f _ g)) => bind (fs env s) fun xs s1 => match plain xs with
    | some ds => g ds s1
    | none => none
  | _ => none
theorem RpAts.plain' {P : Program} {w : World} {K : PySem.W.Frag} {mg : Str → Option Value} {base : Heap} {h : Heap} {H0 : Hp} {fs ex : List Addr} {H : Hp} {μ : List Addr} : ∀ {xs : List TP.A} {ds : List D} {vs : List V}, plain xs = some ds → RpAts P w K mg base T k h H0 fs ex H μ xs vs → Rps K H μ ds vs
  | [], _, _, e, r => by cases e; exact r
  | .d x :: xs, _, _, e, ⟨v, ws, h1, h2, h3⟩ => by
    simp only [TP.plain] at e
    cases hp : TP.plain xs with
    | none => rw [hp] at e; cases e
    | some ys =>
      rw [hp] at e; cases e
      exact ⟨v, ws, h1, h2, RpAts.plain' hp h3⟩
  | .f _ g :: xs, _, _, e, _ => by cases e
theorem qe_slot {i : Nat} {x : Str} {p : Pos} (hr : Room k X.A) (hN : X.N[i]? = some x) (hv : Vis X.env.scope x) (tk : Takes X W) (ha : QAR X T k k W (e :: es) fs) (hd : (x == ("__debug__" : Str)) = false := by decide) (hcd : (x == ("__classdict__" : Str)) = false := by decide)
    (he : starEach (e :: es) X.env = (false, eval e X.env) :: starEach es X.env := by rfl) (hpl : (backTo pos (starEach es X.env)).any (·.1) = false := by rfl) : QE X T k W (.Call (.Name x p) (e :: es) [] pos) (eSlot i fs) := ⟨fun pins s σ H Q I ⟨μ, env, sto, rh, re, q⟩ => by
  unfold eSlot at q
  split at q
  · rename_i n g hi
    obtain ⟨v, h1, h2⟩ := re.slot i _ hi
    refine wpAny_Call_Name_kw (thn ((pe_var (pos := p) hN hv hd hcd).run pins s σ H (fun u H1 => u = v ∧ H1 = H) I ⟨v, h1, rfl, rfl⟩) fun u s1 ⟨v', H1, I1, rv, e1, e2⟩ => ?_)
    subst e1; rw [e2] at I1
    obtain ⟨fa, PL, μ0, Hc, rfl, c2, ⟨c3, c3'⟩, c4, c5⟩ := h2
    obtain rfl : u = Value.ref fa := rv
    refine PySem.W.callWith_F (first := []) (c5.1 _ _ _ _ (c2.now I1) I1.kIn) (ha pos pins s1 σ H μ env sto _ I1 rh re (q.bind.imp fun xs s2 q2 us s' vs H' μ' I' p' r' ra => ⟨c5.1 _ _ _ _ (c2.now I') I'.kIn, ?_⟩)) he hpl
    show wpAny _ _ (call (.ref fa) us) _ _ _
    split at q2
    · rename_i ds hp
      refine pass_of tk I' (c5.2 X.A X.stack s' H' us vs ds μ' s2 Q (fun cls dx H' => W cls dx σ H') hr I'.env0 (c2.now I') (c4.trans p'.ext) ?_ p'.rep (ra.plain' hp) r' ?_)
      · obtain ⟨m1, e1⟩ := c3'
        obtain ⟨m2, e2⟩ := p'.pre
        exact ⟨m1 ++ m2, by rw [e2, e1]; simp⟩
      · have q2 := q2.later p' fun d s2 (z : ∀ v H' μ', _ → _ → _) => (fun v H2 μ2 p2 r2 => z v H2 μ2 (p'.trans p2) r2 : ∀ v H2 μ2, Post X.K X.mg T μ' H' s2 H2 μ2 → Rp X.K H2 μ2 d v → Q v H2)
        generalize g ds s2 = m at q2 ⊢
        match m, q2 with
        | some (.ok d, s1), q2 => exact q2
        | some (.error x, s1), q2 => exact q2
    · exact q2.elim
  · exact q.elim⟩
theorem qe_slot0 {i : Nat} {x : Str} {p : Pos} (hr : Room k X.A) (hN : X.N[i]? = some x) (hv : Vis X.env.scope x) (tk : Takes X W) (hd : (x == ("__debug__" : Str)) = false := by decide) (hcd : (x == ("__classdict__" : Str)) = false := by decide) :
    QE X T k W (.Call (.Name x p) [] [] pos) (eSlot i aNil) := ⟨fun pins s σ H Q I ⟨μ, env, sto, rh, re, q⟩ => by
  unfold eSlot at q
  split at q
  · rename_i n g hi
    obtain ⟨v, h1, h2⟩ := re.slot i _ hi
    refine wpAny_Call_Name_kw (thn ((pe_var (pos := p) hN hv hd hcd).run pins s σ H (fun u H1 => u = v ∧ H1 = H) I ⟨v, h1, rfl, rfl⟩) fun u s1 ⟨v', H1, I1, rv, e1, e2⟩ => ?_)
    subst e1; rw [e2] at I1
    obtain ⟨fa, PL, μ0, Hc, rfl, c2, ⟨c3, c3'⟩, c4, c5⟩ := h2
    obtain rfl : u = Value.ref fa := rv
    refine PySem.W.callWith_F0 (first := []) (c5.1 _ _ _ _ (c2.now I1) I1.kIn) ?_
    show wpAny _ _ (call (.ref fa) []) _ _ _
    refine pass_of tk I1 (c5.2 X.A X.stack s1 H [] [] [] μ sto Q (fun cls dx H' => W cls dx σ H') hr I1.env0 (c2.now I1) c4 c3' rh rfl .nil ?_)
    have q2 : DenW X T W σ μ H (fun d sto' => ∀ v H' μ', Post X.K X.mg T μ H sto' H' μ' → Rp X.K H' μ' d v → Q v H') (g [] sto) := q
    generalize g [] sto = m at q2 ⊢
    match m, q2 with
    | some (.ok d, s1), q2 => exact q2
    | some (.error x, s1), q2 => exact q2
  · exact q.elim⟩
end
end TP
/-! Lambdas handed to defs. -/
namespace TP
open PySem PySem.Spec PyProof.Rows L2 LamX

/-- the names of a lambda's body: parameters, then captured ones -/
structure LScope (N ps fr : List Str) (sc scope : Scope) : Prop where
  kind : scope.kind = .function
  co : scope.isCoroutine = false
  gen : scope.isGenerator = false
  nd : N.Nodup
  pre : ∃ more, N = ps ++ fr ++ more ∧ ∀ x ∈ more, scope.names.lookup x = none
  par : ∀ x ∈ ps, scope.names.lookup x = some .local
  cap : ∀ x ∈ fr, scope.names.lookup x = some .free
  nocell : ∀ y ∈ scope.names, y.2 ≠ .cell
  free : ∀ y ∈ scope.names, y.2 = .free → sc.names.lookup y.1 = some .cell ∨ sc.names.lookup y.1 = some .free
def lscB (N ps fr : List Str) (sc scope : Scope) : Bool :=
  decide (scope.kind = .function) && !scope.isCoroutine && !scope.isGenerator && decide N.Nodup && decide (N.take (ps ++ fr).length = ps ++ fr) && ((N.drop (ps ++ fr).length).all fun x => decide (scope.names.lookup x = none)) &&
    (ps.all fun x => decide (scope.names.lookup x = some .local)) && (fr.all fun x => decide (scope.names.lookup x = some .free)) && (scope.names.all fun y => !decide (y.2 = .cell)) &&
    (scope.names.all fun y => !decide (y.2 = .free) || decide (sc.names.lookup y.1 = some .cell) || decide (sc.names.lookup y.1 = some .free))
theorem lscope_by {N ps fr : List Str} {sc scope : Scope} (h : lscB N ps fr sc scope = true) : LScope N ps fr sc scope := by
  unfold lscB at h
  simp only [Bool.and_eq_true, Bool.or_eq_true, Bool.not_eq_true', decide_eq_true_eq, decide_eq_false_iff_not, List.all_eq_true] at h
  obtain ⟨⟨⟨⟨⟨⟨⟨⟨⟨h1, h2⟩, h3⟩, h4⟩, h5⟩, h6⟩, h7⟩, h8⟩, h9⟩, h10⟩ := h
  refine ⟨h1, h2, h3, h4, ⟨N.drop (ps ++ fr).length, by have z := List.take_append_drop (ps ++ fr).length N; rw [h5] at z; exact z.symm, h6⟩, h7, h8, h9, fun y hy e => ?_⟩
  rcases h10 y hy with (z | z) | z
  · exact absurd e z
  · exact .inl z
  · exact .inr z
abbrev lamE (qual : Str) (scope : Scope) (cl : List (Str × Addr)) (L f c' : Addr) : PySem.Env := PySem.W.envX (qual ++ "<lambda>") scope L f (.ref c') cl
/-- the context of a lambda's body -/
def lamC (P : Program) (w : World) (K : PySem.W.Frag) (mg : Str → Option Value) (base : Heap) (N : List Str) (qual : Str) (scope : Scope) (cl : List (Str × Addr)) (f c' : Addr) (A : Around) (outer : List PySem.Env) (s : Shared) (H : Hp) (E : XK) : Cx where
  prog := P
  w := w
  K := K
  mg := mg
  base := base
  A := A.deeper (lamE qual scope cl s.heap.objs.size f c')
  N := N
  s_0 := s
  H_0 := H
  env := lamE qual scope cl s.heap.objs.size f c'
  outer := outer
  stack := lamE qual scope cl s.heap.objs.size f c' :: outer
  ex := []
  fn := fun _ => false
  calm := true
  pn := []
  xe := fun e s' => wpAny (model P w) (A.deeper (lamE qual scope cl s.heap.objs.size f c')) (leaving (lamE qual scope cl s.heap.objs.size f c') e) (fun _ s'' => L2.CX P w outer H s E e s'') (fun e' s'' => L2.CX P w outer H s E e' s'') s'
/-- what a captured name's cell holds -/
def CellV (PL : List (Addr × Obj)) (cl : List (Str × Addr)) (y : Str) (o : Option V) : Prop := ∀ v, o = some v → ∃ c ob u, cl.lookup y = some c ∧ (c, ob) ∈ PL ∧ ob.data = .cell (some u) ∧ RelV v u
section
variable {P : Program} {w : World} {K : PySem.W.Frag} {mg : Str → Option Value} {base : Heap} {T : List (Addr × Str)} {N ps fr : List Str} {qual : Str} {sc scope : Scope} {cl : List (Str × Addr)} {f c' : Addr} {PL : List (Addr × Obj)} {ws : List (Option V)}
theorem zip_lookup {ps : List Str} {us : List Value} {i : Nat} {x : Str} {u : Value} (nd : ps.Nodup) (h1 : ps[i]? = some x) (h2 : us[i]? = some u) : (ps.zip us).reverse.lookup x = some u := NdefX.zip_look nd h1 h2
theorem lam_inv {A : Around} {outer : List PySem.Env} {s1 : Shared} {HZ : Hp} {E : XK} {h₁ : Heap} {tk : Nat} {us : List Value} {vs : List V} (S : LScope N ps fr sc scope) (e0 : Env0 P w K mg base A outer s1 HZ) (hd : A.handled = none) (pin : Pinned s1.heap HZ (frs outer) [] PL)
    (inj : ∀ x y c, cl.lookup x = some c → cl.lookup y = some c → x = y) (has : ∀ y ∈ scope.names, y.2 = .free → ∃ c, cl.lookup y.1 = some c) (cells : ∀ y c, cl.lookup y = some c → ∃ ob v, (c, ob) ∈ PL ∧ ob.data = .cell v)
    (hws : ws.length = fr.length) (hwv : ∀ (i : Nat) y o, fr[i]? = some y → ws[i]? = some o → CellV PL cl y o) (hl : vs.length = ps.length) (r : Vals vs us)
    (hns : h₁.Ns s1.heap.objs.size fun y => (ps.zip us).reverse.lookup y) (kp : ∀ b o, s1.heap.get? b = some o → h₁.get? b = some o) :
    Inv (lamC P w K mg base N qual scope cl f c' A outer s1 HZ E) [] (vs.map some ++ ws ++ List.replicate (N.length - ps.length - fr.length) none) HZ { s1 with heap := h₁, toks := tk } := by
  have noA : ∀ b : Addr, b ∉ (lamC P w K mg base N qual scope cl f c' A outer s1 HZ E).ex := fun b z => absurd (show b ∈ ([] : List Addr) from z) (by simp)
  have cellK : ∀ {y c}, cl.lookup y = some c → ∃ v, s1.heap.IsCell c v ∧ HZ c = none := fun {y c} e => by
    obtain ⟨ob, v, h1, h2⟩ := cells y c e
    obtain ⟨⟨sl, h3⟩, h4, _⟩ := pin _ h1
    exact ⟨v, ⟨_, h3, h2⟩, h4⟩
  obtain ⟨more, hN, hmore⟩ := S.pre
  refine ⟨⟨e0.mod, S.kind, rfl, rfl, Nat.le_refl _, inj, fun y hy => ?_, fun y c z _ => ?_, fun _ => hd, Around.frames_deeper e0.frames, .inr ⟨rfl, rfl⟩, fun b z => absurd z (noA b), e0.bs, e0.bsz, fun b _ _ => noA b, fun b z => absurd z (noA b), e0.funs, e0.frf⟩,
    rfl, e0.bare, Un.kept kp, ⟨_, hns, fun i y v h1 h2 h3 => ?_⟩, fun y c e => ?_, e0.hok.fresh (Nat.le_refl _), fun y c e => (cellK e).choose_spec.2, fun q hq => absurd (show q ∈ ([] : List (Addr × Obj)) ++ [] from hq) (by simp), e0.hok.kept kp, ?_⟩
  · have hy : scope.names.lookup y = some .cell ∨ scope.names.lookup y = some .free := hy
    rcases hy with hy | hy
    · exact absurd rfl (S.nocell _ (PySem.mem_of_lookup hy))
    · exact has _ (PySem.mem_of_lookup hy) rfl
  · have z : false = true := z
    cases z
  · have h1 : N[i]? = some y := h1
    rw [hN] at h1
    by_cases hi : i < ps.length
    · rw [List.append_assoc, List.getElem?_append_left (by simpa [hl] using hi), List.getElem?_map] at h2
      cases hv : vs[i]? with
      | none => rw [hv] at h2; cases h2
      | some v' =>
        rw [hv] at h2; cases h2
        obtain ⟨u, hu, rv⟩ := r.get hv
        rw [List.append_assoc, List.getElem?_append_left hi] at h1
        have ndP : ps.Nodup := by
          have := S.nd
          rw [hN, List.append_assoc] at this
          exact (List.nodup_append.mp this).1
        exact ⟨u, rv, .inl ⟨S.par y (List.mem_of_getElem? h1), zip_lookup ndP h1 hu⟩⟩
    · by_cases hi2 : i < ps.length + fr.length
      · rw [List.getElem?_append_left (by simp [hl, hws]; omega), List.getElem?_append_right (by simp [hl]; omega)] at h2
        simp only [List.length_map, hl] at h2
        rw [List.getElem?_append_left (by simp; omega), List.getElem?_append_right (by omega)] at h1
        obtain ⟨c, ob, u, e1, e2, e3, rv⟩ := hwv _ y _ h1 h2 v rfl
        obtain ⟨⟨sl, p1⟩, _⟩ := pin _ e2
        exact ⟨u, rv, .inr ⟨.inr (S.cap y (List.mem_of_getElem? h1)), c, e1, ⟨_, kp _ _ p1, e3⟩⟩⟩
      · rw [List.getElem?_append_right (by simp [hl, hws]; omega), List.getElem?_replicate] at h2
        split at h2 <;> cases h2
  · obtain ⟨v, ⟨ob, h1, h2⟩, _⟩ := cellK e
    exact ⟨v, ob, kp _ _ h1, h2⟩
  · show _ = N.length
    simp only [List.length_append, List.length_map, List.length_replicate, hl, hws]
    have : N.length = ps.length + fr.length + more.length := by rw [hN]; simp; omega
    omega

/-- what the call of a lambda gives -/
def callL (n m : Nat) (caps : List (Option TP.A)) (b : Ev) : FnD := fun ds s => if ds.length = m then match trimS s (sRet b (ds.map (fun d => some (TP.A.d d)) ++ caps ++ List.replicate n none) s) with
  | some (.ok (.rt d), s1) => some (.ok d, s1)
  | some (.error x, s1) => some (.error x, s1)
  | _ => none
  else none
theorem callL_ok {X : Cx} {k : Nat} {μ : List Addr} {H : Hp} {sto : Sto} {n m : Nat} {caps : List (Option TP.A)} {b : Ev} {ds : List D} {E : XK} {Q : VK} {σ : L2.St} (rh : RepH X.K X.mg T μ sto H)
    (q : Den X.K X.mg T E μ H Q (callL n m caps b ds sto)) : ds.length = m ∧ DenW X T (WE E) σ μ H (fun d s1 => ∀ v H' μ', Post X.K X.mg T μ H s1 H' μ' → Rp X.K H' μ' d v → Q v H') (b (ds.map (fun d => some (TP.A.d d)) ++ caps ++ List.replicate n none) sto) := by
  have hm : ds.length = m := by
    by_cases z : ds.length = m
    · exact z
    · unfold callL at q
      rw [if_neg z] at q
      exact q.elim
  refine ⟨hm, ?_⟩
  have q2 : DenS X T k (WE E) μ H { nx := fun _ _ => False, rt := Q } (trimS sto (sRet b (ds.map (fun d => some (TP.A.d d)) ++ caps ++ List.replicate n none) sto)) := by
    unfold callL at q
    rw [if_pos hm] at q
    generalize trimS sto (sRet b (ds.map (fun d => some (TP.A.d d)) ++ caps ++ List.replicate n none) sto) = m at q ⊢
    match m, q with
    | some (.error y, s1), q => exact fun cls dx H' σ' p => q cls dx H' p
    | some (.ok (.rt d), s1), q => exact q
  have q3 := q2.trim rh
  unfold sRet at q3
  exact (DenS.bind (σ := σ) q3).imp fun d s1 h => h
end

section
variable {X : Cx} {T : List (Addr × Str)} {k kc kb : Nat} {W : WX} {e : Expr} {es : List Expr} {fs : EvA} {pos : Pos} {N ps fr : List Str} {scope : Scope} {params : Arguments} {body : Expr} {js : List Nat} {b : Ev}
/-- the captured names' values -/
def capsOf (js : List Nat) (env : Env) : List (Option TP.A) := js.map fun j => (env[j]?).join
def aLam (n m : Nat) (js : List Nat) (b : Ev) : EvA := fun env s => ret [.f s.length (callL n m (capsOf js env) b)] s
theorem clo_inj {cells : List (Str × Addr)} {names : List (Str × NameKind)} (hfree : ∀ y ∈ names, y.2 = .free → ∃ c, cells.lookup y.1 = some c) (inj : ∀ x y c, cells.lookup x = some c → cells.lookup y = some c → x = y) :
    ∀ x y c, (cloFrom cells names []).lookup x = some c → (cloFrom cells names []).lookup y = some c → x = y := fun x y c h1 h2 => inj x y c (NdefX.clo_cm hfree h1) (NdefX.clo_cm hfree h2)
/-- PL of the values that are captured -/
theorem caps_pl {σ : L2.St} {H : Hp} {μ : List Addr} {env : Env} {pins : List (Addr × Obj)} {s : Shared} (I : Inv X pins σ H s) (re : RepE X T k H μ env σ) : ∀ js : List Nat, ∃ PL : List (Addr × Obj), Pinned s.heap H (frs X.stack) [] PL ∧
    ∀ j ∈ js, ∀ x, env[j]? = some (some x) → ∃ v, σ[j]? = some (some v) ∧ (match x with
      | .d d => Rp X.K H μ d v
      | .f n g => ∃ f PL' μ0 Hc, v = .ref f ∧ (∀ p ∈ PL', p ∈ PL) ∧ (μ0.length ≤ n ∧ ∃ more, μ = μ0 ++ more) ∧ Ext Hc H ∧ Callable X.prog X.w X.K X.mg X.base T k PL' μ0 Hc f g)
  | [] => ⟨[], (fun _ h => nomatch h), (fun _ h => nomatch h)⟩
  | j :: js => by
    obtain ⟨PL, p1, p2⟩ := caps_pl I re js
    cases hj : env[j]? with
    | none => exact ⟨PL, p1, fun i hi x hx => by
        rcases List.mem_cons.mp hi with rfl | hi
        · rw [hj] at hx; cases hx
        · exact p2 i hi x hx⟩
    | some o =>
      cases o with
      | none => exact ⟨PL, p1, fun i hi x hx => by
          rcases List.mem_cons.mp hi with rfl | hi
          · rw [hj] at hx; cases hx
          · exact p2 i hi x hx⟩
      | some x =>
        obtain ⟨v, h1, h2⟩ := re.slot j x hj
        cases x with
        | d d => exact ⟨PL, p1, fun i hi x hx => by
            rcases List.mem_cons.mp hi with rfl | hi
            · rw [hj] at hx; cases hx; exact ⟨v, h1, h2⟩
            · exact p2 i hi x hx⟩
        | f n g =>
          obtain ⟨f, PL', μ0, Hc, e1, e2, e3, e4, e5⟩ := h2
          refine ⟨PL' ++ PL, fun p hp => (List.mem_append.mp hp).elim (e2.now I p) (p1 p), fun i hi x hx => ?_⟩
          rcases List.mem_cons.mp hi with rfl | hi
          · rw [hj] at hx; cases hx
            exact ⟨v, h1, f, PL', μ0, Hc, e1, fun p hp => List.mem_append_left _ hp, e3, e4, e5⟩
          · obtain ⟨v', q1, q2⟩ := p2 i hi x hx
            refine ⟨v', q1, ?_⟩
            cases x with
            | d d => exact q2
            | f n' g' =>
              obtain ⟨f', PL'', μ0', Hc', e1', e2', e3', e4', e5'⟩ := q2
              exact ⟨f', PL'', μ0', Hc', e1', fun p hp => List.mem_append_right _ (e2' p hp), e3', e4', e5'⟩
/-- the last argument is a lambda -/
theorem qar_lam {c Pt : Addr} {lpos : Pos} (S : LScope N ps fr X.env.scope scope) (TB : TabB X.base X.mg c Pt) (hcode : X.env.code = .ref c) (hm : (Pt, X.env.qual ++ "<lambda>") ∈ T) (hu : ∀ p ∈ T, p.1 = Pt → p.2 = X.env.qual ++ "<lambda>") (hdef : defaultsOf params X.env = ([], []))
    (hbind : ∀ (q : Str) (cl : List (Str × Addr)) (pm cv ctv : Value) (us : List Value), us.length = ps.length → bindArgs (PySem.W.kla_fn "<lambda>" q params body scope cl pm cv ctv) ⟨us, []⟩ = pure (ps.zip us))
    (hjs : js.map (fun j => X.N[j]?) = fr.map some) (hkb : kb + 1 ≤ kc)
    (hbody : ∀ (cl : List (Str × Addr)) (f c' : Addr) (A : Around) (outer : List PySem.Env) (s : Shared) (H : Hp) (E : XK), Room kb (lamC X.prog X.w X.K X.mg X.base N X.env.qual scope cl f c' A outer s H E).A → QE (lamC X.prog X.w X.K X.mg X.base N X.env.qual scope cl f c' A outer s H E) T k (WE E) body b) :
    QAR X T k kc W [.Lambda params body scope lpos] (aLam (N.length - ps.length - fr.length) ps.length js b) := fun pos pins s σ H μ env sto Q I rh re q => by
  have hfree : ∀ y ∈ scope.names, y.2 = .free → ∃ c, X.env.cells.lookup y.1 = some c := fun y hy e => by
    rcases S.free y hy e with z | z
    · exact I.ok.has _ (.inl z)
    · exact I.ok.has _ (.inr z)
  show wpAny _ _ (spliced ((false, eval (.Lambda params body scope lpos) X.env) :: backTo pos (starEach [] X.env))) _ _ s
  refine Calls.spliced_cons (lam_make2 I TB hcode hm hu rh.tabs hdef hfree fun f c' pm ctv H1 s' I1 eN T1 hf hfn hfr hco => ?_)
  refine Calls.spliced_nil ?_
  have ext : Ext H H1 := ⟨fun a xs h => eN a _ h (fun _ z => by cases z), fun a o u h => eN a _ h (fun _ z => by cases z), fun a φ h => eN a _ h (fun _ z => by cases z)⟩
  have rh1 : RepH X.K X.mg T μ sto H1 := ⟨rh.len, rh.nd, fun n c a h1 h2 => by
    have rc := rh.cell n c a h1 h2
    obtain ⟨o, ho, hnt⟩ := rc.some
    exact rc.mono ext (fun _ _ z => z) ((eN a o ho hnt).trans ho.symm), T1⟩
  have p1 : Post X.K X.mg T μ H sto H1 μ := ⟨ext, ⟨[], by simp⟩, rh1⟩
  have re1 := re.mono p1
  refine q [.ref f] s' [.ref f] H1 μ I1 p1 (.cons rfl .nil) ⟨.ref f, [], rfl, ?_, rfl⟩
  obtain ⟨PL0, pin0, cap0⟩ := caps_pl I1 re1 js
  let cl := cloFrom X.env.cells scope.names []
  have cm : ∀ {y c}, cl.lookup y = some c → X.env.cells.lookup y = some c := fun e => NdefX.clo_cm hfree e
  -- the cells that are captured
  have cellPL : ∀ l : List (Str × Addr), (∀ p ∈ l, X.env.cells.lookup p.1 = some p.2) → ∃ PLc : List (Addr × Obj), Pinned s'.heap H1 (frs X.stack) [] PLc ∧ ∀ p ∈ l, ∃ ob v, (p.2, ob) ∈ PLc ∧ s'.heap.get? p.2 = some ob ∧ ob.data = .cell v := by
    intro l
    induction l with
    | nil => exact fun _ => ⟨[], (fun _ h => nomatch h), (fun _ h => nomatch h)⟩
    | cons p r ih =>
      intro hl
      obtain ⟨PLc, q1, q2⟩ := ih fun z hz => hl z (List.mem_cons_of_mem _ hz)
      obtain ⟨v, ob, ho, hd⟩ := I1.cell p.1 p.2 (hl p List.mem_cons_self)
      refine ⟨(p.2, ob) :: PLc, fun z hz => ?_, fun z hz => ?_⟩
      · rcases List.mem_cons.mp hz with rfl | hz
        · exact ⟨⟨ob.slots, ho⟩, I1.freeC _ _ (hl p List.mem_cons_self), by simp⟩
        · exact q1 z hz
      · rcases List.mem_cons.mp hz with rfl | hz
        · exact ⟨ob, v, List.mem_cons_self, ho, hd⟩
        · obtain ⟨ob', v', z1, z2⟩ := q2 z hz
          exact ⟨ob', v', List.mem_cons_of_mem _ z1, z2⟩
  obtain ⟨PLc, pinc, capc⟩ := cellPL cl (fun p hp => by
    rcases cloFrom_mem hp with hm | ⟨h1, h2⟩
    · cases hm
    · obtain ⟨c1, hc1⟩ := hfree _ h1 rfl
      have hc1 : X.env.cells.lookup p.1 = some c1 := hc1
      rw [h2, hc1]; rfl)
  let fo := PySem.W.kla_obj "<lambda>" (X.env.qual ++ "<lambda>") params body scope cl pm c' ctv
  refine ⟨f, (f, fo) :: (PLc ++ PL0), μ, H1, rfl, fun p hp => ?_, ⟨by rw [rh.len]; exact Nat.le_refl _, [], by simp⟩, Ext.refl _, ?_⟩
  · rcases List.mem_cons.mp hp with rfl | hp
    · exact ⟨⟨fo.slots, hf⟩, hfn, by simp⟩
    · exact (List.mem_append.mp hp).elim (pinc p) (pin0 p)
  · refine ⟨fun h H fs ex pin _ => let ⟨sl, e⟩ := (pin (f, fo) List.mem_cons_self).1; ⟨_, _, _, sl, e⟩, fun A outer s2 H2 us vs ds μ2 sto2 Q2 E hr e0 pin ext2 pre2 rh2 rd rv q2 => ?_⟩
    have hrb : Room (kb + 1) A := hr.mono hkb
    have hds : vs.length = ds.length := rd.length
    -- the captured values
    obtain ⟨slf, of1⟩ := (pin (f, fo) List.mem_cons_self).1
    have hco2 : H2 c' = some (CodeO c' (X.env.qual ++ "<lambda>")) := ext2.ext _ _ hco
    obtain ⟨⟨oc, vsc, t, hoc, hdc, hvc⟩, _, _⟩ := e0.hok c' _ hco2
    obtain ⟨hds', _⟩ := callL_ok (X := X) (k := k) (σ := σ) rh2 q2
    have hl : vs.length = ps.length := by rw [hds, hds']
    have hul : us.length = ps.length := by rw [← rv.length, hl]
    refine PySem.W.kla_callFunE hrb.depth of1 rfl S.co S.gen rfl ⟨c', oc, vsc, t, rfl, hoc, hdc, hvc⟩ ?_
    rw [hbind _ _ _ _ _ us hul]
    have lim : s2.heap.NoLimit := e0.mod.nolimit.keeps fun b o e => (e0.bs b o e).1
    refine wpAny_pure (wpAny_newFunctionEnv (fun y hy => S.nocell y hy) (fun y hy => S.par _ (List.of_mem_zip hy).1) (fun h₁ hns hsb => ⟨lim.fresh _ hsb, ?_⟩) S.kind)
    have kp : ∀ b o, s2.heap.get? b = some o → h₁.get? b = some o := fun b o e => hsb.extBut b o (Nat.ne_of_lt (Heap.lt_size e)) (Heap.get?_push_of_some _ e)
    have hfr : js.length = fr.length := by have := congrArg List.length hjs; simpa using this
    have pinA : Pinned s2.heap H2 (frs outer) [] ((f, fo) :: (PLc ++ PL0)) := pin
    obtain ⟨m1, hn1, hl1⟩ := I1.loc
    have atj : ∀ (i : Nat) y, fr[i]? = some y → ∃ j, js[i]? = some j ∧ X.N[j]? = some y := fun i y hy => by
      have := congrArg (·[i]?) hjs
      simp only [List.getElem?_map, hy, Option.map_some] at this
      cases hj : js[i]? with
      | none => rw [hj] at this; cases this
      | some j => rw [hj] at this; exact ⟨j, rfl, Option.some.inj this⟩
    have J := lam_inv (E := E) (f := f) (c' := c') (cl := cl) (ws := js.map fun j => (σ[j]?).join) (tk := s2.toks + (ps.zip us).length) (mg := X.mg) (N := N) (qual := X.env.qual) S e0 hr.hd pinA (clo_inj hfree I1.ok.inj)
      (fun y hy e => by
        obtain ⟨c, hc⟩ := hfree y hy e
        exact ⟨c, NdefX.clo_has hfree (by rw [← e]; exact hy) hc⟩)
      (fun y c e => by
        obtain ⟨ob, v, h1, _, h3⟩ := capc (y, c) (PySem.mem_of_lookup e)
        exact ⟨ob, v, List.mem_cons_of_mem _ (List.mem_append_left _ h1), h3⟩)
      (by simp [hfr])
      (fun i y o hy ho v hv => by
        obtain ⟨j, hj, hNj⟩ := atj i y hy
        simp only [List.getElem?_map, hj, Option.map_some] at ho
        have ho := Option.some.inj ho
        rw [hv] at ho
        have hσ : σ[j]? = some (some v) := by
          cases hz : σ[j]? with
          | none => rw [hz] at ho; cases ho
          | some z => rw [hz] at ho; cases z with
            | none => cases ho
            | some z => cases ho; rfl
        have hfree' : (y, NameKind.free) ∈ scope.names := PySem.mem_of_lookup (S.cap y (List.mem_of_getElem? hy))
        have hk := S.free _ hfree' rfl
        have hvis : Vis X.env.scope y := hk.elim (fun k => .inr (.inl k)) (fun k => .inr (.inr k))
        obtain ⟨u, ru, lu⟩ := hl1 j y v hNj hσ hvis
        rcases lu with ⟨kl, _⟩ | ⟨_, c, hc, ob, hob, hod⟩
        · have kl : X.env.scope.names.lookup y = some .local := kl
          rcases hk with q | q <;> rw [show X.env.scope.names.lookup y = _ from q] at kl <;> cases kl
        · have hcl : cl.lookup y = some c := NdefX.clo_has hfree hfree' hc
          obtain ⟨ob', v', h1, h2, h3⟩ := capc (y, c) (PySem.mem_of_lookup hcl)
          have : ob' = ob := Option.some.inj (h2.symm.trans hob)
          subst this
          exact ⟨c, ob', u, hcl, List.mem_cons_of_mem _ (List.mem_append_left _ h1), hod, ru⟩)
      hl rv hns kp
    have hX : Den X.K X.mg T E μ2 H2 Q2 (callL (N.length - ps.length - fr.length) ps.length (capsOf js env) b ds sto2) := q2
    obtain ⟨_, q3⟩ := callL_ok (X := lamC X.prog X.w X.K X.mg X.base N X.env.qual scope cl f c' A outer s2 H2 E) (k := k) (σ := vs.map some ++ (js.map fun j => (σ[j]?).join) ++ List.replicate (N.length - ps.length - fr.length) none) rh2 hX
    have re2 : RepE (lamC X.prog X.w X.K X.mg X.base N X.env.qual scope cl f c' A outer s2 H2 E) T k H2 μ2 (ds.map (fun d => some (TP.A.d d)) ++ capsOf js env ++ List.replicate (N.length - ps.length - fr.length) none) (vs.map some ++ (js.map fun j => (σ[j]?).join) ++ List.replicate (N.length - ps.length - fr.length) none) := by
      refine ⟨by simp [capsOf, hds], fun i x hx => ?_⟩
      by_cases h1 : i < ds.length
      · rw [List.append_assoc, List.getElem?_append_left (by simpa using h1), List.getElem?_map] at hx
        cases hd : ds[i]? with
        | none => rw [hd] at hx; cases hx
        | some d =>
          rw [hd] at hx; cases hx
          obtain ⟨v, hv, rv'⟩ := rd.get hd
          refine ⟨v, ?_, rv'⟩
          rw [List.append_assoc, List.getElem?_append_left (by simp [hds]; exact h1), List.getElem?_map, hv]; rfl
      · by_cases h2 : i < ds.length + js.length
        · rw [List.getElem?_append_left (by simp [capsOf]; omega), List.getElem?_append_right (by simp; omega)] at hx
          simp only [List.length_map, capsOf, List.getElem?_map] at hx
          cases hj : js[i - ds.length]? with
          | none => rw [hj] at hx; cases hx
          | some j =>
            rw [hj] at hx
            simp only [Option.map_some] at hx
            have hx := Option.some.inj hx
            have hej : env[j]? = some (some x) := by
              cases hz : env[j]? with
              | none => rw [hz] at hx; cases hx
              | some z => rw [hz] at hx; cases z with
                | none => cases hx
                | some z => cases hx; rfl
            obtain ⟨v, c1, c2⟩ := cap0 j (List.mem_of_getElem? hj) x hej
            refine ⟨v, ?_, ?_⟩
            · rw [List.getElem?_append_left (by simp [hds]; omega), List.getElem?_append_right (by simp [hds]; omega)]
              simp only [List.length_map, hds, List.getElem?_map, hj, Option.map_some, c1]
              rfl
            · obtain ⟨mm, hmm⟩ := pre2
              cases x with
              | d d => exact Rp.mono ext2 (fun n a e => by rw [hmm, List.getElem?_append_left (List.getElem?_eq_some_iff.mp e).1]; exact e) c2
              | f n g =>
                obtain ⟨f', PL', μ0', Hc', e1, e2, ⟨e3, more, e4⟩, e5, e6⟩ := c2
                exact ⟨f', PL', μ0', Hc', e1, fun p hp => pin p (List.mem_cons_of_mem _ (List.mem_append_right _ (e2 p hp))), ⟨e3, more ++ mm, by rw [hmm, e4]; simp⟩, e5.trans ext2, e6⟩
        · rw [List.getElem?_append_right (by simp [capsOf]; omega), List.getElem?_replicate] at hx
          split at hx <;> cases hx
    refine PySem.W.kla_codeExpr (wpAny_mono ((hbody cl f c' A outer s2 H2 E (hrb.deeper _)).run [] _ _ H2 Q2 J (tE.go rh2 re2 (q3.imp fun d s3 z v H3 μ3 p3 _ r3 => z v H3 μ3 p3 r3))) (fun v s3 hq => ?_) fun e s3 hq => hq)
    obtain ⟨w', H3, J3, rv3, q4⟩ := hq
    exact ⟨w', H3, J3.os, J3.bare, J3.base, J3.hok, rv3, q4⟩
end
end TP
/-! List comprehensions. -/
namespace TP
open PySem PySem.Spec PyProof.Rows L2 LamX

/-! ### targets of names, told exactly -/
abbrev EvX := D → Option (List (Nat × D))
def SetTo (K : PySem.W.Frag) (H : Hp) (μ : List Addr) : L2.St → List (Nat × D) → L2.St → Prop
  | σ, [], σ' => σ' = σ
  | σ, (i, d) :: r, σ' => ∃ v, Rp K H μ d v ∧ SetTo K H μ (σ.set i (some v)) r σ'
def tX (X : Cx) (T : List (Addr × Str)) (f : EvX) : TG := fun v σ H Q => ∃ μ sto d asg, RepH X.K X.mg T μ sto H ∧ Rp X.K H μ d v ∧ f d = some asg ∧ ∀ σ', SetTo X.K H μ σ asg σ' → Q σ' H
abbrev EvXs := List D → Option (List (Nat × D))
def tXs (X : Cx) (T : List (Addr × Str)) (f : EvXs) : TGs := fun vs σ H Q => ∃ μ sto ds asg, RepH X.K X.mg T μ sto H ∧ Rps X.K H μ ds vs ∧ f ds = some asg ∧ ∀ σ', SetTo X.K H μ σ asg σ' → Q σ' H
abbrev QX (X : Cx) (T : List (Addr × Str)) (tg : Expr) (f : EvX) : Prop := PG X tg (tX X T f)
abbrev QXs (X : Cx) (T : List (Addr × Str)) (tg : List Expr) (f : EvXs) : Prop := PGs X tg (tXs X T f)
def xName (i : Nat) : EvX := fun d => some [(i, d)]
def xsNil : EvXs := fun ds => match ds with
  | [] => some []
  | _ => none
def xsCons (f : EvX) (g : EvXs) : EvXs := fun ds => match ds with
  | [] => none
  | d :: ds => match f d with
    | some a => match g ds with
      | some b => some (a ++ b)
      | none => none
    | none => none
def xTup (n : Nat) (f : EvXs) : EvX := fun d => match d with
  | .tup ds => if ds.length = n then f ds else none
  | _ => none
section
variable {X : Cx} {T : List (Addr × Str)} {pos : Pos} {K : PySem.W.Frag} {H : Hp} {μ : List Addr}
theorem SetTo.app : ∀ {a b : List (Nat × D)} {σ σ' : L2.St}, SetTo K H μ σ (a ++ b) σ' → ∃ σ1, SetTo K H μ σ a σ1 ∧ SetTo K H μ σ1 b σ'
  | [], _, σ, _, h => ⟨σ, rfl, h⟩
  | (_, _) :: _, _, _, _, ⟨v, r, h⟩ => by
    obtain ⟨σ1, h1, h2⟩ := SetTo.app h
    exact ⟨σ1, ⟨v, r, h1⟩, h2⟩
theorem SetTo.mk : ∀ {a b : List (Nat × D)} {σ σ1 σ' : L2.St}, SetTo K H μ σ a σ1 → SetTo K H μ σ1 b σ' → SetTo K H μ σ (a ++ b) σ'
  | [], _, _, _, _, h, h' => by rw [show _ = _ from h] at h'; exact h'
  | (_, _) :: _, _, _, _, _, ⟨v, r, h⟩, h' => ⟨v, r, SetTo.mk h h'⟩
theorem qx_name {i : Nat} {x : Str} (hN : X.N.Nodup) (hi : X.N[i]? = some x) (hx : Loc X.env.scope x) (hf : X.fn x = true ∨ X.env.scope.names.lookup x = some .local := by first | exact .inl rfl | exact .inr rfl | assumption) : QX X T (.Name x pos) (xName i) :=
  PG.of (pg_name hN hi hx hf) fun v σ H Q ⟨μ, sto, d, asg, rh, r, e, q⟩ => by
    cases e
    exact q _ ⟨v, r, rfl⟩
theorem qxs_nil : QXs X T [] xsNil := PGs.of pgs_nil fun vs σ H Q ⟨μ, sto, ds, asg, rh, r, e, q⟩ => by
  cases ds with
  | nil => cases e; exact ⟨r, q _ rfl⟩
  | cons d ds => cases e
theorem qxs_cons {tg : Expr} {tgs : List Expr} {f : EvX} {g : EvXs} (h1 : QX X T tg f) (h2 : QXs X T tgs g) (hs : (assignEach (tg :: tgs) X.env).map (·.2) = assign tg X.env :: (assignEach tgs X.env).map (·.2) := by rfl) : QXs X T (tg :: tgs) (xsCons f g) :=
  PGs.of (pgs_cons h1 h2 hs) fun vs σ H Q ⟨μ, sto, ds, asg, rh, r, e, q⟩ => by
    cases ds with
    | nil => cases e
    | cons d ds =>
      obtain ⟨v, ws, rfl, rv, rw'⟩ := r
      simp only [xsCons] at e
      split at e
      · rename_i a ha
        split at e
        · rename_i b hb
          cases e
          exact ⟨v, ws, rfl, μ, sto, d, a, rh, rv, ha, fun σ' s1 => ⟨μ, sto, ds, b, rh, rw', hb, fun σ2 s2 => q σ2 (SetTo.mk s1 s2)⟩⟩
        · cases e
      · cases e
theorem qx_tup {tgs : List Expr} {kt : Nat} {f : EvXs} {n : Nat} (hc : X.calm = true) (h : QXs X T tgs f) (hn : (assignEach tgs X.env).length = n := by rfl) (hst : (assignEach tgs X.env).findIdx? (·.1) = none := by rfl) : QX X T (.Tuple tgs kt pos) (xTup n f) :=
  PG.of (pg_tup hc h hn hst) fun v σ H Q ⟨μ, sto, d, asg, rh, r, e, q⟩ => by
    unfold xTup at e
    split at e
    · rename_i ds
      split at e
      · rename_i hl
        obtain ⟨a, vs, rfl, h2, h3⟩ := r
        exact ⟨a, vs, rfl, h2, by rw [h3.length]; exact hl, μ, sto, ds, asg, rh, h3, e, q⟩
      · cases e
    · cases e
end

/-! ### the block -/
def dropF : Option A → Option A
  | some (.d x) => some (.d x)
  | _ => none
def wipeE (env : Env) : List Nat → Env
  | [] => env
  | v :: vs => (wipeE env vs).set v none
def maskE (vs : List Nat) (env : Env) : Env := wipeE (env.map dropF) vs
def setsE (env : Env) : List (Nat × D) → Env
  | [] => env
  | (i, d) :: r => setsE (env.set i (some (.d d))) r
abbrev W0 : WX := fun _ _ _ _ => False
def lcL (gx : EvX) (t : EvB) (e : Ev) (vs : List Nat) (env0 : Env) (chk : Sto → Bool) (nD : Nat) : List D → Sto → Option Sto
  | [], s => if chk s then some s else none
  | d :: ds, s => if chk s then match gx d with
      | some asg => if asg.all (fun p => vs.contains p.1) then match t (setsE env0 asg) s with
          | some (.ok b, s1) => if b then match e (setsE env0 asg) s1 with
              | some (.ok x, s2) => match s2[nD]? with
                | some (.lst acc) => if acc.length < sizeLine then lcL gx t e vs env0 chk nD ds ((trim s (bndD s.length x) s2).set nD (.lst (acc ++ [x]))) else none
                | _ => none
              | _ => none
            else lcL gx t e vs env0 chk nD ds (trim s true s1)
          | _ => none
        else none
      | none => none
    else none
def eLc (fi : EvI) (gx : EvX) (t : EvB) (e : Ev) (vs : List Nat) : Ev := fun env s => bind (fi env s) fun src s1 => match lcL gx t e vs (maskE vs env) src.chk s1.length src.items (s1 ++ [.lst []]) with
  | some s2 => ret (.ref s1.length) s2
  | none => none
def bYes : EvB := fun _ s => ret true s
section
variable {X : Cx} {T : List (Addr × Str)} {k : Nat} {W : WX} {pos : Pos} {σ : L2.St} {μ : List Addr} {H : Hp} {env : Env} {sto : Sto}
theorem wipeE_get {i : Nat} {x : A} : ∀ {vs : List Nat}, (wipeE env vs)[i]? = some (some x) → env[i]? = some (some x) ∧ i ∉ vs
  | [], h => ⟨h, by simp⟩
  | v :: vs, h => by
    unfold wipeE at h
    by_cases hi : v = i
    · subst hi
      by_cases hv : v < (wipeE env vs).length
      · rw [List.getElem?_set_self hv] at h; cases h
      · rw [List.getElem?_eq_none (by simpa using hv)] at h; cases h
    · rw [List.getElem?_set_ne hi] at h
      obtain ⟨h1, h2⟩ := wipeE_get h
      exact ⟨h1, by simp only [List.mem_cons, not_or]; exact ⟨fun e => hi e.symm, h2⟩⟩
theorem wipeE_length : ∀ vs : List Nat, (wipeE env vs).length = env.length
  | [] => rfl
  | v :: vs => by unfold wipeE; rw [List.length_set, wipeE_length vs]
/-- a frame that holds no functions -/
structure RepE0 (K : PySem.W.Frag) (H : Hp) (μ : List Addr) (env : Env) (σ : L2.St) : Prop where
  len : env.length = σ.length
  slot : ∀ (i : Nat) (x : A), env[i]? = some (some x) → ∃ d v, x = .d d ∧ σ[i]? = some (some v) ∧ Rp K H μ d v
theorem RepE0.to {X' : Cx} {K : PySem.W.Frag} (h : RepE0 K H μ env σ) (hK : X'.K = K) : RepE X' T k H μ env σ := ⟨h.len, fun i x e => by
  obtain ⟨d, v, rfl, h1, h2⟩ := h.slot i x e
  exact ⟨v, h1, by show Rp X'.K H μ d v; rw [hK]; exact h2⟩⟩
theorem RepE0.mono {K : PySem.W.Frag} {mg : Str → Option Value} {sto' : Sto} {H' : Hp} {μ' : List Addr} (h : RepE0 K H μ env σ) (p : Post K mg T μ H sto' H' μ') : RepE0 K H' μ' env σ := ⟨h.len, fun i x e => by
  obtain ⟨d, v, rfl, h1, h2⟩ := h.slot i x e
  exact ⟨d, v, rfl, h1, Rp.mono p.ext p.mono h2⟩⟩
def tB0 (X : Cx) (T : List (Addr × Str)) (t : EvB) : TT := fun σ H Q => ∃ μ env sto b s1, RepH X.K X.mg T μ sto H ∧ RepE0 X.K H μ env σ ∧ t env sto = some (.ok b, s1) ∧ ∀ H' μ', Post X.K X.mg T μ H s1 H' μ' → Q b H'
def tE0 (X : Cx) (T : List (Addr × Str)) (t : Ev) : TE := fun σ H Q => ∃ μ env sto b s1, RepH X.K X.mg T μ sto H ∧ RepE0 X.K H μ env σ ∧ t env sto = some (.ok b, s1) ∧ ∀ v H' μ', Post X.K X.mg T μ H s1 H' μ' → Rp X.K H' μ' b v → Q v H'
/-- the masked frame in the block's context -/
theorem RepE.mask (vs : List Nat) (re : RepE X T k H μ env σ) : RepE0 X.K H μ (maskE vs env) (wipe σ vs) := by
  refine ⟨by unfold maskE; rw [wipeE_length, wipe_length, List.length_map, re.len], fun i x h => ?_⟩
  obtain ⟨h1, h2⟩ := wipeE_get h
  rw [List.getElem?_map] at h1
  cases he : env[i]? with
  | none => rw [he] at h1; cases h1
  | some o =>
    rw [he] at h1
    simp only [Option.map_some, Option.some.injEq] at h1
    match o, h1 with
    | some (.d d), h1 =>
      cases h1
      obtain ⟨v, e1, e2⟩ := re.slot i _ he
      exact ⟨d, v, rfl, by rw [wipe_out h2]; exact e1, e2⟩
    | some (.f _ _), h1 => cases h1
    | none, h1 => cases h1
theorem RepE0.set {K : PySem.W.Frag} (h : RepE0 K H μ env σ) {i : Nat} {d : D} {v : V} (r : Rp K H μ d v) : RepE0 K H μ (env.set i (some (.d d))) (σ.set i (some v)) := ⟨by simp [h.len], fun j y e => by
  by_cases hj : i = j
  · subst hj
    have hi : i < env.length := by have := (List.getElem?_eq_some_iff.mp e).1; simpa using this
    rw [List.getElem?_set_self hi] at e
    cases e
    exact ⟨d, v, rfl, by rw [List.getElem?_set_self (by rw [← h.len]; exact hi)], r⟩
  · rw [List.getElem?_set_ne hj] at e
    obtain ⟨d', w, e1, h1, h2⟩ := h.slot j y e
    exact ⟨d', w, e1, by rw [List.getElem?_set_ne hj]; exact h1, h2⟩⟩
theorem RepE0.sets {K : PySem.W.Frag} : ∀ {asg : List (Nat × D)} {env : Env} {σ σ' : L2.St}, RepE0 K H μ env σ → SetTo K H μ σ asg σ' → RepE0 K H μ (setsE env asg) σ'
  | [], _, _, _, re, h => by rw [show _ = _ from h]; exact re
  | (i, d) :: r, env, σ, σ', re, ⟨v, rv, h⟩ => by
    show RepE0 K H μ (setsE (env.set i (some (.d d))) r) σ'
    exact RepE0.sets (re.set rv) h
theorem set_none_comm {σ : L2.St} {i v : Nat} {x : Option V} : ((σ.set i x).set v none) = if v = i then σ.set v none else (σ.set v none).set i x := by
  by_cases h : v = i
  · subst h; rw [if_pos rfl, List.set_set]
  · rw [if_neg h, List.set_comm _ _ (fun e => h e.symm)]
theorem wipe_set {i : Nat} {x : Option V} : ∀ {vs : List Nat} {σ : L2.St}, wipe (σ.set i x) vs = if i ∈ vs then wipe σ vs else (wipe σ vs).set i x
  | [], σ => by simp [wipe]
  | v :: vs, σ => by
    unfold wipe
    rw [wipe_set (vs := vs)]
    by_cases h1 : i ∈ vs
    · rw [if_pos h1, if_pos (List.mem_cons_of_mem _ h1)]
    · rw [if_neg h1, set_none_comm]
      by_cases h2 : v = i
      · subst h2; rw [if_pos rfl, if_pos List.mem_cons_self]
      · rw [if_neg h2, if_neg (by simp [h1]; exact fun e => h2 e.symm)]
theorem wipe_sets {K : PySem.W.Frag} {vs : List Nat} : ∀ {asg : List (Nat × D)} {σ σ' : L2.St}, SetTo K H μ σ asg σ' → (∀ p ∈ asg, p.1 ∈ vs) → wipe σ' vs = wipe σ vs
  | [], _, _, h, _ => by rw [show _ = _ from h]
  | (i, d) :: r, σ, _, ⟨v, _, h⟩, q => by
    rw [wipe_sets h fun p hp => q p (List.mem_cons_of_mem _ hp), wipe_set, if_pos (q _ List.mem_cons_self)]
theorem wipe_idem {vs : List Nat} : wipe (wipe σ vs) vs = wipe σ vs := by
  refine List.ext_getElem? fun i => ?_
  by_cases h : i ∈ vs
  · have key : ∀ (l : List Nat) (τ : L2.St), i ∈ l → (wipe τ l)[i]? = if i < τ.length then some none else none := by
      intro l
      induction l with
      | nil => intro τ h; cases h
      | cons v r ih =>
        intro τ h
        unfold wipe
        by_cases e : v = i
        · subst e
          rw [List.getElem?_set]
          simp [wipe_length]
        · rw [List.getElem?_set_ne e]
          exact ih τ ((List.mem_cons.mp h).resolve_left fun z => e z.symm)
    rw [key vs _ h, key vs _ h, wipe_length]
  · rw [wipe_out h]
theorem Post.trimB {K : PySem.W.Frag} {mg : Str → Option Value} {new : Sto} {H' : Hp} {μ' : List Addr} (rh : RepH K mg T μ sto H) (p : Post K mg T μ H new H' μ') {r : Bool} {d : D} {v : V} (hr : r = true → bndD sto.length d = true) (rv : Rp K H' μ' d v) :
    ∃ μ2, Post K mg T μ H (trim sto r new) H' μ2 ∧ Rp K H' μ2 d v ∧ (∀ (n : Nat), n < sto.length → μ2[n]? = μ'[n]?) := by
  rcases trim_cases sto r new with z | ⟨z1, z2, z⟩
  · rw [z]; exact ⟨μ', p, rv, fun _ _ => rfl⟩
  · rw [z]
    exact ⟨_, p.cut rh z2, rv.cut (hr z1), fun n hn => take_get hn⟩
theorem lc_of {fi : EvI} {gx : EvX} {t : EvB} {e : Ev} {vs : List Nat} {wi : TI} {tt : TT} {te : TE} (hi : ∀ σ H R, tI X T k W fi σ H R → wi σ H R)
    (ht : ∀ σ H Q, tB0 X T t σ H Q → tt σ H Q) (he : ∀ σ H Q, tE0 X T e σ H Q → te σ H Q) (σ : L2.St) (H : Hp) (Q : VK) (q : tE X T k W (eLc fi gx t e vs) σ H Q) :
    tLc wi (tX X T gx) tt te vs σ H Q := by
  obtain ⟨μ, env, sto, rh, re, q⟩ := q
  refine hi _ _ _ (tI.go rh re (q.bind.imp fun src s1 q1 J H1 μ1 p1 re1 so A hA => ?_))
  have hext : Ext H1 (upd H1 A (.lst [])) := Ext.new hA
  have rh2 : RepH X.K X.mg T (μ1 ++ [A]) (s1 ++ [.lst []]) (upd H1 A (.lst [])) := p1.rep.alloc hA ⟨[], upd_same, rfl⟩
  have p2 : Post X.K X.mg T μ1 H1 (s1 ++ [.lst []]) (upd H1 A (.lst [])) (μ1 ++ [A]) := ⟨hext, ⟨[A], rfl⟩, rh2⟩
  have nD : (μ1 ++ [A])[s1.length]? = some A := by rw [← p1.rep.len]; simp
  refine ⟨fun i m H => m = src.items.length - i ∧ i ≤ src.items.length ∧ ∃ μ3 s3 s4, Post X.K X.mg T (μ1 ++ [A]) (upd H1 A (.lst [])) s3 H μ3 ∧
    lcL gx t e vs (maskE vs env) src.chk s1.length (src.items.drop i) s3 = some s4 ∧ ∀ H' μ', Post X.K X.mg T μ3 H s4 H' μ' → Q (.ref A) H', ?_, ?_⟩
  · cases hl : lcL gx t e vs (maskE vs env) src.chk s1.length src.items (s1 ++ [.lst []]) with
    | none => rw [hl] at q1; exact q1.elim
    | some s4 =>
      rw [hl] at q1
      exact ⟨_, rfl, Nat.zero_le _, _, _, s4, Post.refl rh2, hl, fun H' μ' p' => q1 _ H' μ' ((p1.trans p2).trans p') ⟨A, p'.mono _ _ nD, rfl⟩⟩
  · rintro i m H3 ⟨rfl, hi, μ3, s3, s4, p3, hl, hQ⟩
    have p13 := p2.trans p3
    by_cases hlt : i < src.items.length
    · have hd : src.items.drop i = src.items[i] :: src.items.drop (i + 1) := List.drop_eq_getElem_cons hlt
      rw [hd] at hl
      unfold lcL at hl
      split at hl
      · rename_i hc
        obtain ⟨j1, j2⟩ := (so H3 μ3 s3 p13.ext p13.mono p3.rep hc).1 i src.items[i] (List.getElem?_eq_getElem hlt)
        refine .inr ⟨j1, fun H' => i + 1 ≤ src.items.length ∧ ∃ μ3 s3 s4, Post X.K X.mg T (μ1 ++ [A]) (upd H1 A (.lst [])) s3 H' μ3 ∧
          lcL gx t e vs (maskE vs env) src.chk s1.length (src.items.drop (i + 1)) s3 = some s4 ∧ ∀ Hq μq, Post X.K X.mg T μ3 H' s4 Hq μq → Q (.ref A) Hq, fun H' ⟨z1, z2⟩ => ⟨_, by omega, rfl, z1, z2⟩, fun x H' y => ?_⟩
        obtain ⟨e3, rh3, r3⟩ := j2 x H' y
        have p3' : Post X.K X.mg T μ3 H3 s3 H' μ3 := ⟨e3, ⟨[], by simp⟩, rh3⟩
        split at hl
        · rename_i asg hg
          split at hl
          · rename_i hall
            have hall : ∀ p ∈ asg, p.1 ∈ vs := fun p hp => by
              have := List.all_eq_true.mp hall p hp
              simpa using this
            refine ⟨μ3, s3, _, asg, rh3, r3, hg, fun σ' hs => ⟨?_, ?_⟩⟩
            · rw [wipe_sets hs hall, wipe_idem]
            · have re3 : RepE0 X.K H' μ3 (setsE (maskE vs env) asg) σ' := RepE0.sets (((re1.mono p13).mono p3').mask vs) hs
              -- what follows a turn
              have nxt : ∀ {s5 : Sto} {H5 : Hp} {μ5 : List Addr}, Post X.K X.mg T μ3 H3 s5 H5 μ5 → lcL gx t e vs (maskE vs env) src.chk s1.length (src.items.drop (i + 1)) s5 = some s4 →
                  i + 1 ≤ src.items.length ∧ ∃ μ3 s3 s4, Post X.K X.mg T (μ1 ++ [A]) (upd H1 A (.lst [])) s3 H5 μ3 ∧ lcL gx t e vs (maskE vs env) src.chk s1.length (src.items.drop (i + 1)) s3 = some s4 ∧ ∀ H' μ', Post X.K X.mg T μ3 H5 s4 H' μ' → Q (.ref A) H' :=
                fun p5 h5 => ⟨hlt, _, _, s4, p3.trans p5, h5, fun H' μ' p' => hQ H' μ' (p5.trans p')⟩
              have hs1 : s1.length < s3.length := by
                obtain ⟨more, hm⟩ := p3.pre
                have := p3.rep.len
                rw [hm] at this
                rw [← this]
                simp [p1.rep.len]
              generalize hmt : t (setsE (maskE vs env) asg) s3 = mt at hl
              match mt, hl, hmt with
              | some (.ok b, s5), hl, hmt =>
                refine ht _ _ _ ⟨μ3, _, s3, b, s5, rh3, re3, hmt, fun H5 μ5 p5 => ?_⟩
                have re5 := re3.mono p5
                simp only at hl
                cases b with
                | false =>
                  simp only [Bool.false_eq_true, if_false] at hl ⊢
                  obtain ⟨μ6, p6, _⟩ := Post.trimB p3.rep (p3'.trans p5) (r := true) (d := .non) (v := .non) (fun _ => rfl) rfl
                  exact nxt p6 hl
                | true =>
                  simp only [if_true] at hl ⊢
                  generalize hme : e (setsE (maskE vs env) asg) s5 = me at hl
                  match me, hl, hme with
                  | some (.ok y, s6), hl, hme =>
                    refine he _ _ _ ⟨μ5, _, s5, y, s6, p5.rep, re5, hme, fun yv H6 μ6 p6 r6 => ?_⟩
                    simp only at hl
                    have p36 := (p3'.trans p5).trans p6
                    split at hl
                    · rename_i acc hacc
                      split at hl
                      · rename_i hlen
                        have hA3 : μ3[s1.length]? = some A := p3.mono _ _ nD
                        have hA6 : μ6[s1.length]? = some A := p36.mono _ _ hA3
                        obtain ⟨b', hb', av, ha1, ha2⟩ := p6.rep.at_ hacc
                        rw [hA6] at hb'; cases hb'
                        refine ⟨av, ha1, by rw [ha2.length]; exact hlen, ?_⟩
                        obtain ⟨μ7, p7, r7, h7⟩ := Post.trimB p3.rep p36 (r := bndD s3.length y) (d := y) (fun z => z) r6
                        have hA7 : μ7[s1.length]? = some A := by rw [h7 _ hs1]; exact hA6
                        have hcell7 : (trim s3 (bndD s3.length y) s6)[s1.length]? = some (.lst acc) := by
                          rcases trim_cases s3 (bndD s3.length y) s6 with z | ⟨_, _, z⟩
                          · rw [z]; exact hacc
                          · rw [z, take_get hs1]; exact hacc
                        obtain ⟨b7, hb7, av7, ha71, ha72⟩ := p7.rep.at_ hcell7
                        rw [hA7] at hb7; cases hb7
                        rw [ha1] at ha71; cases ha71
                        have e8 : Ext H6 (upd H6 A (.lst (av ++ [yv]))) := Ext.lst ha1
                        have rh8 := p7.rep.set (o := .lst (av ++ [yv])) (c' := .lst (acc ++ [y])) hA7 e8 (fun ps z => by rw [ha1] at z; cases z) ⟨_, upd_same, (ha72.mono e8 fun _ _ z => z).snoc (Rp.mono e8 (fun _ _ z => z) r7)⟩
                        exact nxt (p7.trans ⟨e8, ⟨[], by simp⟩, rh8⟩) hl
                      · cases hl
                    · cases hl
                  | some (.error _, _), hl, _ => cases hl
              | some (.error _, _), hl, _ => cases hl
          · cases hl
        · cases hl
      · cases hl
    · have he' : i = src.items.length := by omega
      subst he'
      rw [List.drop_length] at hl
      unfold lcL at hl
      split at hl
      · rename_i hc
        cases hl
        exact .inl ⟨(so H3 μ3 s3 p13.ext p13.mono p3.rep hc).2, hQ H3 μ3 (Post.refl p3.rep)⟩
      · cases hl
theorem pts_of {X : Cx} {c : Expr} {t : TT} (h : PT X c t) : PTs X [c] t := pts_one h
theorem tB0_to {X' : Cx} (hK : X'.K = X.K) (hmg : X'.mg = X.mg) {t : EvB} (σ : L2.St) (H : Hp) (Q : Bool → Hp → Prop) (q : tB0 X T t σ H Q) : tB' X' T k W0 t σ H Q := by
  obtain ⟨μ, env, sto, b, s1, rh, re, e, q⟩ := q
  refine ⟨μ, env, sto, by rw [hK, hmg]; exact rh, re.to hK, ?_⟩
  rw [e, hK, hmg]
  exact q
theorem tE0_to {X' : Cx} (hK : X'.K = X.K) (hmg : X'.mg = X.mg) {t : Ev} (σ : L2.St) (H : Hp) (Q : VK) (q : tE0 X T t σ H Q) : tE X' T k W0 t σ H Q := by
  obtain ⟨μ, env, sto, b, s1, rh, re, e, q⟩ := q
  refine ⟨μ, env, sto, by rw [hK, hmg]; exact rh, re.to hK, ?_⟩
  rw [e, hK, hmg]
  exact q
/-- a comprehension's tests -/
def QTs (X : Cx) (T : List (Addr × Str)) (k : Nat) (ifs : List Expr) (t : EvB) : Prop := PTs X ifs (tB' X T k W0 t)
theorem qts_nil : QTs X T k [] bYes := ⟨fun pins s σ H Q I ⟨μ, env, sto, rh, re, q⟩ => pts_nil.run pins s σ H Q I (q H μ (Post.refl rh))⟩
theorem qts_one {c : Expr} {t : EvB} (h : QB X T k W0 c t) : QTs X T k [c] t := pts_one h
variable {elt tg iter : Expr} {ifs : List Expr} {scope : Scope} {own : List (Str × Nat)} {fi : EvI} {gx : EvX} {t : EvB} {e : Ev}
theorem qe_lc (hc : X.calm = true) (hN : X.N.Nodup) (hi : QI X T k W tg iter fi) (ok : BlkOk X.N X.env.scope scope own)
    (hg : ∀ (s : Shared) (H : Hp) (C : Addr) (cl : List (Str × Addr)) (fp : List Addr), QX (X.blk s H scope (compEnvC scope cl C X.env) fp) T tg gx) (ht : ∀ (s : Shared) (H : Hp) (C : Addr) (cl : List (Str × Addr)) (fp : List Addr), QTs (X.blk s H scope (compEnvC scope cl C X.env) fp) T k ifs t)
    (he : ∀ (s : Shared) (H : Hp) (C : Addr) (cl : List (Str × Addr)) (fp : List Addr), QE (X.blk s H scope (compEnvC scope cl C X.env) fp) T k W0 elt e) (hs : ∀ x, foldedSetIterable iter X.env x = pure x := by intro _; rfl) :
    QE X T k W (.ListComp elt [⟨tg, iter, ifs, 0⟩] scope pos) (eLc fi gx t e (own.map (·.2))) :=
  PE.of (pe_lc (tt := tB0 X T t) (te := tE0 X T e) hc hN hi ok hg (fun s H C cl fp => ⟨fun pins s' σ H' Q I q => (ht s H C cl fp).run pins s' σ H' Q I (tB0_to rfl rfl σ H' Q q)⟩) (fun s H C cl fp => PE.of (he s H C cl fp) (fun σ H' Q q => tE0_to rfl rfl σ H' Q q)) hs)
    fun σ H Q q => lc_of (fun _ _ _ z => z) (fun _ _ _ z => z) (fun _ _ _ z => z) σ H Q q
/-- name = [..] on one line -/
theorem qs_setLc {i : Nat} {y : Str} {py : Pos} {spos : Pos} (hc : X.calm = true) (hN : X.N.Nodup) (hy : X.N[i]? = some y) (hyl : X.env.scope.names.lookup y = some .local)
    (hsw : swapsWith (.ListComp elt [⟨tg, iter, ifs, 0⟩] scope pos) (some (.Name y py)) spos.line X.env = pure true) (hi : QI X T k W tg iter fi) (ok : BlkOk X.N X.env.scope scope own)
    (hg : ∀ (s : Shared) (H : Hp) (C : Addr) (cl : List (Str × Addr)) (fp : List Addr), QX (X.blk s H scope (compEnvC scope cl C X.env) fp) T tg gx) (ht : ∀ (s : Shared) (H : Hp) (C : Addr) (cl : List (Str × Addr)) (fp : List Addr), QTs (X.blk s H scope (compEnvC scope cl C X.env) fp) T k ifs t)
    (he : ∀ (s : Shared) (H : Hp) (C : Addr) (cl : List (Str × Addr)) (fp : List Addr), QE (X.blk s H scope (compEnvC scope cl C X.env) fp) T k W0 elt e) (hs : ∀ x, foldedSetIterable iter X.env x = pure x := by intro _; rfl) :
    QS X T k W (.Assign [.Name y py] (.ListComp elt [⟨tg, iter, ifs, 0⟩] scope pos) spos) (sAsg (eLc fi gx t e (own.map (·.2))) (gSet i)) :=
  PS.of (ps_setLc (tt := tB0 X T t) (te := tE0 X T e) hc hN hy hyl hsw hi ok hg (fun s H C cl fp => ⟨fun pins s' σ H' Q I q => (ht s H C cl fp).run pins s' σ H' Q I (tB0_to rfl rfl σ H' Q q)⟩) (fun s H C cl fp => PE.of (he s H C cl fp) (fun σ H' Q q => tE0_to rfl rfl σ H' Q q)) hs)
    fun D σ H ⟨μ, env, sto, rh, re, q⟩ => lc_of (fun _ _ _ z => z) (fun _ _ _ z => z) (fun _ _ _ z => z) σ H _ (tE.go rh re ((DenS.bind q).imp fun d s1 q1 v H1 μ1 p1 re1 r1 => q1 _ H1 μ1 p1 (re1.set r1)))
end
end TP
/-! Built-in functions, methods, subscripts. -/
namespace TP
open PySem PySem.Spec PyProof.Rows L2 LamX

def CallS (X : Cx) (T : List (Addr × Str)) (f : Value) (op : List D → Sto → RV) : Prop := ∃ r, CallR X f r ∧
  ∀ μ H sto ds vs (Q : VK), RepH X.K X.mg T μ sto H → Rps X.K H μ ds vs → DenV X T μ H Q (op ds sto) → r vs H Q
section
variable {X : Cx} {T : List (Addr × Str)} {k : Nat} {W : WX} {e o : Expr} {es : List Expr} {f fo : Ev} {fs : EvA} {pos p : Pos} {x : Str} {idn Ty : String} {op : List D → Sto → RV}
theorem qe_callB (hc : CallS X T (.builtin idn) op) (hg : Gl X x) (hm : X.mg x = none) (hv : bootBuiltins x = some (.builtin idn)) (ha : QA X T k W (e :: es) fs) (hn : x ≠ "__name__" := by decide) (hdb : (x == ("__debug__" : Str)) = false := by decide)
    (he : starEach (e :: es) X.env = (false, eval e X.env) :: starEach es X.env := by rfl) (hpl : (backTo pos (starEach es X.env)).any (·.1) = false := by rfl) : QE X T k W (.Call (.Name x p) (e :: es) [] pos) (eFn op fs) := by
  obtain ⟨r, h1, h2⟩ := hc
  exact PE.of (pe_callB h1 hg hm hv ha hn hdb he hpl) fun σ H Q q => eFn_of h2 σ H Q q
theorem qe_callTy (hc : CallS X T (.type Ty) op) (hg : Gl X x) (hm : X.mg x = none) (hv : bootBuiltins x = some (.type Ty)) (ha : QA X T k W (e :: es) fs) (hn : x ≠ "__name__" := by decide) (hdb : (x == ("__debug__" : Str)) = false := by decide)
    (he : starEach (e :: es) X.env = (false, eval e X.env) :: starEach es X.env := by rfl) (hpl : (backTo pos (starEach es X.env)).any (·.1) = false := by rfl) : QE X T k W (.Call (.Name x p) (e :: es) [] pos) (eFn op fs) := by
  obtain ⟨r, h1, h2⟩ := hc
  exact PE.of (pe_callTy h1 hg hm hv ha hn hdb he hpl) fun σ H Q q => eFn_of h2 σ H Q q

/-! a reference to a list -/
theorem RepH.lstV {sto : Sto} {μ : List Addr} {H : Hp} {n : Nat} {xs : List D} {v : V} (rh : RepH X.K X.mg T μ sto H) (h : lstAt sto n = some xs) (r : Rp X.K H μ (.ref n) v) : ∃ a vs, v = .ref a ∧ SqL X.K H a vs ∧ Rps X.K H μ xs vs := by
  obtain ⟨a, vs, h1, h2, h3, _⟩ := rh.lst h
  obtain ⟨a', g1, rfl⟩ := r
  rw [h1] at g1; cases g1
  exact ⟨_, vs, rfl, h2, h3⟩
theorem RepH.lstM {sto : Sto} {μ : List Addr} {H : Hp} {n : Nat} {xs : List D} {v : V} (rh : RepH X.K X.mg T μ sto H) (h : sto[n]? = some (.lst xs)) (r : Rp X.K H μ (.ref n) v) : ∃ a vs, v = .ref a ∧ μ[n]? = some a ∧ H a = some (.lst vs) ∧ Rps X.K H μ xs vs := by
  obtain ⟨a, h1, vs, h2, h3⟩ := rh.at_ h
  obtain ⟨a', g1, rfl⟩ := r
  rw [h1] at g1; cases g1
  exact ⟨_, vs, rfl, h1, h2, h3⟩
/-- the list at n is written -/
theorem DenV.upd {sto : Sto} {μ : List Addr} {H : Hp} {n : Nat} {ys : List D} {a : Addr} {vs ws : List V} {Q : VK} {d : D} {v : V} (h : DenV X T μ H Q (some (d, sto.set n (.lst ys)))) (rh : RepH X.K X.mg T μ sto H) (hm : μ[n]? = some a) (hH : H a = some (.lst vs))
    (rw' : Rps X.K H μ ys ws) (rd : Rp X.K H μ d v) : Q v (L2.upd H a (.lst ws)) :=
  h v _ μ ⟨Ext.lst hH, ⟨[], by simp⟩, rh.set hm (Ext.lst hH) (fun ps z => by rw [hH] at z; cases z) ⟨ws, upd_same, rw'.mono (Ext.lst hH) fun _ _ z => z⟩⟩ (Rp.mono (Ext.lst hH) (fun _ _ z => z) rd)

/-! ### len -/
def lenD : List D → Sto → RV := fun ds s => match ds with
  | [.str z] => if z.length ≤ sizeLine then some (.int z.length, s) else none
  | [.tup xs] => some (.int xs.length, s)
  | [.ref n] => match lstAt s n with
    | some xs => some (.int xs.length, s)
    | none => none
  | _ => none
theorem calls_len : CallS X T (.builtin "len") lenD := by
  refine ⟨_, call_len_seq.or call_len_str, fun μ H sto ds vs Q rh r q => ?_⟩
  unfold lenD at q
  split at q
  · rename_i z
    obtain ⟨v, ws, rfl, r1, rfl⟩ := r
    split at q
    · rename_i hz
      exact .inr ⟨_, by rw [show v = _ from r1], by rw [str_len]; exact hz, q.same rh (by show _ = _; rw [str_len])⟩
    · exact q.elim
  · rename_i xs
    obtain ⟨v, ws, rfl, ⟨a, vs, rfl, h2, h3⟩, rfl⟩ := r
    exact .inl ⟨a, vs, rfl, .inr h2, q.same rh (by show _ = _; rw [h3.length])⟩
  · rename_i n
    obtain ⟨v, ws, rfl, r1, rfl⟩ := r
    split at q
    · rename_i xs hx
      obtain ⟨a, vs, rfl, h2, h3⟩ := rh.lstV hx r1
      exact .inl ⟨a, vs, rfl, .inl h2, q.same rh (by show _ = _; rw [h3.length])⟩
    · exact q.elim
  · exact q.elim

/-! ### isinstance of a built-in type -/
def tyName : D → Sto → Option String
  | .non, _ => some "NoneType"
  | .bl _, _ => some "bool"
  | .int _, _ => some "int"
  | .str _, _ => some "str"
  | .tup _, _ => some "tuple"
  | .ref n, s => match lstAt s n with
    | some _ => some "list"
    | none => none
theorem ty_of {sto : Sto} {μ : List Addr} {H : Hp} {d : D} {v : V} {t : String} (rh : RepH X.K X.mg T μ sto H) (r : Rp X.K H μ d v) (h : tyName d sto = some t) : TyX X.K H v (.type t) := by
  cases d with
  | non => cases h; rw [show v = _ from r]; exact .base .non
  | bl b => cases h; rw [show v = _ from r]; exact .base (.bl b)
  | int b => cases h; rw [show v = _ from r]; exact .base (.int b)
  | str b => cases h; rw [show v = _ from r]; exact .base (.str _)
  | tup xs =>
    cases h
    obtain ⟨a, vs, rfl, h2, _⟩ := r
    rcases h2 with (h2 | ⟨o, h2⟩) | ⟨o, its, n, h2, h3, _⟩
    · exact .base (.tup h2)
    · exact .fTuple h2
    · exact .kTuple h2 h3
  | ref n =>
    simp only [tyName] at h
    split at h
    · rename_i xs hx
      cases h
      obtain ⟨a, vs, rfl, h2, _⟩ := rh.lstV hx r
      rcases h2 with (h2 | ⟨o, h2⟩) | ⟨o, its, n, h2, h3, _⟩
      · exact .base (.lst h2)
      · exact .base (.frz h2)
      · exact .kList h2 h3
    · cases h
/-- isinstance(e, Ty) -/
def eIsTy (Ty : String) (f : Ev) : Ev := fun env s => bind (f env s) fun x s1 => match tyName x s1 with
  | some t => match kitB t Ty with
    | some b => ret (.bl b) s1
    | none => none
  | none => none
theorem qe_isTy {y : Str} {p2 : Pos} (hg : Gl X "isinstance") (hm : X.mg "isinstance" = none) (hv : bootBuiltins "isinstance" = some (.builtin "isinstance")) (hg2 : Gl X y) (hm2 : X.mg y = none) (hv2 : bootBuiltins y = some (.type Ty)) (ha : QE X T k W e f)
    (hn : y ≠ "__name__" := by decide) (hdb : (y == ("__debug__" : Str)) = false := by decide) (he : starEach [e, .Name y p2] X.env = (false, eval e X.env) :: starEach [.Name y p2] X.env := by rfl) (hpl : (backTo pos (starEach [.Name y p2] X.env)).any (·.1) = false := by rfl) :
    QE X T k W (.Call (.Name "isinstance" p) [e, .Name y p2] [] pos) (eIsTy Ty f) :=
  PE.of (pe_callB call_isi hg hm hv (pa_cons ha (pa_cons (pe_bltn (v := .ty Ty) hg2 hm2 hv2 rfl hn hdb) pa_nil) he) (he := he) (hpl := hpl)) fun σ H Q ⟨μ, env, sto, rh, re, q⟩ =>
    tE.go rh re (q.bind.imp fun d s1 q1 v H1 μ1 p1 re1 r1 => by
      split at q1
      · rename_i t ht
        split at q1
        · rename_i b hb
          exact ⟨v, .ty Ty, _, _, b, rfl, .ty Ty, ty_of p1.rep r1 ht, kit_ty hb, q1 _ H1 μ1 p1 rfl⟩
        · exact q1.elim
      · exact q1.elim)

/-! ### numbers -/
def intOf : List D → Sto → RV := fun ds s => match ds with
  | [.int i] => some (.int i, s)
  | [.bl b] => some (.int (if b then 1 else 0), s)
  | _ => none
theorem calls_int : CallS X T (.type "int") intOf := by
  refine ⟨_, call_int1, fun μ H sto ds vs Q rh r q => ?_⟩
  unfold intOf at q
  split at q
  · obtain ⟨v, ws, rfl, r1, rfl⟩ := r
    exact .inl ⟨_, by rw [show v = _ from r1], q.same rh rfl⟩
  · obtain ⟨v, ws, rfl, r1, rfl⟩ := r
    exact .inr ⟨_, by rw [show v = _ from r1], q.same rh rfl⟩
  · exact q.elim
def absD : List D → Sto → RV := fun ds s => match ds with
  | [.int i] => some (.int (if i < 0 then -i else i), s)
  | _ => none
theorem calls_abs : CallS X T (.builtin "abs") absD := by
  refine ⟨_, call_abs, fun μ H sto ds vs Q rh r q => ?_⟩
  unfold absD at q
  split at q
  · obtain ⟨v, ws, rfl, r1, rfl⟩ := r
    exact ⟨_, by rw [show v = _ from r1], q.same rh rfl⟩
  · exact q.elim
def max2D : List D → Sto → RV := fun ds s => match ds with
  | [.int i, .int j] => some (.int (if j > i then j else i), s)
  | _ => none
theorem calls_max2 (hc : X.calm = true) : CallS X T (.builtin "max") max2D := by
  refine ⟨_, call_max2 hc, fun μ H sto ds vs Q rh r q => ?_⟩
  unfold max2D at q
  split at q
  · obtain ⟨v, ws, rfl, r1, v2, ws2, rfl, r2, rfl⟩ := r
    exact ⟨_, _, by rw [show v = _ from r1, show v2 = _ from r2], q.same rh rfl⟩
  · exact q.elim
def min2D : List D → Sto → RV := fun ds s => match ds with
  | [.int i, .int j] => some (.int (if j < i then j else i), s)
  | _ => none
theorem calls_min2 (hc : X.calm = true) : CallS X T (.builtin "min") min2D := by
  refine ⟨_, call_min2 hc, fun μ H sto ds vs Q rh r q => ?_⟩
  unfold min2D at q
  split at q
  · obtain ⟨v, ws, rfl, r1, v2, ws2, rfl, r2, rfl⟩ := r
    exact ⟨_, _, by rw [show v = _ from r1, show v2 = _ from r2], q.same rh rfl⟩
  · exact q.elim
def divmodD : List D → Sto → RV := fun ds s => match ds with
  | [.int i, .int j] => if 0 < j ∧ j < 1073741824 then some (.tup [.int (i / j), .int (i % j)], s) else none
  | _ => none
theorem calls_divmod : CallS X T (.builtin "divmod") divmodD := by
  refine ⟨_, call_divmod, fun μ H sto ds vs Q rh r q => ?_⟩
  unfold divmodD at q
  split at q
  · obtain ⟨v, ws, rfl, r1, v2, ws2, rfl, r2, rfl⟩ := r
    split at q
    · rename_i h
      exact ⟨_, _, by rw [show v = _ from r1, show v2 = _ from r2], h, q.tup rh ⟨_, _, rfl, rfl, _, _, rfl, rfl, rfl⟩⟩
    · exact q.elim
  · exact q.elim

/-! ### all, any -/
def bools : List D → Option (List Bool)
  | [] => some []
  | .bl b :: ds => (bools ds).map (b :: ·)
  | _ :: _ => none
theorem bools_rep {H : Hp} {μ : List Addr} : ∀ {ds : List D} {bs : List Bool} {vs : List V}, bools ds = some bs → Rps X.K H μ ds vs → vs = bs.map V.bl
  | [], _, _, e, r => by cases e; exact r
  | .bl b :: ds, _, _, e, ⟨v, ws, h1, h2, h3⟩ => by
    simp only [bools] at e
    cases hb : bools ds with
    | none => rw [hb] at e; cases e
    | some cs =>
      rw [hb] at e; cases e
      rw [h1, show v = _ from h2, bools_rep hb h3]; rfl
  | .non :: _, _, _, e, _ => by cases e
  | .int _ :: _, _, _, e, _ => by cases e
  | .str _ :: _, _, _, e, _ => by cases e
  | .tup _ :: _, _, _, e, _ => by cases e
  | .ref _ :: _, _, _, e, _ => by cases e
def allD (any : Bool) : List D → Sto → RV := fun ds s => match ds with
  | [.ref n] => match lstAt s n with
    | some xs => match bools xs with
      | some bs => some (.bl (if any then bs.any id else bs.all id), s)
      | none => none
    | none => none
  | _ => none
theorem calls_all (hc : X.calm = true) : CallS X T (.builtin "all") (allD false) := by
  refine ⟨_, cr_all hc, fun μ H sto ds vs Q rh r q => ?_⟩
  unfold allD at q
  split at q
  · rename_i n
    obtain ⟨v, ws, rfl, r1, rfl⟩ := r
    split at q
    · rename_i xs hx
      split at q
      · rename_i bs hb
        obtain ⟨a, vs, rfl, h2, h3⟩ := rh.lstV hx r1
        exact ⟨a, bs, rfl, by rw [← bools_rep hb h3]; exact h2, q.same rh rfl⟩
      · exact q.elim
    · exact q.elim
  · exact q.elim
theorem calls_any (hc : X.calm = true) : CallS X T (.builtin "any") (allD true) := by
  refine ⟨_, cr_any hc, fun μ H sto ds vs Q rh r q => ?_⟩
  unfold allD at q
  split at q
  · rename_i n
    obtain ⟨v, ws, rfl, r1, rfl⟩ := r
    split at q
    · rename_i xs hx
      split at q
      · rename_i bs hb
        obtain ⟨a, vs, rfl, h2, h3⟩ := rh.lstV hx r1
        exact ⟨a, bs, rfl, by rw [← bools_rep hb h3]; exact h2, q.same rh rfl⟩
      · exact q.elim
    · exact q.elim
  · exact q.elim

/-! ### list(..), tuple(..) -/
theorem signs_vals {z : List Nat} {acc : Array Value} (h : ItemsOf (SignAt ⟨z.toArray⟩) acc z.length) : Vals (z.map fun c => V.str ⟨#[c]⟩) acc.toList := by
  refine vals_of_at (by simp [h.1]) fun j x u hx hu => ?_
  obtain ⟨c, t, hc, rfl⟩ := h.2 j u (by simpa using hu)
  have hc : z[j]? = some c := by simpa using hc
  rw [List.getElem?_map, hc] at hx
  cases hx
  exact ⟨t, rfl⟩
theorem call_list_S (hc : X.calm = true) : CallR X (.type "list") (fun xs H Q => ∃ z : List Nat, xs = [.str ⟨z.toArray⟩] ∧ z.length ≤ sizeLine ∧ ∀ l, H l = none → Q (.ref l) (L2.upd H l (.lst (z.map fun c => V.str ⟨#[c]⟩)))) := by
  intro pins s σ H xs us Q I r h
  obtain ⟨z, rfl, hz, q⟩ := h
  obtain ⟨u, rfl, t, rfl⟩ := vals1 r
  refine call_list_str (I.ok.hd hc) ⟨z.toArray⟩ t (fun h' tk acc c' hk hS hacc => ?_) (by simpa using hz)
  have hv := signs_vals (z := z) (by simpa using hacc)
  refine ⟨.ref s.heap.objs.size, L2.upd H s.heap.objs.size (.lst (z.map fun c => V.str ⟨#[c]⟩)), I.laid hk (Nat.le_refl _) ?_, rfl, q _ (I.hok.fresh (Nat.le_refl _))⟩
  exact ⟨by simpa using hz, acc.toList, c', hv, by simpa using hS⟩
theorem call_tuple_S (hc : X.calm = true) : CallR X (.type "tuple") (fun xs H Q => ∃ z : List Nat, xs = [.str ⟨z.toArray⟩] ∧ z.length ≤ sizeLine ∧ ∀ l, H l = none → Q (.ref l) (L2.upd H l (.tup (z.map fun c => V.str ⟨#[c]⟩)))) := by
  intro pins s σ H xs us Q I r h
  obtain ⟨z, rfl, hz, q⟩ := h
  obtain ⟨u, rfl, t, rfl⟩ := vals1 r
  refine call_tuple_str (I.ok.hd hc) ⟨z.toArray⟩ t (fun h' tk acc hk hacc => ?_) (by simpa using hz)
  have hv := signs_vals (z := z) (by simpa using hacc)
  have I1 : Inv X pins σ H { s with heap := h', toks := tk } := I.kept hk
  refine ⟨.ref h'.objs.size, L2.upd H h'.objs.size (.tup (z.map fun c => V.str ⟨#[c]⟩)), I1.laid (t' := tk) (fun b o e => Heap.get?_push_of_some _ e) (Nat.le_refl _) ?_, rfl, q _ (I1.hok.fresh (Nat.le_refl _))⟩
  exact ⟨by simpa using hz, acc.toList, hv, _, Heap.get?_push_size _ rfl, rfl, 0, by simp⟩
def signs (z : List Nat) : List D := z.map fun c => .str [c]
theorem signs_rep {H : Hp} {μ : List Addr} : ∀ z : List Nat, Rps X.K H μ (signs z) (z.map fun c => V.str ⟨#[c]⟩)
  | [] => rfl
  | c :: z => ⟨_, _, rfl, rfl, signs_rep z⟩
def listOf : List D → Sto → RV := fun ds s => match ds with
  | [.str z] => if z.length ≤ sizeLine then some (.ref s.length, s ++ [.lst (signs z)]) else none
  | [.tup xs] => some (.ref s.length, s ++ [.lst xs])
  | [.ref n] => match lstAt s n with
    | some xs => some (.ref s.length, s ++ [.lst xs])
    | none => none
  | _ => none
theorem calls_list (hc : X.calm = true) : CallS X T (.type "list") listOf := by
  refine ⟨_, call_list_of.or (call_list_S hc), fun μ H sto ds vs Q rh r q => ?_⟩
  unfold listOf at q
  split at q
  · rename_i z
    obtain ⟨v, ws, rfl, r1, rfl⟩ := r
    split at q
    · rename_i hz
      exact .inr ⟨z, by rw [show v = _ from r1], hz, q.lst rh (signs_rep z)⟩
    · exact q.elim
  · rename_i xs
    obtain ⟨v, ws, rfl, ⟨a, vs, rfl, h2, h3⟩, rfl⟩ := r
    exact .inl ⟨a, vs, rfl, .inr h2, q.lst rh h3⟩
  · rename_i n
    obtain ⟨v, ws, rfl, r1, rfl⟩ := r
    split at q
    · rename_i xs hx
      obtain ⟨a, vs, rfl, h2, h3⟩ := rh.lstV hx r1
      exact .inl ⟨a, vs, rfl, .inl h2, q.lst rh h3⟩
    · exact q.elim
  · exact q.elim
def tupleOf : List D → Sto → RV := fun ds s => match ds with
  | [.str z] => if z.length ≤ sizeLine then some (.tup (signs z), s) else none
  | [.tup xs] => some (.tup xs, s)
  | [.ref n] => match lstAt s n with
    | some xs => some (.tup xs, s)
    | none => none
  | _ => none
theorem calls_tuple (hc : X.calm = true) : CallS X T (.type "tuple") tupleOf := by
  refine ⟨_, call_tuple_of.or (call_tuple_S hc), fun μ H sto ds vs Q rh r q => ?_⟩
  unfold tupleOf at q
  split at q
  · rename_i z
    obtain ⟨v, ws, rfl, r1, rfl⟩ := r
    split at q
    · rename_i hz
      exact .inr ⟨z, by rw [show v = _ from r1], hz, q.tup rh (signs_rep z)⟩
    · exact q.elim
  · rename_i xs
    obtain ⟨v, ws, rfl, ⟨a, vs, rfl, h2, h3⟩, rfl⟩ := r
    exact .inl ⟨a, vs, rfl, .inr ⟨h2, q.same rh ⟨a, vs, rfl, h2, h3⟩⟩⟩
  · rename_i n
    obtain ⟨v, ws, rfl, r1, rfl⟩ := r
    split at q
    · rename_i xs hx
      obtain ⟨a, vs, rfl, h2, h3⟩ := rh.lstV hx r1
      exact .inl ⟨a, vs, rfl, .inl ⟨h2, q.tup rh h3⟩⟩
    · exact q.elim
  · exact q.elim

/-! ### methods of lists and texts -/
def MtS (X : Cx) (T : List (Addr × Str)) (id : String) (op : D → List D → Sto → RV) : Prop := ∃ r, MtR X id r ∧
  ∀ μ H sto d ds v vs (Q : VK), RepH X.K X.mg T μ sto H → Rp X.K H μ d v → Rps X.K H μ ds vs → DenV X T μ H Q (op d ds sto) → r v vs H Q
/-- the receiver's type is Ty -/
def eMeth (Ty : String) (op : D → List D → Sto → RV) (fo : Ev) (fs : EvA) : Ev := fun env s => bind (fo env s) fun x s1 => match tyName x s1 with
  | some t => if t = Ty then bind (fs env s1) fun xs s2 => match plain xs with
      | some ds => lift (op x ds s2)
      | none => none
    else none
  | none => none
theorem tyV_of {sto : Sto} {μ : List Addr} {H : Hp} {d : D} {v : V} {t : String} (rh : RepH X.K X.mg T μ sto H) (r : Rp X.K H μ d v) (h : tyName d sto = some t) (ht : t = "list" ∨ t = "str") : tyV X.K t v H := by
  cases d with
  | non => cases h; rcases ht with z | z <;> simp at z
  | bl b => cases h; rcases ht with z | z <;> simp at z
  | int b => cases h; rcases ht with z | z <;> simp at z
  | str b => cases h; rw [show v = _ from r]; rfl
  | tup xs => cases h; rcases ht with z | z <;> simp at z
  | ref n =>
    simp only [tyName] at h
    split at h
    · rename_i xs hx
      cases h
      obtain ⟨a, vs, rfl, h2, _⟩ := rh.lstV hx r
      exact .inl ⟨rfl, vs, h2⟩
    · cases h
theorem qe_bm {name : Str} {apos : Pos} {op : D → List D → Sto → RV} (pa : PlainAttrs Ty) (slot : Slot Ty name idn) (hty : typeOf (.builtin idn) = pure (.type "method_descriptor")) (hm : MtS X T idn op) (ht : Ty = "list" ∨ Ty = "str") (ho : QE X T k W o fo) (ha : QA X T k W (e :: es) fs)
    (hbase : attributeBase o name X.env (eval o X.env) = eval o X.env := by rfl)
    (hfew : ((backTo pos (starEach (e :: es) X.env)).all (fun x => !x.1) && (backToKw pos (keywordEach [] X.env)).all (fun x => x.1.isSome)
      && decide ((e :: es).length + ([] : List Keyword).length + (if ([] : List Keyword).isEmpty then 0 else 1) < 30)) = true := by rfl)
    (hline : (apos.endLine == pos.line) = true := by rfl) (hs : starEach (e :: es) X.env = (false, eval e X.env) :: starEach es X.env := by rfl) (hplain : (backTo pos (starEach es X.env)).any (·.1) = false := by rfl) :
    QE X T k W (.Call (.Attribute o name apos) (e :: es) [] pos) (eMeth Ty op fo fs) := by
  obtain ⟨r, h1, h2⟩ := hm
  refine PE.of (pe_bm pa slot hty h1 ho ha hbase hfew hline hs hplain) fun σ H Q ⟨μ, env, sto, rh, re, q⟩ => ?_
  refine tE.go rh re (q.bind.imp fun d s1 q1 v H1 μ1 p1 re1 r1 => ?_)
  split at q1
  · rename_i t htn
    split at q1
    · rename_i hte
      subst hte
      refine ⟨tyV_of p1.rep r1 htn ht, tA.go p1.rep re1 ((q1.later p1 fun _ _ z => z).bind.imp fun xs s2 q2 vs H2 μ2 p2 re2 r2 => ?_)⟩
      split at q2
      · rename_i ds hp
        exact h2 μ2 H2 s2 d ds v vs Q p2.rep (Rp.mono p2.ext p2.mono r1) (r2.plain hp) (DenV.of q2 fun x s3 q3 w H3 μ3 p3 r3 => q3 w H3 μ3 ((p1.trans p2).trans p3) r3)
      · exact q2.elim
    · exact q1.elim
  · exact q1.elim
theorem qe_bm0 {name : Str} {apos : Pos} {op : D → List D → Sto → RV} (pa : PlainAttrs Ty) (slot : Slot Ty name idn) (hty : typeOf (.builtin idn) = pure (.type "method_descriptor")) (hm : MtS X T idn op) (ht : Ty = "list" ∨ Ty = "str") (ho : QE X T k W o fo)
    (hbase : attributeBase o name X.env (eval o X.env) = eval o X.env := by rfl) (hline : (apos.endLine == pos.line) = true := by rfl) : QE X T k W (.Call (.Attribute o name apos) [] [] pos) (eMeth Ty op fo aNil) := by
  obtain ⟨r, h1, h2⟩ := hm
  refine PE.of (pe_bm0 pa slot hty h1 ho hbase hline) fun σ H Q ⟨μ, env, sto, rh, re, q⟩ => ?_
  refine tE.go rh re (q.bind.imp fun d s1 q1 v H1 μ1 p1 re1 r1 => ?_)
  split at q1
  · rename_i t htn
    split at q1
    · rename_i hte
      subst hte
      exact ⟨tyV_of p1.rep r1 htn ht, h2 μ1 H1 s1 d [] v [] Q p1.rep r1 rfl (DenV.of q1 fun x s3 q3 w H3 μ3 p3 r3 => q3 w H3 μ3 (p1.trans p3) r3)⟩
    · exact q1.elim
  · exact q1.elim
/-- list.append -/
def appendD : D → List D → Sto → RV := fun x ds s => match x, ds with
  | .ref n, [y] => match s[n]? with
    | some (.lst xs) => if xs.length < sizeLine then some (.non, s.set n (.lst (xs ++ [y]))) else none
    | _ => none
  | _, _ => none
theorem mts_append : MtS X T "list.append" appendD := by
  refine ⟨_, mt_append, fun μ H sto d ds v vs Q rh r rs q => ?_⟩
  unfold appendD at q
  split at q
  · rename_i n y
    obtain ⟨w, ws, rfl, r1, rfl⟩ := rs
    split at q
    · rename_i xs hx
      split at q
      · rename_i hl
        obtain ⟨a, us, rfl, h1, h2, h3⟩ := rh.lstM hx r
        exact ⟨a, us, w, rfl, rfl, h2, by rw [h3.length]; exact hl, q.upd rh h1 h2 (h3.snoc r1) rfl⟩
      · exact q.elim
    · exact q.elim
  · exact q.elim
/-- list.pop(i) -/
def popAtD : D → List D → Sto → RV := fun x ds s => match x, ds with
  | .ref n, [.int i] => match s[n]? with
    | some (.lst xs) => match ixN xs.length i with
      | some j => match xs[j]? with
        | some y => if smallI i then some (y, s.set n (.lst (xs.eraseIdx j))) else none
        | none => none
      | none => none
    | _ => none
  | _, _ => none
theorem mts_popAt : MtS X T "list.pop" popAtD := by
  refine ⟨_, mt_popAt, fun μ H sto d ds v vs Q rh r rs q => ?_⟩
  unfold popAtD at q
  split at q
  · rename_i n i
    obtain ⟨w, ws, rfl, r1, rfl⟩ := rs
    split at q
    · rename_i xs hx
      split at q
      · rename_i j hj
        split at q
        · rename_i y hy
          split at q
          · rename_i hs
            have hs := smallI_iff hs
            obtain ⟨a, us, rfl, h1, h2, h3⟩ := rh.lstM hx r
            obtain ⟨u, hu, ru⟩ := h3.get hy
            exact ⟨a, us, i, j, u, rfl, by rw [show w = _ from r1], h2, by omega, by omega, by rw [h3.length]; exact (ixN_seq hj).1, hu, q.upd rh h1 h2 (h3.eraseIdx j) ru⟩
          · exact q.elim
        · exact q.elim
      · exact q.elim
    · exact q.elim
  · exact q.elim
/-- list.pop() -/
def popD : D → List D → Sto → RV := fun x ds s => match x, ds with
  | .ref n, [] => match s[n]? with
    | some (.lst xs) => match xs[xs.length - 1]? with
      | some y => some (y, s.set n (.lst xs.dropLast))
      | none => none
    | _ => none
  | _, _ => none
theorem Rps.dropLast {K : PySem.W.Frag} {H : Hp} {μ : List Addr} {ds : List D} {vs : List V} (h : Rps K H μ ds vs) : Rps K H μ ds.dropLast vs.dropLast := by
  rw [List.dropLast_eq_take, List.dropLast_eq_take, h.length]
  exact h.take _
theorem mts_pop : MtS X T "list.pop" popD := by
  refine ⟨_, mt_pop, fun μ H sto d ds v vs Q rh r rs q => ?_⟩
  unfold popD at q
  split at q
  · rename_i n
    split at q
    · rename_i xs hx
      split at q
      · rename_i y hy
        obtain ⟨a, us, rfl, h1, h2, h3⟩ := rh.lstM hx r
        obtain ⟨u, hu, ru⟩ := h3.get hy
        exact ⟨a, us, u, rfl, rs, h2, by rw [h3.length]; exact hu, q.upd rh h1 h2 h3.dropLast ru⟩
      · exact q.elim
    · exact q.elim
  · exact q.elim
/-- the texts of a list -/
def texts : List D → Option (List (List Nat))
  | [] => some []
  | .str b :: ds => (texts ds).map (b :: ·)
  | _ :: _ => none
theorem texts_rep {H : Hp} {μ : List Addr} : ∀ {ds : List D} {bs : List (List Nat)} {vs : List V}, texts ds = some bs → Rps X.K H μ ds vs → vs = (bs.map sn).map V.str
  | [], _, _, e, r => by cases e; exact r
  | .str b :: ds, _, _, e, ⟨v, ws, h1, h2, h3⟩ => by
    simp only [texts] at e
    cases hb : texts ds with
    | none => rw [hb] at e; cases e
    | some cs =>
      rw [hb] at e; cases e
      rw [h1, show v = _ from h2, texts_rep hb h3]; rfl
  | .non :: _, _, _, e, _ => by cases e
  | .int _ :: _, _, _, e, _ => by cases e
  | .bl _ :: _, _, _, e, _ => by cases e
  | .tup _ :: _, _, _, e, _ => by cases e
  | .ref _ :: _, _, _, e, _ => by cases e
abbrev joinL : List Nat → List (List Nat) → List Nat := TL.joinL
def itemsT (x : D) (s : Sto) : Option (List D) := match x with
  | .tup xs => some xs
  | .ref n => lstAt s n
  | _ => none
theorem join_eq (a : List Nat) (ys : List (List Nat)) : Txt.join (sn a) (ys.map sn) = sn (joinL a ys) := SX.join_S a ys
def joinD : D → List D → Sto → RV := fun x ds s => match x, ds with
  | .str a, [y] => match itemsT y s with
    | some xs => match texts xs with
      | some ys => if (ys.map (·.length)).sum + ys.length * a.length ≤ 16777216 then some (.str (joinL a ys), s) else none
      | none => none
    | none => none
  | _, _ => none
theorem mts_join : MtS X T "str.join" joinD := by
  refine ⟨_, mt_join, fun μ H sto d ds v vs Q rh r rs q => ?_⟩
  unfold joinD at q
  split at q
  · rename_i a y
    obtain ⟨w, ws, rfl, r1, rfl⟩ := rs
    split at q
    · rename_i xs hx
      split at q
      · rename_i ys hy
        split at q
        · rename_i hl
          have hsum : ((ys.map sn).map (·.length)).sum + (ys.map sn).length * (sn a).length ≤ 16777216 := by
            simp only [List.map_map, List.length_map]
            have e1 : ((fun x : Str => x.length) ∘ sn) = fun x : List Nat => x.length := by funext x; simp [sn, Str.length]
            rw [e1]
            have e2 : (sn a).length = a.length := by simp [sn, Str.length]
            rw [e2]; exact hl
          cases y with
          | tup zs =>
            cases hx
            obtain ⟨p, us, rfl, h2, h3⟩ := r1
            exact ⟨_, p, ys.map sn, r, rfl, .inr (by rw [← texts_rep hy h3]; exact h2), hsum, q.same rh (by show V.str (Txt.join (sn a) (ys.map sn)) = V.str (sn (joinL a ys)); rw [join_eq])⟩
          | ref n =>
            obtain ⟨p, us, rfl, h2, h3⟩ := rh.lstV hx r1
            exact ⟨_, p, ys.map sn, r, rfl, .inl (by rw [← texts_rep hy h3]; exact h2), hsum, q.same rh (by show V.str (Txt.join (sn a) (ys.map sn)) = V.str (sn (joinL a ys)); rw [join_eq])⟩
          | _ => cases hx
        · exact q.elim
      · exact q.elim
    · exact q.elim
  · exact q.elim

/-! ### subscripts -/
def IxS (X : Cx) (T : List (Addr × Str)) (op : D → D → Sto → RV) : Prop := ∃ r : R2, IxR X r ∧
  ∀ μ H sto d e v u (Q : VK), RepH X.K X.mg T μ sto H → Rp X.K H μ d v → Rp X.K H μ e u → DenV X T μ H Q (op d e sto) → r v u H Q
def ixD : D → D → Sto → RV := fun x y s => match x, y with
  | .tup xs, .int i => match ixN xs.length i with
    | some j => (xs[j]?).map fun d => (d, s)
    | none => none
  | .ref n, .int i => match lstAt s n with
    | some xs => match ixN xs.length i with
      | some j => (xs[j]?).map fun d => (d, s)
      | none => none
    | none => none
  | .str z, .int i => if z.length ≤ sizeLine then match ixN z.length i with
      | some j => (z[j]?).map fun c => (.str [c], s)
      | none => none
    else none
  | _, _ => none
theorem atI_of {xs : List V} {i : Int} {j : Nat} {v : V} (h : ixN xs.length i = some j) (hv : xs[j]? = some v) : atI xs i = some v := by
  unfold atI; rw [h]; exact hv
theorem ixs_seq : IxS X T ixD := by
  refine ⟨_, ix_seq, fun μ H sto d e v u Q rh rv ru q => ?_⟩
  unfold ixD at q
  split at q
  · rename_i xs i
    split at q
    · rename_i j hj
      cases hx : xs[j]? with
      | none => rw [hx] at q; exact q.elim
      | some y =>
        rw [hx] at q
        obtain ⟨a, vs, rfl, h2, h3⟩ := rv
        obtain ⟨w, hw, rw'⟩ := h3.get hx
        exact .inr (.inl ⟨a, vs, i, w, rfl, ru, h2, atI_of (by rw [h3.length]; exact hj) hw, q.same rh rw'⟩)
    · exact q.elim
  · rename_i n i
    split at q
    · rename_i xs hl
      split at q
      · rename_i j hj
        cases hx : xs[j]? with
        | none => rw [hx] at q; exact q.elim
        | some y =>
          rw [hx] at q
          obtain ⟨a, vs, rfl, h2, h3⟩ := rh.lstV hl rv
          obtain ⟨w, hw, rw'⟩ := h3.get hx
          exact .inl ⟨a, vs, i, w, rfl, ru, h2, atI_of (by rw [h3.length]; exact hj) hw, q.same rh rw'⟩
      · exact q.elim
    · exact q.elim
  · rename_i z i
    split at q
    · rename_i hz
      split at q
      · rename_i j hj
        cases hx : z[j]? with
        | none => rw [hx] at q; exact q.elim
        | some y =>
          rw [hx] at q
          refine .inr (.inr ⟨_, i, y, rv, ru, by rw [str_len]; exact hz, ?_, q.same rh rfl⟩)
          show atI z i = some y
          unfold atI; rw [hj]; exact hx
      · exact q.elim
    · exact q.elim
  · exact q.elim
theorem qe_ix {a b : Expr} {f g : Ev} {opd : D → D → Sto → RV} (ho : IxS X T opd) (ha : QE X T k W a f) (hb : QE X T k W b g) (hs : PlainIx b) : QE X T k W (.Subscript a b pos) (eOp opd f g) := by
  obtain ⟨r, h1, h2⟩ := ho
  exact PE.of (pe_ix h1 ha hb hs) (two_of h2)
/-- slices -/
def oPart (f : Option Ev) : Env → Sto → R (Option Int) := fun env s => match f with
  | none => ret none s
  | some f => bind (f env s) fun x s1 => match x with
    | .int i => ret (some i) s1
    | _ => none
def tO (X : Cx) (T : List (Addr × Str)) (k : Nat) (W : WX) (f : Option Ev) : TO := fun σ H Q => ∃ μ env sto, RepH X.K X.mg T μ sto H ∧ RepE X T k H μ env σ ∧
  DenW X T W σ μ H (fun o s1 => ∀ H' μ', Post X.K X.mg T μ H s1 H' μ' → Q o H') (oPart f env sto)
def QO (X : Cx) (T : List (Addr × Str)) (k : Nat) (W : WX) (e : Option Expr) (f : Option Ev) : Prop := PO X e (tO X T k W f)
theorem PO.of {e : Option Expr} {t t' : TO} (h : PO X e t) (i : ∀ σ H Q, t' σ H Q → t σ H Q) : PO X e t' := ⟨fun pins s σ H Q I q => h.run pins s σ H Q I (i σ H Q q)⟩
theorem qo_none : QO X T k W none none := PO.of po_none fun σ H Q ⟨μ, env, sto, rh, re, q⟩ => q H μ (Post.refl rh)
theorem qo_some (h : QE X T k W e f) : QO X T k W (some e) (some f) := PO.of (po_some h) fun σ H Q ⟨μ, env, sto, rh, re, q⟩ =>
  tE.go rh re (q.bind.imp fun d s1 q1 v H1 μ1 p1 re1 r1 => by
    split at q1
    · exact ⟨_, r1, q1 H1 μ1 p1⟩
    · exact q1.elim)
theorem tO.go {f : Option Ev} {σ : L2.St} {H : Hp} {μ : List Addr} {env : Env} {sto : Sto} {Q : Option Int → Hp → Prop} (rh : RepH X.K X.mg T μ sto H) (re : RepE X T k H μ env σ)
    (h : DenW X T W σ μ H (fun d s1 => ∀ H1 μ1, Post X.K X.mg T μ H s1 H1 μ1 → RepE X T k H1 μ1 env σ → Q d H1) (oPart f env sto)) : tO X T k W f σ H Q :=
  ⟨μ, env, sto, rh, re, h.imp fun d s1 q H1 μ1 p => q H1 μ1 p (re.mono p)⟩
/-- the part of a row from lo to hi -/
def cutL {α : Type} (xs : List α) (lo hi : Option Int) : List α := (xs.drop (HT.sIx xs.length 0 lo)).take (HT.sIx xs.length xs.length hi - HT.sIx xs.length 0 lo)
def sliceD : D → Option Int → Option Int → Sto → RV := fun x lo hi s => match x with
  | .tup xs => some (.tup (cutL xs lo hi), s)
  | .str z => if z.length ≤ sizeLine then some (.str (cutL z lo hi), s) else none
  | .ref n => match lstAt s n with
    | some xs => some (.ref s.length, s ++ [.lst (cutL xs lo hi)])
    | none => none
  | _ => none
def eSlice (f : Ev) (lo hi : Option Ev) : Ev := fun env s => bind (f env s) fun x s1 => bind (oPart lo env s1) fun l s2 => bind (oPart hi env s2) fun h s3 => lift (sliceD x l h s3)
theorem Rps.cutL {H : Hp} {μ : List Addr} {xs : List D} {vs : List V} (h : Rps X.K H μ xs vs) (lo hi : Option Int) : Rps X.K H μ (cutL xs lo hi) (cutV vs lo hi) := by
  unfold TP.cutL cutV
  rw [h.length]
  exact (h.drop _).take _
theorem cutL_all {α : Type} {xs : List α} {lo hi : Option Int} (h : HT.sIx xs.length 0 lo = 0 ∧ HT.sIx xs.length xs.length hi = xs.length) : cutL xs lo hi = xs := by
  unfold cutL; rw [h.1, h.2]; simp
theorem qe_slice {lo hi : Option Expr} {fl fh : Option Ev} {p2 : Pos} (he : QE X T k W e f) (hl : QO X T k W lo fl) (hh : QO X T k W hi fh) : QE X T k W (.Subscript e (.Slice lo hi none p2) pos) (eSlice f fl fh) :=
  PE.of (pe_slice ((sl_list.or sl_tupA).or sl_str) he hl hh) fun σ H Q ⟨μ, env, sto, rh, re, q⟩ =>
    tE.go rh re (q.bind.imp fun d s1 q1 v H1 μ1 p1 re1 r1 => tO.go p1.rep re1 ((q1.later p1 fun _ _ z => z).bind.imp fun l s2 q2 H2 μ2 p2 re2 => tO.go p2.rep re2 ((q2.later p2 fun _ _ z => z).bind.imp fun h s3 q3 H3 μ3 p3 re3 => by
      have q4 : DenV X T μ3 H3 Q (sliceD d l h s3) := DenV.of (q3.later p3 fun _ _ z => z) fun x s4 q3 w H4 μ4 p4 r4 => q3 w H4 μ4 (((p1.trans p2).trans p3).trans p4) r4
      have rh3 := p3.rep
      have r3 : Rp X.K H3 μ3 d v := Rp.mono (p2.trans p3).ext (p2.trans p3).mono r1
      clear q3 q2 q1 q
      unfold sliceD at q4
      split at q4
      · rename_i xs
        obtain ⟨a, vs, rfl, h2, h3⟩ := r3
        refine .inl (.inr ⟨a, vs, rfl, h2, fun hw => ?_, fun _ => q4.tup rh3 (h3.cutL l h)⟩)
        rw [h3.length] at hw
        rw [cutL_all hw] at q4
        exact q4.same rh3 ⟨a, vs, rfl, h2, h3⟩
      · rename_i z
        split at q4
        · rename_i hz
          refine .inr ⟨_, r3, by rw [str_len]; exact hz, q4.same rh3 ?_⟩
          show _ = V.str _
          unfold cutS TP.cutL
          rw [str_len]
        · exact q4.elim
      · rename_i n
        split at q4
        · rename_i xs hx
          obtain ⟨a, vs, rfl, h2, h3⟩ := rh3.lstV hx r3
          exact .inl (.inl ⟨a, vs, rfl, h2, q4.lst rh3 (h3.cutL l h)⟩)
        · exact q4.elim
      · exact q4.elim)))
end
end TP
/-! ==, !=, in, not in of data. -/
namespace TP
open PySem PySem.Spec PyProof.Rows L2 LamX SeqAt

def eqL (f : D → D → Option Bool) : List D → List D → Option Bool
  | [], [] => some true
  | [], _ :: _ => some false
  | _ :: _, [] => some false
  | x :: xs, y :: ys => match f x y, eqL f xs ys with
    | some a, some b => some (a && b)
    | _, _ => none
/-- == of data; none: not told -/
def eqD (s : Sto) : Nat → D → D → Option Bool
  | 0, _, _ => none
  | n + 1, x, y => match x, y with
    | .bl a, .bl b => some (a == b)
    | .bl a, .int b => some ((if a then 1 else 0) == b)
    | .int a, .bl b => some (a == (if b then 1 else 0))
    | .int a, .int b => some (a == b)
    | .str a, .str b => some (a == b)
    | .tup xs, .tup ys => eqL (eqD s n) xs ys
    | .ref i, .ref j => match lstAt s i, lstAt s j with
      | some xs, some ys => if i = j then some true else if xs.length = ys.length then eqL (eqD s n) xs ys else some false
      | _, _ => none
    | .ref i, _ => match lstAt s i with
      | some _ => some false
      | none => none
    | _, .ref i => match lstAt s i with
      | some _ => some false
      | none => none
    | .non, .non => some true
    | _, _ => some false
section
variable {X : Cx} {T : List (Addr × Str)} {k : Nat} {W : WX}
inductive Sh (K : PySem.W.Frag) (H : Hp) (μ : List Addr) (h : Heap) (s : Sto) : D → Value → Prop
  | non : Sh K H μ h s .non .none
  | bl (b : Bool) : Sh K H μ h s (.bl b) (.bool b)
  | int (i : Int) (t : Tok) : Sh K H μ h s (.int i) (.int i t)
  | str (x : List Nat) (t : Tok) : Sh K H μ h s (.str x) (.str (sn x) t)
  | tup {a : Addr} {xs : List D} {vs : List V} {its : List Value} : h.IsTuple a its.toArray → Rps K H μ xs vs → Vals vs its → Sh K H μ h s (.tup xs) (.ref a)
  | lst {n : Nat} {a : Addr} {xs : List D} {vs : List V} {its : List Value} : lstAt s n = some xs → μ[n]? = some a → h.IsList a its.toArray → Rps K H μ xs vs → Vals vs its → Sh K H μ h s (.ref n) (.ref a)
  | oth {n : Nat} {u : Value} : lstAt s n = none → Sh K H μ h s (.ref n) u
variable {pins : List (Addr × Obj)} {σ : L2.St} {H : Hp} {s : Shared} {μ : List Addr} {sto : Sto}
theorem sh_of (I : Inv X pins σ H s) (rh : RepH X.K X.mg T μ sto H) {d : D} {v : V} {u : Value} (r : Rp X.K H μ d v) (q : RelV v u) : Sh X.K H μ s.heap sto d u := by
  cases d with
  | non => rw [show v = _ from r] at q; cases q; exact .non
  | bl b => rw [show v = _ from r] at q; cases q; exact .bl b
  | int i => rw [show v = _ from r] at q; obtain ⟨t, rfl⟩ := q; exact .int i t
  | str i => rw [show v = _ from r] at q; obtain ⟨t, rfl⟩ := q; exact .str i t
  | tup xs =>
    obtain ⟨a, vs, rfl, h2, h3⟩ := r
    cases q
    obtain ⟨its, r1, p1, _⟩ := I.tuple h2
    exact .tup p1 h3 r1
  | ref n =>
    cases hl : lstAt sto n with
    | none => exact .oth hl
    | some xs =>
      obtain ⟨a, vs, h1, h2, h3, _⟩ := rh.lst hl
      obtain ⟨a', g1, rfl⟩ := r
      rw [h1] at g1; cases g1
      cases q
      obtain ⟨its, r1, p1, _⟩ := I.list h2
      exact .lst hl h1 p1.isList h3 r1
theorem eqL_none {f : D → D → Option Bool} {e : D → D → Bool} : True := trivial
def pairB (f : D → D → Option Bool) (xs ys : List D) (j : Nat) : Bool := match xs[j]?, ys[j]? with
  | some x, some y => (f x y).getD false
  | _, _ => false
theorem eqL_all {f : D → D → Option Bool} : ∀ {xs ys : List D} {b : Bool}, eqL f xs ys = some b → ((List.range (min xs.length ys.length)).all (pairB f xs ys) && xs.length == ys.length) = b
  | [], [], b, h => by cases h; rfl
  | [], y :: ys, b, h => by cases h; simp
  | x :: xs, [], b, h => by cases h; simp
  | x :: xs, y :: ys, b, h => by
    simp only [eqL] at h
    cases hf : f x y with
    | none => rw [hf] at h; cases h
    | some c =>
      cases hs : eqL f xs ys with
      | none => rw [hf, hs] at h; cases h
      | some d =>
        rw [hf, hs] at h; cases h
        have ih := eqL_all hs
        simp only [List.length_cons, Nat.succ_min_succ]
        rw [List.range_succ_eq_map, List.all_cons, List.all_map]
        have e1 : pairB f (x :: xs) (y :: ys) 0 = c := by simp [pairB, hf]
        have e2 : (pairB f (x :: xs) (y :: ys) ∘ Nat.succ) = pairB f xs ys := by funext j; simp [pairB]
        rw [e1, e2, ← ih, Bool.and_assoc]
        simp
theorem eqL_get {f : D → D → Option Bool} : ∀ {xs ys : List D} {b : Bool} {j : Nat} {x y : D}, eqL f xs ys = some b → xs[j]? = some x → ys[j]? = some y → f x y = some (pairB f xs ys j)
  | [], _, _, _, _, _, _, h, _ => by simp at h
  | _ :: _, [], _, _, _, _, _, _, h => by simp at h
  | a :: xs, c :: ys, b, j, x, y, h, h1, h2 => by
    simp only [eqL] at h
    cases hf : f a c with
    | none => rw [hf] at h; cases h
    | some e =>
      cases hs : eqL f xs ys with
      | none => rw [hf, hs] at h; cases h
      | some d =>
        cases j with
        | zero => simp at h1 h2; subst h1; subst h2; simp [pairB, hf]
        | succ j =>
          have := eqL_get hs (j := j) (by simpa using h1) (by simpa using h2)
          rw [this]; simp [pairB]
theorem vals_at {vs : List V} {its : List Value} (r : Vals vs its) {j : Nat} (h : j < its.toArray.size) : ∃ v, vs[j]? = some v ∧ RelV v its.toArray[j] := by
  have hj : j < its.length := by simpa using h
  have hv : j < vs.length := by rw [r.length]; exact hj
  obtain ⟨u, hu, q⟩ := r.get (List.getElem?_eq_getElem hv)
  rw [List.getElem?_eq_getElem hj] at hu; cases hu
  exact ⟨_, List.getElem?_eq_getElem hv, by simpa using q⟩
theorem eqL_true {f : D → D → Option Bool} : ∀ {xs ys : List D} {b : Bool}, eqL f xs ys = some b → xs.length = ys.length → (∀ (j : Nat) (x y : D) (c : Bool), xs[j]? = some x → ys[j]? = some y → f x y = some c → c = true) → b = true
  | [], [], b, h, _, _ => by cases h; rfl
  | [], y :: ys, b, h, l, _ => by simp at l
  | x :: xs, [], b, h, l, _ => by simp at l
  | x :: xs, y :: ys, b, h, l, i => by
    simp only [eqL] at h
    cases hf : f x y with
    | none => rw [hf] at h; cases h
    | some c =>
      cases hs : eqL f xs ys with
      | none => rw [hf, hs] at h; cases h
      | some d =>
        rw [hf, hs] at h; cases h
        rw [i 0 x y c rfl rfl hf, eqL_true hs (by simpa using l) fun j x y c h1 h2 h3 => i (j + 1) x y c (by simpa using h1) (by simpa using h2) h3]
        rfl
theorem eq_same (I : Inv X pins σ H s) (rh : RepH X.K X.mg T μ sto H) : ∀ (n : Nat) (d e : D) (u : Value) (b : Bool), Sh X.K H μ s.heap sto d u → Sh X.K H μ s.heap sto e u → eqD sto n d e = some b → b = true
  | 0, _, _, _, _, _, _, h => by cases h
  | n + 1, d, e, u, b, sd, se, h => by
    cases sd with
    | non =>
      cases se with
      | non => simp only [eqD] at h; cases h; rfl
      | oth l2 => simp only [eqD, l2] at h; cases h
    | bl x =>
      cases se with
      | bl y => simp only [eqD] at h; cases h; simp
      | oth l2 => simp only [eqD, l2] at h; cases h
    | int x t =>
      cases se with
      | int y t' => simp only [eqD] at h; cases h; simp
      | oth l2 => simp only [eqD, l2] at h; cases h
    | str x t =>
      generalize hz : Value.str (sn x) t = u at se
      cases se with
      | str y t' =>
        simp only [eqD] at h; cases h
        have e1 : sn x = sn y := by injection hz
        have e2 : x = y := SX.S_inj e1
        subst e2; simp
      | oth l2 => simp only [eqD, l2] at h; cases h
      | _ => cases hz
    | @tup a xs vs its p1 r1 q1 =>
      cases se with
      | lst l2 m2 p2 r2 q2 => exact absurd rfl (ne_of_list_tuple p2 p1)
      | oth l2 => simp only [eqD, l2] at h; cases h
      | @tup _ ys ws jts p2 r2 q2 =>
        simp only [eqD] at h
        have hi : its = jts := by
          obtain ⟨o, ho, _, m, hd⟩ := p1
          obtain ⟨o', ho', _, m', hd'⟩ := p2
          rw [ho] at ho'; cases ho'
          rw [hd] at hd'
          injection hd' with hd' _
          exact List.toArray_inj hd'
        subst hi
        refine eqL_true h (by rw [← r1.length, ← r2.length, q1.length, q2.length]) fun j x y c h1 h2 h3 => ?_
        obtain ⟨v1, g1, k1⟩ := r1.get h1
        obtain ⟨v2, g2, k2⟩ := r2.get h2
        obtain ⟨w1, f1, e1⟩ := q1.get g1
        obtain ⟨w2, f2, e2⟩ := q2.get g2
        rw [f1] at f2; cases f2
        exact eq_same I rh n x y w1 c (sh_of I rh k1 e1) (sh_of I rh k2 e2) h3
    | @lst i a xs vs its l1 m1 p1 r1 q1 =>
      cases se with
      | tup p2 r2 q2 => exact absurd rfl (ne_of_list_tuple p1 p2)
      | oth l2 => simp only [eqD, l1, l2] at h; cases h
      | @lst j _ ys ws jts l2 m2 p2 r2 q2 =>
        have hij : i = j := by
          obtain ⟨h3, e3⟩ := List.getElem?_eq_some_iff.mp m1
          obtain ⟨h4, e4⟩ := List.getElem?_eq_some_iff.mp m2
          exact (List.getElem_inj rh.nd).mp (e3.trans e4.symm)
        subst hij
        simp only [eqD, l1, if_true] at h
        cases h; rfl
    | @oth i _ l1 => exact absurd h (by cases e <;> simp [eqD, l1])
theorem eqAt_of (I : Inv X pins σ H s) (rh : RepH X.K X.mg T μ sto H) : ∀ (n : Nat) (A : Around) (d e : D) (u w : Value) (b : Bool), Sh X.K H μ s.heap sto d u → Sh X.K H μ s.heap sto e w → eqD sto n d e = some b → A.units + n < cLine → EqAt A s u w b
  | 0, _, _, _, _, _, _, _, _, h, _ => by cases h
  | n + 1, A, d, e, u, w, b, sd, se, h, hu => by
    have hu0 : A.units < cLine := by omega
    have items : ∀ {xs ys : List D} {vs ws : List V} {its jts : List Value} {b : Bool}, Rps X.K H μ xs vs → Rps X.K H μ ys ws → Vals vs its → Vals ws jts → eqL (eqD sto n) xs ys = some b →
        ∀ j (h1 : j < its.toArray.size) (h2 : j < jts.toArray.size), EqAt A.in1 s its.toArray[j] jts.toArray[j] (pairB (eqD sto n) xs ys j) := by
      intro xs ys vs ws its jts b r1 r2 q1 q2 hb j h1 h2
      obtain ⟨v, hv, rv⟩ := vals_at q1 h1
      obtain ⟨v', hv', rv'⟩ := vals_at q2 h2
      have hx : j < xs.length := by rw [← r1.length]; exact (List.getElem?_eq_some_iff.mp hv).1
      have hy : j < ys.length := by rw [← r2.length]; exact (List.getElem?_eq_some_iff.mp hv').1
      obtain ⟨v1, g1, p1⟩ := r1.get (List.getElem?_eq_getElem hx)
      obtain ⟨v2, g2, p2⟩ := r2.get (List.getElem?_eq_getElem hy)
      rw [hv] at g1; cases g1
      rw [hv'] at g2; cases g2
      exact eqAt_of I rh n A.in1 _ _ _ _ _ (sh_of I rh p1 rv) (sh_of I rh p2 rv') (eqL_get hb (List.getElem?_eq_getElem hx) (List.getElem?_eq_getElem hy)) (by show A.units + 1 + n < cLine; omega)
    cases sd with
    | non =>
      cases se with
      | non => simp only [eqD] at h; cases h; exact .same _
      | bl y => simp only [eqD] at h; cases h; exact .none_bool y
      | int y t => simp only [eqD] at h; cases h; exact .none_int y t
      | str y t => simp only [eqD] at h; cases h; exact .none_str _ t
      | tup p2 r2 q2 => simp only [eqD] at h; cases h; exact .none_tuple p2 hu0
      | lst l2 m2 p2 r2 q2 => simp only [eqD, l2] at h; cases h; exact .none_list p2 hu0
      | oth l2 => simp only [eqD, l2] at h; cases h
    | bl x =>
      cases se with
      | non => simp only [eqD] at h; cases h; exact .bool_none x
      | bl y => simp only [eqD] at h; cases h; exact .bool_bool x y
      | int y t => simp only [eqD] at h; cases h; exact .bool_int x y t
      | str y t => simp only [eqD] at h; cases h; exact .bool_str x _ t
      | tup p2 r2 q2 => simp only [eqD] at h; cases h; exact .bool_tuple x p2 hu0
      | lst l2 m2 p2 r2 q2 => simp only [eqD, l2] at h; cases h; exact .bool_list x p2 hu0
      | oth l2 => simp only [eqD, l2] at h; cases h
    | int x t =>
      cases se with
      | non => simp only [eqD] at h; cases h; exact .int_none x t
      | bl y => simp only [eqD] at h; cases h; exact .int_bool x t y
      | int y t' => simp only [eqD] at h; cases h; exact .int_int x t y t'
      | str y t' => simp only [eqD] at h; cases h; exact .int_str x t _ t'
      | tup p2 r2 q2 => simp only [eqD] at h; cases h; exact .int_tuple x t p2 hu0
      | lst l2 m2 p2 r2 q2 => simp only [eqD, l2] at h; cases h; exact .int_list x t p2 hu0
      | oth l2 => simp only [eqD, l2] at h; cases h
    | str x t =>
      cases se with
      | non => simp only [eqD] at h; cases h; exact .str_none _ t
      | bl y => simp only [eqD] at h; cases h; exact .str_bool _ t y
      | int y t' => simp only [eqD] at h; cases h; exact .str_int _ t y t'
      | str y t' =>
        simp only [eqD] at h; cases h
        have e1 : (x == y) = (sn x == sn y) := (SX.S_beq x y).symm
        rw [e1]
        exact .str_str _ t _ t'
      | tup p2 r2 q2 => simp only [eqD] at h; cases h; exact .str_tuple _ t p2 hu0
      | lst l2 m2 p2 r2 q2 => simp only [eqD, l2] at h; cases h; exact .str_list _ t p2 hu0
      | oth l2 => simp only [eqD, l2] at h; cases h
    | @tup a xs vs its p1 r1 q1 =>
      cases se with
      | non => simp only [eqD] at h; cases h; exact .tuple_none p1 hu0
      | bl y => simp only [eqD] at h; cases h; exact .tuple_bool y p1 hu0
      | int y t' => simp only [eqD] at h; cases h; exact .tuple_int y t' p1 hu0
      | str y t' => simp only [eqD] at h; cases h; exact .tuple_str _ t' p1 hu0
      | lst l2 m2 p2 r2 q2 => simp only [eqD, l2] at h; cases h; exact .tuple_list p1 p2 hu0
      | oth l2 => simp only [eqD, l2] at h; cases h
      | @tup a' ys ws jts p2 r2 q2 =>
        simp only [eqD] at h
        have hl : its.toArray.size = xs.length := by rw [List.size_toArray, ← q1.length, r1.length]
        have hl' : jts.toArray.size = ys.length := by rw [List.size_toArray, ← q2.length, r2.length]
        have it := items r1 r2 q1 q2 h
        have hall := eqL_all h
        rw [← hl, ← hl'] at hall
        by_cases ha : a = a'
        · subst ha
          have hb : b = true := eq_same I rh (n + 1) _ _ _ b (.tup p1 r1 q1) (.tup p2 r2 q2) (by simp only [eqD]; exact h)
          subst hb
          exact .same _
        · exact .of_refs ha (hall ▸ RcAt.tuples p1 p2 hu0 it)
    | @lst i a xs vs its l1 m1 p1 r1 q1 =>
      cases se with
      | non => simp only [eqD, l1] at h; cases h; exact .list_none p1 hu0
      | bl y => simp only [eqD, l1] at h; cases h; exact .list_bool y p1 hu0
      | int y t' => simp only [eqD, l1] at h; cases h; exact .list_int y t' p1 hu0
      | str y t' => simp only [eqD, l1] at h; cases h; exact .list_str _ t' p1 hu0
      | tup p2 r2 q2 => simp only [eqD, l1] at h; cases h; exact .list_tuple p1 p2 hu0
      | oth l2 => simp only [eqD, l1, l2] at h; cases h
      | @lst j a' ys ws jts l2 m2 p2 r2 q2 =>
        by_cases ha : a = a'
        · subst ha
          have hb : b = true := eq_same I rh (n + 1) _ _ _ b (.lst l1 m1 p1 r1 q1) (.lst l2 m2 p2 r2 q2) h
          subst hb
          exact .same _
        · have hij : i ≠ j := fun z => by subst z; rw [m1] at m2; cases m2; exact ha rfl
          simp only [eqD, l1, l2, if_neg hij] at h
          have hl : its.toArray.size = xs.length := by rw [List.size_toArray, ← q1.length, r1.length]
          have hl' : jts.toArray.size = ys.length := by rw [List.size_toArray, ← q2.length, r2.length]
          refine .of_refs ha ?_
          split at h
          · rename_i hle
            have hall := eqL_all h
            rw [← hle, Nat.min_self, ← hl] at hall
            have : b = (List.range its.toArray.size).all (pairB (eqD sto n) xs ys) := by rw [← hall, hl]; simp
            rw [this]
            exact RcAt.lists p1 p2 (by omega) hu0 (items r1 r2 q1 q2 h)
          · cases h
            exact RcAt.lists_lengths p1 p2 (by simp only [bne_iff_ne]; omega) hu0
    | @oth i _ l1 => exact absurd h (by cases e <;> simp [eqD, l1])
theorem rcAt_of (I : Inv X pins σ H s) (rh : RepH X.K X.mg T μ sto H) (n : Nat) (A : Around) (d e : D) (u w : Value) (b : Bool) (sd : Sh X.K H μ s.heap sto d u) (se : Sh X.K H μ s.heap sto e w) (h : eqD sto (n + 1) d e = some b) (hu : A.units + (n + 1) < cLine) : RcAt A s u w b := by
    have hu0 : A.units < cLine := by omega
    have items : ∀ {xs ys : List D} {vs ws : List V} {its jts : List Value} {b : Bool}, Rps X.K H μ xs vs → Rps X.K H μ ys ws → Vals vs its → Vals ws jts → eqL (eqD sto n) xs ys = some b →
        ∀ j (h1 : j < its.toArray.size) (h2 : j < jts.toArray.size), EqAt A.in1 s its.toArray[j] jts.toArray[j] (pairB (eqD sto n) xs ys j) := by
      intro xs ys vs ws its jts b r1 r2 q1 q2 hb j h1 h2
      obtain ⟨v, hv, rv⟩ := vals_at q1 h1
      obtain ⟨v', hv', rv'⟩ := vals_at q2 h2
      have hx : j < xs.length := by rw [← r1.length]; exact (List.getElem?_eq_some_iff.mp hv).1
      have hy : j < ys.length := by rw [← r2.length]; exact (List.getElem?_eq_some_iff.mp hv').1
      obtain ⟨v1, g1, p1⟩ := r1.get (List.getElem?_eq_getElem hx)
      obtain ⟨v2, g2, p2⟩ := r2.get (List.getElem?_eq_getElem hy)
      rw [hv] at g1; cases g1
      rw [hv'] at g2; cases g2
      exact eqAt_of I rh n A.in1 _ _ _ _ _ (sh_of I rh p1 rv) (sh_of I rh p2 rv') (eqL_get hb (List.getElem?_eq_getElem hx) (List.getElem?_eq_getElem hy)) (by show A.units + 1 + n < cLine; omega)
    cases sd with
    | non =>
      cases se with
      | non => simp only [eqD] at h; cases h; exact .none_none
      | bl y => simp only [eqD] at h; cases h; exact .none_bool y
      | int y t => simp only [eqD] at h; cases h; exact .none_int y t
      | str y t => simp only [eqD] at h; cases h; exact .none_str _ t
      | tup p2 r2 q2 => simp only [eqD] at h; cases h; exact .none_tuple p2 hu0
      | lst l2 m2 p2 r2 q2 => simp only [eqD, l2] at h; cases h; exact .none_list p2 hu0
      | oth l2 => simp only [eqD, l2] at h; cases h
    | bl x =>
      cases se with
      | non => simp only [eqD] at h; cases h; exact .bool_none x
      | bl y => simp only [eqD] at h; cases h; exact .bool_bool x y
      | int y t => simp only [eqD] at h; cases h; exact .bool_int x y t
      | str y t => simp only [eqD] at h; cases h; exact .bool_str x _ t
      | tup p2 r2 q2 => simp only [eqD] at h; cases h; exact .bool_tuple x p2 hu0
      | lst l2 m2 p2 r2 q2 => simp only [eqD, l2] at h; cases h; exact .bool_list x p2 hu0
      | oth l2 => simp only [eqD, l2] at h; cases h
    | int x t =>
      cases se with
      | non => simp only [eqD] at h; cases h; exact .int_none x t
      | bl y => simp only [eqD] at h; cases h; exact .int_bool x t y
      | int y t' => simp only [eqD] at h; cases h; exact .int_int x t y t'
      | str y t' => simp only [eqD] at h; cases h; exact .int_str x t _ t'
      | tup p2 r2 q2 => simp only [eqD] at h; cases h; exact .int_tuple x t p2 hu0
      | lst l2 m2 p2 r2 q2 => simp only [eqD, l2] at h; cases h; exact .int_list x t p2 hu0
      | oth l2 => simp only [eqD, l2] at h; cases h
    | str x t =>
      cases se with
      | non => simp only [eqD] at h; cases h; exact .str_none _ t
      | bl y => simp only [eqD] at h; cases h; exact .str_bool _ t y
      | int y t' => simp only [eqD] at h; cases h; exact .str_int _ t y t'
      | str y t' =>
        simp only [eqD] at h; cases h
        have e1 : (x == y) = (sn x == sn y) := (SX.S_beq x y).symm
        rw [e1]
        exact .str_str _ t _ t'
      | tup p2 r2 q2 => simp only [eqD] at h; cases h; exact .str_tuple _ t p2 hu0
      | lst l2 m2 p2 r2 q2 => simp only [eqD, l2] at h; cases h; exact .str_list _ t p2 hu0
      | oth l2 => simp only [eqD, l2] at h; cases h
    | @tup a xs vs its p1 r1 q1 =>
      cases se with
      | non => simp only [eqD] at h; cases h; exact .tuple_none p1 hu0
      | bl y => simp only [eqD] at h; cases h; exact .tuple_bool y p1 hu0
      | int y t' => simp only [eqD] at h; cases h; exact .tuple_int y t' p1 hu0
      | str y t' => simp only [eqD] at h; cases h; exact .tuple_str _ t' p1 hu0
      | lst l2 m2 p2 r2 q2 => simp only [eqD, l2] at h; cases h; exact .tuple_list p1 p2 hu0
      | oth l2 => simp only [eqD, l2] at h; cases h
      | @tup a' ys ws jts p2 r2 q2 =>
        simp only [eqD] at h
        have hl : its.toArray.size = xs.length := by rw [List.size_toArray, ← q1.length, r1.length]
        have hl' : jts.toArray.size = ys.length := by rw [List.size_toArray, ← q2.length, r2.length]
        have it := items r1 r2 q1 q2 h
        have hall := eqL_all h
        rw [← hl, ← hl'] at hall
        exact hall ▸ RcAt.tuples p1 p2 hu0 it
    | @lst i a xs vs its l1 m1 p1 r1 q1 =>
      cases se with
      | non => simp only [eqD, l1] at h; cases h; exact .list_none p1 hu0
      | bl y => simp only [eqD, l1] at h; cases h; exact .list_bool y p1 hu0
      | int y t' => simp only [eqD, l1] at h; cases h; exact .list_int y t' p1 hu0
      | str y t' => simp only [eqD, l1] at h; cases h; exact .list_str _ t' p1 hu0
      | tup p2 r2 q2 => simp only [eqD, l1] at h; cases h; exact .list_tuple p1 p2 hu0
      | oth l2 => simp only [eqD, l1, l2] at h; cases h
      | @lst j a' ys ws jts l2 m2 p2 r2 q2 =>
        have hl : its.toArray.size = xs.length := by rw [List.size_toArray, ← q1.length, r1.length]
        have hl' : jts.toArray.size = ys.length := by rw [List.size_toArray, ← q2.length, r2.length]
        simp only [eqD, l1, l2] at h
        split at h
        · rename_i hij
          subst hij
          rw [m1] at m2; cases m2
          rw [l1] at l2; cases l2
          cases h
          have hi : its = jts := by
            obtain ⟨o, ho, _, m, hd⟩ := p1
            obtain ⟨o', ho', _, m', hd'⟩ := p2
            rw [ho] at ho'; cases ho'
            rw [hd] at hd'
            injection hd' with hd' _
            exact List.toArray_inj hd'
          subst hi
          have key := RcAt.lists p1 p2 rfl hu0 (e := fun _ => true) (fun j h1 h2 => .same _)
          rw [show (List.range its.toArray.size).all (fun _ => true) = true from List.all_eq_true.mpr fun _ _ => rfl] at key
          exact key
        · split at h
          · rename_i hle
            have hall := eqL_all h
            rw [← hle, Nat.min_self, ← hl] at hall
            have : b = (List.range its.toArray.size).all (pairB (eqD sto n) xs ys) := by rw [← hall, hl]; simp
            rw [this]
            exact RcAt.lists p1 p2 (by omega) hu0 (items r1 r2 q1 q2 h)
          · cases h
            exact RcAt.lists_lengths p1 p2 (by simp only [bne_iff_ne]; omega) hu0
    | @oth i _ l1 => exact absurd h (by cases e <;> simp [eqD, l1])
theorem rcNeAt_of (I : Inv X pins σ H s) (rh : RepH X.K X.mg T μ sto H) (n : Nat) (A : Around) (d e : D) (u w : Value) (b : Bool) (sd : Sh X.K H μ s.heap sto d u) (se : Sh X.K H μ s.heap sto e w) (h : eqD sto (n + 1) d e = some b) (hu : A.units + (n + 1) < cLine) : RcNeAt A s u w (!b) := by
    have hu0 : A.units < cLine := by omega
    have items : ∀ {xs ys : List D} {vs ws : List V} {its jts : List Value} {b : Bool}, Rps X.K H μ xs vs → Rps X.K H μ ys ws → Vals vs its → Vals ws jts → eqL (eqD sto n) xs ys = some b →
        ∀ j (h1 : j < its.toArray.size) (h2 : j < jts.toArray.size), EqAt A.in1 s its.toArray[j] jts.toArray[j] (pairB (eqD sto n) xs ys j) := by
      intro xs ys vs ws its jts b r1 r2 q1 q2 hb j h1 h2
      obtain ⟨v, hv, rv⟩ := vals_at q1 h1
      obtain ⟨v', hv', rv'⟩ := vals_at q2 h2
      have hx : j < xs.length := by rw [← r1.length]; exact (List.getElem?_eq_some_iff.mp hv).1
      have hy : j < ys.length := by rw [← r2.length]; exact (List.getElem?_eq_some_iff.mp hv').1
      obtain ⟨v1, g1, p1⟩ := r1.get (List.getElem?_eq_getElem hx)
      obtain ⟨v2, g2, p2⟩ := r2.get (List.getElem?_eq_getElem hy)
      rw [hv] at g1; cases g1
      rw [hv'] at g2; cases g2
      exact eqAt_of I rh n A.in1 _ _ _ _ _ (sh_of I rh p1 rv) (sh_of I rh p2 rv') (eqL_get hb (List.getElem?_eq_getElem hx) (List.getElem?_eq_getElem hy)) (by show A.units + 1 + n < cLine; omega)
    cases sd with
    | non =>
      cases se with
      | non => simp only [eqD] at h; cases h; exact .none_none
      | bl y => simp only [eqD] at h; cases h; exact .none_bool y
      | int y t => simp only [eqD] at h; cases h; exact .none_int y t
      | str y t => simp only [eqD] at h; cases h; exact .none_str _ t
      | tup p2 r2 q2 => simp only [eqD] at h; cases h; exact .none_tuple p2 hu0
      | lst l2 m2 p2 r2 q2 => simp only [eqD, l2] at h; cases h; exact .none_list p2 hu0
      | oth l2 => simp only [eqD, l2] at h; cases h
    | bl x =>
      cases se with
      | non => simp only [eqD] at h; cases h; exact .bool_none x
      | bl y => simp only [eqD] at h; cases h; exact .bool_bool x y
      | int y t => simp only [eqD] at h; cases h; exact .bool_int x y t
      | str y t => simp only [eqD] at h; cases h; exact .bool_str x _ t
      | tup p2 r2 q2 => simp only [eqD] at h; cases h; exact .bool_tuple x p2 hu0
      | lst l2 m2 p2 r2 q2 => simp only [eqD, l2] at h; cases h; exact .bool_list x p2 hu0
      | oth l2 => simp only [eqD, l2] at h; cases h
    | int x t =>
      cases se with
      | non => simp only [eqD] at h; cases h; exact .int_none x t
      | bl y => simp only [eqD] at h; cases h; exact .int_bool x t y
      | int y t' => simp only [eqD] at h; cases h; exact .int_int x t y t'
      | str y t' => simp only [eqD] at h; cases h; exact .int_str x t _ t'
      | tup p2 r2 q2 => simp only [eqD] at h; cases h; exact .int_tuple x t p2 hu0
      | lst l2 m2 p2 r2 q2 => simp only [eqD, l2] at h; cases h; exact .int_list x t p2 hu0
      | oth l2 => simp only [eqD, l2] at h; cases h
    | str x t =>
      cases se with
      | non => simp only [eqD] at h; cases h; exact .str_none _ t
      | bl y => simp only [eqD] at h; cases h; exact .str_bool _ t y
      | int y t' => simp only [eqD] at h; cases h; exact .str_int _ t y t'
      | str y t' =>
        simp only [eqD] at h; cases h
        have e1 : (x == y) = (sn x == sn y) := (SX.S_beq x y).symm
        rw [e1]
        exact .str_str _ t _ t'
      | tup p2 r2 q2 => simp only [eqD] at h; cases h; exact .str_tuple _ t p2 hu0
      | lst l2 m2 p2 r2 q2 => simp only [eqD, l2] at h; cases h; exact .str_list _ t p2 hu0
      | oth l2 => simp only [eqD, l2] at h; cases h
    | @tup a xs vs its p1 r1 q1 =>
      cases se with
      | non => simp only [eqD] at h; cases h; exact .tuple_none p1 hu0
      | bl y => simp only [eqD] at h; cases h; exact .tuple_bool y p1 hu0
      | int y t' => simp only [eqD] at h; cases h; exact .tuple_int y t' p1 hu0
      | str y t' => simp only [eqD] at h; cases h; exact .tuple_str _ t' p1 hu0
      | lst l2 m2 p2 r2 q2 => simp only [eqD, l2] at h; cases h; exact .tuple_list p1 p2 hu0
      | oth l2 => simp only [eqD, l2] at h; cases h
      | @tup a' ys ws jts p2 r2 q2 =>
        simp only [eqD] at h
        have hl : its.toArray.size = xs.length := by rw [List.size_toArray, ← q1.length, r1.length]
        have hl' : jts.toArray.size = ys.length := by rw [List.size_toArray, ← q2.length, r2.length]
        have it := items r1 r2 q1 q2 h
        have hall := eqL_all h
        rw [← hl, ← hl'] at hall
        exact hall ▸ RcNeAt.tuples p1 p2 hu0 it
    | @lst i a xs vs its l1 m1 p1 r1 q1 =>
      cases se with
      | non => simp only [eqD, l1] at h; cases h; exact .list_none p1 hu0
      | bl y => simp only [eqD, l1] at h; cases h; exact .list_bool y p1 hu0
      | int y t' => simp only [eqD, l1] at h; cases h; exact .list_int y t' p1 hu0
      | str y t' => simp only [eqD, l1] at h; cases h; exact .list_str _ t' p1 hu0
      | tup p2 r2 q2 => simp only [eqD, l1] at h; cases h; exact .list_tuple p1 p2 hu0
      | oth l2 => simp only [eqD, l1, l2] at h; cases h
      | @lst j a' ys ws jts l2 m2 p2 r2 q2 =>
        have hl : its.toArray.size = xs.length := by rw [List.size_toArray, ← q1.length, r1.length]
        have hl' : jts.toArray.size = ys.length := by rw [List.size_toArray, ← q2.length, r2.length]
        simp only [eqD, l1, l2] at h
        split at h
        · rename_i hij
          subst hij
          rw [m1] at m2; cases m2
          rw [l1] at l2; cases l2
          cases h
          have hi : its = jts := by
            obtain ⟨o, ho, _, m, hd⟩ := p1
            obtain ⟨o', ho', _, m', hd'⟩ := p2
            rw [ho] at ho'; cases ho'
            rw [hd] at hd'
            injection hd' with hd' _
            exact List.toArray_inj hd'
          subst hi
          have key := RcNeAt.lists p1 p2 rfl hu0 (e := fun _ => true) (fun j h1 h2 => .same _)
          rw [show (List.range its.toArray.size).all (fun _ => true) = true from List.all_eq_true.mpr fun _ _ => rfl] at key
          exact key
        · split at h
          · rename_i hle
            have hall := eqL_all h
            rw [← hle, Nat.min_self, ← hl] at hall
            have : b = (List.range its.toArray.size).all (pairB (eqD sto n) xs ys) := by rw [← hall, hl]; simp
            rw [this]
            exact RcNeAt.lists p1 p2 (by omega) hu0 (items r1 r2 q1 q2 h)
          · cases h
            exact RcNeAt.lists_lengths p1 p2 (by simp only [bne_iff_ne]; omega) hu0
    | @oth i _ l1 => exact absurd h (by cases e <;> simp [eqD, l1])

def maxN : Nat := 60
def eqOp : D → D → Sto → RV := fun x y s => (eqD s maxN x y).map fun b => (.bl b, s)
def neOp : D → D → Sto → RV := fun x y s => (eqD s maxN x y).map fun b => (.bl (!b), s)
theorem ops_eq (hu : X.A.units + 64 < cLine) : OpS X T (compareOp .Eq) eqOp := by
  refine ⟨fun x y H Q => ∃ μ sto d e, RepH X.K X.mg T μ sto H ∧ Rp X.K H μ d x ∧ Rp X.K H μ e y ∧ DenV X T μ H Q (eqOp d e sto), ?_, fun μ H sto d e v u Q rh r1 r2 q => ⟨μ, sto, d, e, rh, r1, r2, q⟩⟩
  intro pins s σ H x y v u Q I rx ry ⟨μ, sto, d, e, rh, r1, r2, q⟩
  unfold eqOp at q
  cases hb : eqD sto maxN d e with
  | none => rw [hb] at q; exact q.elim
  | some b =>
    rw [hb] at q
    exact rcAt_of I rh 59 X.A d e v u b (sh_of I rh r1 rx) (sh_of I rh r2 ry) hb (by omega) _ _ _ _ ⟨.bl _, H, I, rfl, q.same rh rfl⟩
theorem ops_ne (hu : X.A.units + 64 < cLine) : OpS X T (compareOp .NotEq) neOp := by
  refine ⟨fun x y H Q => ∃ μ sto d e, RepH X.K X.mg T μ sto H ∧ Rp X.K H μ d x ∧ Rp X.K H μ e y ∧ DenV X T μ H Q (neOp d e sto), ?_, fun μ H sto d e v u Q rh r1 r2 q => ⟨μ, sto, d, e, rh, r1, r2, q⟩⟩
  intro pins s σ H x y v u Q I rx ry ⟨μ, sto, d, e, rh, r1, r2, q⟩
  unfold neOp at q
  cases hb : eqD sto maxN d e with
  | none => rw [hb] at q; exact q.elim
  | some b =>
    rw [hb] at q
    exact rcNeAt_of I rh 59 X.A d e v u b (sh_of I rh r1 rx) (sh_of I rh r2 ry) hb (by omega) _ _ _ _ ⟨.bl _, H, I, rfl, q.same rh rfl⟩

/-! ### in, not in -/
def anyD (f : D → Option Bool) : List D → Option Bool
  | [] => some false
  | x :: xs => match f x, anyD f xs with
    | some a, some b => some (a || b)
    | _, _ => none
theorem anyD_get {f : D → Option Bool} : ∀ {xs : List D} {b : Bool} {x : D}, anyD f xs = some b → x ∈ xs → ∃ c, f x = some c ∧ (c = true → b = true)
  | [], _, _, _, h => by simp at h
  | y :: ys, b, x, h, hx => by
    simp only [anyD] at h
    cases hf : f y with
    | none => rw [hf] at h; cases h
    | some c =>
      cases hs : anyD f ys with
      | none => rw [hf, hs] at h; cases h
      | some d =>
        rw [hf, hs] at h; cases h
        rcases List.mem_cons.mp hx with rfl | hm
        · exact ⟨c, hf, fun z => by rw [z]; rfl⟩
        · obtain ⟨e, h1, h2⟩ := anyD_get hs hm
          exact ⟨e, h1, fun z => by rw [h2 z]; simp⟩
theorem anyD_true {f : D → Option Bool} : ∀ {xs : List D}, anyD f xs = some true → ∃ x ∈ xs, f x = some true
  | [], h => by simp [anyD] at h
  | y :: ys, h => by
    simp only [anyD] at h
    cases hf : f y with
    | none => rw [hf] at h; cases h
    | some c =>
      cases hs : anyD f ys with
      | none => rw [hf, hs] at h; cases h
      | some d =>
        rw [hf, hs] at h
        cases c with
        | true => exact ⟨y, by simp, hf⟩
        | false =>
          have hd : d = true := by simpa using h
          subst hd
          obtain ⟨x, h1, h2⟩ := anyD_true hs
          exact ⟨x, by simp [h1], h2⟩
def inD (neg : Bool) : D → D → Sto → RV := fun x y s => match y with
  | .tup ys => (anyD (fun z => eqD s maxN z x) ys).map fun b => (.bl (if neg then !b else b), s)
  | .ref n => match lstAt s n with
    | some ys => (anyD (fun z => eqD s maxN z x) ys).map fun b => (.bl (if neg then !b else b), s)
    | none => none
  | .str z => match x with
    | .str [c] => some (.bl (if neg then !decide (c ∈ z) else decide (c ∈ z)), s)
    | _ => none
  | _ => none
open Classical in
noncomputable def eOf (K : PySem.W.Frag) (H : Hp) (μ : List Addr) (h : Heap) (s : Sto) (x : D) (ys : List D) (u : Value) : Bool := decide (∃ d ∈ ys, Sh K H μ h s d u ∧ eqD s maxN d x = some true)
theorem eOf_true {K : PySem.W.Frag} {h : Heap} {s : Sto} {x : D} {ys : List D} {u : Value} : eOf K H μ h s x ys u = true ↔ ∃ d ∈ ys, Sh K H μ h s d u ∧ eqD s maxN d x = some true := by
  unfold eOf; simp only [decide_eq_true_eq]
theorem eOf_at (I : Inv X pins σ H s) (rh : RepH X.K X.mg T μ sto H) {A : Around} {x : D} {ux : Value} {ys : List D} {vs : List V} {its : List Value} {b : Bool} (sx : Sh X.K H μ s.heap sto x ux) (r : Rps X.K H μ ys vs) (q : Vals vs its)
    (h : anyD (fun z => eqD sto maxN z x) ys = some b) (hu : A.units + 64 < cLine) : (∀ y, y ∈ its.toArray → EqAt A.in1 s y ux (eOf X.K H μ s.heap sto x ys y)) ∧ its.toArray.any (eOf X.K H μ s.heap sto x ys) = b := by
  have hun : A.in1.units + maxN < cLine := by show A.units + 1 + 60 < cLine; omega
  have at_ : ∀ y, y ∈ its → ∃ d ∈ ys, Sh X.K H μ s.heap sto d y := by
    intro y hy
    obtain ⟨j, hj, e⟩ := List.getElem_of_mem hy
    obtain ⟨v, hv, rv⟩ := vals_at q (j := j) (by simpa using hj)
    have hx : j < ys.length := by rw [← r.length]; exact (List.getElem?_eq_some_iff.mp hv).1
    obtain ⟨v1, g1, p1⟩ := r.get (List.getElem?_eq_getElem hx)
    rw [hv] at g1; cases g1
    refine ⟨ys[j], List.getElem_mem hx, ?_⟩
    have := sh_of I rh p1 rv
    simp only [List.getElem_toArray] at this
    rwa [e] at this
  constructor
  · intro y hy
    have hy' : y ∈ its := by simpa using hy
    by_cases he : ∃ d ∈ ys, Sh X.K H μ s.heap sto d y ∧ eqD sto maxN d x = some true
    · obtain ⟨d, hd, sd, hq⟩ := he
      have e1 : eOf X.K H μ s.heap sto x ys y = true := eOf_true.mpr ⟨d, hd, sd, hq⟩
      rw [e1]
      exact eqAt_of I rh maxN A.in1 d x y ux true sd sx hq hun
    · have e1 : eOf X.K H μ s.heap sto x ys y = false := Bool.eq_false_iff.mpr fun z => he (eOf_true.mp z)
      rw [e1]
      obtain ⟨d, hd, sd⟩ := at_ y hy'
      obtain ⟨c, hc, _⟩ := anyD_get h hd
      have : c = false := by
        cases c with
        | false => rfl
        | true => exact absurd ⟨d, hd, sd, hc⟩ he
      subst this
      exact eqAt_of I rh maxN A.in1 d x y ux false sd sx hc hun
  · cases b with
    | false =>
      rw [Array.any_eq_false]
      intro j hj ht
      obtain ⟨d, hd, sd, hq⟩ := eOf_true.mp ht
      obtain ⟨c, hc, hb⟩ := anyD_get h hd
      have hc' : eqD sto maxN d x = some c := hc
      rw [hq] at hc'
      cases hc'
      cases hb rfl
    | true =>
      obtain ⟨d, hd, hq⟩ := anyD_true h
      obtain ⟨j, hj, e⟩ := List.getElem_of_mem hd
      obtain ⟨v1, g1, p1⟩ := r.get (List.getElem?_eq_getElem hj)
      obtain ⟨u, hu', rv⟩ := q.get g1
      have hj2 : j < its.length := (List.getElem?_eq_some_iff.mp hu').1
      rw [Array.any_eq_true]
      refine ⟨j, by simpa using hj2, eOf_true.mpr ⟨d, hd, ?_, hq⟩⟩
      have e2 : its[j] = u := by rw [List.getElem?_eq_getElem hj2] at hu'; exact Option.some.inj hu'
      have := sh_of I rh p1 rv
      rw [e] at this
      simp only [List.getElem_toArray]
      rw [e2]
      exact this
theorem ops_in (hu : X.A.units + 64 < cLine) : OpS X T (compareOp .In) (inD false) := by
  obtain ⟨r0, h1, h2⟩ := ops_inSign (X := X) (T := T)
  refine ⟨fun x y H Q => r0 x y H Q ∨ ∃ μ sto d e, RepH X.K X.mg T μ sto H ∧ Rp X.K H μ d x ∧ Rp X.K H μ e y ∧ (∀ z, e ≠ .str z) ∧ DenV X T μ H Q (inD false d e sto), ?_, fun μ H sto d e v u Q rh r1 r2 q => ?_⟩
  · intro pins s σ H x y v u Q I rx ry h
    rcases h with h | ⟨μ, sto, d, e, rh, r1, r2, hz, q⟩
    · exact h1 pins s σ H x y v u Q I rx ry h
    · unfold inD at q
      split at q
      · rename_i ys
        cases hb : anyD (fun z => eqD sto maxN z d) ys with
        | none => rw [hb] at q; exact q.elim
        | some b =>
          rw [hb] at q
          obtain ⟨a, vs, rfl, g2, g3⟩ := r2
          cases ry
          obtain ⟨its, q1, p1, _⟩ := I.tuple g2
          obtain ⟨k1, k2⟩ := eOf_at I rh (A := X.A) (sh_of I rh r1 rx) g3 q1 hb hu
          exact in_tupleAt _ p1 k1 (by rw [k2]; exact ⟨.bl _, H, I, rfl, q.same rh rfl⟩)
      · rename_i n
        split at q
        · rename_i ys hys
          cases hb : anyD (fun z => eqD sto maxN z d) ys with
          | none => rw [hb] at q; exact q.elim
          | some b =>
            rw [hb] at q
            obtain ⟨a, vs, rfl, g2, g3⟩ := rh.lstV hys r2
            cases ry
            obtain ⟨its, q1, p1, _⟩ := I.list g2
            obtain ⟨k1, k2⟩ := eOf_at I rh (A := X.A) (sh_of I rh r1 rx) g3 q1 hb hu
            exact in_listAt _ p1.isList k1 (by rw [k2]; exact ⟨.bl _, H, I, rfl, q.same rh rfl⟩)
        · exact q.elim
      · exact absurd rfl (hz _)
      · exact q.elim
  · by_cases hz : ∃ z, e = .str z
    · obtain ⟨z, rfl⟩ := hz
      refine .inl (h2 μ H sto d _ v u Q rh r1 r2 ?_)
      unfold inD at q
      simp only at q
      split at q
      · rename_i c
        unfold inSign
        exact q
      · exact q.elim
    · exact .inr ⟨μ, sto, d, e, rh, r1, r2, fun z h => hz ⟨z, h⟩, q⟩
theorem ops_notIn (hu : X.A.units + 64 < cLine) : OpS X T (compareOp .NotIn) (inD true) := by
  obtain ⟨r0, h1, h2⟩ := ops_notInSign (X := X) (T := T)
  refine ⟨fun x y H Q => r0 x y H Q ∨ ∃ μ sto d e, RepH X.K X.mg T μ sto H ∧ Rp X.K H μ d x ∧ Rp X.K H μ e y ∧ (∀ z, e ≠ .str z) ∧ DenV X T μ H Q (inD true d e sto), ?_, fun μ H sto d e v u Q rh r1 r2 q => ?_⟩
  · intro pins s σ H x y v u Q I rx ry h
    rcases h with h | ⟨μ, sto, d, e, rh, r1, r2, hz, q⟩
    · exact h1 pins s σ H x y v u Q I rx ry h
    · unfold inD at q
      split at q
      · rename_i ys
        cases hb : anyD (fun z => eqD sto maxN z d) ys with
        | none => rw [hb] at q; exact q.elim
        | some b =>
          rw [hb] at q
          obtain ⟨a, vs, rfl, g2, g3⟩ := r2
          cases ry
          obtain ⟨its, q1, p1, _⟩ := I.tuple g2
          obtain ⟨k1, k2⟩ := eOf_at I rh (A := X.A) (sh_of I rh r1 rx) g3 q1 hb hu
          exact notIn_tupleAt _ p1 k1 (by rw [k2]; exact ⟨.bl _, H, I, rfl, q.same rh rfl⟩)
      · rename_i n
        split at q
        · rename_i ys hys
          cases hb : anyD (fun z => eqD sto maxN z d) ys with
          | none => rw [hb] at q; exact q.elim
          | some b =>
            rw [hb] at q
            obtain ⟨a, vs, rfl, g2, g3⟩ := rh.lstV hys r2
            cases ry
            obtain ⟨its, q1, p1, _⟩ := I.list g2
            obtain ⟨k1, k2⟩ := eOf_at I rh (A := X.A) (sh_of I rh r1 rx) g3 q1 hb hu
            exact notIn_listAt _ p1.isList k1 (by rw [k2]; exact ⟨.bl _, H, I, rfl, q.same rh rfl⟩)
        · exact q.elim
      · exact absurd rfl (hz _)
      · exact q.elim
  · by_cases hz : ∃ z, e = .str z
    · obtain ⟨z, rfl⟩ := hz
      refine .inl (h2 μ H sto d _ v u Q rh r1 r2 ?_)
      unfold inD at q
      simp only at q
      split at q
      · rename_i c
        unfold inSign
        exact q
      · exact q.elim
    · exact .inr ⟨μ, sto, d, e, rh, r1, r2, fun z h => hz ⟨z, h⟩, q⟩
end
end TP
/-! Order of data: <, sorted. -/
namespace TP
open PySem PySem.Spec PyProof.Rows L2 LamX SeqAt Ob

def rank : D → Nat
  | .non => 0 | .bl _ => 1 | .int _ => 2 | .str _ => 3 | .tup _ => 4 | .ref _ => 5
mutual
def ltT : D → D → Bool
  | .int a, .int b => decide (a < b)
  | .str a, .str b => decide (a < b)
  | .bl a, .bl b => !a && b
  | .ref a, .ref b => decide (a < b)
  | .tup a, .tup b => ltTs a b
  | x, y => decide (rank x < rank y)
def ltTs : List D → List D → Bool
  | _, [] => false
  | [], _ :: _ => true
  | x :: xs, y :: ys => if x = y then ltTs xs ys else ltT x y
end
mutual
theorem ltT_irrefl : ∀ x : D, ltT x x = false
  | .non => rfl
  | .bl a => by cases a <;> rfl
  | .int a => by simp [ltT]
  | .str a => by simp only [ltT]; exact decide_eq_false (List.lt_irrefl a)
  | .ref a => by simp [ltT]
  | .tup xs => by simp only [ltT]; exact ltTs_irrefl xs
theorem ltTs_irrefl : ∀ x : List D, ltTs x x = false
  | [] => rfl
  | x :: xs => by simp only [ltTs, if_true]; exact ltTs_irrefl xs
end
mutual
theorem ltT_trans : ∀ x y z : D, ltT x y = true → ltT y z = true → ltT x z = true
  | .non, y, z, h1, h2 => by cases y <;> cases z <;> simp [ltT, rank] at h1 h2 ⊢
  | .bl a, y, z, h1, h2 => by cases y <;> cases z <;> simp [ltT, rank] at h1 h2 ⊢; simp_all
  | .int a, y, z, h1, h2 => by cases y <;> cases z <;> simp [ltT, rank] at h1 h2 ⊢; omega
  | .str a, y, z, h1, h2 => by cases y <;> cases z <;> simp [ltT, rank] at h1 h2 ⊢; exact List.lt_trans h1 h2
  | .ref a, y, z, h1, h2 => by cases y <;> cases z <;> simp [ltT, rank] at h1 h2 ⊢; omega
  | .tup xs, y, z, h1, h2 => by
    cases y <;> cases z <;> simp [ltT, rank] at h1 h2 ⊢
    exact ltTs_trans xs _ _ h1 h2
theorem ltTs_trans : ∀ x y z : List D, ltTs x y = true → ltTs y z = true → ltTs x z = true
  | x, [], z, h1, h2 => by simp [ltTs] at h1
  | x, _ :: _, [], h1, h2 => by simp [ltTs] at h2
  | [], _ :: _, _ :: _, h1, h2 => rfl
  | x :: xs, y :: ys, z :: zs, h1, h2 => by
    simp only [ltTs] at h1 h2 ⊢
    by_cases e1 : x = y
    · subst e1
      rw [if_pos rfl] at h1
      by_cases e2 : x = z
      · subst e2
        rw [if_pos rfl] at h2 ⊢
        exact ltTs_trans xs ys zs h1 h2
      · rw [if_neg e2] at h2 ⊢
        exact h2
    · rw [if_neg e1] at h1
      by_cases e2 : y = z
      · subst e2
        rw [if_neg e1]; exact h1
      · rw [if_neg e2] at h2
        have h3 := ltT_trans x y z h1 h2
        by_cases e3 : x = z
        · subst e3
          rw [ltT_irrefl] at h3; cases h3
        · rw [if_neg e3]; exact h3
end
mutual
theorem ltT_total : ∀ x y : D, x ≠ y → ltT x y = true ∨ ltT y x = true
  | .non, y, h => by cases y <;> simp [ltT, rank] at h ⊢
  | .bl a, y, h => by cases y <;> simp [ltT, rank] at h ⊢; cases a <;> simp_all
  | .int a, y, h => by cases y <;> simp [ltT, rank] at h ⊢; omega
  | .str a, y, h => by
    cases y <;> simp [ltT, rank] at h ⊢
    rename_i b
    rcases List.le_total a b with g | g
    · rcases List.le_iff_lt_or_eq.mp g with g | g
      · exact .inl g
      · exact absurd g h
    · rcases List.le_iff_lt_or_eq.mp g with g | g
      · exact .inr g
      · exact absurd g.symm h
  | .ref a, y, h => by cases y <;> simp [ltT, rank] at h ⊢; omega
  | .tup xs, y, h => by
    cases y <;> simp [ltT, rank] at h ⊢
    exact ltTs_total xs _ h
theorem ltTs_total : ∀ x y : List D, x ≠ y → ltTs x y = true ∨ ltTs y x = true
  | [], [], h => absurd rfl h
  | [], _ :: _, _ => .inl rfl
  | _ :: _, [], _ => .inr rfl
  | x :: xs, y :: ys, h => by
    simp only [ltTs]
    by_cases e : x = y
    · subst e
      rw [if_pos rfl, if_pos rfl]
      exact ltTs_total xs ys fun z => h (by rw [z])
    · rw [if_neg e, if_neg fun z => e z.symm]
      exact ltT_total x y e
end
theorem ltT_asym {x y : D} (h : ltT x y = true) : ltT y x = false := by
  cases h2 : ltT y x with
  | false => rfl
  | true => have := ltT_trans x y x h h2; rw [ltT_irrefl] at this; cases this
theorem leT_cases {x y : D} (h : ltT y x = false) : x = y ∨ ltT x y = true := by
  by_cases e : x = y
  · exact .inl e
  · rcases ltT_total x y e with g | g
    · exact .inr g
    · rw [h] at g; cases g
theorem leT_trans {x y z : D} (h1 : ltT y x = false) (h2 : ltT z y = false) : ltT z x = false := by
  rcases leT_cases h1 with e | e
  · subst e; exact h2
  · rcases leT_cases h2 with g | g
    · subst g; exact h1
    · exact ltT_asym (ltT_trans _ _ _ e g)
/-! ### sorted by it -/
def insT (x : D) : List D → List D
  | [] => [x]
  | y :: l => if ltT y x then y :: insT x l else x :: y :: l
def sortT (xs : List D) : List D := xs.foldr insT []
theorem insT_perm (x : D) : ∀ l, (insT x l).Perm (x :: l)
  | [] => .refl _
  | y :: l => by
    unfold insT
    split
    · exact ((insT_perm x l).cons y).trans (.swap x y l)
    · exact .refl _
theorem sortT_perm : ∀ xs : List D, (sortT xs).Perm xs
  | [] => .refl _
  | x :: xs => (insT_perm x _).trans ((sortT_perm xs).cons x)
abbrev Up (l : List D) : Prop := l.Pairwise fun x y => ltT y x = false
theorem insT_up (x : D) : ∀ {l : List D}, Up l → Up (insT x l)
  | [], _ => List.pairwise_singleton _ _
  | y :: l, h => by
    have hp := List.pairwise_cons.mp h
    unfold insT
    split
    · rename_i hy
      refine List.pairwise_cons.mpr ⟨fun z hz => ?_, insT_up x hp.2⟩
      rcases List.mem_cons.mp ((insT_perm x l).mem_iff.mp hz) with rfl | hz
      · exact ltT_asym hy
      · exact hp.1 z hz
    · rename_i hy
      have hy : ltT y x = false := by simpa using hy
      refine List.pairwise_cons.mpr ⟨fun z hz => ?_, h⟩
      rcases List.mem_cons.mp hz with rfl | hz
      · exact hy
      · exact leT_trans hy (hp.1 z hz)
theorem sortT_up : ∀ xs : List D, Up (sortT xs)
  | [] => List.Pairwise.nil
  | x :: xs => insT_up x (sortT_up xs)
theorem up_uniq {l m : List D} (h1 : Up l) (h2 : Up m) (p : l.Perm m) : l = m :=
  List.Perm.eq_of_pairwise (le := fun x y => ltT y x = false) (fun a b _ _ g1 g2 => by
    rcases leT_cases g1 with e | e
    · exact e
    · rw [g2] at e; cases e) h1 h2 p
theorem sortT_eq {l m : List D} (h : Up l) (p : l.Perm m) : sortT m = l := up_uniq (sortT_up m) h ((sortT_perm m).trans p.symm)

/-! ### data that may be compared -/
mutual
def cmpD : D → D → Bool
  | .int _, .int _ => true
  | .str _, .str _ => true
  | .tup xs, .tup ys => cmpDs xs ys
  | _, _ => false
def cmpDs : List D → List D → Bool
  | [], [] => true
  | _ :: _, [] => true
  | [], _ :: _ => true
  | x :: xs, y :: ys => cmpD x y && cmpDs xs ys
end
mutual
/-- ints, texts, tuples of such -/
def okD : Nat → D → Bool
  | _, .int _ => true
  | _, .str _ => true
  | 0, .tup _ => false
  | n + 1, .tup xs => okDs n xs
  | _, _ => false
def okDs : Nat → List D → Bool
  | _, [] => true
  | n, x :: xs => okD n x && okDs n xs
end
mutual
/-- the value stands for the data in this heap -/
def Dh (h : Heap) : D → Value → Prop
  | .int i, v => ∃ t, v = .int i t
  | .str x, v => ∃ t, v = .str (sn x) t
  | .tup ds, v => ∃ a its, v = .ref a ∧ h.IsTuple a its.toArray ∧ Dhs h ds its
  | _, _ => False
def Dhs (h : Heap) : List D → List Value → Prop
  | [], vs => vs = []
  | d :: ds, vs => ∃ v ws, vs = v :: ws ∧ Dh h d v ∧ Dhs h ds ws
end
mutual
theorem Dh.keep {h h' : Heap} (k : ∀ b o, h.get? b = some o → o.cls = .type "tuple" → h'.get? b = some o) : ∀ {d : D} {v : Value}, Dh h d v → Dh h' d v
  | .int _, _, q => q
  | .str _, _, q => q
  | .tup _, _, ⟨a, its, h1, ⟨o, ho, hc, n, hd⟩, h3⟩ => ⟨a, its, h1, ⟨o, k _ _ ho hc, hc, n, hd⟩, Dhs.keep k h3⟩
  | .non, _, q => q.elim
  | .bl _, _, q => q.elim
  | .ref _, _, q => q.elim
theorem Dhs.keep {h h' : Heap} (k : ∀ b o, h.get? b = some o → o.cls = .type "tuple" → h'.get? b = some o) : ∀ {d : List D} {v : List Value}, Dhs h d v → Dhs h' d v
  | [], _, q => q
  | _ :: _, _, ⟨v, ws, h1, h2, h3⟩ => ⟨v, ws, h1, Dh.keep k h2, Dhs.keep k h3⟩
end
theorem Dhs.length {h : Heap} : ∀ {ds : List D} {vs : List Value}, Dhs h ds vs → vs.length = ds.length
  | [], _, q => by rw [show _ = _ from q]; rfl
  | _ :: _, _, ⟨v, ws, h1, _, h3⟩ => by rw [h1]; simp [Dhs.length h3]
theorem Dhs.get {h : Heap} : ∀ {ds : List D} {vs : List Value} {i : Nat} {d : D}, Dhs h ds vs → ds[i]? = some d → ∃ v, vs[i]? = some v ∧ Dh h d v
  | [], _, _, _, _, e => by simp at e
  | x :: _, _, 0, d, ⟨v, ws, h1, h2, _⟩, e => by simp at e; subst e; subst h1; exact ⟨v, rfl, h2⟩
  | _ :: _, _, i + 1, d, ⟨v, ws, h1, _, h3⟩, e => by subst h1; simp at e; exact Dhs.get (i := i) h3 e
section
variable {X : Cx} {T : List (Addr × Str)} {pins : List (Addr × Obj)} {σ : L2.St} {H : Hp} {s : Shared} {μ : List Addr} {sto : Sto}
mutual
theorem dh_of (I : Inv X pins σ H s) : ∀ (n : Nat) (d : D) {v : V} {u : Value}, okD n d = true → Rp X.K H μ d v → RelV v u → Dh s.heap d u
  | n, .int i, v, u, _, r, q => by rw [show v = _ from r] at q; exact q
  | n, .str i, v, u, _, r, q => by rw [show v = _ from r] at q; exact q
  | 0, .tup _, v, u, h, _, _ => by simp [okD] at h
  | n + 1, .tup xs, v, u, h, r, q => by
    obtain ⟨a, vs, rfl, h2, h3⟩ := r
    cases q
    obtain ⟨its, r1, p1, _⟩ := I.tuple h2
    exact ⟨a, its, rfl, p1, dhs_of I n xs (by simpa [okD] using h) h3 r1⟩
  | n, .non, _, _, h, _, _ => by cases n <;> simp [okD] at h
  | n, .bl _, _, _, h, _, _ => by cases n <;> simp [okD] at h
  | n, .ref _, _, _, h, _, _ => by cases n <;> simp [okD] at h
theorem dhs_of (I : Inv X pins σ H s) : ∀ (n : Nat) (ds : List D) {vs : List V} {us : List Value}, okDs n ds = true → Rps X.K H μ ds vs → Vals vs us → Dhs s.heap ds us
  | n, [], vs, us, _, r, q => by rw [show vs = _ from r] at q; cases q; rfl
  | n, d :: ds, vs, us, h, ⟨v, ws, h1, h2, h3⟩, q => by
    subst h1
    cases q with
    | cons q1 q2 =>
      simp only [okDs, Bool.and_eq_true] at h
      exact ⟨_, _, rfl, dh_of I n d h.1 h2 q1, dhs_of I n ds h.2 h3 q2⟩
end
end
theorem cmpDs_get : ∀ {xs ys : List D} {j : Nat} {x y : D}, cmpDs xs ys = true → xs[j]? = some x → ys[j]? = some y → cmpD x y = true
  | [], _, _, _, _, _, h, _ => by simp at h
  | _ :: _, [], _, _, _, _, _, h => by simp at h
  | a :: xs, b :: ys, 0, _, _, h, h1, h2 => by simp at h1 h2; subst h1; subst h2; simp [cmpDs] at h; exact h.1
  | a :: xs, b :: ys, j + 1, _, _, h, h1, h2 => by simp [cmpDs] at h; exact cmpDs_get h.2 (by simpa using h1) (by simpa using h2)
theorem okDs_get : ∀ {n : Nat} {xs : List D} {j : Nat} {x : D}, okDs n xs = true → xs[j]? = some x → okD n x = true
  | _, [], _, _, _, h => by simp at h
  | _, a :: xs, 0, _, h, h1 => by simp at h1; subst h1; simp [okDs] at h; exact h.1
  | _, a :: xs, j + 1, _, h, h1 => by simp [okDs] at h; exact okDs_get h.2 (by simpa using h1)
/-- j-th items equal -/
def eqJ (xs ys : List D) (j : Nat) : Bool := decide (xs[j]? = ys[j]?)
def ltJ (xs ys : List D) (j : Nat) : Bool := match xs[j]?, ys[j]? with
  | some x, some y => ltT x y
  | _, _ => false
theorem eqJ_all : ∀ {xs ys : List D}, ((List.range (min xs.length ys.length)).all (eqJ xs ys) && xs.length == ys.length) = decide (xs = ys)
  | [], [] => by simp
  | [], _ :: _ => by simp
  | _ :: _, [] => by simp
  | x :: xs, y :: ys => by
    simp only [List.length_cons, Nat.succ_min_succ]
    rw [List.range_succ_eq_map, List.all_cons, List.all_map]
    have e2 : (eqJ (x :: xs) (y :: ys) ∘ Nat.succ) = eqJ xs ys := by funext j; simp [eqJ]
    have e1 : eqJ (x :: xs) (y :: ys) 0 = decide (x = y) := by simp [eqJ]
    have ih := eqJ_all (xs := xs) (ys := ys)
    rw [e1, e2, Bool.and_assoc]
    have e3 : (xs.length + 1 == ys.length + 1) = (xs.length == ys.length) := by simp
    rw [e3, ih]
    by_cases hx : x = y <;> by_cases hs : xs = ys <;> simp [hx, hs]
theorem ltJ_lex : ∀ {xs ys : List D} (i : Nat), lexAt (eqJ xs ys) (ltJ xs ys) (decide (xs.length < ys.length)) i (min (xs.drop i).length (ys.drop i).length) = if i ≤ xs.length ∧ i ≤ ys.length then ltTs (xs.drop i) (ys.drop i) else decide (xs.length < ys.length) := by
  intro xs ys i
  generalize hk : min (xs.drop i).length (ys.drop i).length = k
  induction k generalizing i with
  | zero =>
    rw [lexAt_zero]
    split
    · rename_i hi
      simp only [List.length_drop] at hk
      rcases Nat.lt_or_ge xs.length ys.length with h | h
      · have : xs.drop i = [] := List.drop_eq_nil_of_le (by omega)
        rw [this]
        cases hy : ys.drop i with
        | nil => have : (ys.drop i).length = 0 := by rw [hy]; rfl
                 simp only [List.length_drop] at this; omega
        | cons y l => simp [ltTs, h]
      · have : ys.drop i = [] := List.drop_eq_nil_of_le (by omega)
        rw [this]
        have : decide (xs.length < ys.length) = false := decide_eq_false (by omega)
        rw [this]
        cases xs.drop i <;> rfl
    · rfl
  | succ k ih =>
    rw [lexAt_succ]
    simp only [List.length_drop] at hk
    have hx : i < xs.length := by omega
    have hy : i < ys.length := by omega
    rw [if_pos (⟨by omega, by omega⟩ : i ≤ xs.length ∧ i ≤ ys.length), List.drop_eq_getElem_cons hx, List.drop_eq_getElem_cons hy]
    have e1 : eqJ xs ys i = decide (xs[i] = ys[i]) := by simp [eqJ, hx, hy]
    have e2 : ltJ xs ys i = ltT xs[i] ys[i] := by simp [ltJ, hx, hy]
    rw [e1, e2]
    simp only [ltTs, decide_eq_true_eq]
    have := ih (i + 1) (by simp only [List.length_drop]; omega)
    rw [if_pos (⟨by omega, by omega⟩ : i + 1 ≤ xs.length ∧ i + 1 ≤ ys.length)] at this
    rw [this]
theorem ltJ_all {xs ys : List D} : lexAt (eqJ xs ys) (ltJ xs ys) (decide (xs.length < ys.length)) 0 (min xs.length ys.length) = ltTs xs ys := by
  have := ltJ_lex (xs := xs) (ys := ys) 0
  simpa using this
mutual
theorem dh_uniq {h : Heap} : ∀ (n : Nat) (d e : D) (u : Value), okD n d = true → cmpD d e = true → Dh h d u → Dh h e u → d = e
  | n, .int a, .int b, u, _, _, ⟨t, h1⟩, ⟨t', h2⟩ => by subst h1; cases h2; rfl
  | n, .str a, .str b, u, _, _, ⟨t, h1⟩, ⟨t', h2⟩ => by
    subst h1
    injection h2 with h2 _
    rw [SX.S_inj h2]
  | 0, .tup _, _, _, h, _, _, _ => by simp [okD] at h
  | n + 1, .tup xs, .tup ys, u, ho, hc, ⟨a, its, h1, h2, h3⟩, ⟨b, jts, g1, g2, g3⟩ => by
    subst h1; cases g1
    have hi : its = jts := by
      obtain ⟨o, q1, _, m, q2⟩ := h2
      obtain ⟨o', r1, _, m', r2⟩ := g2
      rw [q1] at r1; cases r1
      rw [q2] at r2
      injection r2 with r2 _
      exact List.toArray_inj r2
    subst hi
    rw [dhs_uniq n xs ys its (by simpa [okD] using ho) (by simpa [cmpD] using hc) h3 g3]
  | _, .int _, .str _, _, _, h, _, _ => by simp [cmpD] at h
  | _, .int _, .tup _, _, _, h, _, _ => by simp [cmpD] at h
  | _, .str _, .int _, _, _, h, _, _ => by simp [cmpD] at h
  | _, .str _, .tup _, _, _, h, _, _ => by simp [cmpD] at h
  | _ + 1, .tup _, .int _, _, _, h, _, _ => by simp [cmpD] at h
  | _ + 1, .tup _, .str _, _, _, h, _, _ => by simp [cmpD] at h
  | n, .non, _, _, h, _, _, _ => by cases n <;> simp [okD] at h
  | n, .bl _, _, _, h, _, _, _ => by cases n <;> simp [okD] at h
  | n, .ref _, _, _, h, _, _, _ => by cases n <;> simp [okD] at h
  | _, _, .non, _, _, _, _, q => q.elim
  | _, _, .bl _, _, _, _, _, q => q.elim
  | _, _, .ref _, _, _, _, _, q => q.elim
theorem dhs_uniq {h : Heap} : ∀ (n : Nat) (d e : List D) (u : List Value), okDs n d = true → cmpDs d e = true → Dhs h d u → Dhs h e u → d = e
  | _, [], [], _, _, _, _, _ => rfl
  | _, [], _ :: _, u, _, _, h1, ⟨v, ws, g1, _, _⟩ => by rw [show u = _ from h1] at g1; cases g1
  | _, _ :: _, [], u, _, _, ⟨v, ws, g1, _, _⟩, h1 => by rw [show u = _ from h1] at g1; cases g1
  | n, d :: ds, e :: es, u, ho, hc, ⟨v, ws, g1, g2, g3⟩, ⟨v', ws', k1, k2, k3⟩ => by
    subst g1; cases k1
    simp only [okDs, cmpDs, Bool.and_eq_true] at ho hc
    rw [dh_uniq n d e v ho.1 hc.1 g2 k2, dhs_uniq n ds es ws ho.2 hc.2 g3 k3]
end
section
variable {s : Shared}
theorem get_arr {its : List Value} {j : Nat} {v : Value} (h : its[j]? = some v) (hj : j < its.toArray.size) : its.toArray[j] = v := by
  have := (List.getElem?_eq_some_iff.mp h)
  obtain ⟨h1, h2⟩ := this
  simpa using h2
theorem eqAt_dh : ∀ (n : Nat) (A : Around) (d e : D) (u w : Value), okD n d = true → cmpD d e = true → Dh s.heap d u → Dh s.heap e w → A.units + n < cLine → EqAt A s u w (decide (d = e))
  | n, A, .int a, .int b, u, w, _, _, ⟨t, h1⟩, ⟨t', h2⟩, _ => by
    subst h1; subst h2
    have := EqAt.int_int (A := A) (s := s) a t b t'
    have e : decide (D.int a = D.int b) = (a == b) := by by_cases h : a = b <;> simp [h]
    rw [e]; exact this
  | n, A, .str a, .str b, u, w, _, _, ⟨t, h1⟩, ⟨t', h2⟩, _ => by
    subst h1; subst h2
    have := EqAt.str_str (A := A) (s := s) (sn a) t (sn b) t'
    have e : decide (D.str a = D.str b) = (sn a == sn b) := by
      rw [show (sn a == sn b) = (a == b) from SX.S_beq a b]
      by_cases h : a = b <;> simp [h]
    rw [e]; exact this
  | 0, A, .tup _, _, _, _, h, _, _, _, _ => by simp [okD] at h
  | n + 1, A, .tup xs, .tup ys, u, w, ho, hc, ⟨a, its, h1, h2, h3⟩, ⟨b, jts, g1, g2, g3⟩, hu => by
    subst h1; subst g1
    simp only [okD] at ho
    simp only [cmpD] at hc
    by_cases hab : a = b
    · subst hab
      have hi : its = jts := by
        obtain ⟨o, q1, _, m, q2⟩ := h2
        obtain ⟨o', r1, _, m', r2⟩ := g2
        rw [q1] at r1; cases r1
        rw [q2] at r2
        injection r2 with r2 _
        exact List.toArray_inj r2
      subst hi
      have := dhs_uniq n xs ys its ho hc h3 g3
      rw [this]
      simp only [decide_true]
      exact .same _
    · refine .of_refs hab ?_
      have hit : ∀ j (h1 : j < its.toArray.size) (h2 : j < jts.toArray.size), EqAt A.in1 s its.toArray[j] jts.toArray[j] (eqJ xs ys j) := by
        intro j j1 j2
        have hx : j < xs.length := by rw [← h3.length]; simpa using j1
        have hy : j < ys.length := by rw [← g3.length]; simpa using j2
        obtain ⟨v1, k1, p1⟩ := h3.get (List.getElem?_eq_getElem hx)
        obtain ⟨v2, k2, p2⟩ := g3.get (List.getElem?_eq_getElem hy)
        rw [get_arr k1 j1, get_arr k2 j2]
        have e : eqJ xs ys j = decide (xs[j] = ys[j]) := by simp [eqJ, hx, hy]
        rw [e]
        exact eqAt_dh n A.in1 _ _ v1 v2 (okDs_get ho (List.getElem?_eq_getElem hx)) (cmpDs_get hc (List.getElem?_eq_getElem hx) (List.getElem?_eq_getElem hy)) p1 p2 (by show A.units + 1 + n < cLine; omega)
      have key := RcAt.tuples h2 g2 (by omega) hit
      have e1 : its.toArray.size = xs.length := by simpa using h3.length
      have e2 : jts.toArray.size = ys.length := by simpa using g3.length
      rw [e1, e2, eqJ_all] at key
      have e3 : decide (D.tup xs = D.tup ys) = decide (xs = ys) := by by_cases h : xs = ys <;> simp [h]
      rw [e3]; exact key
  | _, _, .int _, .str _, _, _, _, h, _, _, _ => by simp [cmpD] at h
  | _, _, .int _, .tup _, _, _, _, h, _, _, _ => by simp [cmpD] at h
  | _, _, .str _, .int _, _, _, _, h, _, _, _ => by simp [cmpD] at h
  | _, _, .str _, .tup _, _, _, _, h, _, _, _ => by simp [cmpD] at h
  | _ + 1, _, .tup _, .int _, _, _, _, h, _, _, _ => by simp [cmpD] at h
  | _ + 1, _, .tup _, .str _, _, _, _, h, _, _, _ => by simp [cmpD] at h
  | n, _, .non, _, _, _, h, _, _, _, _ => by cases n <;> simp [okD] at h
  | n, _, .bl _, _, _, _, h, _, _, _, _ => by cases n <;> simp [okD] at h
  | n, _, .ref _, _, _, _, h, _, _, _, _ => by cases n <;> simp [okD] at h
  | _, _, _, .non, _, _, _, _, _, q, _ => q.elim
  | _, _, _, .bl _, _, _, _, _, _, q, _ => q.elim
  | _, _, _, .ref _, _, _, _, _, _, q, _ => q.elim

theorem rcLt_dh : ∀ (n : Nat) (A : Around) (d e : D) (u w : Value), okD n d = true → cmpD d e = true → Dh s.heap d u → Dh s.heap e w → A.units + n < cLine → RcOp .Lt A s u w (ltT d e)
  | n, A, .int a, .int b, u, w, _, _, ⟨t, h1⟩, ⟨t', h2⟩, _ => by
    subst h1; subst h2
    exact RcOp.lt_int a b t t'
  | n, A, .str a, .str b, u, w, _, _, ⟨t, h1⟩, ⟨t', h2⟩, _ => by
    subst h1; subst h2
    exact fun prog w E Q h => PyProof.Rows.lt_str h
  | 0, A, .tup _, _, _, _, h, _, _, _, _ => by simp [okD] at h
  | n + 1, A, .tup xs, .tup ys, u, w, ho, hc, ⟨a, its, h1, h2, h3⟩, ⟨b, jts, g1, g2, g3⟩, hu => by
    subst h1; subst g1
    simp only [okD] at ho
    simp only [cmpD] at hc
    have hit : ∀ j (h1 : j < its.toArray.size) (h2 : j < jts.toArray.size), EqAt A.in1 s its.toArray[j] jts.toArray[j] (eqJ xs ys j) ∧ RcOp .Lt A.in1 s its.toArray[j] jts.toArray[j] (ltJ xs ys j) := by
      intro j j1 j2
      have hx : j < xs.length := by rw [← h3.length]; simpa using j1
      have hy : j < ys.length := by rw [← g3.length]; simpa using j2
      obtain ⟨v1, k1, p1⟩ := h3.get (List.getElem?_eq_getElem hx)
      obtain ⟨v2, k2, p2⟩ := g3.get (List.getElem?_eq_getElem hy)
      rw [get_arr k1 j1, get_arr k2 j2]
      have e : eqJ xs ys j = decide (xs[j] = ys[j]) := by simp [eqJ, hx, hy]
      have e' : ltJ xs ys j = ltT xs[j] ys[j] := by simp [ltJ, hx, hy]
      rw [e, e']
      exact ⟨eqAt_dh n A.in1 _ _ v1 v2 (okDs_get ho (List.getElem?_eq_getElem hx)) (cmpDs_get hc (List.getElem?_eq_getElem hx) (List.getElem?_eq_getElem hy)) p1 p2 (by show A.units + 1 + n < cLine; omega),
        rcLt_dh n A.in1 _ _ v1 v2 (okDs_get ho (List.getElem?_eq_getElem hx)) (cmpDs_get hc (List.getElem?_eq_getElem hx) (List.getElem?_eq_getElem hy)) p1 p2 (by show A.units + 1 + n < cLine; omega)⟩
    have key := RcOp.tuples_lt h2 g2 (by omega) (fun j j1 j2 => (hit j j1 j2).1) (fun j j1 j2 _ => (hit j j1 j2).2)
    have e1 : its.toArray.size = xs.length := by simpa using h3.length
    have e2 : jts.toArray.size = ys.length := by simpa using g3.length
    rw [e1, e2, ltJ_all] at key
    simp only [ltT]
    exact key
  | _, _, .int _, .str _, _, _, _, h, _, _, _ => by simp [cmpD] at h
  | _, _, .int _, .tup _, _, _, _, h, _, _, _ => by simp [cmpD] at h
  | _, _, .str _, .int _, _, _, _, h, _, _, _ => by simp [cmpD] at h
  | _, _, .str _, .tup _, _, _, _, h, _, _, _ => by simp [cmpD] at h
  | _ + 1, _, .tup _, .int _, _, _, _, h, _, _, _ => by simp [cmpD] at h
  | _ + 1, _, .tup _, .str _, _, _, _, h, _, _, _ => by simp [cmpD] at h
  | n, _, .non, _, _, _, h, _, _, _, _ => by cases n <;> simp [okD] at h
  | n, _, .bl _, _, _, _, h, _, _, _, _ => by cases n <;> simp [okD] at h
  | n, _, .ref _, _, _, _, h, _, _, _, _ => by cases n <;> simp [okD] at h
  | _, _, _, .non, _, _, _, _, _, q, _ => q.elim
  | _, _, _, .bl _, _, _, _, _, _, q, _ => q.elim
  | _, _, _, .ref _, _, _, _, _, _, q, _ => q.elim
end
/-- < of data -/
def ltD : D → D → Sto → RV := fun x y s => if okD 40 x && okD 40 y && cmpD x y then some (.bl (ltT x y), s) else none
section
variable {X : Cx} {T : List (Addr × Str)}
theorem ops_lt (hu : X.A.units + 64 < cLine) : OpS X T (compareOp .Lt) ltD := by
  refine ⟨fun x y H Q => ∃ μ sto d e, RepH X.K X.mg T μ sto H ∧ Rp X.K H μ d x ∧ Rp X.K H μ e y ∧ DenV X T μ H Q (ltD d e sto), ?_, fun μ H sto d e v u Q rh r1 r2 q => ⟨μ, sto, d, e, rh, r1, r2, q⟩⟩
  intro pins s σ H x y v u Q I rx ry ⟨μ, sto, d, e, rh, r1, r2, q⟩
  unfold ltD at q
  split at q
  · rename_i h
    simp only [Bool.and_eq_true] at h
    exact rcLt_dh 40 X.A d e v u h.1.1 h.2 (dh_of I 40 d h.1.1 r1 rx) (dh_of I 40 e h.1.2 r2 ry) (by omega) _ _ _ _ ⟨.bl _, H, I, rfl, q.same rh rfl⟩
  · exact q.elim
end
end TP
/-! sorted. -/
namespace TP
open PySem PySem.Spec PyProof.Rows L2 LamX SeqAt Ob

def firstK : D → Nat
  | .int _ => 1
  | .str _ => 2
  | .tup (.int _ :: _) => 3
  | .tup (.str _ :: _) => 4
  | _ => 0
def okSort (xs : List D) : Bool := okDs 40 xs && (xs.all fun x => xs.all fun y => cmpD x y && decide (firstK x = firstK y) && decide (firstK x ≠ 0))
def scalar : D → Bool
  | .int _ => true
  | .str _ => true
  | _ => false
section
variable {prog : Program} {w : World} {A : Around} {E : Value → Shared → Prop} {s : Shared}
theorem katlex {n : Nat} {b fin : Bool} : ∀ (xs ys : List D) (its jts : List Value) (i : Nat), okDs n xs = true → cmpDs xs ys = true → Dhs s.heap xs its → Dhs s.heap ys jts → (b = true → i = 0 → ∀ x l, xs = x :: l → scalar x = true) → A.units + n < cLine →
    fin = decide (xs.length < ys.length) → PySem.W.KatLex prog w A b fin (fun r s' => s' = s ∧ r = ltTs xs ys) (its.zip jts) i s
  | [], [], its, jts, i, _, _, h1, h2, _, _, e => by
    rw [show its = _ from h1, show jts = _ from h2, e]
    exact PySem.W.kat_nil ⟨rfl, rfl⟩
  | [], y :: ys, its, jts, i, _, _, h1, h2, _, _, e => by
    rw [show its = _ from h1, e]
    exact PySem.W.kat_nil ⟨rfl, by simp [ltTs]⟩
  | x :: xs, [], its, jts, i, _, _, h1, h2, _, _, e => by
    rw [show jts = _ from h2, e, List.zip_nil_right]
    exact PySem.W.kat_nil ⟨rfl, by simp [ltTs]⟩
  | x :: xs, y :: ys, its, jts, i, ho, hc, ⟨v, ws, h1, h2, h3⟩, ⟨v', ws', g1, g2, g3⟩, hs, hu, e => by
    subst h1; subst g1
    simp only [okDs, cmpDs, Bool.and_eq_true] at ho hc
    refine PySem.W.kat_cons (eqAt_dh n A x y v v' ho.1 hc.1 h2 g2 hu prog w _ _ ?_)
    refine PySem.W.kat_go (fun he => ?_) (fun he => ?_)
    · have hxy : x = y := of_decide_eq_true he
      refine PySem.W.kat_yes ?_
      have := katlex (fin := fin) (b := b) xs ys ws ws' (i + 1) ho.2 hc.2 h3 g3 (fun _ z => absurd z (Nat.succ_ne_zero i)) hu (by rw [e]; simp)
      simp only [ltTs, if_pos hxy]
      exact this
    · have hxy : x ≠ y := of_decide_eq_false he
      refine PySem.W.kat_no ?_
      simp only [ltTs, if_neg hxy]
      cases hb : (b && i == 0) with
      | false =>
        refine PySem.W.kat_one _ _ ?_
        exact rcLt_dh n A x y v v' ho.1 hc.1 h2 g2 hu prog w _ _ ⟨rfl, rfl⟩
      | true =>
        simp only [Bool.and_eq_true, beq_iff_eq] at hb
        have hsc := hs hb.1 hb.2 x xs rfl
        cases x with
        | int a =>
          cases y with
          | int c =>
            obtain ⟨t, rfl⟩ := h2
            obtain ⟨t', rfl⟩ := g2
            exact oneLt_int ⟨rfl, rfl⟩
          | _ => simp [cmpD] at hc
        | str a =>
          cases y with
          | str c =>
            obtain ⟨t, rfl⟩ := h2
            obtain ⟨t', rfl⟩ := g2
            exact oneLt_str ⟨rfl, rfl⟩
          | _ => simp [cmpD] at hc
        | _ => simp [scalar] at hsc
theorem okSort_at {xs : List D} (h : okSort xs = true) {x y : D} (hx : x ∈ xs) (hy : y ∈ xs) : cmpD x y = true ∧ firstK x = firstK y ∧ firstK x ≠ 0 := by
  simp only [okSort, Bool.and_eq_true, List.all_eq_true] at h
  have := h.2 x hx y hy
  simp only [Bool.and_eq_true, decide_eq_true_eq] at this
  exact ⟨this.1.1, this.1.2, this.2⟩
theorem okDs_mem {n : Nat} {xs : List D} (h : okDs n xs = true) {x : D} (hx : x ∈ xs) : okD n x = true := by
  obtain ⟨j, hj, e⟩ := List.getElem_of_mem hx
  exact okDs_get h (by rw [List.getElem?_eq_getElem hj, e])
theorem Dhs.memv {h : Heap} {xs : List D} {its : List Value} (q : Dhs h xs its) {v : Value} (hv : v ∈ its) : ∃ d ∈ xs, Dh h d v := by
  obtain ⟨j, hj, e⟩ := List.getElem_of_mem hv
  have hx : j < xs.length := by rw [← q.length]; exact hj
  obtain ⟨u, hu, r⟩ := q.get (List.getElem?_eq_getElem hx)
  rw [List.getElem?_eq_getElem hj, e] at hu; cases hu
  exact ⟨_, List.getElem_mem hx, r⟩
theorem ints_are {h : Heap} : ∀ {xs : List D} {its : List Value}, (∀ x ∈ xs, firstK x = 1) → Dhs h xs its → ∃ ns, IntsAre its ns
  | [], its, _, q => ⟨[], by rw [show its = _ from q]; exact .nil⟩
  | x :: xs, its, hk, ⟨v, ws, h1, h2, h3⟩ => by
    subst h1
    obtain ⟨ns, r⟩ := ints_are (fun y hy => hk y (by simp [hy])) h3
    have := hk x (by simp)
    cases x with
    | int a => obtain ⟨t, rfl⟩ := h2; exact ⟨a :: ns, .cons a t r⟩
    | tup l => exfalso; match l with
      | [] => simp [firstK] at this
      | .int _ :: _ => simp [firstK] at this
      | .str _ :: _ => simp [firstK] at this
      | .non :: _ => simp [firstK] at this
      | .bl _ :: _ => simp [firstK] at this
      | .tup _ :: _ => simp [firstK] at this
      | .ref _ :: _ => simp [firstK] at this
    | _ => simp [firstK] at this
theorem strs_are {h : Heap} : ∀ {xs : List D} {its : List Value}, (∀ x ∈ xs, firstK x = 2) → Dhs h xs its → ∃ ns, StrsAre its ns
  | [], its, _, q => ⟨[], by rw [show its = _ from q]; exact .nil⟩
  | x :: xs, its, hk, ⟨v, ws, h1, h2, h3⟩ => by
    subst h1
    obtain ⟨ns, r⟩ := strs_are (fun y hy => hk y (by simp [hy])) h3
    have := hk x (by simp)
    cases x with
    | str a => obtain ⟨t, rfl⟩ := h2; exact ⟨sn a :: ns, .cons _ t r⟩
    | tup l => exfalso; match l with
      | [] => simp [firstK] at this
      | .int _ :: _ => simp [firstK] at this
      | .str _ :: _ => simp [firstK] at this
      | .non :: _ => simp [firstK] at this
      | .bl _ :: _ => simp [firstK] at this
      | .tup _ :: _ => simp [firstK] at this
      | .ref _ :: _ => simp [firstK] at this
    | _ => simp [firstK] at this

theorem kat_tups {h : Heap} : ∀ {xs : List D} {its : List Value} {K : Nat}, K = 3 ∨ K = 4 → (∀ x ∈ xs, firstK x = K) → Dhs h xs its → ∃ fs, PySem.W.KatTups h its fs ∧ fs.length = xs.length ∧ ∀ f ∈ fs, (K = 3 ∧ ∃ i t, f = Value.int i t) ∨ (K = 4 ∧ ∃ x t, f = Value.str x t)
  | [], its, K, _, _, q => ⟨[], by rw [show its = _ from q]; trivial, rfl, fun f hf => by simp at hf⟩
  | x :: xs, its, K, hK, hk, ⟨v, ws, h1, h2, h3⟩ => by
    subst h1
    obtain ⟨fs, r1, r2, r3⟩ := kat_tups hK (fun y hy => hk y (by simp [hy])) h3
    have hx := hk x (by simp)
    cases x with
    | tup l =>
      obtain ⟨a, its', rfl, ⟨o, ho, hc, m, hd⟩, g3⟩ := h2
      match l with
      | [] => simp [firstK] at hx; omega
      | .int i :: l' =>
        simp only [firstK] at hx
        obtain ⟨w, ws', k1, ⟨t, k2⟩, k3⟩ := g3
        subst k1; subst k2
        exact ⟨.int i t :: fs, PySem.W.KatTups.cons (f := .int i t) ho hc hd (by simp) r1, by simp [r2], fun f hf => by
          rcases List.mem_cons.mp hf with rfl | hf
          · exact .inl ⟨hx.symm, _, _, rfl⟩
          · exact r3 f hf⟩
      | .str i :: l' =>
        simp only [firstK] at hx
        obtain ⟨w, ws', k1, ⟨t, k2⟩, k3⟩ := g3
        subst k1; subst k2
        exact ⟨.str (sn i) t :: fs, PySem.W.KatTups.cons (f := .str (sn i) t) ho hc hd (by simp) r1, by simp [r2], fun f hf => by
          rcases List.mem_cons.mp hf with rfl | hf
          · exact .inr ⟨hx.symm, _, _, rfl⟩
          · exact r3 f hf⟩
      | .non :: _ => simp [firstK] at hx; omega
      | .bl _ :: _ => simp [firstK] at hx; omega
      | .tup _ :: _ => simp [firstK] at hx; omega
      | .ref _ :: _ => simp [firstK] at hx; omega
    | _ => simp [firstK] at hx; omega
theorem two_its {its : List Value} (h : 2 ≤ its.length) : ∃ a b l, its = a :: b :: l := by
  match its, h with
  | a :: b :: l, _ => exact ⟨a, b, l, rfl⟩
theorem firstK_cases {x : D} (h : firstK x ≠ 0) : (∃ i, x = .int i) ∨ (∃ z, x = .str z) ∨ (∃ i l, x = .tup (.int i :: l)) ∨ (∃ i l, x = .tup (.str i :: l)) := by
  unfold firstK at h
  split at h
  · exact .inl ⟨_, rfl⟩
  · exact .inr (.inl ⟨_, rfl⟩)
  · exact .inr (.inr (.inl ⟨_, _, rfl⟩))
  · exact .inr (.inr (.inr ⟨_, _, rfl⟩))
  · exact absurd rfl h
/-- what the sort of these asks -/
theorem sort_kind {xs : List D} {its : List Value} {lt : Value → Value → Bool} (ok : okSort xs = true) (h2 : 2 ≤ its.length) (q : Dhs s.heap xs its) (hl : ∀ v w d e, v ∈ its → w ∈ its → d ∈ xs → e ∈ xs → Dh s.heap d v → Dh s.heap e w → lt v w = ltT d e)
    (hu : A.units + 40 < cLine) : ∃ κ, (∀ (Q : SortKind → Shared → Prop) (E : Value → Shared → Prop), Q κ s → wpAny (model prog w) A (keyKind' its.toArray) Q E s) ∧ SrtO.Cmp prog w A s κ (fun p => p.1 ∈ its) (SrtO.lt2 lt) := by
  have hok : okDs 40 xs = true := by simp only [okSort, Bool.and_eq_true] at ok; exact ok.1
  obtain ⟨v1, v2, vr, rfl⟩ := two_its h2
  have hlen := q.length
  obtain ⟨x1, xr, rfl⟩ : ∃ x1 xr, xs = x1 :: xr := by
    cases xs with
    | nil => simp at hlen
    | cons x l => exact ⟨x, l, rfl⟩
  have hx1 : x1 ∈ x1 :: xr := by simp
  have hk : ∀ x ∈ x1 :: xr, firstK x = firstK x1 := fun x hx => (okSort_at ok hx hx1).2.1
  rcases firstK_cases (okSort_at ok hx1 hx1).2.2 with ⟨i, rfl⟩ | ⟨z, rfl⟩ | ⟨i, l, rfl⟩ | ⟨z, l, rfl⟩
  · obtain ⟨ns, hns⟩ := ints_are (fun x hx => hk x hx) q
    refine ⟨oneType', fun Q E hq => ?_, fun p p' hp hp' => ?_⟩
    · rw [keyKind_ints hns]; exact wpAny_pure hq
    · obtain ⟨d, hd, r⟩ := q.memv hp
      obtain ⟨e, he, r'⟩ := q.memv hp'
      show wpAny _ _ _ (fun r s' => s' = s ∧ r = lt p.1 p'.1) _ _
      rw [hl _ _ d e hp hp' hd he r r', keyLt'_oneType]
      rcases firstK_cases (okSort_at ok hd hd).2.2 with ⟨a, rfl⟩ | ⟨a, rfl⟩ | ⟨a, l, rfl⟩ | ⟨a, l, rfl⟩
      · rcases firstK_cases (okSort_at ok he he).2.2 with ⟨b, rfl⟩ | ⟨b, rfl⟩ | ⟨b, l, rfl⟩ | ⟨b, l, rfl⟩
        · obtain ⟨t, e1⟩ := r
          obtain ⟨t', e2⟩ := r'
          rw [e1, e2]
          exact oneLt_int ⟨rfl, rfl⟩
        all_goals exact absurd (hk _ he) (by simp [firstK])
      all_goals exact absurd (hk _ hd) (by simp [firstK])
  · obtain ⟨ns, hns⟩ := strs_are (fun x hx => hk x hx) q
    refine ⟨oneType', fun Q E hq => ?_, fun p p' hp hp' => ?_⟩
    · rw [keyKind_strs hns]; exact wpAny_pure hq
    · obtain ⟨d, hd, r⟩ := q.memv hp
      obtain ⟨e, he, r'⟩ := q.memv hp'
      show wpAny _ _ _ (fun r s' => s' = s ∧ r = lt p.1 p'.1) _ _
      rw [hl _ _ d e hp hp' hd he r r', keyLt'_oneType]
      rcases firstK_cases (okSort_at ok hd hd).2.2 with ⟨a, rfl⟩ | ⟨a, rfl⟩ | ⟨a, l, rfl⟩ | ⟨a, l, rfl⟩
      · exact absurd (hk _ hd) (by simp [firstK])
      · rcases firstK_cases (okSort_at ok he he).2.2 with ⟨b, rfl⟩ | ⟨b, rfl⟩ | ⟨b, l, rfl⟩ | ⟨b, l, rfl⟩
        · exact absurd (hk _ he) (by simp [firstK])
        · obtain ⟨t, e1⟩ := r
          obtain ⟨t', e2⟩ := r'
          rw [e1, e2]
          exact oneLt_str ⟨rfl, rfl⟩
        all_goals exact absurd (hk _ he) (by simp [firstK])
      all_goals exact absurd (hk _ hd) (by simp [firstK])
  · obtain ⟨fs, k1, k2, k3⟩ := kat_tups (.inl rfl) (fun x hx => hk x hx) q
    refine ⟨tuples' (Value.type "int" != Value.type "tuple"), fun Q E hq => ?_, fun p p' hp hp' => ?_⟩
    · refine PySem.W.kat_kind (T := .type "int") k1 (by rw [k2]; simp) (fun f hm => ?_) (by rfl) hq
      rcases k3 f hm with ⟨_, x, t, rfl⟩ | ⟨h4, _⟩
      · exact PySem.W.Looks.now
      · simp at h4
    · obtain ⟨d, hd, r⟩ := q.memv hp
      obtain ⟨e, he, r'⟩ := q.memv hp'
      show wpAny _ _ _ (fun r s' => s' = s ∧ r = lt p.1 p'.1) _ _
      rw [hl _ _ d e hp hp' hd he r r']
      have hcm := (okSort_at ok hd he).1
      rcases firstK_cases (okSort_at ok hd hd).2.2 with ⟨a, rfl⟩ | ⟨a, rfl⟩ | ⟨a, la, rfl⟩ | ⟨a, la, rfl⟩
      · exact absurd (hk _ hd) (by simp [firstK])
      · exact absurd (hk _ hd) (by simp [firstK])
      · rcases firstK_cases (okSort_at ok he he).2.2 with ⟨b, rfl⟩ | ⟨b, rfl⟩ | ⟨b, lb, rfl⟩ | ⟨b, lb, rfl⟩
        · exact absurd (hk _ he) (by simp [firstK])
        · exact absurd (hk _ he) (by simp [firstK])
        · have hkd := okDs_mem hok hd
          obtain ⟨t, its, e1, ⟨o, ho, _, m, hdt⟩, g3⟩ := r
          obtain ⟨t', its', e2, ⟨o', ho', _, m', hdt'⟩, g3'⟩ := r'
          rw [e1, e2]
          refine PySem.W.kat_lt ho hdt ho' hdt' ?_
          have := katlex (prog := prog) (w := w) (A := A) (b := (Value.type "int" != Value.type "tuple")) (fin := decide (its.toArray.size < its'.toArray.size)) (n := 39) (.int a :: la) (.int b :: lb) its its' 0 (by simpa [okD] using hkd) (by simpa [cmpD] using hcm) g3 g3' (fun _ _ x l hx => by cases hx; rfl) (by omega) (by simp [← g3.length, ← g3'.length])
          simpa [ltT] using this
        · exact absurd (hk _ he) (by simp [firstK])
      · exact absurd (hk _ hd) (by simp [firstK])
  · obtain ⟨fs, k1, k2, k3⟩ := kat_tups (.inr rfl) (fun x hx => hk x hx) q
    refine ⟨tuples' (Value.type "str" != Value.type "tuple"), fun Q E hq => ?_, fun p p' hp hp' => ?_⟩
    · refine PySem.W.kat_kind (T := .type "str") k1 (by rw [k2]; simp) (fun f hm => ?_) (by rfl) hq
      rcases k3 f hm with ⟨h4, _⟩ | ⟨_, x, t, rfl⟩
      · simp at h4
      · exact PySem.W.Looks.now
    · obtain ⟨d, hd, r⟩ := q.memv hp
      obtain ⟨e, he, r'⟩ := q.memv hp'
      show wpAny _ _ _ (fun r s' => s' = s ∧ r = lt p.1 p'.1) _ _
      rw [hl _ _ d e hp hp' hd he r r']
      have hcm := (okSort_at ok hd he).1
      rcases firstK_cases (okSort_at ok hd hd).2.2 with ⟨a, rfl⟩ | ⟨a, rfl⟩ | ⟨a, la, rfl⟩ | ⟨a, la, rfl⟩
      · exact absurd (hk _ hd) (by simp [firstK])
      · exact absurd (hk _ hd) (by simp [firstK])
      · exact absurd (hk _ hd) (by simp [firstK])
      · rcases firstK_cases (okSort_at ok he he).2.2 with ⟨b, rfl⟩ | ⟨b, rfl⟩ | ⟨b, lb, rfl⟩ | ⟨b, lb, rfl⟩
        · exact absurd (hk _ he) (by simp [firstK])
        · exact absurd (hk _ he) (by simp [firstK])
        · exact absurd (hk _ he) (by simp [firstK])
        · have hkd := okDs_mem hok hd
          obtain ⟨t, its, e1, ⟨o, ho, _, m, hdt⟩, g3⟩ := r
          obtain ⟨t', its', e2, ⟨o', ho', _, m', hdt'⟩, g3'⟩ := r'
          rw [e1, e2]
          refine PySem.W.kat_lt ho hdt ho' hdt' ?_
          have := katlex (prog := prog) (w := w) (A := A) (b := (Value.type "str" != Value.type "tuple")) (fin := decide (its.toArray.size < its'.toArray.size)) (n := 39) (.str a :: la) (.str b :: lb) its its' 0 (by simpa [okD] using hkd) (by simpa [cmpD] using hcm) g3 g3' (fun _ _ x l hx => by cases hx; rfl) (by omega) (by simp [← g3.length, ← g3'.length])
          simpa [ltT] using this
end
/-! ### the data of a value -/
open Classical in
noncomputable def datO (h : Heap) (xs : List D) (v : Value) : D := if q : ∃ d ∈ xs, Dh h d v then Classical.choose q else .non
theorem datO_at {h : Heap} {xs : List D} (ok : okSort xs = true) {d : D} {v : Value} (hd : d ∈ xs) (r : Dh h d v) : datO h xs v = d := by
  have q : ∃ d ∈ xs, Dh h d v := ⟨d, hd, r⟩
  unfold datO
  rw [dif_pos q]
  obtain ⟨h1, h2⟩ := Classical.choose_spec q
  have hok : okDs 40 xs = true := by simp only [okSort, Bool.and_eq_true] at ok; exact ok.1
  exact dh_uniq 40 _ _ v (okDs_mem hok h1) (okSort_at ok h1 hd).1 h2 r
theorem swo_dat (f : Value → D) : SrtO.Swo fun v u => ltT (f v) (f u) := ⟨fun _ _ h => ltT_asym h, fun _ _ _ h1 h2 => leT_trans h1 h2⟩
/-- the abstract value of an int, a text, a reference -/
def vOf : Value → V
  | .int i _ => .int i
  | .str x _ => .str x
  | .ref a => .ref a
  | _ => .non
theorem vOf_at {n : Nat} {d : D} {v : V} {u : Value} {K : PySem.W.Frag} {H : Hp} {μ : List Addr} (ok : okD n d = true) (r : Rp K H μ d v) (q : RelV v u) : v = vOf u ∧ RelV (vOf u) u := by
  cases d with
  | int i => rw [show v = _ from r] at q ⊢; obtain ⟨t, rfl⟩ := q; exact ⟨rfl, t, rfl⟩
  | str i => rw [show v = _ from r] at q ⊢; obtain ⟨t, rfl⟩ := q; exact ⟨rfl, t, rfl⟩
  | tup l => obtain ⟨a, vs, rfl, _, _⟩ := r; cases q; exact ⟨rfl, rfl⟩
  | _ => cases n <;> simp [okD] at ok
theorem vals_vOf : ∀ {us : List Value}, (∀ u ∈ us, RelV (vOf u) u) → Vals (us.map vOf) us
  | [], _ => .nil
  | u :: us, h => .cons (h u (by simp)) (vals_vOf fun w hw => h w (by simp [hw]))
theorem rps_of {K : PySem.W.Frag} {H : Hp} {μ : List Addr} {f : Value → D} : ∀ {us : List Value}, (∀ u ∈ us, Rp K H μ (f u) (vOf u)) → Rps K H μ (us.map f) (us.map vOf)
  | [], _ => rfl
  | u :: us, h => ⟨_, _, rfl, h u (by simp), rps_of fun w hw => h w (by simp [hw])⟩
theorem map_dat {h : Heap} {xs0 : List D} (ok : okSort xs0 = true) : ∀ {xs : List D} {its : List Value}, (∀ x ∈ xs, x ∈ xs0) → Dhs h xs its → its.map (datO h xs0) = xs
  | [], its, _, q => by rw [show its = _ from q]; rfl
  | x :: xs, its, hm, ⟨v, ws, h1, h2, h3⟩ => by
    subst h1
    rw [List.map_cons, datO_at ok (hm x (by simp)) h2, map_dat ok (fun y hy => hm y (by simp [hy])) h3]
def sortedD : List D → Sto → RV := fun ds s => match ds with
  | [.ref n] => match lstAt s n with
    | some xs => if okSort xs then some (.ref s.length, s ++ [.lst (sortT xs)]) else none
    | none => none
  | _ => none
section
variable {X : Cx} {T : List (Addr × Str)}
theorem calls_sorted (hu : X.A.units + 64 < cLine) : CallS X T (.builtin "sorted") sortedD := by
  refine ⟨fun vs H Q => ∃ μ sto ds, RepH X.K X.mg T μ sto H ∧ Rps X.K H μ ds vs ∧ DenV X T μ H Q (sortedD ds sto), ?_, fun μ H sto ds vs Q rh r q => ⟨μ, sto, ds, rh, r, q⟩⟩
  intro pins s σ H vs us Q I rv ⟨μ, sto, ds, rh, r, q⟩
  unfold sortedD at q
  split at q
  · rename_i n
    obtain ⟨w, ws, rfl, r1, rfl⟩ := r
    split at q
    · rename_i xs hx
      split at q
      · rename_i ok
        have hok : okDs 40 xs = true := by simp only [okSort, Bool.and_eq_true] at ok; exact ok.1
        obtain ⟨a, vs, rfl, g2, g3⟩ := rh.lstV hx r1
        obtain ⟨u, rfl, ru⟩ := vals1 rv
        obtain rfl : u = Value.ref a := ru
        obtain ⟨its, q1, p1, hz⟩ := I.list g2
        have hd := dhs_of I 40 xs hok g3 q1
        have hzl : its.length ≤ sizeLine := by rw [← q1.length]; exact hz
        have each : ∀ u ∈ its, Rp X.K H μ (datO s.heap xs u) (vOf u) ∧ RelV (vOf u) u := by
          intro u hu'
          obtain ⟨j, hj, e⟩ := List.getElem_of_mem hu'
          have hxj : j < xs.length := by rw [← hd.length]; exact hj
          obtain ⟨v1, k1, k2⟩ := g3.get (List.getElem?_eq_getElem hxj)
          obtain ⟨u1, k3, k4⟩ := q1.get k1
          obtain ⟨u2, k5, k6⟩ := hd.get (List.getElem?_eq_getElem hxj)
          rw [k3] at k5; cases k5
          rw [List.getElem?_eq_getElem hj, e] at k3; cases k3
          have hmem : xs[j] ∈ xs := List.getElem_mem hxj
          obtain ⟨w1, w2⟩ := vOf_at (okDs_mem hok hmem) k2 k4
          rw [datO_at ok hmem k6, ← w1]
          exact ⟨k2, by rw [w1]; exact w2⟩
        refine SrtO.sorted_ord (ltv := fun v u => ltT (datO s.heap xs v) (datO s.heap xs u)) (swo_dat _) p1.isList hzl (fun h2 h₁ a' ha' kk => ?_) fun out hs hb => ?_
        · intro h' keep
          have kp : ∀ b o, s.heap.get? b = some o → o.cls = .type "tuple" → h'.get? b = some o := fun b o e c => keep b o (kk b o e).1 (kk b o e).2
          exact sort_kind (s := { s with heap := h' }) ok h2 (hd.keep kp) (fun v w d e hv hw hdm hem r r' => by
            obtain ⟨d', hd', s1⟩ := hd.memv hv
            obtain ⟨e', he', s2⟩ := hd.memv hw
            have e1 : d' = d := dh_uniq (h := h') 40 d' d v (okDs_mem hok hd') (okSort_at ok hd' hdm).1 (s1.keep kp) r
            have e2 : e' = e := dh_uniq (h := h') 40 e' e w (okDs_mem hok he') (okSort_at ok he' hem).1 (s2.keep kp) r'
            subst e1; subst e2
            rw [datO_at ok hdm s1, datO_at ok hem s2]) (by show X.A.units + 1 + 1 + 40 < cLine; omega)
        · have hperm := hb.perm
          have ho : ∀ u ∈ out, Rp X.K H μ (datO s.heap xs u) (vOf u) ∧ RelV (vOf u) u := fun u hu' => each u (hperm.mem_iff.mp hu')
          have e1 : out.map (datO s.heap xs) = sortT xs := by
            refine (sortT_eq (List.pairwise_map.mpr hs) ?_).symm
            have := hperm.map (datO s.heap xs)
            rwa [map_dat ok (fun x hx => hx) hd] at this
          have hrp : Rps X.K H μ (sortT xs) (out.map vOf) := by rw [← e1]; exact rps_of fun u hu' => (ho u hu').1
          obtain ⟨n', hn'⟩ := sortedAll_at s.heap its out.toArray
          refine ⟨.ref (s.heap.objs.size + 1), L2.upd H (s.heap.objs.size + 1) (.lst (out.map vOf)), I.laid (t' := s.toks) (fun b o e => sortedAll_old e) (Nat.le_succ _) ⟨?_, out, n', vals_vOf fun u hu' => (ho u hu').2, hn'⟩, rfl, q.lst rh hrp _ (I.hok.fresh (Nat.le_succ _))⟩
          rw [List.length_map, hperm.length_eq]
          exact hzl
      · exact q.elim
    · exact q.elim
  · exact q.elim
end
end TP
/-! Instances of own classes, keywords. -/
namespace TP
open PySem PySem.Spec PyProof.Rows L2 LamX

/-! ### fields -/
def fldOf (nm : List Nat) (fs : List (List Nat × D)) : Option D := match fs with
  | [] => none
  | (n, d) :: r => if nm = n then some d else fldOf nm r
def putD (nm : List Nat) (d : D) : List (List Nat × D) → List (List Nat × D)
  | [] => [(nm, d)]
  | (n, x) :: r => if n = nm then (n, d) :: r else (n, x) :: putD nm d r
theorem sn_inj {a b : List Nat} (h : sn a = sn b) : a = b := SX.S_inj h
section
variable {K : PySem.W.Frag} {mg : Str → Option Value} {T : List (Addr × Str)} {H : Hp} {μ : List Addr}
theorem Rfs.look {nm : List Nat} : ∀ {fs : List (List Nat × D)} {vs : List (Str × V)} {d : D}, Rfs K H μ fs vs → fldOf nm fs = some d → ∃ v, vs.lookup (sn nm) = some v ∧ Rp K H μ d v
  | [], _, _, _, e => by cases e
  | (n, x) :: r, _, d, ⟨v, ws, h1, h2, h3⟩, e => by
    subst h1
    simp only [fldOf] at e
    rw [List.lookup_cons]
    by_cases hn : nm = n
    · subst hn
      rw [if_pos rfl] at e; cases e
      exact ⟨v, by simp, h2⟩
    · rw [if_neg hn] at e
      obtain ⟨w, e1, e2⟩ := Rfs.look h3 e
      exact ⟨w, by rw [show (sn nm == sn n) = false from beq_eq_false_iff_ne.mpr fun z => hn (sn_inj z)]; exact e1, e2⟩
theorem Rfs.put {nm : List Nat} {d : D} {v : V} (r : Rp K H μ d v) : ∀ {fs : List (List Nat × D)} {vs : List (Str × V)}, Rfs K H μ fs vs → Rfs K H μ (putD nm d fs) (putF (sn nm) v vs)
  | [], _, h => by rw [show _ = _ from h]; exact ⟨v, [], rfl, r, rfl⟩
  | (n, x) :: l, _, ⟨w, ws, h1, h2, h3⟩ => by
    subst h1
    simp only [putD, putF]
    by_cases hn : n = nm
    · subst hn
      rw [if_pos rfl, if_pos rfl]
      exact ⟨v, ws, rfl, r, h3⟩
    · rw [if_neg hn, if_neg fun z => hn (sn_inj z)]
      exact ⟨w, _, rfl, h2, Rfs.put r h3⟩
theorem Rfs.length : ∀ {fs : List (List Nat × D)} {vs : List (Str × V)}, Rfs K H μ fs vs → vs.length = fs.length
  | [], _, e => by rw [show _ = _ from e]; rfl
  | (_, _) :: _, _, ⟨v, ws, e, _, r⟩ => by rw [e]; simp [Rfs.length r]
/-- the instance at n -/
theorem RepH.ins {sto : Sto} {n : Nat} {c : List Nat} {fs : List (List Nat × D)} {v : V} (rh : RepH K mg T μ sto H) (h : sto[n]? = some (.ins c fs)) (r : Rp K H μ (.ref n) v) : ∃ a C dx vs, v = .ref a ∧ μ[n]? = some a ∧ mg (sn c) = some (.ref C) ∧ H a = some (.ins C dx vs) ∧ Rfs K H μ fs vs := by
  obtain ⟨a, h1, C, dx, vs, h0, h2, h3⟩ := rh.at_ h
  obtain ⟨a', g1, rfl⟩ := r
  rw [h1] at g1; cases g1
  exact ⟨_, C, dx, vs, rfl, h1, h0, h2, h3⟩
end

section
variable {X : Cx} {T : List (Addr × Str)} {k j kc : Nat} {W : WX} {e o : Expr} {es : List Expr} {f g fo fe : Ev} {fs gs : EvA} {pos p pos' : Pos} {x : Str} {kws : List Keyword}
/-! ### o.f = e -/
def sFldD (c nm : List Nat) (fo fe : Ev) : EvS := fun env s => bind (fe env s) fun y s1 => bind (fo env s1) fun x s2 => match x with
  | .ref n => match s2[n]? with
    | some (.ins c' fs) => if c' = c ∧ fs.length < 1000 then ret (.nx env) (s2.set n (.ins c' (putD nm y fs))) else none
    | _ => none
  | _ => none
theorem qs_fld {c nm : List Nat} {C : Addr} {fn : Str} (hm : X.mg (sn c) = some (.ref C)) (cl : Cls X.K C) (na : NoAttr X.K C fn) (hfn : fn = sn nm) (ho : QE X T k W o fo) (he : QE X T k W e fe) (hs : swapsWith e (some (.Attribute o fn pos')) pos.line X.env = pure false := by rfl) :
    QS X T k W (.Assign [.Attribute o fn pos'] e pos) (sFldD c nm fo fe) := PS.of (ps_fld ho he hs) fun D σ H ⟨μ, env, sto, rh, re, q⟩ =>
  tE.go rh re (q.bind.imp fun y s1 q1 v H1 μ1 p1 re1 r1 => tE.go p1.rep re1 ((DenS.later p1 q1).bind.imp fun x s2 q2 w H2 μ2 p2 re2 r2 => by
    split at q2
    · rename_i n
      split at q2
      · rename_i c' fs hx
        split at q2
        · rename_i hc
          obtain ⟨rfl, hl⟩ := hc
          obtain ⟨a, C', dx, vs, rfl, h1, h0, h2, h3⟩ := p2.rep.ins hx r2
          rw [hm] at h0; cases h0
          refine ⟨a, C, dx, vs, rfl, h2, cl, na, by rw [h3.length]; exact hl, ?_⟩
          subst hfn
          have ex : Ext H2 (L2.upd H2 a (.ins C dx (putF (sn nm) v vs))) := Ext.ins h2
          have rh3 : RepH X.K X.mg T μ2 (s2.set n (.ins c' (putD nm y fs))) (L2.upd H2 a (.ins C dx (putF (sn nm) v vs))) :=
            p2.rep.set h1 ex (fun ps z => by rw [h2] at z; cases z) ⟨C, dx, _, hm, upd_same, (h3.put (Rp.mono p2.ext p2.mono r1)).mono ex fun _ _ z => z⟩
          exact q2 σ _ μ2 (p2.trans ⟨ex, ⟨[], by simp⟩, rh3⟩) (re2.mono (sto' := s2.set n (.ins c' (putD nm y fs))) ⟨ex, ⟨[], by simp⟩, rh3⟩)
        · exact q2.elim
      · exact q2.elim
    · exact q2.elim))

/-! ### keywords -/
abbrev QK (X : Cx) (T : List (Addr × Str)) (k : Nat) (W : WX) (kws : List Keyword) (f : EvA) : Prop := PK X kws (tA X T k W f)
theorem PK.of {kws : List Keyword} {t t' : TA} (h : PK X kws t) (i : ∀ σ H Q, t' σ H Q → t σ H Q) : PK X kws t' := ⟨fun pos pins s σ H Q I q => h.run pos pins s σ H Q I (i σ H Q q)⟩
theorem qk_nil : QK X T k W [] aNil := PK.of pk_nil fun σ H Q ⟨μ, env, sto, rh, re, q⟩ => q [] H μ (Post.refl rh) rfl
theorem qk_cons {nm : Option Str} {kpos : Pos} (ha : QE X T k W e f) (hr : QK X T k W kws fs) : QK X T k W (⟨nm, e, kpos⟩ :: kws) (aCons f fs) := PK.of (pk_cons ha hr) fun σ H Q ⟨μ, env, sto, rh, re, q⟩ =>
  tE.go rh re (q.bind.imp fun d s1 q1 v H1 μ1 p1 re1 r1 => tA.go p1.rep re1 ((q1.later p1 fun _ _ z => z).bind.imp fun ds s2 q2 vs H2 μ2 p2 re2 r2 =>
    q2 (v :: vs) H2 μ2 (p1.trans p2) ⟨v, vs, rfl, (RpA.mono p2 (x := .d d) r1), r2⟩))
def pickL {α : Type} (ix : List Nat) (l : List α) : List α := ix.filterMap fun i => l[i]?
/-- a call with n positional and the keywords ks; ix: which goes to which parameter -/
def KwB (K : PySem.W.Frag) (fd : FuncData) (ps : List Str) (n : Nat) (ks : List Str) (ix : List Nat) : Prop := ∀ (s : Shared) (us ws : List Value), us.length = n → ws.length = ks.length → BindsTo s fd ⟨us, ks.zip ws⟩ (ps.zip (pickL ix (us ++ ws)))
theorem kwb_of {K : PySem.W.Frag} {x qual : Str} {st : Stmt} {f : Addr} {fd : FuncData} {ps ks : List Str} {n : Nat} {ix : List Nat} (F : L2.Fun K x qual st f fd)
    (h : ∀ (kV doc pm : Value) (an : Option Addr) (cdv ct : Value) (us ws : List Value), us.length = n → ws.length = ks.length → bindArgs (PySem.W.fnOf x qual (defArgs st) (defBody st) (defScope st) .none kV doc pm an cdv ct) ⟨us, ks.zip ws⟩ = pure (ps.zip (pickL ix (us ++ ws)))) : KwB K fd ps n ks ix := by
  obtain ⟨oc, od, kV, doc, pm, an, cdv, ct, osl, rfl, lk, hcd⟩ := F.ex
  exact fun s us ws h1 h2 => BindsTo.of_looks fun M => PySem.W.Looks.of_pure (h kV doc pm an cdv ct us ws h1 h2)
theorem vals_getE {vs : List V} {us : List Value} (r : Vals vs us) (i : Nat) : (vs[i]? = none ∧ us[i]? = none) ∨ ∃ v u, vs[i]? = some v ∧ us[i]? = some u ∧ RelV v u := by
  cases hv : vs[i]? with
  | none => exact .inl ⟨rfl, by rw [List.getElem?_eq_none_iff] at hv ⊢; rw [← r.length]; exact hv⟩
  | some v =>
    obtain ⟨u, h1, h2⟩ := r.get hv
    exact .inr ⟨v, u, rfl, h1, h2⟩
theorem vals_pick {vs : List V} {us : List Value} (r : Vals vs us) : ∀ ix : List Nat, Vals (pickL ix vs) (pickL ix us)
  | [] => .nil
  | i :: ix => by
    unfold pickL
    rcases vals_getE r i with ⟨h1, h2⟩ | ⟨v, u, h1, h2, h3⟩
    · rw [List.filterMap_cons_none h1, List.filterMap_cons_none h2]; exact vals_pick r ix
    · rw [List.filterMap_cons_some h1, List.filterMap_cons_some h2]; exact .cons h3 (vals_pick r ix)
theorem Rps.pick {K : PySem.W.Frag} {H : Hp} {μ : List Addr} {ds : List D} {vs : List V} (r : Rps K H μ ds vs) : ∀ ix : List Nat, Rps K H μ (pickL ix ds) (pickL ix vs)
  | [] => rfl
  | i :: ix => by
    unfold pickL
    cases hd : ds[i]? with
    | none =>
      have hv : vs[i]? = none := by rw [List.getElem?_eq_none_iff] at hd ⊢; rw [r.length]; exact hd
      rw [List.filterMap_cons_none hd, List.filterMap_cons_none hv]; exact r.pick ix
    | some d =>
      obtain ⟨v, h1, h2⟩ := r.get hd
      rw [List.filterMap_cons_some hd, List.filterMap_cons_some h1]
      exact ⟨_, _, rfl, h2, r.pick ix⟩
/-- f(e, .., k = v, ..) -/
def eKw (op : List D → List D → Sto → R D) (fs gs : EvA) : Ev := fun env s => bind (fs env s) fun xs s1 => match plain xs with
  | some ds => bind (gs env s1) fun ys s2 => match plain ys with
    | some es => op ds es s2
    | none => none
  | none => none
def opCallK (F : Fn) (n m : Nat) (ix : List Nat) : List D → List D → Sto → R D := fun ds es s => if ds.length = n ∧ es.length = m then F ((pickL ix (ds ++ es)).map .d) s else none

/-! ### a new instance -/
/-- F: the class's __init__ -/
def mkI (c : List Nat) (F : Fn) (ds : List D) : Sto → R D := fun s => bind (F (.d (.ref s.length) :: ds.map .d) (s ++ [.ins c []])) fun d s' => match d with
  | .non => ret (.ref s.length) s'
  | _ => none
theorem made_rep {K : PySem.W.Frag} {mg : Str → Option Value} {μ : List Addr} {H : Hp} {sto : Sto} {c : List Nat} {C x dx : Addr} (rh : RepH K mg T μ sto H) (hm : mg (sn c) = some (.ref C)) (hx : H x = none) (hdx : H dx = none) (ne : dx ≠ x) :
    Post K mg T μ H (sto ++ [.ins c []]) (L2.upd (L2.upd H dx (.own x)) x (.ins C dx [])) (μ ++ [x]) := by
  have e1 : Ext H (L2.upd H dx (.own x)) := Ext.new hdx
  have hx' : L2.upd H dx (.own x) x = none := by rw [upd_ne ne.symm]; exact hx
  exact ⟨e1.trans (Ext.new hx'), ⟨[x], rfl⟩, (rh.fresh hdx).alloc hx' ⟨C, dx, [], hm, upd_same, rfl⟩⟩
theorem run_makeF {pins : List (Addr × Obj)} {σ : L2.St} {H : Hp} {s : Shared} {Q : VK} {μ : List Addr} {sto : Sto} {us ws : List Value} {vs : List V} {ks : List Str} {c : List Nat} {C fa : Addr} {fd : FuncData} {ps : List Str} {F : Fn} {zs : List D} {ix : List Nat}
    (M : Mk X.K C fa) (G : FOk X.prog X.w X.K X.mg X.base T j kc fa fd ps F) (hr : Room (j + 1) X.A) (tk : Takes X W) (hm : X.mg (sn c) = some (.ref C))
    (hb : ∀ (s : Shared) (x : Value), X.K.In s.heap → BindsTo s fd ⟨x :: us, ks.zip ws⟩ (ps.zip (x :: pickL ix (us ++ ws)))) (hl : (pickL ix zs).length + 1 = ps.length) (I : Inv X pins σ H s) (rv : Vals vs (us ++ ws)) (rp : Rps X.K H μ zs vs) (rh : RepH X.K X.mg T μ sto H)
    (q : DenW X T W σ μ H (fun d s1 => ∀ v H' μ', Post X.K X.mg T μ H s1 H' μ' → Rp X.K H' μ' d v → Q v H') (mkI c F (pickL ix zs) sto)) :
    wpAny (model X.prog X.w) X.A (call (.ref C) us (ks.zip ws)) (EP X pins σ Q) X.xe s := by
  have I2 := Inv.made (C := C) I
  have pm := made_rep (T := T) rh hm (I.hok.fresh (Nat.le_succ s.heap.objs.size)) (I.hok.fresh (Nat.le_refl _)) (Nat.ne_of_lt (Nat.lt_succ_self _))
  have rv2 : Vals (V.ref (s.heap.objs.size + 1) :: pickL ix vs) (Value.ref (s.heap.objs.size + 1) :: pickL ix (us ++ ws)) := .cons rfl (vals_pick rv ix)
  have rp2 := (Rps.mono pm.ext pm.mono rp).pick ix
  have rself : Rp X.K (L2.upd (L2.upd H s.heap.objs.size (.own (s.heap.objs.size + 1))) (s.heap.objs.size + 1) (.ins C s.heap.objs.size [])) (μ ++ [s.heap.objs.size + 1]) (.ref sto.length) (.ref (s.heap.objs.size + 1)) :=
    ⟨_, by rw [← rh.len]; simp, rfl⟩
  have q1 := (q.bind).later pm fun d s1 z => z
  refine wpAny_call (make_map (f := fa) I.kIn M.makes M.init (beq_iff_eq.mp M.fn) (codeAny_mono (G _ X.stack _ _ ⟨Value.ref (s.heap.objs.size + 1) :: us, ks.zip ws⟩ (Value.ref (s.heap.objs.size + 1) :: pickL ix (us ++ ws)) (V.ref (s.heap.objs.size + 1) :: pickL ix vs) (.d (.ref sto.length) :: (pickL ix zs).map .d) (μ ++ [s.heap.objs.size + 1]) (sto ++ [.ins c []])
    (fun v H2 => v = .non ∧ Q (.ref (s.heap.objs.size + 1)) H2) (fun cls dx H' => W cls dx σ H') (hr.make C us _) (I2.env0.make C us _) (hb _ _ I2.kIn) rv2 (by simp only [List.length_cons]; rw [rp2.length]; exact hl) pm.rep ⟨_, _, rfl, rself, RpAts.plains rp2⟩ ?_) fun r s' hq' => ?_))
  · generalize F (.d (.ref sto.length) :: (pickL ix zs).map .d) (sto ++ [.ins c []]) = m at q1 ⊢
    match m, q1 with
    | some (.ok d, s1), q1 =>
      intro v H' μ' p' r'
      have q2 := q1
      show v = .non ∧ _
      cases d with
      | non =>
        refine ⟨r', ?_⟩
        have q3 : ∀ v H' μ', Post X.K X.mg T μ H s1 H' μ' → Rp X.K H' μ' (.ref sto.length) v → Q v H' := q2
        exact q3 _ H' μ' (pm.trans p') ⟨_, p'.mono _ _ (by rw [← rh.len]; simp), rfl⟩
      | _ => exact (show False from q2).elim
    | some (.error x, s1), q1 => exact q1
  · cases r with
    | error e => exact tk e s' (XE.of_call I2 (fun cls d H' h => h) hq')
    | ok fl =>
      cases fl with
      | ret u =>
        obtain ⟨v, H', I3, rv', ev, q3⟩ := I2.after hq'
        subst ev
        exact ⟨rv', ⟨V.ref (s.heap.objs.size + 1), H', I3, rfl, q3⟩⟩
      | next => exact False.elim hq'
      | brk => exact False.elim hq'
      | cont => exact False.elim hq'
/-- C(e, ..) -/
def eMake (c : List Nat) (n : Nat) (F : Fn) (fs : EvA) : Ev := fun env s => bind (fs env s) fun xs s1 => match plain xs with
  | some ds => if ds.length = n then mkI c F ds s1 else none
  | none => none
theorem pick_range {α : Type} (l : List α) : pickL (List.range l.length) l = l := by
  unfold pickL
  induction l with
  | nil => rfl
  | cons a l ih =>
    rw [List.length_cons, List.range_succ_eq_map, List.filterMap_cons_some (b := a) (by simp), List.filterMap_map]
    congr 1
theorem qe_make {c : List Nat} {C fa : Addr} {fd : FuncData} {ps : List Str} {sp : Str} {F : Fn} (M : Mk X.K C fa) (G : FOk X.prog X.w X.K X.mg X.base T j kc fa fd (sp :: ps) F) (hr : Room (j + 1) X.A) (hg : Gl X x) (hx : x = sn c) (hm : X.mg (sn c) = some (.ref C)) (hb : Binds X.K fd (sp :: ps) []) (tk : Takes X W)
    (ha : QA X T k W (e :: es) fs) (hdb : (x == ("__debug__" : Str)) = false := by decide) (he : starEach (e :: es) X.env = (false, eval e X.env) :: starEach es X.env := by rfl) (hpl : (backTo pos (starEach es X.env)).any (·.1) = false := by rfl) :
    QE X T k W (.Call (.Name x p) (e :: es) [] pos) (eMake c ps.length F fs) := ⟨fun pins s σ H Q I ⟨μ, env, sto, rh, re, q⟩ => by
  refine wpAny_Call_Name_kw (ld_glob I hg (by rw [hx]; exact hm) ?_ hdb)
  refine PySem.W.callWith_K (h₀ := X.base) I.ok.mod.kin M.kp (thn (ha.run pos pins s σ H _ I (tA.go rh re (Q := fun vs H1 => ∃ μ1 xs s1, Post X.K X.mg T μ H s1 H1 μ1 ∧ RpAs X T k H1 μ1 xs vs ∧ DenW X T W σ μ H (fun d s1 => ∀ v H' μ', Post X.K X.mg T μ H s1 H' μ' → Rp X.K H' μ' d v → Q v H') (match plain xs with | some ds => if ds.length = ps.length then mkI c F ds s1 else none | none => none)) (q.bind.imp fun xs s1 q1 vs H1 μ1 p1 re1 r1 => ⟨μ1, xs, s1, p1, r1, q1⟩))) fun us s1 ⟨vs, H1, I1, r, μ1, xs, s1', p1, r1, q1⟩ => ⟨I1.kIn, ?_⟩) he hpl
  split at q1
  · rename_i ds hp
    split at q1
    · rename_i hl
      have rp := r1.plain hp
      have hul : us.length = ps.length := by rw [← r.length, rp.length, hl]
      have e1 : ∀ x : Value, x :: pickL (List.range ds.length) (us ++ []) = x :: us := fun x => by
        rw [List.append_nil, hl, ← hul, pick_range]
      refine run_makeF (ks := []) (ws := []) (ix := List.range ds.length) (zs := ds) M G hr tk hm (fun s' x hK => ?_) (by rw [pick_range, hl]; rfl) I1 (by rw [List.append_nil]; exact r) rp p1.rep ?_
      · rw [List.nil_append, e1]
        have := hb s' (x :: us) hK (by simp [hul])
        simpa using this
      · rw [pick_range]
        exact q1.later p1 fun d s2 z v H2 μ2 p2 r2 => z v H2 μ2 (p1.trans p2) r2
    · exact q1.elim
  · exact q1.elim⟩

/-- C(e, .., k = v, ..) -/
def opMakeK (c : List Nat) (n m : Nat) (F : Fn) (ix : List Nat) : List D → List D → Sto → R D := fun ds es s => if ds.length = n ∧ es.length = m then mkI c F (pickL ix (ds ++ es)) s else none
theorem pick_len {α β : Type} {l : List α} {m : List β} (h : l.length = m.length) : ∀ ix : List Nat, (pickL ix l).length = (pickL ix m).length
  | [] => rfl
  | i :: ix => by
    unfold pickL
    have ih := pick_len h ix
    by_cases hi : i < l.length
    · rw [List.filterMap_cons_some (List.getElem?_eq_getElem hi), List.filterMap_cons_some (List.getElem?_eq_getElem (by rw [← h]; exact hi))]
      simp only [List.length_cons]; exact congrArg (· + 1) ih
    · rw [List.filterMap_cons_none (List.getElem?_eq_none_iff.mpr (by omega)), List.filterMap_cons_none (List.getElem?_eq_none_iff.mpr (by omega))]; exact ih
/-- the values of positional and keyword arguments -/
theorem kw_go {op : List D → List D → Sto → R D} {pos : Pos} {pins : List (Addr × Obj)} {s : Shared} {σ : L2.St} {H : Hp} {Q : VK} {μ : List Addr} {env : Env} {sto : Sto} {R' : List Value → List Value → Shared → Prop} (hkw : QK X T k W kws gs)
    (I : Inv X pins σ H s) (rh : RepH X.K X.mg T μ sto H) (re : RepE X T k H μ env σ) (xs : List D) (vs : List V) (us : List Value) (rv : Vals vs us) (rx : Rps X.K H μ xs vs)
    (q : DenW X T W σ μ H (fun d s1 => ∀ v H' μ', Post X.K X.mg T μ H s1 H' μ' → Rp X.K H' μ' d v → Q v H') (bind (gs env sto) fun ys s2 => match plain ys with | some es => op xs es s2 | none => none))
    (fin : ∀ ws s2 zs H2 μ2 st2 es, Inv X pins σ H2 s2 → Vals zs ws → RepH X.K X.mg T μ2 st2 H2 → Rps X.K H2 μ2 xs vs → Rps X.K H2 μ2 es zs → DenW X T W σ μ2 H2 (fun d s3 => ∀ v H' μ', Post X.K X.mg T μ2 H2 s3 H' μ' → Rp X.K H' μ' d v → Q v H') (op xs es st2) → R' us ws s2) :
    wpAny (model X.prog X.w) X.A (evalAll ((backToKw pos (keywordEach kws X.env)).map (·.2))) (fun ws s2 => R' us ws s2) X.xe s := by
  refine thn (hkw.run pos pins s σ H _ I (tA.go rh re (Q := fun zs H2 => ∃ μ2 ys st2, Post X.K X.mg T μ H st2 H2 μ2 ∧ RpAs X T k H2 μ2 ys zs ∧ DenW X T W σ μ H (fun d s1 => ∀ v H' μ', Post X.K X.mg T μ H s1 H' μ' → Rp X.K H' μ' d v → Q v H') (match plain ys with | some es => op xs es st2 | none => none)) (q.bind.imp fun ys s1 q1 vs H1 μ1 p1 re1 r1 => ⟨μ1, ys, s1, p1, r1, q1⟩))) fun ws s2 ⟨zs, H2, I2, rz, μ2, ys, st2, p2, r2, q2⟩ => ?_
  split at q2
  · rename_i es hp
    exact fin ws s2 zs H2 μ2 st2 es I2 rz p2.rep (Rps.mono p2.ext p2.mono rx) (r2.plain hp) (q2.later p2 fun d s3 z v H3 μ3 p3 r3 => z v H3 μ3 (p2.trans p3) r3)
  · exact q2.elim
theorem pick_all {α : Type} {ix : List Nat} {l : List α} (h : ∀ i ∈ ix, i < l.length) : (pickL ix l).length = ix.length := by
  induction ix with
  | nil => rfl
  | cons i ix ih =>
    unfold pickL
    rw [List.filterMap_cons_some (List.getElem?_eq_getElem (h i (by simp))), List.length_cons, List.length_cons]
    exact congrArg (· + 1) (ih fun j hj => h j (by simp [hj]))
/-- positional arguments, one at least, and keywords: what is then to be shown -/
theorem kwc_of {f : Value} {op : List D → List D → Sto → R D} {ks : List Str} (hk : PySem.W.keepIn X.K f = true) (hg : Gl X x) (hm : X.mg x = some f)
    (ha : QA X T k W (e :: es) fs) (hkw : QK X T k W kws gs) (hall : (backToKw pos (keywordEach kws X.env)).all (·.1.isSome) = true) (hks : (backToKw pos (keywordEach kws X.env)).filterMap (·.1) = ks)
    (hdb : (x == ("__debug__" : Str)) = false) (he : starEach (e :: es) X.env = (false, eval e X.env) :: starEach es X.env)
    (hpl : ((backTo pos (starEach (e :: es) X.env)).any (·.1) || (backToKw pos (keywordEach kws X.env)).any (·.1.isNone)) = false)
    (fin : ∀ (pins : List (Addr × Obj)) (s : Shared) (σ : L2.St) (H : Hp) (Q : VK) (μ : List Addr) (st : Sto) (ds es : List D) (vs zs : List V) (us ws : List Value), Inv X pins σ H s → RepH X.K X.mg T μ st H → Vals vs us → Vals zs ws → Rps X.K H μ ds vs → Rps X.K H μ es zs →
      DenW X T W σ μ H (fun d s3 => ∀ v H' μ', Post X.K X.mg T μ H s3 H' μ' → Rp X.K H' μ' d v → Q v H') (op ds es st) → wpAny (model X.prog X.w) X.A (call f us (ks.zip ws)) (EP X pins σ Q) X.xe s) :
    QE X T k W (.Call (.Name x p) (e :: es) kws pos) (eKw op fs gs) := ⟨fun pins s σ H Q I ⟨μ, env, sto, rh, re, q⟩ => by
  refine wpAny_Call_Name_kw (ld_glob I hg hm ?_ hdb)
  refine PySem.W.callWith_KW (h₀ := X.base) I.ok.mod.kin hk hall (thn (ha.run pos pins s σ H _ I (tA.go rh re (Q := fun vs H1 => ∃ μ1 xs s1, Post X.K X.mg T μ H s1 H1 μ1 ∧ RpAs X T k H1 μ1 xs vs ∧ RepE X T k H1 μ1 env σ ∧ DenW X T W σ μ H (fun d s1 => ∀ v H' μ', Post X.K X.mg T μ H s1 H' μ' → Rp X.K H' μ' d v → Q v H') (match plain xs with | some ds => (bind (gs env s1) fun ys s2 => match plain ys with | some es => op ds es s2 | none => none) | none => none)) (q.bind.imp fun xs s1 q1 vs H1 μ1 p1 re1 r1 => ⟨μ1, xs, s1, p1, r1, re1, q1⟩))) fun us s1 ⟨vs, H1, I1, r, μ1, xs, s1', p1, r1, re1, q1⟩ => ?_) hpl he
  rw [hks]
  split at q1
  · rename_i ds hp
    refine kw_go (R' := fun us ws s2 => X.K.In s2.heap ∧ wpAny (model X.prog X.w) X.A (call f ([] ++ us) (ks.zip ws)) (EP X pins σ Q) X.xe s2) (op := op) hkw I1 p1.rep re1 ds vs us r (r1.plain hp) ((q1.later p1 fun d s3 z v H3 μ3 p3 r3 => z v H3 μ3 (p1.trans p3) r3)) fun ws s2 zs H2 μ2 st2 es I2 rz rh2 r2 r3 q2 => ?_
    exact ⟨I2.kIn, fin pins s2 σ H2 Q μ2 st2 ds es vs zs us ws I2 rh2 r rz r2 r3 q2⟩
  · exact q1.elim⟩
/-- keywords alone -/
def eKw0 (op : List D → List D → Sto → R D) (gs : EvA) : Ev := fun env s => bind (gs env s) fun ys s2 => match plain ys with
    | some es => op [] es s2
    | none => none
theorem kwc0_of {f : Value} {op : List D → List D → Sto → R D} {ks : List Str} (hk : PySem.W.keepIn X.K f = true) (hg : Gl X x) (hm : X.mg x = some f)
    (hkw : QK X T k W kws gs) (hall : (backToKw pos (keywordEach kws X.env)).all (·.1.isSome) = true) (hks : (backToKw pos (keywordEach kws X.env)).filterMap (·.1) = ks)
    (hdb : (x == ("__debug__" : Str)) = false)
    (hpl : ((backTo pos (starEach [] X.env)).any (·.1) || (backToKw pos (keywordEach kws X.env)).any (·.1.isNone)) = false)
    (fin : ∀ (pins : List (Addr × Obj)) (s : Shared) (σ : L2.St) (H : Hp) (Q : VK) (μ : List Addr) (st : Sto) (ds es : List D) (vs zs : List V) (us ws : List Value), Inv X pins σ H s → RepH X.K X.mg T μ st H → Vals vs us → Vals zs ws → Rps X.K H μ ds vs → Rps X.K H μ es zs →
      DenW X T W σ μ H (fun d s3 => ∀ v H' μ', Post X.K X.mg T μ H s3 H' μ' → Rp X.K H' μ' d v → Q v H') (op ds es st) → wpAny (model X.prog X.w) X.A (call f us (ks.zip ws)) (EP X pins σ Q) X.xe s) :
    QE X T k W (.Call (.Name x p) [] kws pos) (eKw0 op gs) := ⟨fun pins s σ H Q I ⟨μ, env, sto, rh, re, q⟩ => by
  refine wpAny_Call_Name_kw (ld_glob I hg hm ?_ hdb)
  refine PySem.W.callWith_KW0 (h₀ := X.base) I.ok.mod.kin hk hall ?_ hpl
  rw [hks]
  refine kw_go (R' := fun us ws s2 => X.K.In s2.heap ∧ wpAny (model X.prog X.w) X.A (call f ([] ++ []) (ks.zip ws)) (EP X pins σ Q) X.xe s2) (op := op) hkw I rh re [] [] [] .nil rfl q fun ws s2 zs H2 μ2 st2 es I2 rz rh2 r2 r3 q2 => ?_
  exact ⟨I2.kIn, fin pins s2 σ H2 Q μ2 st2 [] es [] zs [] ws I2 rh2 .nil rz rfl r3 q2⟩⟩
theorem fin_callK {fa : Addr} {fd : FuncData} {ps ks : List Str} {F : Fn} {n : Nat} {ix : List Nat} (G : FOk X.prog X.w X.K X.mg X.base T j kc fa fd ps F) (hr : Room j X.A) (hb : KwB X.K fd ps n ks ix) (hix : ix.length = ps.length) (hixb : ∀ i ∈ ix, i < n + ks.length) (tk : Takes X W) :
    ∀ (pins : List (Addr × Obj)) (s : Shared) (σ : L2.St) (H : Hp) (Q : VK) (μ : List Addr) (st : Sto) (ds es : List D) (vs zs : List V) (us ws : List Value), Inv X pins σ H s → RepH X.K X.mg T μ st H → Vals vs us → Vals zs ws → Rps X.K H μ ds vs → Rps X.K H μ es zs →
      DenW X T W σ μ H (fun d s3 => ∀ v H' μ', Post X.K X.mg T μ H s3 H' μ' → Rp X.K H' μ' d v → Q v H') (opCallK F n ks.length ix ds es st) → wpAny (model X.prog X.w) X.A (call (.ref fa) us (ks.zip ws)) (EP X pins σ Q) X.xe s := by
  intro pins s σ H Q μ st ds es vs zs us ws I rh r rz r2 r3 q
  unfold opCallK at q
  split at q
  · rename_i hl
    have hul : us.length = n := by rw [← r.length, r2.length, hl.1]
    have hwl : ws.length = ks.length := by rw [← rz.length, r3.length, hl.2]
    have hlen : (pickL ix (vs ++ zs)).length = ps.length := by
      rw [pick_all fun i hi => by rw [List.length_append, r2.length, r3.length, hl.1, hl.2]; exact hixb i hi]; exact hix
    exact run_fok G hr tk I (hb s us ws hul hwl) (vals_pick (r.append rz) ix) hlen rh (RpAts.plains ((r2.append r3).pick ix)) q fun h => pass_of tk I h
  · exact q.elim
theorem qe_callK {fa : Addr} {fd : FuncData} {ps ks : List Str} {F : Fn} {n : Nat} {ix : List Nat} (G : FOk X.prog X.w X.K X.mg X.base T j kc fa fd ps F) (hr : Room j X.A) (hg : Gl X x) (hm : X.mg x = some (.ref fa)) (hk : PySem.W.keepIn X.K (.ref fa) = true) (hb : KwB X.K fd ps n ks ix) (tk : Takes X W)
    (ha : QA X T k W (e :: es) fs) (hkw : QK X T k W kws gs) (hix : ix.length = ps.length := by rfl) (hixb : ∀ i ∈ ix, i < n + ks.length := by decide) (hall : (backToKw pos (keywordEach kws X.env)).all (·.1.isSome) = true := by rfl) (hks : (backToKw pos (keywordEach kws X.env)).filterMap (·.1) = ks := by rfl)
    (hdb : (x == ("__debug__" : Str)) = false := by decide) (he : starEach (e :: es) X.env = (false, eval e X.env) :: starEach es X.env := by rfl)
    (hpl : ((backTo pos (starEach (e :: es) X.env)).any (·.1) || (backToKw pos (keywordEach kws X.env)).any (·.1.isNone)) = false := by rfl) :
    QE X T k W (.Call (.Name x p) (e :: es) kws pos) (eKw (opCallK F n ks.length ix) fs gs) := kwc_of hk hg hm ha hkw hall hks hdb he hpl (fin_callK G hr hb hix hixb tk)
theorem qe_callK0 {fa : Addr} {fd : FuncData} {ps ks : List Str} {F : Fn} {ix : List Nat} (G : FOk X.prog X.w X.K X.mg X.base T j kc fa fd ps F) (hr : Room j X.A) (hg : Gl X x) (hm : X.mg x = some (.ref fa)) (hk : PySem.W.keepIn X.K (.ref fa) = true) (hb : KwB X.K fd ps 0 ks ix) (tk : Takes X W)
    (hkw : QK X T k W kws gs) (hix : ix.length = ps.length := by rfl) (hixb : ∀ i ∈ ix, i < 0 + ks.length := by decide) (hall : (backToKw pos (keywordEach kws X.env)).all (·.1.isSome) = true := by rfl) (hks : (backToKw pos (keywordEach kws X.env)).filterMap (·.1) = ks := by rfl)
    (hdb : (x == ("__debug__" : Str)) = false := by decide)
    (hpl : ((backTo pos (starEach [] X.env)).any (·.1) || (backToKw pos (keywordEach kws X.env)).any (·.1.isNone)) = false := by rfl) :
    QE X T k W (.Call (.Name x p) [] kws pos) (eKw0 (opCallK F 0 ks.length ix) gs) := kwc0_of hk hg hm hkw hall hks hdb hpl (fin_callK G hr hb hix hixb tk)
theorem fin_makeK {c : List Nat} {C fa : Addr} {fd : FuncData} {ps ks : List Str} {F : Fn} {n : Nat} {ix : List Nat} (M : Mk X.K C fa) (G : FOk X.prog X.w X.K X.mg X.base T j kc fa fd ps F) (hr : Room (j + 1) X.A) (hm : X.mg (sn c) = some (.ref C))
    (hb : KwB X.K fd ps (n + 1) ks (0 :: ix.map (· + 1))) (hix : ix.length + 1 = ps.length) (hixb : ∀ i ∈ ix, i < n + ks.length) (tk : Takes X W) :
    ∀ (pins : List (Addr × Obj)) (s : Shared) (σ : L2.St) (H : Hp) (Q : VK) (μ : List Addr) (st : Sto) (ds es : List D) (vs zs : List V) (us ws : List Value), Inv X pins σ H s → RepH X.K X.mg T μ st H → Vals vs us → Vals zs ws → Rps X.K H μ ds vs → Rps X.K H μ es zs →
      DenW X T W σ μ H (fun d s3 => ∀ v H' μ', Post X.K X.mg T μ H s3 H' μ' → Rp X.K H' μ' d v → Q v H') (opMakeK c n ks.length F ix ds es st) → wpAny (model X.prog X.w) X.A (call (.ref C) us (ks.zip ws)) (EP X pins σ Q) X.xe s := by
  intro pins s σ H Q μ st ds es vs zs us ws I rh r rz r2 r3 q
  unfold opMakeK at q
  split at q
  · rename_i hl
    have hul : us.length = n := by rw [← r.length, r2.length, hl.1]
    have hwl : ws.length = ks.length := by rw [← rz.length, r3.length, hl.2]
    refine run_makeF (us := us) (ws := ws) (ix := ix) (zs := ds ++ es) M G hr tk hm (fun s' x' hK => ?_) ?_ I (r.append rz) (r2.append r3) rh q
    · have := hb s' (x' :: us) ws (by simp [hul]) hwl
      have e1 : pickL (0 :: ix.map (· + 1)) (x' :: us ++ ws) = x' :: pickL ix (us ++ ws) := by
        unfold pickL
        rw [List.filterMap_cons_some (b := x') (by simp), List.filterMap_map]
        rfl
      rw [e1] at this
      exact this
    · rw [pick_all fun i hi => by rw [List.length_append, hl.1, hl.2]; exact hixb i hi]; exact hix
  · exact q.elim
theorem qe_makeK {c : List Nat} {C fa : Addr} {fd : FuncData} {ps ks : List Str} {F : Fn} {n : Nat} {ix : List Nat} (M : Mk X.K C fa) (G : FOk X.prog X.w X.K X.mg X.base T j kc fa fd ps F) (hr : Room (j + 1) X.A) (hg : Gl X x) (hx : x = sn c) (hm : X.mg (sn c) = some (.ref C))
    (hb : KwB X.K fd ps (n + 1) ks (0 :: ix.map (· + 1))) (tk : Takes X W)
    (ha : QA X T k W (e :: es) fs) (hkw : QK X T k W kws gs) (hix : ix.length + 1 = ps.length := by rfl) (hixb : ∀ i ∈ ix, i < n + ks.length := by decide) (hall : (backToKw pos (keywordEach kws X.env)).all (·.1.isSome) = true := by rfl) (hks : (backToKw pos (keywordEach kws X.env)).filterMap (·.1) = ks := by rfl)
    (hdb : (x == ("__debug__" : Str)) = false := by decide) (he : starEach (e :: es) X.env = (false, eval e X.env) :: starEach es X.env := by rfl)
    (hpl : ((backTo pos (starEach (e :: es) X.env)).any (·.1) || (backToKw pos (keywordEach kws X.env)).any (·.1.isNone)) = false := by rfl) :
    QE X T k W (.Call (.Name x p) (e :: es) kws pos) (eKw (opMakeK c n ks.length F ix) fs gs) := kwc_of M.kp hg (by rw [hx]; exact hm) ha hkw hall hks hdb he hpl (fin_makeK M G hr hm hb hix hixb tk)
theorem qe_makeK0 {c : List Nat} {C fa : Addr} {fd : FuncData} {ps ks : List Str} {F : Fn} {ix : List Nat} (M : Mk X.K C fa) (G : FOk X.prog X.w X.K X.mg X.base T j kc fa fd ps F) (hr : Room (j + 1) X.A) (hg : Gl X x) (hx : x = sn c) (hm : X.mg (sn c) = some (.ref C))
    (hb : KwB X.K fd ps 1 ks (0 :: ix.map (· + 1))) (tk : Takes X W)
    (hkw : QK X T k W kws gs) (hix : ix.length + 1 = ps.length := by rfl) (hixb : ∀ i ∈ ix, i < 0 + ks.length := by decide) (hall : (backToKw pos (keywordEach kws X.env)).all (·.1.isSome) = true := by rfl) (hks : (backToKw pos (keywordEach kws X.env)).filterMap (·.1) = ks := by rfl)
    (hdb : (x == ("__debug__" : Str)) = false := by decide)
    (hpl : ((backTo pos (starEach [] X.env)).any (·.1) || (backToKw pos (keywordEach kws X.env)).any (·.1.isNone)) = false := by rfl) :
    QE X T k W (.Call (.Name x p) [] kws pos) (eKw0 (opMakeK c 0 ks.length F ix) gs) := kwc0_of M.kp hg (by rw [hx]; exact hm) hkw hall hks hdb hpl (fin_makeK M G hr hm hb hix hixb tk)
end
end TP
/-! Attributes, properties, own ==, isinstance of own classes. -/
namespace TP
open PySem PySem.Spec PyProof.Rows L2 LamX

section
variable {X : Cx} {T : List (Addr × Str)} {k j kc : Nat} {W : WX} {e o : Expr} {es : List Expr} {f g fo fe : Ev} {fs gs : EvA} {pos p pos' : Pos} {x : Str}
/-- what an attribute is in the class of a name: a field of the instance, or a property with this getter -/
inductive Acc where
  | fld | prop (F : Fn)
def accOf (c : List Nat) : List (List Nat × Acc) → Option Acc
  | [] => none
  | (n, a) :: r => if c = n then some a else accOf c r
/-- results without exceptions -/
def rvOf : R D → RV
  | some (.ok d, s) => some (d, s)
  | _ => none
def attrD (tb : List (List Nat × Acc)) (nm : List Nat) (x : D) (s : Sto) : RV := match x with
  | .ref n => match s[n]? with
    | some (.ins c fs) => match accOf c tb with
      | some .fld => (fldOf nm fs).map fun d => (d, s)
      | some (.prop F) => rvOf (F [.d x] s)
      | none => none
    | _ => none
  | _ => none
def eAttr (tb : List (List Nat × Acc)) (nm : List Nat) (fo : Ev) : Ev := fun env s => bind (fo env s) fun x s1 => lift (attrD tb nm x s1)
/-- the facts of one class -/
inductive AccOk (X : Cx) (T : List (Addr × Str)) (j : Nat) (fn : Str) : List Nat × Acc → Prop
  | fld {c : List Nat} {C : Addr} : X.mg (sn c) = some (.ref C) → Cls X.K C → NoAttr X.K C fn → AccOk X T j fn (c, .fld)
  | prop {c : List Nat} {C p g : Addr} {fd : FuncData} {ps : List Str} {F : Fn} {kc : Nat} : X.mg (sn c) = some (.ref C) → Cls X.K C → PropOf X.K C fn p g → FOk X.prog X.w X.K X.mg X.base T j kc g fd ps F → ps.length = 1 → Binds X.K fd ps [] → AccOk X T j fn (c, .prop F)
theorem accOf_mem {c : List Nat} {a : Acc} : ∀ {tb : List (List Nat × Acc)}, accOf c tb = some a → (c, a) ∈ tb
  | [], h => by cases h
  | (n, b) :: r, h => by
    simp only [accOf] at h
    by_cases hc : c = n
    · rw [if_pos hc] at h; cases h; subst hc; simp
    · rw [if_neg hc] at h; simp [accOf_mem h]
theorem den_rv {α : Type} {μ : List Addr} {H : Hp} {Q : VK} {E : XK} {m : R D} (h : DenV X T μ H Q (rvOf m)) : Den X.K X.mg T E μ H Q m := by
  match m, h with
  | some (.ok d, s), h => exact h
  | some (.error x, s), h => exact h.elim
  | none, h => exact h.elim
theorem qe_attr {tb : List (List Nat × Acc)} {nm : List Nat} {fn : Str} (hr : Room (j + 1) X.A) (hfn : fn = sn nm) (ok : ∀ t ∈ tb, AccOk X T j fn t) (ho : QE X T k W o fo) (hab : attributeBase o fn X.env (eval o X.env) = eval o X.env := by rfl) :
    QE X T k W (.Attribute o fn pos) (eAttr tb nm fo) := ⟨fun pins s σ H Q I ⟨μ, env, sto, rh, re, q⟩ => by
  refine attr_of hab (thn (ho.run pins s σ H _ I (tE.go rh re (Q := fun v H1 => ∃ μ1 x s1, Post X.K X.mg T μ H s1 H1 μ1 ∧ Rp X.K H1 μ1 x v ∧ DenV X T μ1 H1 Q (attrD tb nm x s1)) (q.bind.imp fun x s1 q1 v H1 μ1 p1 re1 r1 => ⟨μ1, x, s1, p1, r1, DenV.of q1 fun d s2 q2 w H2 μ2 p2 r2 => q2 w H2 μ2 (p1.trans p2) r2⟩))) fun u s1 ⟨v, H1, I1, rv, μ1, x, st1, p1, r1, q1⟩ => ?_)
  unfold attrD at q1
  split at q1
  · rename_i n
    split at q1
    · rename_i c fs hx
      obtain ⟨a, C, dx, vs, rfl, h1, h0, h2, h3⟩ := p1.rep.ins hx r1
      obtain rfl : u = Value.ref a := rv
      split at q1
      · rename_i hacc
        cases ok _ (accOf_mem hacc) with
        | @fld _ C' hm cl na =>
          rw [hm] at h0; cases h0
          cases hd : fldOf nm fs with
          | none => rw [hd] at q1; exact q1.elim
          | some d =>
            rw [hd] at q1
            obtain ⟨w, e1, e2⟩ := h3.look hd
            exact getattr_ok I1 h2 cl na (by rw [hfn]; exact e1) fun u' s2 I2 ru => ⟨w, H1, I2, ru, q1.same p1.rep e2⟩
      · rename_i F hacc
        cases ok _ (accOf_mem hacc) with
        | @prop _ C' pp gg fd ps F' kc' hm cl hp G hps hb =>
          rw [hm] at h0; cases h0
          obtain ⟨mA, O, _, _, _, _⟩ := ins_get I1.hok h2
          obtain ⟨od, J, _⟩ := O.look
          obtain ⟨rest, hrec⟩ := hp.rec_
          have I2 := I1.tok (s1.toks + 1)
          have hc : (PySem.W.clsIn X.K C).isSome = true := by
            obtain ⟨cd, hc, _⟩ := PySem.W.any_some cl.hd
            rw [hc]
            rfl
          refine PySem.W.get_bind I1.kIn J (PySem.W.plainGet_of (cl.get fn)).1 (PySem.W.findObj_data hc hp.at_ hp.get hp.tak) (PySem.W.plainGet_of (cl.get fn)).2 (wpAny_call (PySem.W.prop_get (s := { s1 with toks := s1.toks + 1 }) I1.kIn hrec ?_))
          refine codeAny_mono (G X.A.in1 X.stack { s1 with toks := s1.toks + 1 } H1 ⟨[.ref a], []⟩ [.ref a] [.ref a] [.d (.ref n)] μ1 st1 Q (fun _ _ _ => False) hr.in1 I2.env0.in1 (by simpa using hb _ [.ref a] I2.kIn (by simpa using hps.symm)) (.cons rfl .nil) (by simpa using hps.symm) p1.rep ⟨_, _, rfl, r1, rfl⟩ (den_rv (α := D) q1)) fun r s' hq => ?_
          cases r with
          | error er =>
            obtain ⟨_, _, _, _, _, _, _, _, _, _, _, _, hf⟩ := hq
            exact hf.elim
          | ok fl =>
            cases fl with
            | ret u =>
              obtain ⟨v, H', I3, rv, q3⟩ := I2.after hq
              show wpAny _ _ (handedOut u) _ _ _
              rw [PySem.W.handedOut_of (handed_of rv)]
              exact wpAny_pure ⟨v, H', I3, rv, q3⟩
            | next => exact False.elim hq
            | brk => exact False.elim hq
            | cont => exact False.elim hq
      · exact q1.elim
    · exact q1.elim
  · exact q1.elim⟩

/-! ### own == -/
theorem ty_looks {M : Model} {pins : List (Addr × Obj)} {σ : L2.St} {H : Hp} {s : Shared} {μ : List Addr} {sto : Sto} {d : D} {v : V} {u : Value} {t : String} (I : Inv X pins σ H s) (rh : RepH X.K X.mg T μ sto H) (r : Rp X.K H μ d v) (q : RelV v u) (h : tyName d sto = some t) :
    PySem.W.Looks M s.heap (typeOf u) (.type t) := by
  cases d with
  | non => cases h; rw [show v = _ from r] at q; cases q; exact PySem.W.Looks.now
  | bl b => cases h; rw [show v = _ from r] at q; cases q; exact PySem.W.Looks.now
  | int b => cases h; rw [show v = _ from r] at q; obtain ⟨t, rfl⟩ := q; exact PySem.W.Looks.now
  | str b => cases h; rw [show v = _ from r] at q; obtain ⟨t, rfl⟩ := q; exact PySem.W.Looks.now
  | tup xs =>
    cases h
    obtain ⟨a, vs, rfl, h2, _⟩ := r
    cases q
    obtain ⟨its, r1, ⟨o, ho, hc, _⟩, _⟩ := I.tuple h2
    exact hc ▸ (PySem.W.Looks.ld ho).andThen .now
  | ref n =>
    simp only [tyName] at h
    split at h
    · rename_i xs hx
      cases h
      obtain ⟨a, vs, rfl, h2, _⟩ := rh.lstV hx r
      cases q
      obtain ⟨its, r1, p1, _⟩ := I.list h2
      obtain ⟨o, ho, hc, _⟩ := p1.isList
      exact hc ▸ (PySem.W.Looks.ld ho).andThen .now
    · cases h
def fnOf (c : List Nat) : List (List Nat × Fn) → Option Fn
  | [] => none
  | (n, a) :: r => if c = n then some a else fnOf c r
theorem fnOf_mem {c : List Nat} {a : Fn} : ∀ {tb : List (List Nat × Fn)}, fnOf c tb = some a → (c, a) ∈ tb
  | [], h => by cases h
  | (n, b) :: r, h => by
    simp only [fnOf] at h
    by_cases hc : c = n
    · rw [if_pos hc] at h; cases h; subst hc; simp
    · rw [if_neg hc] at h; simp [fnOf_mem h]
/-- the class of an instance -/
def clsOf (x : D) (s : Sto) : Option (List Nat) := match x with
  | .ref n => match s[n]? with
    | some (.ins c _) => some c
    | _ => none
  | _ => none
def okR (rs : List String) (rcs : List (List Nat)) (y : D) (s : Sto) : Bool := match tyName y s with
  | some t => rs.contains t
  | none => match clsOf y s with
    | some c => rcs.contains c
    | none => false
def eqI (neg : Bool) (tb : List (List Nat × Fn)) (rs : List String) (rcs : List (List Nat)) : D → D → Sto → RV := fun x y s => match clsOf x s with
  | some c => match fnOf c tb with
    | some F => if okR rs rcs y s then match rvOf (F [.d x, .d y] s) with
        | some (.bl b, s') => some (.bl (if neg then !b else b), s')
        | _ => none
      else none
    | none => none
  | none => none
structure EqOk (X : Cx) (T : List (Addr × Str)) (j : Nat) (rs : List String) (rcs : List (List Nat)) (t : List Nat × Fn) : Prop where
  ex : ∃ (C f : Addr) (fd : FuncData) (ps : List Str) (kc : Nat), X.mg (sn t.1) = some (.ref C) ∧ PySem.W.findIn X.K (.ref C) "__eq__" = some (some (.ref f)) ∧ PySem.W.isFn X.K (.ref f) = true ∧
    FOk X.prog X.w X.K X.mg X.base T j kc f fd ps t.2 ∧ ps.length = 2 ∧ Binds X.K fd ps [] ∧ (∀ r ∈ rs, PySem.W.notFirst X.K C (.type r) = true) ∧ (∀ d ∈ rcs, ∃ D, X.mg (sn d) = some (.ref D) ∧ PySem.W.notFirst X.K C (.ref D) = true)
theorem clsOf_eq {x : D} {s : Sto} {c : List Nat} (h : clsOf x s = some c) : ∃ n fs, x = .ref n ∧ s[n]? = some (.ins c fs) := by
  unfold clsOf at h
  split at h
  · split at h
    · cases h; exact ⟨_, _, rfl, by assumption⟩
    · cases h
  · cases h
/-- the right side's type -/
theorem okR_looks {M : Model} {pins : List (Addr × Obj)} {σ : L2.St} {H : Hp} {s : Shared} {μ : List Addr} {sto : Sto} {d : D} {v : V} {u : Value} {rs : List String} {rcs : List (List Nat)} {C : Addr} (I : Inv X pins σ H s) (rh : RepH X.K X.mg T μ sto H) (r : Rp X.K H μ d v) (q : RelV v u) (h : okR rs rcs d sto = true)
    (h1 : ∀ r ∈ rs, PySem.W.notFirst X.K C (.type r) = true) (h2 : ∀ d ∈ rcs, ∃ D, X.mg (sn d) = some (.ref D) ∧ PySem.W.notFirst X.K C (.ref D) = true) : ∃ tb, PySem.W.Looks M s.heap (typeOf u) tb ∧ PySem.W.notFirst X.K C tb = true := by
  unfold okR at h
  split at h
  · rename_i t ht
    exact ⟨_, ty_looks I rh r q ht, h1 t (by simpa using h)⟩
  · split at h
    · rename_i c hc
      obtain ⟨n, fs, rfl, hx⟩ := clsOf_eq hc
      obtain ⟨a, C', dx, vs, rfl, g1, g0, g2, g3⟩ := rh.ins hx r
      cases q
      obtain ⟨D', e1, e2⟩ := h2 c (by simpa using h)
      rw [e1] at g0; cases g0
      obtain ⟨mA, J, _⟩ := ins_get I.hok g2
      obtain ⟨od, J, _⟩ := J.look
      exact ⟨_, J.type, e2⟩
    · cases h
theorem run_eqI {A : Around} {pins : List (Addr × Obj)} {σ : L2.St} {H : Hp} {s : Shared} {μ : List Addr} {sto s2 : Sto} {x y : D} {v w : V} {u u' : Value} {f : Addr} {fd : FuncData} {ps : List Str} {F : Fn} {b : Bool} {Q : Value → Shared → Prop} {E : Value → Shared → Prop}
    (G : FOk X.prog X.w X.K X.mg X.base T j kc f fd ps F) (hps : ps.length = 2) (hb : Binds X.K fd ps []) (hr : Room j A) (hA : A.frames = X.A.frames) (I : Inv X pins σ H s) (rh : RepH X.K X.mg T μ sto H) (r1 : Rp X.K H μ x v) (r2 : Rp X.K H μ y w) (q1 : RelV v u) (q2 : RelV w u')
    (hv : rvOf (F [.d x, .d y] sto) = some (.bl b, s2)) (fin : ∀ s' H' μ', Inv X pins σ H' s' → Post X.K X.mg T μ H s2 H' μ' → Q (.bool b) s') : wpAny (model X.prog X.w) A (call (.ref f) [u, u']) Q E s := by
  have e0 : Env0 X.prog X.w X.K X.mg X.base A X.stack s H := by
    have e := I.env0
    exact ⟨by rw [hA]; exact e.frames, e.mod, e.bs, e.bsz, e.funs, e.frf, e.hok, e.bare⟩
  have hd : Den X.K X.mg T (fun _ _ _ => False) μ H (fun z H' => z = .bl b ∧ ∃ μ', Post X.K X.mg T μ H s2 H' μ') (F [.d x, .d y] sto) := by
    generalize F [.d x, .d y] sto = m at hv
    match m, hv with
    | some (.ok d, s3), hv =>
      simp only [rvOf] at hv
      injection hv with hv
      injection hv with e1 e2
      subst e1; subst e2
      exact fun z H' μ' p r => ⟨r, μ', p⟩
  refine wpAny_call (codeAny_mono (G A X.stack s H ⟨[u, u'], []⟩ [u, u'] [v, w] [.d x, .d y] μ sto _ (fun _ _ _ => False) hr e0 (by simpa using hb s [u, u'] I.kIn (by simpa using hps.symm)) (.cons q1 (.cons q2 .nil)) (by simpa using hps.symm) rh ⟨_, _, rfl, r1, _, _, rfl, r2, rfl⟩ hd) fun r s' hq => ?_)
  cases r with
  | error er =>
    obtain ⟨_, _, _, _, _, _, _, _, _, _, _, _, hf⟩ := hq
    exact hf.elim
  | ok fl =>
    cases fl with
    | ret w' =>
      obtain ⟨z, H', I', rz, ez, μ', p'⟩ := I.after hq
      subst ez
      cases rz
      exact fin s' H' μ' I' p'
    | next => exact False.elim hq
    | brk => exact False.elim hq
    | cont => exact False.elim hq
theorem ops_eqI {tb : List (List Nat × Fn)} {rs : List String} {rcs : List (List Nat)} (hr : Room j X.A) (ok : ∀ t ∈ tb, EqOk X T j rs rcs t) : OpS X T (compareOp .Eq) (eqI false tb rs rcs) := by
  refine ⟨fun x y H Q => ∃ μ sto d e, RepH X.K X.mg T μ sto H ∧ Rp X.K H μ d x ∧ Rp X.K H μ e y ∧ DenV X T μ H Q (eqI false tb rs rcs d e sto), ?_, fun μ H sto d e v u Q rh r1 r2 q => ⟨μ, sto, d, e, rh, r1, r2, q⟩⟩
  intro pins s σ H x y v u Q I rx ry ⟨μ, sto, d, e, rh, r1, r2, q⟩
  unfold eqI at q
  split at q
  · rename_i c hc
    split at q
    · rename_i F hF
      split at q
      · rename_i hy
        split at q
        · rename_i b s' hv
          obtain ⟨C, f, fd, ps, kc, h1, h2, h3, G, hps, hb, h6, h7⟩ := (ok _ (fnOf_mem hF)).ex
          obtain ⟨n, fs, rfl, hx⟩ := clsOf_eq hc
          obtain ⟨a, C', dx, vs, rfl, g1, g0, g2, g3⟩ := rh.ins hx r1
          rw [h1] at g0; cases g0
          cases rx
          obtain ⟨mA, J, _⟩ := ins_get I.hok g2
          obtain ⟨od, J, _⟩ := J.look
          obtain ⟨m, hFr⟩ := I.fr
          obtain ⟨tb', l1, l2⟩ := okR_looks (M := model X.prog X.w) I rh r2 ry hy h6 h7
          refine PySem.W.cmp_K (op := .Eq) (tb := tb') hr.units0 hFr I.ok.mod.kin J l1 l2 h2 h3 ?_
          exact run_eqI G hps hb hr rfl I rh r1 r2 rfl ry hv fun s'' H' μ' I' p' => ⟨.bl b, H', I', rfl, q _ H' μ' p' rfl⟩
        · exact q.elim
      · exact q.elim
    · exact q.elim
  · exact q.elim
end
end TP
/-! != where an own == stands; isinstance of own classes. -/
namespace PySem.W
open PySem PySem.Calls PyProof.Rows Builtin
section
variable {prog : Program} {w : World} {A : Around} {E : Value → Shared → Prop} {s : Shared} {K : Frag} {x C L f : Addr} {h₀ : Heap} {m : Str → Option Value} {ox : Obj} {od : Option Obj} {name : Str} {b tb : Value}
theorem tp_ifBoundB {M : Model} {args : List Value} {id : String} {Q : Option Value → Shared → Prop} (X : K.In s.heap) (I : InstAt s.heap x ox C od) (hs : findIn K (.ref C) name = some (some (.builtin id))) (hb : ∀ self, bindSpecial (.builtin id) self = pure (.builtin id, [self]))
    (h : wpAny M A (call (.builtin id) (.ref x :: args)) (fun v => Q (some v)) E s) : wpAny M A (callSpecialIfBound? (.ref x) name args) Q E s := by
  simp only [callSpecialIfBound?, bindSpecialIfBound?]
  refine wpAny_holding (wpAny_bind (wpAny_bind (wpAny_bind (I.type.here ((looks_findIn X hs).here ?_)))))
  simp only [hb]
  refine wpAny_bind (wpAny_askSetting (wpAny_ite ?_))
  have fin : wpAny M A (call (.builtin id) ([.ref x] ++ args) >>= fun v => pure (some v)) Q E s := wpAny_bind (wpAny_mono h (fun v s' h' => wpAny_pure h') fun _ _ h' => h')
  split
  · exact wpAny_bind (wpAny_pure (wpAny_pure fin))
  · exact wpAny_tryCatch (wpAny_bind (wpAny_pure (wpAny_pure fin)))
theorem tp_objNe {Q : Fin → Shared → Prop} (hu : A.units < cLine) (X : K.In s.heap) (I : InstAt s.heap x ox C od) (hs : findIn K (.ref C) "__eq__" = some (some (.ref f))) (hf : isFn K (.ref f) = true)
    (hcall : wpAny (model prog w) A (call (.ref f) [.ref x, b]) (fun v s' => ∃ k, v = .bool k ∧ Q (.done (.ret (.bool (!k)))) s') E s) : wpAny (model prog w) A (Builtin.«object.__ne__» ⟨[.ref x, b], []⟩) Q E s := by
  unfold Builtin.«object.__ne__»
  refine wpAny_bind (wpAny_pure ?_)
  refine wpAny_bind (wpAny_cRoomFor hu ?_)
  refine wpAny_bind (ifBound_K X I hs hf (wpAny_mono hcall (fun v s' hv => ?_) fun _ _ e => e))
  obtain ⟨k, rfl, hq⟩ := hv
  exact wpAny_bind (wpAny_truthy_bool (wpAny_pure hq))
theorem tp_ne {Q : Value → Shared → Prop} (hu : A.units + 1 < cLine) (F0 : Fr h₀ L s.heap m) (X₀ : K.In h₀) (I : InstAt s.heap x ox C od) (hb : Looks (model prog w) s.heap (typeOf b) tb) (hn : notFirst K C tb = true)
    (hne : findIn K (.ref C) "__ne__" = some (some (.builtin "object.__ne__"))) (hob : mroIn K C (.type "object") = some true) (hs : findIn K (.ref C) "__eq__" = some (some (.ref f))) (hf : isFn K (.ref f) = true)
    (h : wpAny (model prog w) A.in1 (call (.ref f) [.ref x, b]) (fun v s' => ∃ k, v = .bool k ∧ Q (.bool (!k)) s') E s) : wpAny (model prog w) A (richCompare .NotEq (.ref x) b) Q E s := by
  have X := X₀.keeps F0.keep
  have one : wpAny (model prog w) A (tryCompare (.ref x) "__ne__" b) (fun r s' => ∃ v, r = some v ∧ Q v s') E s := by
    unfold tryCompare
    refine wpAny_bind (tp_ifBoundB X I hne PySem.F.cmp_object.ne.bind (wpAny_call (codeAny_call_builtin PySem.F.cmp_object.ne.plain PySem.F.cmpEntry_ne (check_slot PySem.F.cmpKind_ne PySem.F.cmpSplit_ne ?_ (PySem.F.cmpArgs_ne _ _) (tp_objNe (A := A.in1) hu X I hs hf (wpAny_mono h (fun v s' hv => ?_) fun _ _ e => e))))))
    · unfold isInstance
      exact I.type.andThen (looks_mroIn X hob)
    · obtain ⟨k, rfl, hq⟩ := hv
      first | exact ⟨k, rfl, wpAny_pure ⟨_, rfl, hq⟩⟩ | exact ⟨k, rfl, ⟨_, rfl, hq⟩⟩ | exact ⟨k, rfl, wpAny_pure (wpAny_pure ⟨_, rfl, hq⟩)⟩
  unfold richCompare
  simp only [oneThing_ref]
  refine wpAny_holding (wpAny_bind (wpAny_cRoomFor (Nat.lt_of_succ_lt hu) ?_))
  refine wpAny_bind (I.type.here (wpAny_bind (hb.here ?_)))
  split
  · rename_i q
    have e : subIn K tb (.ref C) = some false := by
      rcases Bool.or_eq_true_iff.mp hn with e | e
      · rw [beq_iff_eq.mp e] at q; simp at q
      · exact beq_iff_eq.mp e
    refine wpAny_bind ((looks_subIn X e).here ?_)
    simp only [Bool.false_eq_true, if_false]
    refine wpAny_bind (wpAny_mono one (fun r s' z => ?_) fun _ _ e => e)
    obtain ⟨v, rfl, hq⟩ := z
    exact wpAny_pure hq
  · refine wpAny_bind (wpAny_pure ?_)
    simp only [Bool.false_eq_true, if_false]
    refine wpAny_bind (wpAny_mono one (fun r s' z => ?_) fun _ _ e => e)
    obtain ⟨v, rfl, hq⟩ := z
    exact wpAny_pure hq
end
end PySem.W

namespace TP
open PySem PySem.Spec PyProof.Rows L2 LamX
section
variable {X : Cx} {T : List (Addr × Str)} {k j kc : Nat} {W : WX} {e o : Expr} {es : List Expr} {f g fo fe : Ev} {fs gs : EvA} {pos p pos' : Pos} {x : Str}
def NeOk (X : Cx) (c : List Nat) : Prop := ∃ C, X.mg (sn c) = some (.ref C) ∧ PySem.W.findIn X.K (.ref C) "__ne__" = some (some (.builtin "object.__ne__")) ∧ PySem.W.mroIn X.K C (.type "object") = some true
theorem ops_neI {tb : List (List Nat × Fn)} {rs : List String} {rcs : List (List Nat)} (hr : Room (j + 1) X.A) (ok : ∀ t ∈ tb, EqOk X T j rs rcs t) (ok2 : ∀ t ∈ tb, NeOk X t.1) : OpS X T (compareOp .NotEq) (eqI true tb rs rcs) := by
  refine ⟨fun x y H Q => ∃ μ sto d e, RepH X.K X.mg T μ sto H ∧ Rp X.K H μ d x ∧ Rp X.K H μ e y ∧ DenV X T μ H Q (eqI true tb rs rcs d e sto), ?_, fun μ H sto d e v u Q rh r1 r2 q => ⟨μ, sto, d, e, rh, r1, r2, q⟩⟩
  intro pins s σ H x y v u Q I rx ry ⟨μ, sto, d, e, rh, r1, r2, q⟩
  unfold eqI at q
  split at q
  · rename_i c hc
    split at q
    · rename_i F hF
      split at q
      · rename_i hy
        split at q
        · rename_i b s' hv
          obtain ⟨C, f, fd, ps, kc, h1, h2, h3, G, hps, hb, h6, h7⟩ := (ok _ (fnOf_mem hF)).ex
          obtain ⟨C2, n1, n2, n3⟩ := ok2 _ (fnOf_mem hF)
          rw [h1] at n1; cases n1
          obtain ⟨n, fs, rfl, hx⟩ := clsOf_eq hc
          obtain ⟨a, C', dx, vs, rfl, g1, g0, g2, g3⟩ := rh.ins hx r1
          rw [h1] at g0; cases g0
          cases rx
          obtain ⟨mA, J, _⟩ := ins_get I.hok g2
          obtain ⟨od, J, _⟩ := J.look
          obtain ⟨m, hFr⟩ := I.fr
          obtain ⟨tb', l1, l2⟩ := okR_looks (M := model X.prog X.w) I rh r2 ry hy h6 h7
          refine PySem.W.tp_ne (tb := tb') (by have := hr.un; omega) hFr I.ok.mod.kin J l1 l2 n2 n3 h2 h3 ?_
          exact run_eqI G hps hb hr.in1 rfl I rh r1 r2 rfl ry hv fun s'' H' μ' I' p' => ⟨b, rfl, .bl (!b), H', I', rfl, q _ H' μ' p' rfl⟩
        · exact q.elim
      · exact q.elim
    · exact q.elim
  · exact q.elim

/-! ### isinstance of an own class -/
def lookS (t : String) : List (String × Bool) → Option Bool
  | [] => none
  | (n, b) :: r => if t = n then some b else lookS t r
def lookC (t : List Nat) : List (List Nat × Bool) → Option Bool
  | [] => none
  | (n, b) :: r => if t = n then some b else lookC t r
theorem lookS_mem {t : String} {b : Bool} : ∀ {l : List (String × Bool)}, lookS t l = some b → (t, b) ∈ l
  | [], h => by cases h
  | (n, c) :: r, h => by
    simp only [lookS] at h
    by_cases e : t = n
    · rw [if_pos e] at h; cases h; subst e; simp
    · rw [if_neg e] at h; simp [lookS_mem h]
theorem lookC_mem {t : List Nat} {b : Bool} : ∀ {l : List (List Nat × Bool)}, lookC t l = some b → (t, b) ∈ l
  | [], h => by cases h
  | (n, c) :: r, h => by
    simp only [lookC] at h
    by_cases e : t = n
    · rw [if_pos e] at h; cases h; subst e; simp
    · rw [if_neg e] at h; simp [lookC_mem h]
def isD (bs : List (String × Bool)) (cs : List (List Nat × Bool)) (x : D) (s : Sto) : Option Bool := match tyName x s with
  | some t => lookS t bs
  | none => match clsOf x s with
    | some c => lookC c cs
    | none => none
/-- isinstance(e, C) -/
def eIsC (bs : List (String × Bool)) (cs : List (List Nat × Bool)) (f : Ev) : Ev := fun env s => bind (f env s) fun x s1 => match isD bs cs x s1 with
  | some b => ret (.bl b) s1
  | none => none
/-- what isinstance asks of a class of the text -/
structure InsF (K : PySem.W.Frag) (C : Addr) : Prop where
  cl : Cls K C
  ha : PySem.W.findIn K (.ref C) "__class__" = some (some (.builtin "object.__class__"))
  hn : PySem.W.specialIn K (.builtin "object.__class__") "__get__" = some (some (.builtin "getset_descriptor.__get__"))
  htk : PySem.W.takesIn K (.builtin "object.__class__") = some true
  hm : PySem.W.mroIn K C (.type "object") = some true
theorem qe_isC {bs : List (String × Bool)} {cs : List (List Nat × Bool)} {C : Addr} {y : Str} {p2 : Pos} (hg : Gl X "isinstance") (hm : X.mg "isinstance" = none) (hv : bootBuiltins "isinstance" = some (.builtin "isinstance")) (hg2 : Gl X y) (hm2 : X.mg y = some (.ref C))
    (h1 : ∀ t ∈ bs, PySem.W.kitOne X.K (.type t.1) (.ref C) = some t.2) (h2 : ∀ t ∈ cs, ∃ C', X.mg (sn t.1) = some (.ref C') ∧ InsF X.K C' ∧ PySem.W.kitOne X.K (.ref C') (.ref C) = some t.2) (ha : QE X T k W e f)
    (hdb : (y == ("__debug__" : Str)) = false := by decide) (he : starEach [e, .Name y p2] X.env = (false, eval e X.env) :: starEach [.Name y p2] X.env := by rfl) (hpl : (backTo pos (starEach [.Name y p2] X.env)).any (·.1) = false := by rfl) :
    QE X T k W (.Call (.Name "isinstance" p) [e, .Name y p2] [] pos) (eIsC bs cs f) :=
  PE.of (pe_callB call_isi hg hm hv (pa_cons ha (pa_cons (pe_glob (v := .ref C) hg2 hm2 rfl hdb) pa_nil) he) (he := he) (hpl := hpl)) fun σ H Q ⟨μ, env, sto, rh, re, q⟩ =>
    tE.go rh re (q.bind.imp fun d s1 q1 v H1 μ1 p1 re1 r1 => by
      split at q1
      · rename_i b hb
        unfold isD at hb
        split at hb
        · rename_i t ht
          exact ⟨v, .ref C, _, _, b, rfl, .own C, ty_of p1.rep r1 ht, h1 _ (lookS_mem hb), q1 _ H1 μ1 p1 rfl⟩
        · split at hb
          · rename_i c hc
            obtain ⟨n, fs, rfl, hx⟩ := clsOf_eq hc
            obtain ⟨a, C', dx, vs, rfl, g1, g0, g2, g3⟩ := p1.rep.ins hx r1
            obtain ⟨C2, e1, F, e2⟩ := h2 _ (lookC_mem hb)
            rw [e1] at g0; cases g0
            exact ⟨_, .ref C, _, _, b, rfl, .own C, .base (.ins g2 F.cl F.ha F.hn F.htk F.hm), e2, q1 _ H1 μ1 p1 rfl⟩
          · cases hb
      · exact q1.elim)
end
end TP
/-! a, b = x, y. -/
namespace TP
open PySem PySem.Spec PyProof.Rows L2 LamX
section
variable {X : Cx} {T : List (Addr × Str)} {k j kc : Nat} {W : WX} {a b c : Expr} {fs : EvA} {pos px py pz pt pt2 : Pos} {x y z : Str}
def sPar2 (i j : Nat) (fs : EvA) : EvS := fun env s => bind (fs env s) fun xs s1 => match xs with
  | [.d u, .d v] => ret (.nx ((env.set i (some (.d u))).set j (some (.d v)))) s1
  | _ => none
def sPar3 (i j l : Nat) (fs : EvA) : EvS := fun env s => bind (fs env s) fun xs s1 => match xs with
  | [.d u, .d v, .d w] => ret (.nx (((env.set i (some (.d u))).set j (some (.d v))).set l (some (.d w)))) s1
  | _ => none
theorem qs_par2 {i j : Nat} {kt k2} (hc : X.calm = true) (hN : X.N.Nodup) (hi : X.N[i]? = some x) (hj : X.N[j]? = some y) (hij : i ≠ j)
    (hx : X.env.scope.names.lookup x = some .local) (hy : X.env.scope.names.lookup y = some .local) (ha : QA X T k W [a, b] fs)
    (hw : swappedStores [.Tuple [.Name x px, .Name y py] kt pt] (.Tuple [a, b] k2 pt2) X.env = pure (some [x, y]) := by rfl)
    (hs : swapsWithSole [.Tuple [.Name x px, .Name y py] kt pt] (.Tuple [a, b] k2 pt2) pos.line X.env = pure false := by rfl) :
    QS X T k W (.Assign [.Tuple [.Name x px, .Name y py] kt pt] (.Tuple [a, b] k2 pt2) pos) (sPar2 i j fs) := PS.of (ps_par hc hN hi hj hij hx hy ha hw hs) fun D σ H ⟨μ, env, sto, rh, re, q⟩ =>
  tA.go rh re ((DenS.bind q).imp fun xs s1 q1 vs H1 μ1 p1 re1 r1 => by
    split at q1
    · rename_i u v
      obtain ⟨w1, ws, rfl, r1, w2, ws2, rfl, r2, rfl⟩ := r1
      exact ⟨w1, w2, rfl, q1 _ H1 μ1 p1 ((re1.set (x := .d u) r1).set (x := .d v) r2)⟩
    · exact q1.elim)
theorem qs_par3 {i j l : Nat} {kt k2} (hc : X.calm = true) (hN : X.N.Nodup) (hi : X.N[i]? = some x) (hj : X.N[j]? = some y) (hl : X.N[l]? = some z) (hij : i ≠ j) (hil : i ≠ l) (hjl : j ≠ l)
    (hx : X.env.scope.names.lookup x = some .local) (hy : X.env.scope.names.lookup y = some .local) (hz : X.env.scope.names.lookup z = some .local) (ha : QA X T k W [a, b, c] fs)
    (hw : swappedStores [.Tuple [.Name x px, .Name y py, .Name z pz] kt pt] (.Tuple [a, b, c] k2 pt2) X.env = pure (some [x, y, z]) := by rfl)
    (hs : swapsWithSole [.Tuple [.Name x px, .Name y py, .Name z pz] kt pt] (.Tuple [a, b, c] k2 pt2) pos.line X.env = pure false := by rfl) :
    QS X T k W (.Assign [.Tuple [.Name x px, .Name y py, .Name z pz] kt pt] (.Tuple [a, b, c] k2 pt2) pos) (sPar3 i j l fs) := PS.of (ps_par3 hc hN hi hj hl hij hil hjl hx hy hz ha hw hs) fun D σ H ⟨μ, env, sto, rh, re, q⟩ =>
  tA.go rh re ((DenS.bind q).imp fun xs s1 q1 vs H1 μ1 p1 re1 r1 => by
    split at q1
    · rename_i u v w
      obtain ⟨w1, ws, rfl, r1, w2, ws2, rfl, r2, w3, ws3, rfl, r3, rfl⟩ := r1
      exact ⟨w1, w2, w3, rfl, q1 _ H1 μ1 p1 (((re1.set (x := .d u) r1).set (x := .d v) r2).set (x := .d w) r3)⟩
    · exact q1.elim)
end
end TP
/-! What a def's text gives its callers. -/
namespace TP
open PySem PySem.Spec PyProof.Rows L2 LamX
section
variable {P : Program} {w : World} {K : PySem.W.Frag} {mg : Str → Option Value} {base : Heap} {T : List (Addr × Str)}
structure DefOk (P : Program) (w : World) (K : PySem.W.Frag) (mg : Str → Option Value) (base : Heap) (T : List (Addr × Str)) (k kc : Nat) (x : Str) (ps : List Str) (F : Fn) : Prop where
  ex : ∃ (fa : Addr) (fd : FuncData) (y qual : Str) (st : Stmt), FOk P w K mg base T k kc fa fd ps F ∧ mg x = some (.ref fa) ∧ PySem.W.keepIn K (.ref fa) = true ∧ Binds K fd ps [] ∧ L2.Fun K y qual st fa fd
  len : ∀ xs s, xs.length ≠ ps.length → F xs s = none
theorem takes_d {N : List Str} {qual : Str} {st : Stmt} {f : Addr} {cdv : Value} {A : Around} {outer : List PySem.Env} {s : Shared} {H : Hp} {E : XK} : Takes (dX P w K mg base N qual st f cdv A outer s H E) (WE E) := takes_of rfl rfl rfl rfl
theorem owns_d {N : List Str} {qual : Str} {st : Stmt} {f : Addr} {cdv : Value} {A : Around} {outer : List PySem.Env} {s : Shared} {H : Hp} {E : XK} :
    PassesOwn (model (dX P w K mg base N qual st f cdv A outer s H E).prog (dX P w K mg base N qual st f cdv A outer s H E).w) (dX P w K mg base N qual st f cdv A outer s H E).A (dX P w K mg base N qual st f cdv A outer s H E).env (dX P w K mg base N qual st f cdv A outer s H E).xe := passes_of rfl
theorem takes_l {N : List Str} {qual : Str} {scope : Scope} {cl : List (Str × Addr)} {f c' : Addr} {A : Around} {outer : List PySem.Env} {s : Shared} {H : Hp} {E : XK} : Takes (lamC P w K mg base N qual scope cl f c' A outer s H E) (WE E) := takes_of rfl rfl rfl rfl
theorem takes_n {X : Cx} : Takes X W0 := fun _ _ ⟨_, _, _, _, _, _, _, _, _, _, _, _, _, _, _, _, w⟩ => w.elim
/-- FOk with what is known of the code object -/
theorem fok_ofC {R : Value → Prop} {k kc : Nat} {x qual : Str} {st : Stmt} {f : Addr} {fd : FuncData} {N ps : List Str} {fb : EvS} (F : L2.Fun K x qual st f fd) (hR : R fd.code) (S : FnScope N ps (defScope st))
    (body : ∀ (cdv : Value), R cdv → ∀ (A : Around) (outer : List PySem.Env) (s : Shared) (H : Hp) (E : XK), Room k (dX P w K mg base N qual st f cdv A outer s H E).A → QSs (dX P w K mg base N qual st f cdv A outer s H E) T kc (WE E) (defBody st) fb) :
    FOk P w K mg base T (k + 1) kc f fd ps (callF N.length ps.length fb) := by
  intro A outer s H args us vs xs μ sto Q E hr e0 hb r hl rh ra q
  obtain ⟨oc, od, kV, doc, pm, an, cdv, ct, osl, rfl, lk, hcd⟩ := F.ex
  refine run_ofS lk hcd S hr e0 hb r hl fun hr' => ⟨_, qss_trim (body cdv hR A outer s H E hr'), ?_⟩
  have hx : xs.length = ps.length := by rw [← hl]; exact ra.length.symm
  refine tS.go rh (start_rep (X := dX P w K mg base N qual st f cdv A outer s H E) hx ra) ?_
  unfold callF at q
  rw [if_pos hx] at q
  show DenS _ T kc (WE E) μ H _ (trimS sto (fb _ sto))
  generalize trimS sto (fb (xs.map some ++ List.replicate (N.length - ps.length) none) sto) = m at q ⊢
  match m, q with
  | some (.error y, s1), q => exact fun cls dx H' σ' p => q cls dx H' p
  | some (.ok (.rt d), s1), q => exact q
  | some (.ok (.nx e), s1), q => exact fun σ' H' μ' p _ => q .non H' μ' p rfl
  | some (.ok (.bk e), s1), q => exact q.elim
  | some (.ok (.ct e), s1), q => exact q.elim
theorem defOk_of {R : Value → Prop} {k kc : Nat} {x y qual : Str} {st : Stmt} {fa : Addr} {N ps : List Str} {fb : EvS} (g : mg x = some (.ref fa)) (u : ∃ fd, L2.Fun K y qual st fa fd ∧ R fd.code) (S : FnScope N ps (defScope st))
    (hb : ∀ (kV doc pm : Value) (an : Option Addr) (cdv ct : Value) (us : List Value), us.length = ps.length → bindArgs (PySem.W.fnOf y qual (defArgs st) (defBody st) (defScope st) .none kV doc pm an cdv ct) ⟨us, []⟩ = pure (ps.zip us))
    (body : ∀ (cdv : Value), R cdv → ∀ (A : Around) (outer : List PySem.Env) (s : Shared) (H : Hp) (E : XK), Room k (dX P w K mg base N qual st fa cdv A outer s H E).A → QSs (dX P w K mg base N qual st fa cdv A outer s H E) T kc (WE E) (defBody st) fb) :
    DefOk P w K mg base T (k + 1) kc x ps (callF N.length ps.length fb) := by
  obtain ⟨fd, F, hR⟩ := u
  exact ⟨⟨fa, fd, y, qual, st, fok_ofC F hR S body, g, F.kp, F.binds hb, F⟩, fun xs s h => callF_len h⟩
end
section
variable {X : Cx} {T : List (Addr × Str)} {k j kc : Nat} {W : WX} {e : Expr} {es : List Expr} {f : Ev} {fs gs : EvA} {pos p : Pos} {x : Str} {ps : List Str} {F : Fn} {kws : List Keyword}
/-- a call of a def of the module -/
theorem qe_cal (d : DefOk X.prog X.w X.K X.mg X.base T j kc x ps F) (hr : Room j X.A) (tk : Takes X W) (ha : QAR X T k kc W (e :: es) fs) (hg : Gl X x := by rfl) (hdb : (x == ("__debug__" : Str)) = false := by decide)
    (he : starEach (e :: es) X.env = (false, eval e X.env) :: starEach es X.env := by rfl) (hpl : (backTo pos (starEach es X.env)).any (·.1) = false := by rfl) : QE X T k W (.Call (.Name x p) (e :: es) [] pos) (eCall F fs) := by
  obtain ⟨fa, fd, y, qual, st, G, hm, hk, hb, Fu⟩ := d.ex
  exact qe_call G hr hg hm hk hb tk d.len ha hdb he hpl
theorem qe_cal0 (d : DefOk X.prog X.w X.K X.mg X.base T j kc x [] F) (hr : Room j X.A) (tk : Takes X W) (hg : Gl X x := by rfl) (hdb : (x == ("__debug__" : Str)) = false := by decide) : QE X T k W (.Call (.Name x p) [] [] pos) (eCall F aNil) := by
  obtain ⟨fa, fd, y, qual, st, G, hm, hk, hb, Fu⟩ := d.ex
  exact qe_call0 G hr hg hm hk hb tk hdb
/-- a def of the module as an argument -/
theorem qar_def {kc' : Nat} (d : DefOk X.prog X.w X.K X.mg X.base T j kc' x ps F) (hj : j ≤ kc) (hr : QAR X T k kc W es fs) (hg : Gl X x := by rfl) (hs : starEach (.Name x p :: es) X.env = (false, eval (.Name x p) X.env) :: starEach es X.env := by rfl)
    (hdb : (x == ("__debug__" : Str)) = false := by decide) : QAR X T k kc W (.Name x p :: es) (aGlb F fs) := by
  obtain ⟨fa, fd, y, qual, st, G, hm, hk, hb, Fu⟩ := d.ex
  exact qar_glb G Fu hb hj d.len hg hm hr hs hdb
end
end TP
/-! The head's facts, the end. -/
namespace TP
open PySem PySem.Spec PyProof.Rows L2 LamX
abbrev Frg := PySem.W.Frag
/-- a def: where its object stands, its names, its statement -/
structure PD where
  at_ : Frg → Addr
  name : Str
  qual : Str
  st : Stmt
def pdW (K : Frg) (d : PD) : He.FnW := match K.lookup (d.at_ K) with
  | some ⟨_, _, .func fd, _⟩ => some (fd.name, fd.qualname, fd.params, fd.body, fd.scope, fd.globals, fd.closure, fd.builtins)
  | _ => none
def PD.val (d : PD) : He.FnW := some (d.name, d.qual, defArgs d.st, .stmts (defBody d.st), defScope d.st, mainGlobals, [], builtinsNs)
def noDef : Value → Bool
  | .none => true
  | _ => false
def pdB (K : Frg) (d : PD) : Bool := PySem.W.keepIn K (.ref (d.at_ K)) && (match K.lookup (d.at_ K) with
  | some ⟨_, _, .func fd, _⟩ => PySem.W.codeIn K fd.code d.qual && noDef fd.defaults
  | _ => false)
def cdOf (K : Frg) (a : Addr) : Addr := match K.lookup a with
  | some ⟨_, _, .func fd, _⟩ => (match fd.code with
    | .ref c => c
    | _ => 0)
  | _ => 0
/-- the code object, its table -/
def cTa (K : Frg) (a : Addr) : Addr × Addr := (cdOf K a, He.tabOf K (cdOf K a))
theorem pd_fun {K : Frg} {d : PD} (e : pdW K d = d.val) (c : pdB K d = true) : ∃ fd, L2.Fun K d.name d.qual d.st (d.at_ K) fd ∧ fd.code = .ref (cTa K (d.at_ K)).1 := by
  obtain ⟨kp, c2⟩ := He.ba c
  unfold pdW at e
  cases q : K.lookup (d.at_ K) with
  | none => rw [q] at c2; cases c2
  | some o =>
    obtain ⟨oc, od, dt, osl⟩ := o
    rw [q] at c2 e
    cases dt with
    | func fd =>
      obtain ⟨n1, n2, n3, n4, n5, n6, n7, n8, n9, n10, n11, n12, n13, n14, n15⟩ := fd
      have e2 : (some (n1, n2, n3, n4, n5, n6, n7, n15) : He.FnW) = some (d.name, d.qual, defArgs d.st, .stmts (defBody d.st), defScope d.st, mainGlobals, [], builtinsNs) := e
      simp only [Option.some.injEq, Prod.mk.injEq] at e2
      obtain ⟨h1, h2, h3, h4, h5, h6, h7, h8⟩ := e2
      subst h1 h2 h3 h4 h5 h6 h7 h8
      have c3 : (PySem.W.codeIn K n13 d.qual && noDef n8) = true := c2
      obtain ⟨k1, k2⟩ := He.ba c3
      have e8 : n8 = .none := by
        cases n8 with
        | none => rfl
        | _ => cases k2
      subst e8
      obtain ⟨c, rfl⟩ := He.codeIn_ref k1
      refine ⟨_, ⟨⟨oc, od, n9, n10, n11, n12, _, n14, osl, rfl, q, k1⟩, kp⟩, ?_⟩
      show Value.ref c = .ref (cdOf K (d.at_ K))
      unfold cdOf
      rw [q]
    | _ => cases c2
def noList (K : Frg) : Bool := K.all fun q => decide (q.2.cls ≠ .type "list")
theorem lookup_mem' {a : Addr} {o : Obj} : ∀ {l : List (Addr × Obj)}, l.lookup a = some o → (a, o) ∈ l := He.lookup_mem
def tabsP (g : Addr → Option Obj) (tf : List ((Frg → Addr) × Str)) (K : Frg) : Bool := tf.all fun p => PySem.W.codeHdIn K (cTa K (p.1 K)).1 (cTa K (p.1 K)).2 && (match g (cTa K (p.1 K)).2 with
  | some o => He.emptyTab o
  | none => false)
structure SaysP (ds : List PD) (tf : List ((Frg → Addr) × Str)) (ex : Frg → Bool) (h : Heap) (K : Frg) : Prop where
  fns : ds.map (pdW K) = ds.map PD.val
  ok : ds.all (pdB K) = true
  more : ex K = true
  nolist : noList K = true
  nd : (tf.map fun p => (cTa K (p.1 K)).2).Nodup
  hd : ∀ p ∈ tf, PySem.W.codeHdIn K (cTa K (p.1 K)).1 (cTa K (p.1 K)).2 = true
  out : ∀ p ∈ tf, K.lookup (cTa K (p.1 K)).2 = none
  empty : ∀ p ∈ tf, h.get? (cTa K (p.1 K)).2 = some { cls := .none, data := .fields #[] }
abbrev AlP : Type := List He.FnW × Bool
def obsP (n : Nat) (ds : List PD) (tf : List ((Frg → Addr) × Str)) (ex : Frg → Bool) (g : Addr → Option Obj) : AlP :=
  (ds.map (pdW (He.frT g (He.asD g n))), ds.all (pdB (He.frT g (He.asD g n))) && (ex (He.frT g (He.asD g n)) && (noList (He.frT g (He.asD g n)) && (decide (tf.map fun p => (cTa (He.frT g (He.asD g n)) (p.1 (He.frT g (He.asD g n)))).2).Nodup && tabsP g tf (He.frT g (He.asD g n))))))
theorem saysP_of {n : Nat} {ds : List PD} {tf : List ((Frg → Addr) × Str)} {ex : Frg → Bool} {h : Heap} (e : obsP n ds tf ex h.get? = (ds.map PD.val, true)) : SaysP ds tf ex h (He.frT h.get? (He.asD h.get? n)) := by
  have e1 : ds.map (pdW (He.frT h.get? (He.asD h.get? n))) = ds.map PD.val := congrArg (fun z : AlP => z.1) e
  have e2 := congrArg (fun z : AlP => z.2) e
  obtain ⟨h1, e2⟩ := He.ba e2
  obtain ⟨h2, e2⟩ := He.ba e2
  obtain ⟨h3, e2⟩ := He.ba e2
  obtain ⟨h4, h5⟩ := He.ba e2
  have key : ∀ p ∈ tf, PySem.W.codeHdIn (He.frT h.get? (He.asD h.get? n)) (cTa (He.frT h.get? (He.asD h.get? n)) (p.1 (He.frT h.get? (He.asD h.get? n)))).1 (cTa (He.frT h.get? (He.asD h.get? n)) (p.1 (He.frT h.get? (He.asD h.get? n)))).2 = true ∧ ∃ o, h.get? (cTa (He.frT h.get? (He.asD h.get? n)) (p.1 (He.frT h.get? (He.asD h.get? n)))).2 = some o ∧ He.emptyTab o = true := fun p hp => by
    obtain ⟨h3, h4⟩ := He.ba (List.all_eq_true.mp h5 p hp)
    refine ⟨h3, ?_⟩
    cases q : h.get? (cTa (He.frT h.get? (He.asD h.get? n)) (p.1 (He.frT h.get? (He.asD h.get? n)))).2 with
    | none => rw [q] at h4; cases h4
    | some o => rw [q] at h4; exact ⟨o, rfl, h4⟩
  exact ⟨e1, h1, h2, h3, of_decide_eq_true h4, fun p hp => (key p hp).1, fun p hp => by
    obtain ⟨_, o, q, z⟩ := key p hp
    exact He.frT_none q z, fun p hp => by
    obtain ⟨_, o, q, z⟩ := key p hp
    rw [q, He.emptyTab_eq z]⟩
def hookP (n : Nat) (ds : List PD) (tf : List ((Frg → Addr) × Str)) (ex : Frg → Bool) : PySem.W.Hook where
  α := AlP
  obs := fun s => obsP n ds tf ex s.heap.get?
  val := fun _ => (ds.map PD.val, true)
  says := fun _ h => ∃ K : Frg, K.In h ∧ SaysP ds tf ex h K
  of := fun _ _ e => ⟨_, He.frT_in, saysP_of e⟩
  keeps := fun _ _ _ ⟨K, hK, c⟩ k => ⟨K, PySem.W.Frag.In.keeps hK k, ⟨c.fns, c.ok, c.more, c.nolist, c.nd, c.hd, c.out, fun p hp => k _ _ (c.empty p hp)⟩⟩
theorem obsP_eq {n : Nat} {ds : List PD} {tf : List ((Frg → Addr) × Str)} {ex : Frg → Bool} {g : Addr → Option Obj} {s : Shared} (h : ∀ a, g a = s.heap.get? a) : obsP n ds tf ex g = (hookP n ds tf ex).obs s := by
  have e : g = s.heap.get? := funext h
  rw [e] <;> rfl
theorem SaysP.def_ {ds : List PD} {tf : List ((Frg → Addr) × Str)} {ex : Frg → Bool} {h : Heap} {K : Frg} (c : SaysP ds tf ex h K) (i : Nat) {d : PD} (hd : ds[i]? = some d := by rfl) : ∃ fd, L2.Fun K d.name d.qual d.st (d.at_ K) fd ∧ fd.code = .ref (cTa K (d.at_ K)).1 := by
  refine pd_fun ?_ (List.all_eq_true.mp c.ok d (List.mem_of_getElem? hd))
  have e2 : (ds.map (pdW K))[i]? = (ds.map PD.val)[i]? := by rw [c.fns]
  rw [List.getElem?_map, List.getElem?_map, hd] at e2
  exact Option.some.inj e2

/-- the tables, with the names of the lambdas behind them -/
def tabL (tf : List ((Frg → Addr) × Str)) (K : Frg) : List (Addr × Str) := tf.map fun p => ((cTa K (p.1 K)).2, p.2)
/-- what a def's body may ask of its code object -/
def CodeR (base : Heap) (mg : Str → Option Value) (T : List (Addr × Str)) (q : Str) (cdv : Value) : Prop := ∃ c Pt, cdv = .ref c ∧ TabB base mg c Pt ∧ (Pt, q) ∈ T ∧ ∀ p ∈ T, p.1 = Pt → p.2 = q
theorem codeR_of {tf : List ((Frg → Addr) × Str)} {ds : List PD} {ex : Frg → Bool} {h base : Heap} {mg : Str → Option Value} {K : Frg} (c : SaysP ds tf ex h K) (tb : ∀ p ∈ tf, TabB base mg (cTa K (p.1 K)).1 (cTa K (p.1 K)).2) (i : Nat) {p : (Frg → Addr) × Str} (hp : tf[i]? = some p) : CodeR base mg (tabL tf K) p.2 (.ref (cTa K (p.1 K)).1) := by
  have hm : p ∈ tf := List.mem_of_getElem? hp
  refine ⟨_, _, rfl, tb p hm, List.mem_map.mpr ⟨p, hm, rfl⟩, fun q hq e => ?_⟩
  obtain ⟨p', hp', rfl⟩ := List.mem_map.mp hq
  obtain ⟨j, hj⟩ := List.getElem?_of_mem hp'
  have e1 : (tf.map fun p => (cTa K (p.1 K)).2)[i]? = some (cTa K (p.1 K)).2 := by rw [List.getElem?_map, hp]; rfl
  have e2 : (tf.map fun p => (cTa K (p.1 K)).2)[j]? = some (cTa K (p.1 K)).2 := by
    rw [List.getElem?_map, hj]
    exact congrArg some e
  obtain ⟨l1, g1⟩ := List.getElem?_eq_some_iff.mp e1
  obtain ⟨l2, g2⟩ := List.getElem?_eq_some_iff.mp e2
  have hij : i = j := (List.getElem_inj c.nd).mp (g1.trans g2.symm)
  subst hij
  rw [hp] at hj; cases hj
  rfl
def spF (K : Frg) (mg : Str → Option Value) (T : List (Addr × Str)) (n : Nat) (F : Fn) : Sp := fun vs H Q E => ∃ μ sto xs, RepH K mg T μ sto H ∧ Rps K H μ xs vs ∧ xs.length = n ∧ Den K mg T E μ H Q (F (xs.map .d) sto)
theorem fnOk_of {P : Program} {w : World} {K : Frg} {mg : Str → Option Value} {base : Heap} {T : List (Addr × Str)} {k kc : Nat} {f : Addr} {fd : FuncData} {ps : List Str} {F : Fn} (G : FOk P w K mg base T k kc f fd ps F) : FnOk P w K mg base (L2.CX P w) k f fd ps (spF K mg T ps.length F) :=
  ⟨fun vs H Q E ⟨μ, sto, xs, rh, r, hl, q⟩ => by rw [r.length, hl], fun A outer s H args us vs Q E hr e0 hb rv ⟨μ, sto, xs, rh, r, hl, q⟩ => G A outer s H args us vs (xs.map .d) μ sto Q E hr e0 hb rv (by rw [r.length, hl]) rh (RpAts.plains r) q⟩
/-- the script in the store -/
def scriptC (c : Cell) (ns : List Int) : Prop := c = .lst (ns.map D.int) ∨ c = .frz (ns.map D.int)
theorem rps_ints {K : Frg} {H : Hp} {μ : List Addr} : ∀ ns : List Int, Rps K H μ (ns.map D.int) (ns.map V.int)
  | [] => rfl
  | n :: ns => ⟨_, _, rfl, rfl, rps_ints ns⟩
theorem fun_uniq {K : Frg} {x q x' q' : Str} {st st' : Stmt} {fa : Addr} {fd fd' : FuncData} (F : L2.Fun K x q st fa fd) (F' : L2.Fun K x' q' st' fa fd') : fd = fd' := by
  obtain ⟨_, _, _, _, _, _, _, _, _, _, lk, _⟩ := F.ex
  obtain ⟨_, _, _, _, _, _, _, _, _, _, lk', _⟩ := F'.ex
  rw [lk] at lk'
  injection lk' with e
  injection e with _ _ e _
  injection e
theorem walk_P {l : PySem.W.OpenLaw} {n k kc : Nat} {q : Program} {loose : List Str} {XP : (Str → Option Value) → Heap → Prop} {ds : List PD} {tf : List ((Frg → Addr) × Str)} {ex : Frg → Bool} {d : DefRec} {x : Str} {F : Fn} {dl : PD} {il : Nat}
    (hn : l.most = some n) (hn2 : n ≤ sizeLine) (hdf : d.params.defaults = []) (hr : Room k callerA) (hil : ds[il]? = some dl)
    (hlaw : ∀ (K : Frg) (mg : Str → Option Value) (h : Heap), K.In h → h.Ns mainGlobals mg → ex K = true → mg d.name = some (.ref (dl.at_ K)))
    (hb : ∀ (kV doc pm : Value) (an : Option Addr) (cdv ct : Value) (us : List Value), us.length = 1 → bindArgs (PySem.W.fnOf dl.name dl.qual (defArgs dl.st) (defBody dl.st) (defScope dl.st) .none kV doc pm an cdv ct) ⟨us, []⟩ = pure ([x].zip us))
    (G : ∀ (w : World) (mg : Str → Option Value) (base : Heap) (K : Frg) (h h' : Heap), K.In h' → h'.Ns mainGlobals mg → SaysP ds tf ex h K → K.In base → base.Ns mainGlobals mg → (∀ p ∈ tf, TabB base mg (cTa K (p.1 K)).1 (cTa K (p.1 K)).2) → DefOk l.prog w K mg base (tabL tf K) k kc d.name [x] F)
    (math : ∀ (ns : List Int) (c : Cell), ns.length ≤ n → (∀ z ∈ ns, Builtin.Int.intBits z ≤ 1048576) → scriptC c ns → ∃ s', F [.d (.ref 0)] [c] = some (.ok (.bl true), s')) :
    PySem.W.WalkO q loose XP (fun (_ : World) h => ∃ K : Frg, K.In h ∧ SaysP ds tf ex h K) l.row.toRowW d [] (fun f vs => PySem.call f vs) := by
  refine walk_ofTsE (CX := fun w => L2.CX l.prog w) (x := x) (n := n) (k := k) hn hn2 hdf hr (fun w mg fa h ⟨K, KX, c⟩ hG hmg => ⟨K, KX, ?_⟩) fun w H s e s' hq => ?_
  · obtain ⟨fd, Fl, _⟩ := c.def_ il hil
    have hfa : fa = dl.at_ K := by
      have e := (hlaw K mg h KX hG c.more).symm.trans hmg
      cases e; rfl
    subst hfa
    have inj : ∀ {P : Addr × Addr → Prop}, (∀ p ∈ tf, P (cTa K (p.1 K))) → ∀ p ∈ tf.map (fun p => cTa K (p.1 K)), P p := fun h p hp => by
      obtain ⟨p', hp', rfl⟩ := List.mem_map.mp hp
      exact h p' hp'
    refine ⟨fd, tf.map (fun p => cTa K (p.1 K)), spF K mg (tabL tf K) 1 F, inj (P := fun p => h.get? p.2 = some { cls := .none, data := .fields #[] }) c.empty, inj (P := fun p => K.lookup p.2 = none) c.out, inj (P := fun p => PySem.W.CodeHd h p.1 p.2) (fun p hp => PySem.W.codeHd_of_K KX (c.hd p hp)), fun s u => ?_, fun H a ns hl hbits hH hS => ?_, fun base KB hB tb => ?_⟩
    · obtain ⟨oc, od, kV, doc, pm, an, cdv, ct, osl, rfl, lk, hcd⟩ := Fl.ex
      exact .of_eq (hb kV doc pm an cdv ct [u] rfl)
    · have tabs : Tabs (tabL tf K) H := fun p hp => by
        obtain ⟨p', hp', rfl⟩ := List.mem_map.mp hp
        exact TabS.nil (hH _ (List.mem_map.mpr ⟨p', hp', rfl⟩))
      have fin : ∀ c0 : Cell, scriptC c0 ns → RepC K mg H [a] a c0 → spF K mg (tabL tf K) 1 F [.ref a] H (fun v _ => v = .bl true) fun _ _ _ => False := by
        intro c0 hc0 rc
        refine ⟨[a], [c0], [.ref 0], ⟨rfl, by simp, fun n c' b h1 h2 => ?_, tabs⟩, ⟨_, _, rfl, ⟨a, rfl, rfl⟩, rfl⟩, rfl, ?_⟩
        · cases n with
          | zero => simp at h1 h2; subst h1; subst h2; exact rc
          | succ n => simp at h1
        · obtain ⟨s', hs⟩ := math ns c0 hl hbits hc0
          show Den K mg (tabL tf K) _ [a] H _ (F [.d (.ref 0)] [c0])
          rw [hs]
          exact fun v H' μ' p r => r
      rcases hS with (hS | ⟨o, hS⟩) | ⟨o, its, m, hS, hcl, _⟩
      · exact fin _ (.inl rfl) ⟨_, hS, rps_ints ns⟩
      · exact fin _ (.inr rfl) ⟨o, _, hS, rps_ints ns⟩
      · have := of_decide_eq_true (List.all_eq_true.mp c.nolist (a, o) (He.lookup_mem hS))
        exact absurd hcl this
    · have dk := G w mg base K h h KX hG c KB hB (fun p hp => tb _ (List.mem_map.mpr ⟨p, hp, rfl⟩))
      obtain ⟨fa', fd', y, qual, st, G', hm', hk', hb', Fu⟩ := dk.ex
      have e := (hlaw K mg h KX hG c.more).symm.trans hm'
      cases e
      cases fun_uniq Fl Fu
      exact fnOk_of G'
  · obtain ⟨_, _, _, _, _, _, _, _, _, _, _, _, hf⟩ := hq
    exact hf.elim
end TP
/-! Rules ready for use. -/
namespace TP
open PySem PySem.Spec PyProof.Rows L2 LamX
theorem bt_len : bootBuiltins "len" = some (.builtin "len") := by decide +kernel
theorem bt_isinstance : bootBuiltins "isinstance" = some (.builtin "isinstance") := by decide +kernel
theorem bt_abs : bootBuiltins "abs" = some (.builtin "abs") := by decide +kernel
theorem bt_max : bootBuiltins "max" = some (.builtin "max") := by decide +kernel
theorem bt_min : bootBuiltins "min" = some (.builtin "min") := by decide +kernel
theorem bt_divmod : bootBuiltins "divmod" = some (.builtin "divmod") := by decide +kernel
theorem bt_all : bootBuiltins "all" = some (.builtin "all") := by decide +kernel
theorem bt_any : bootBuiltins "any" = some (.builtin "any") := by decide +kernel
theorem bt_sorted : bootBuiltins "sorted" = some (.builtin "sorted") := by decide +kernel
theorem bt_int : bootBuiltins "int" = some (.type "int") := by decide +kernel
theorem bt_bool : bootBuiltins "bool" = some (.type "bool") := by decide +kernel
theorem bt_str : bootBuiltins "str" = some (.type "str") := by decide +kernel
theorem bt_list : bootBuiltins "list" = some (.type "list") := by decide +kernel
theorem bt_tuple : bootBuiltins "tuple" = some (.type "tuple") := by decide +kernel
abbrev leI : D → D → Sto → RV := onIB fun i j => decide (i ≤ j)
abbrev gtI : D → D → Sto → RV := onIB fun i j => decide (j < i)
abbrev geI : D → D → Sto → RV := onIB fun i j => decide (j ≤ i)
abbrev orOp (p q : D → D → Sto → RV) : D → D → Sto → RV := fun x y s => match p x y s with
  | some r => some r
  | none => q x y s
def negD : D → Sto → RV := fun x s => match x with
  | .int i => some (.int (-i), s)
  | _ => none
def eNeg (f : Ev) : Ev := fun env s => bind (f env s) fun x s1 => lift (negD x s1)
section
variable {X : Cx} {T : List (Addr × Str)} {k j kc : Nat} {W : WX} {e o a b : Expr} {es : List Expr} {f g fo : Ev} {fs gs : EvA} {pos p apos : Pos} {x : Str} {ps : List Str} {F : Fn} {kws : List Keyword}
theorem qe_neg (ha : QE X T k W a f) : QE X T k W (.UnaryOp .USub a pos) (eNeg f) := PE.of (pe_un un_neg ha) fun σ H Q ⟨μ, env, sto, rh, re, q⟩ =>
  tE.go rh re (q.bind.imp fun d s1 q1 v H1 μ1 p1 re1 r1 => by
    unfold negD at q1
    split at q1
    · exact ⟨_, r1, q1 _ H1 μ1 p1 rfl⟩
    · exact q1.elim)
theorem qe_gi {i : Int} (h : ∃ t, X.mg x = some (.int i t)) (hg : Gl X x := by rfl) (hd : (x == ("__debug__" : Str)) = false := by decide) : QE X T k W (.Name x pos) (eC (.int i)) := by
  obtain ⟨t, hm⟩ := h
  exact qe_glob (v := .int i) hg hm ⟨t, rfl⟩ (fun _ _ => rfl) hd
theorem qe_gs {l : List Nat} (h : ∃ t, X.mg x = some (.str (sn l) t)) (hg : Gl X x := by rfl) (hd : (x == ("__debug__" : Str)) = false := by decide) : QE X T k W (.Name x pos) (eC (.str l)) := by
  obtain ⟨t, hm⟩ := h
  exact qe_glob (v := .str (sn l)) hg hm ⟨t, rfl⟩ (fun _ _ => rfl) hd
/-- a constant of the module that is a row -/
def TupG (K : PySem.W.Frag) (mg : Str → Option Value) (x : Str) (d : D) : Prop := ∃ a, mg x = some (.ref a) ∧ ∀ H μ, Rp K H μ d (.ref a)
theorem qe_gt {d : D} (h : TupG X.K X.mg x d) (hg : Gl X x := by rfl) (hd : (x == ("__debug__" : Str)) = false := by decide) : QE X T k W (.Name x pos) (eC d) := by
  obtain ⟨a, hm, r⟩ := h
  exact qe_glob (v := .ref a) hg hm rfl r hd
section
variable (hm : X.mg x = none)
theorem qe_len (hm : X.mg "len" = none) (ha : QE X T k W e f) (hg : Gl X "len" := by rfl) (he : starEach [e] X.env = (false, eval e X.env) :: starEach [] X.env := by rfl) (hpl : (backTo pos (starEach [] X.env)).any (·.1) = false := by rfl) : QE X T k W (.Call (.Name "len" p) [e] [] pos) (eFn lenD (aCons f aNil)) :=
  qe_callB calls_len hg hm bt_len (qa_cons ha qa_nil he) (he := he) (hpl := hpl)
theorem qe_abs (hm : X.mg "abs" = none) (ha : QE X T k W e f) (hg : Gl X "abs" := by rfl) (he : starEach [e] X.env = (false, eval e X.env) :: starEach [] X.env := by rfl) (hpl : (backTo pos (starEach [] X.env)).any (·.1) = false := by rfl) : QE X T k W (.Call (.Name "abs" p) [e] [] pos) (eFn absD (aCons f aNil)) :=
  qe_callB calls_abs hg hm bt_abs (qa_cons ha qa_nil he) (he := he) (hpl := hpl)
theorem qe_all (hc : X.calm = true) (hm : X.mg "all" = none) (ha : QE X T k W e f) (hg : Gl X "all" := by rfl) (he : starEach [e] X.env = (false, eval e X.env) :: starEach [] X.env := by rfl) (hpl : (backTo pos (starEach [] X.env)).any (·.1) = false := by rfl) : QE X T k W (.Call (.Name "all" p) [e] [] pos) (eFn (allD false) (aCons f aNil)) :=
  qe_callB (calls_all hc) hg hm bt_all (qa_cons ha qa_nil he) (he := he) (hpl := hpl)
theorem qe_any (hc : X.calm = true) (hm : X.mg "any" = none) (ha : QE X T k W e f) (hg : Gl X "any" := by rfl) (he : starEach [e] X.env = (false, eval e X.env) :: starEach [] X.env := by rfl) (hpl : (backTo pos (starEach [] X.env)).any (·.1) = false := by rfl) : QE X T k W (.Call (.Name "any" p) [e] [] pos) (eFn (allD true) (aCons f aNil)) :=
  qe_callB (calls_any hc) hg hm bt_any (qa_cons ha qa_nil he) (he := he) (hpl := hpl)
theorem qe_sorted (hu : X.A.units + 64 < cLine) (hm : X.mg "sorted" = none) (ha : QE X T k W e f) (hg : Gl X "sorted" := by rfl) (he : starEach [e] X.env = (false, eval e X.env) :: starEach [] X.env := by rfl) (hpl : (backTo pos (starEach [] X.env)).any (·.1) = false := by rfl) : QE X T k W (.Call (.Name "sorted" p) [e] [] pos) (eFn sortedD (aCons f aNil)) :=
  qe_callB (calls_sorted hu) hg hm bt_sorted (qa_cons ha qa_nil he) (he := he) (hpl := hpl)
theorem qe_intc (hm : X.mg "int" = none) (ha : QE X T k W e f) (hg : Gl X "int" := by rfl) (he : starEach [e] X.env = (false, eval e X.env) :: starEach [] X.env := by rfl) (hpl : (backTo pos (starEach [] X.env)).any (·.1) = false := by rfl) : QE X T k W (.Call (.Name "int" p) [e] [] pos) (eFn intOf (aCons f aNil)) :=
  qe_callTy calls_int hg hm bt_int (qa_cons ha qa_nil he) (he := he) (hpl := hpl)
theorem qe_listc (hc : X.calm = true) (hm : X.mg "list" = none) (ha : QE X T k W e f) (hg : Gl X "list" := by rfl) (he : starEach [e] X.env = (false, eval e X.env) :: starEach [] X.env := by rfl) (hpl : (backTo pos (starEach [] X.env)).any (·.1) = false := by rfl) : QE X T k W (.Call (.Name "list" p) [e] [] pos) (eFn listOf (aCons f aNil)) :=
  qe_callTy (calls_list hc) hg hm bt_list (qa_cons ha qa_nil he) (he := he) (hpl := hpl)
theorem qe_tuplec (hc : X.calm = true) (hm : X.mg "tuple" = none) (ha : QE X T k W e f) (hg : Gl X "tuple" := by rfl) (he : starEach [e] X.env = (false, eval e X.env) :: starEach [] X.env := by rfl) (hpl : (backTo pos (starEach [] X.env)).any (·.1) = false := by rfl) : QE X T k W (.Call (.Name "tuple" p) [e] [] pos) (eFn tupleOf (aCons f aNil)) :=
  qe_callTy (calls_tuple hc) hg hm bt_tuple (qa_cons ha qa_nil he) (he := he) (hpl := hpl)
theorem qe_max2 (hc : X.calm = true) (hm : X.mg "max" = none) (ha : QE X T k W a f) (hb : QE X T k W b g) (hg : Gl X "max" := by rfl) (he : starEach [a, b] X.env = (false, eval a X.env) :: starEach [b] X.env := by rfl) (he2 : starEach [b] X.env = (false, eval b X.env) :: starEach [] X.env := by rfl) (hpl : (backTo pos (starEach [b] X.env)).any (·.1) = false := by rfl) :
    QE X T k W (.Call (.Name "max" p) [a, b] [] pos) (eFn max2D (aCons f (aCons g aNil))) := qe_callB (calls_max2 hc) hg hm bt_max (qa_cons ha (qa_cons hb qa_nil he2) he) (he := he) (hpl := hpl)
theorem qe_min2 (hc : X.calm = true) (hm : X.mg "min" = none) (ha : QE X T k W a f) (hb : QE X T k W b g) (hg : Gl X "min" := by rfl) (he : starEach [a, b] X.env = (false, eval a X.env) :: starEach [b] X.env := by rfl) (he2 : starEach [b] X.env = (false, eval b X.env) :: starEach [] X.env := by rfl) (hpl : (backTo pos (starEach [b] X.env)).any (·.1) = false := by rfl) :
    QE X T k W (.Call (.Name "min" p) [a, b] [] pos) (eFn min2D (aCons f (aCons g aNil))) := qe_callB (calls_min2 hc) hg hm bt_min (qa_cons ha (qa_cons hb qa_nil he2) he) (he := he) (hpl := hpl)
theorem qe_divmod (hm : X.mg "divmod" = none) (ha : QE X T k W a f) (hb : QE X T k W b g) (hg : Gl X "divmod" := by rfl) (he : starEach [a, b] X.env = (false, eval a X.env) :: starEach [b] X.env := by rfl) (he2 : starEach [b] X.env = (false, eval b X.env) :: starEach [] X.env := by rfl) (hpl : (backTo pos (starEach [b] X.env)).any (·.1) = false := by rfl) :
    QE X T k W (.Call (.Name "divmod" p) [a, b] [] pos) (eFn divmodD (aCons f (aCons g aNil))) := qe_callB calls_divmod hg hm bt_divmod (qa_cons ha (qa_cons hb qa_nil he2) he) (he := he) (hpl := hpl)
theorem qe_append (ho : QE X T k W o fo) (ha : QE X T k W e f) (hbase : attributeBase o "append" X.env (eval o X.env) = eval o X.env := by rfl)
    (hfew : ((backTo pos (starEach [e] X.env)).all (fun x => !x.1) && (backToKw pos (keywordEach [] X.env)).all (fun x => x.1.isSome) && decide ([e].length + ([] : List Keyword).length + (if ([] : List Keyword).isEmpty then 0 else 1) < 30)) = true := by rfl)
    (hline : (apos.endLine == pos.line) = true := by rfl) (hs : starEach [e] X.env = (false, eval e X.env) :: starEach [] X.env := by rfl) (hplain : (backTo pos (starEach [] X.env)).any (·.1) = false := by rfl) : QE X T k W (.Call (.Attribute o "append" apos) [e] [] pos) (eMeth "list" appendD fo (aCons f aNil)) :=
  qe_bm PySem.F.plainAttrs_list PySem.F.slot_list_append PySem.F.type_list_append mts_append (.inl rfl) ho (qa_cons ha qa_nil hs) hbase hfew hline hs hplain
theorem qe_popAt (ho : QE X T k W o fo) (ha : QE X T k W e f) (hbase : attributeBase o "pop" X.env (eval o X.env) = eval o X.env := by rfl)
    (hfew : ((backTo pos (starEach [e] X.env)).all (fun x => !x.1) && (backToKw pos (keywordEach [] X.env)).all (fun x => x.1.isSome) && decide ([e].length + ([] : List Keyword).length + (if ([] : List Keyword).isEmpty then 0 else 1) < 30)) = true := by rfl)
    (hline : (apos.endLine == pos.line) = true := by rfl) (hs : starEach [e] X.env = (false, eval e X.env) :: starEach [] X.env := by rfl) (hplain : (backTo pos (starEach [] X.env)).any (·.1) = false := by rfl) : QE X T k W (.Call (.Attribute o "pop" apos) [e] [] pos) (eMeth "list" popAtD fo (aCons f aNil)) :=
  qe_bm PySem.F.plainAttrs_list PySem.F.slot_list_pop PySem.F.type_list_pop mts_popAt (.inl rfl) ho (qa_cons ha qa_nil hs) hbase hfew hline hs hplain
theorem qe_pop (ho : QE X T k W o fo) (hbase : attributeBase o "pop" X.env (eval o X.env) = eval o X.env := by rfl) (hline : (apos.endLine == pos.line) = true := by rfl) : QE X T k W (.Call (.Attribute o "pop" apos) [] [] pos) (eMeth "list" popD fo aNil) :=
  qe_bm0 PySem.F.plainAttrs_list PySem.F.slot_list_pop PySem.F.type_list_pop mts_pop (.inl rfl) ho hbase hline
theorem qe_join (ho : QE X T k W o fo) (ha : QE X T k W e f) (hbase : attributeBase o "join" X.env (eval o X.env) = eval o X.env := by rfl)
    (hfew : ((backTo pos (starEach [e] X.env)).all (fun x => !x.1) && (backToKw pos (keywordEach [] X.env)).all (fun x => x.1.isSome) && decide ([e].length + ([] : List Keyword).length + (if ([] : List Keyword).isEmpty then 0 else 1) < 30)) = true := by rfl)
    (hline : (apos.endLine == pos.line) = true := by rfl) (hs : starEach [e] X.env = (false, eval e X.env) :: starEach [] X.env := by rfl) (hplain : (backTo pos (starEach [] X.env)).any (·.1) = false := by rfl) : QE X T k W (.Call (.Attribute o "join" apos) [e] [] pos) (eMeth "str" joinD fo (aCons f aNil)) :=
  qe_bm PySem.F.plainAttrs_str PySem.F.slot_str_join PySem.F.type_str_join mts_join (.inr rfl) ho (qa_cons ha qa_nil hs) hbase hfew hline hs hplain
end
end
end TP
/-! Methods, class facts. -/
namespace TP
open PySem PySem.Spec PyProof.Rows L2 LamX
/-- a def that stands at fa -/
structure MetOk (P : Program) (w : World) (K : PySem.W.Frag) (mg : Str → Option Value) (base : Heap) (T : List (Addr × Str)) (k kc : Nat) (fa : Addr) (ps : List Str) (F : Fn) : Prop where
  ex : ∃ (fd : FuncData) (y qual : Str) (st : Stmt), FOk P w K mg base T k kc fa fd ps F ∧ Binds K fd ps [] ∧ L2.Fun K y qual st fa fd
section
variable {P : Program} {w : World} {K : PySem.W.Frag} {mg : Str → Option Value} {base : Heap} {T : List (Addr × Str)}
theorem metOk_of {R : Value → Prop} {k kc : Nat} {y qual : Str} {st : Stmt} {fa : Addr} {N ps : List Str} {fb : EvS} (u : ∃ fd, L2.Fun K y qual st fa fd ∧ R fd.code) (S : FnScope N ps (defScope st))
    (hb : ∀ (kV doc pm : Value) (an : Option Addr) (cdv ct : Value) (us : List Value), us.length = ps.length → bindArgs (PySem.W.fnOf y qual (defArgs st) (defBody st) (defScope st) .none kV doc pm an cdv ct) ⟨us, []⟩ = pure (ps.zip us))
    (body : ∀ (cdv : Value), R cdv → ∀ (A : Around) (outer : List PySem.Env) (s : Shared) (H : Hp) (E : XK), Room k (dX P w K mg base N qual st fa cdv A outer s H E).A → QSs (dX P w K mg base N qual st fa cdv A outer s H E) T kc (WE E) (defBody st) fb) :
    MetOk P w K mg base T (k + 1) kc fa ps (callF N.length ps.length fb) := by
  obtain ⟨fd, F, hR⟩ := u
  exact ⟨⟨fd, y, qual, st, fok_ofC F hR S body, F.binds hb, F⟩⟩
end
section
variable {P : Program} {w : World} {K : PySem.W.Frag} {mg : Str → Option Value} {base : Heap} {T : List (Addr × Str)}
/-- a def of which nothing is promised -/
theorem defOk_zero {R : Value → Prop} {k kc : Nat} {x y qual : Str} {st : Stmt} {fa : Addr} {ps : List Str} (g : mg x = some (.ref fa)) (u : ∃ fd, L2.Fun K y qual st fa fd ∧ R fd.code)
    (hb : ∀ (kV doc pm : Value) (an : Option Addr) (cdv ct : Value) (us : List Value), us.length = ps.length → bindArgs (PySem.W.fnOf y qual (defArgs st) (defBody st) (defScope st) .none kV doc pm an cdv ct) ⟨us, []⟩ = pure (ps.zip us)) : DefOk P w K mg base T k kc x ps (fun _ _ => none) := by
  obtain ⟨fd, F, hR⟩ := u
  exact ⟨⟨fa, fd, y, qual, st, fun A outer s H args us vs xs μ sto Q E hr e0 hb r hl rh ra q => q.elim, g, F.kp, F.binds hb, F⟩, fun xs s h => rfl⟩
end
def clsS (st : Stmt) (i : Nat) : Stmt := match st with
  | .ClassDef _ _ _ b _ _ _ _ _ _ _ => b.getD i (.Pass ⟨0, 0, 0, 0⟩)
  | _ => .Pass ⟨0, 0, 0, 0⟩
/-- the getter of a property -/
def prG (K : Frg) (C f : Str) : Addr := match PySem.W.recIn K (He.ma K (He.ga K C) f) "property" with
  | some (.ref g :: _) => g
  | _ => 0
def prB (K : Frg) (C f : Str) : Bool := He.eqO (PySem.W.findIn K (.ref (He.ga K C)) f) (some (some (.ref (He.ma K (He.ga K C) f)))) && (He.eqO (PySem.W.specialIn K (.ref (He.ma K (He.ga K C) f)) "__get__") (some (some (.builtin "property.__get__"))) &&
  (decide (PySem.W.takesIn K (.ref (He.ma K (He.ga K C) f)) = some true) && (match PySem.W.recIn K (He.ma K (He.ga K C) f) "property" with
    | some (.ref _ :: _) => true
    | _ => false)))
theorem pr_ok {K : Frg} {C f : Str} (h : prB K C f = true) : PropOf K (He.ga K C) f (He.ma K (He.ga K C) f) (prG K C f) := by
  obtain ⟨h1, h⟩ := He.ba h
  obtain ⟨h2, h⟩ := He.ba h
  obtain ⟨h3, h4⟩ := He.ba h
  refine ⟨He.eqO_ok h1, He.eqO_ok h2, of_decide_eq_true h3, ?_⟩
  unfold prG
  cases hr : PySem.W.recIn K (He.ma K (He.ga K C) f) "property" with
  | none => rw [hr] at h4; cases h4
  | some l =>
    rw [hr] at h4
    match l, h4 with
    | .ref g :: rest, _ => exact ⟨rest, rfl⟩
def insB (K : Frg) (C : Str) : Bool := (He.Fa.cls C).ok K && (He.eqO (PySem.W.findIn K (.ref (He.ga K C)) "__class__") (some (some (.builtin "object.__class__"))) && (He.eqO (PySem.W.specialIn K (.builtin "object.__class__") "__get__") (some (some (.builtin "getset_descriptor.__get__"))) &&
  (decide (PySem.W.takesIn K (.builtin "object.__class__") = some true) && decide (PySem.W.mroIn K (He.ga K C) (.type "object") = some true))))
theorem ins_ok {K : Frg} {C : Str} (h : insB K C = true) : InsF K (He.ga K C) := by
  obtain ⟨h1, h⟩ := He.ba h
  obtain ⟨h2, h⟩ := He.ba h
  obtain ⟨h3, h⟩ := He.ba h
  obtain ⟨h4, h5⟩ := He.ba h
  exact ⟨He.cls_ok h1, He.eqO_ok h2, He.eqO_ok h3, of_decide_eq_true h4, of_decide_eq_true h5⟩
/-- isinstance's answers: for built-in types, for own classes -/
def kitB1 (K : Frg) (C : Str) (bs : List (String × Bool)) : Bool := bs.all fun t => decide (PySem.W.kitOne K (.type t.1) (.ref (He.ga K C)) = some t.2)
theorem kit1_ok {K : Frg} {C : Str} {bs : List (String × Bool)} (h : kitB1 K C bs = true) : ∀ t ∈ bs, PySem.W.kitOne K (.type t.1) (.ref (He.ga K C)) = some t.2 := fun t ht => of_decide_eq_true (List.all_eq_true.mp h t ht)
def kitB2 (K : Frg) (D C : Str) (b : Bool) : Bool := decide (PySem.W.kitOne K (.ref (He.ga K D)) (.ref (He.ga K C)) = some b)
theorem kit2_ok {K : Frg} {D C : Str} {b : Bool} (h : kitB2 K D C b = true) : PySem.W.kitOne K (.ref (He.ga K D)) (.ref (He.ga K C)) = some b := of_decide_eq_true h
def nfB1 (K : Frg) (C : Str) (rs : List String) : Bool := rs.all fun t => PySem.W.notFirst K (He.ga K C) (.type t)
theorem nf1_ok {K : Frg} {C : Str} {rs : List String} (h : nfB1 K C rs = true) : ∀ t ∈ rs, PySem.W.notFirst K (He.ga K C) (.type t) = true := fun t ht => List.all_eq_true.mp h t ht
def nfB2 (K : Frg) (C D : Str) : Bool := PySem.W.notFirst K (He.ga K C) (.ref (He.ga K D))
theorem nf2_ok {K : Frg} {C D : Str} (h : nfB2 K C D = true) : PySem.W.notFirst K (He.ga K C) (.ref (He.ga K D)) = true := h
def neB (K : Frg) (C : Str) : Bool := He.eqO (PySem.W.findIn K (.ref (He.ga K C)) "__ne__") (some (some (.builtin "object.__ne__"))) && decide (PySem.W.mroIn K (He.ga K C) (.type "object") = some true)
theorem ne_ok {C : Str} {X : Cx} {c : List Nat} (h : neB X.K C = true) (g : X.mg (sn c) = some (.ref (He.ga X.K C))) : NeOk X c := by
  obtain ⟨h1, h2⟩ := He.ba h
  exact ⟨_, g, He.eqO_ok h1, of_decide_eq_true h2⟩
theorem exAt {l : List Bool} (h : l.all id = true) (i : Nat) {b : Bool} (hi : l[i]? = some b := by rfl) : b = true := List.all_eq_true.mp h b (List.mem_of_getElem? hi)
theorem allNil {α : Type} {p : α → Prop} : ∀ t ∈ ([] : List α), p t := fun _ h => by cases h
theorem allCons {α : Type} {p : α → Prop} {a : α} {l : List α} (h : p a) (hs : ∀ t ∈ l, p t) : ∀ t ∈ a :: l, p t := fun t ht => by
  rcases List.mem_cons.mp ht with rfl | ht
  · exact h
  · exact hs t ht
section
variable {X : Cx} {T : List (Addr × Str)} {k j kc : Nat} {W : WX} {e o a b : Expr} {es : List Expr} {f g fo : Ev} {fs gs : EvA} {pos p apos : Pos} {x : Str} {ps : List Str} {F : Fn} {kws : List Keyword}
theorem accF {c : List Nat} {C : Addr} {fn : Str} (g : X.mg (sn c) = some (.ref C)) (cl : Cls X.K C) (na : NoAttr X.K C fn) : AccOk X T j fn (c, .fld) := .fld g cl na
theorem accP {c : List Nat} {C p gt : Addr} {fn : Str} (g : X.mg (sn c) = some (.ref C)) (cl : Cls X.K C) (pr : PropOf X.K C fn p gt) (d : MetOk X.prog X.w X.K X.mg X.base T j kc gt ps F) (hl : ps.length = 1 := by rfl) : AccOk X T j fn (c, .prop F) := by
  obtain ⟨fd, y, qual, st, G, hb, Fu⟩ := d.ex
  exact .prop g cl pr G hl hb
theorem eqOk_of {c : List Nat} {C fa : Addr} {rs : List String} {rcs : List (List Nat)} (g : X.mg (sn c) = some (.ref C)) (m : Meth X.K C "__eq__" fa) (d : MetOk X.prog X.w X.K X.mg X.base T j kc fa ps F) (h1 : ∀ r ∈ rs, PySem.W.notFirst X.K C (.type r) = true)
    (h2 : ∀ d ∈ rcs, ∃ D, X.mg (sn d) = some (.ref D) ∧ PySem.W.notFirst X.K C (.ref D) = true) (hl : ps.length = 2 := by rfl) : EqOk X T j rs rcs (c, F) := by
  obtain ⟨fd, y, qual, st, G, hb, Fu⟩ := d.ex
  exact ⟨⟨C, fa, fd, ps, kc, g, m.at_, m.fn, G, hl, hb, h1, h2⟩⟩
theorem qe_mk {c : List Nat} {C fa : Addr} {sp : Str} (M : Mk X.K C fa) (d : MetOk X.prog X.w X.K X.mg X.base T j kc fa (sp :: ps) F) (hr : Room (j + 1) X.A) (hm : X.mg (sn c) = some (.ref C)) (tk : Takes X W)
    (ha : QA X T k W (e :: es) fs) (hx : x = sn c := by decide +kernel) (hg : Gl X x := by rfl) (hdb : (x == ("__debug__" : Str)) = false := by decide) (he : starEach (e :: es) X.env = (false, eval e X.env) :: starEach es X.env := by rfl) (hpl : (backTo pos (starEach es X.env)).any (·.1) = false := by rfl) :
    QE X T k W (.Call (.Name x p) (e :: es) [] pos) (eMake c ps.length F fs) := by
  obtain ⟨fd, y, qual, st, G, hb, Fu⟩ := d.ex
  exact qe_make M G hr hg hx hm hb tk ha hdb he hpl
/-- how the def at fa binds n positional values and these keywords -/
def KwM (K : PySem.W.Frag) (fa : Addr) (ps ks : List Str) (n : Nat) (ix : List Nat) : Prop := ∀ fd y qual st, L2.Fun K y qual st fa fd → KwB K fd ps n ks ix
theorem kwM_of {y qual : Str} {st : Stmt} {fa : Addr} {ks : List Str} {n : Nat} {ix : List Nat} {K : PySem.W.Frag} {R : Value → Prop} (u : ∃ fd, L2.Fun K y qual st fa fd ∧ R fd.code)
    (h : ∀ (kV doc pm : Value) (an : Option Addr) (cdv ct : Value) (us ws : List Value), us.length = n → ws.length = ks.length → bindArgs (PySem.W.fnOf y qual (defArgs st) (defBody st) (defScope st) .none kV doc pm an cdv ct) ⟨us, ks.zip ws⟩ = pure (ps.zip (pickL ix (us ++ ws)))) : KwM K fa ps ks n ix := fun fd y' qual' st' F' => by
  obtain ⟨fd0, F, _⟩ := u
  cases fun_uniq F F'
  exact kwb_of F h
theorem qe_mkK {c : List Nat} {C fa : Addr} {ks : List Str} {n : Nat} {ix : List Nat} (M : Mk X.K C fa) (d : MetOk X.prog X.w X.K X.mg X.base T j kc fa ps F) (hr : Room (j + 1) X.A) (hm : X.mg (sn c) = some (.ref C)) (hb : KwM X.K fa ps ks (n + 1) (0 :: ix.map (· + 1))) (tk : Takes X W)
    (ha : QA X T k W (e :: es) fs) (hkw : QK X T k W kws gs) (hix : ix.length + 1 = ps.length := by rfl) (hixb : ∀ i ∈ ix, i < n + ks.length := by decide) (hall : (backToKw pos (keywordEach kws X.env)).all (·.1.isSome) = true := by rfl) (hks : (backToKw pos (keywordEach kws X.env)).filterMap (·.1) = ks := by rfl)
    (hx : x = sn c := by decide +kernel) (hg : Gl X x := by rfl) (hdb : (x == ("__debug__" : Str)) = false := by decide) (he : starEach (e :: es) X.env = (false, eval e X.env) :: starEach es X.env := by rfl)
    (hpl : ((backTo pos (starEach (e :: es) X.env)).any (·.1) || (backToKw pos (keywordEach kws X.env)).any (·.1.isNone)) = false := by rfl) :
    QE X T k W (.Call (.Name x p) (e :: es) kws pos) (eKw (opMakeK c n ks.length F ix) fs gs) := by
  obtain ⟨fd, y, qual, st, G, hb', Fu⟩ := d.ex
  exact qe_makeK M G hr hg hx hm (hb _ _ _ _ Fu) tk ha hkw hix hixb hall hks hdb he hpl
theorem qe_mkK0 {c : List Nat} {C fa : Addr} {ks : List Str} {ix : List Nat} (M : Mk X.K C fa) (d : MetOk X.prog X.w X.K X.mg X.base T j kc fa ps F) (hr : Room (j + 1) X.A) (hm : X.mg (sn c) = some (.ref C)) (hb : KwM X.K fa ps ks 1 (0 :: ix.map (· + 1))) (tk : Takes X W)
    (hkw : QK X T k W kws gs) (hix : ix.length + 1 = ps.length := by rfl) (hixb : ∀ i ∈ ix, i < 0 + ks.length := by decide) (hall : (backToKw pos (keywordEach kws X.env)).all (·.1.isSome) = true := by rfl) (hks : (backToKw pos (keywordEach kws X.env)).filterMap (·.1) = ks := by rfl)
    (hx : x = sn c := by decide +kernel) (hg : Gl X x := by rfl) (hdb : (x == ("__debug__" : Str)) = false := by decide)
    (hpl : ((backTo pos (starEach [] X.env)).any (·.1) || (backToKw pos (keywordEach kws X.env)).any (·.1.isNone)) = false := by rfl) :
    QE X T k W (.Call (.Name x p) [] kws pos) (eKw0 (opMakeK c 0 ks.length F ix) gs) := by
  obtain ⟨fd, y, qual, st, G, hb', Fu⟩ := d.ex
  exact qe_makeK0 M G hr hg hx hm (hb _ _ _ _ Fu) tk hkw hix hixb hall hks hdb hpl
end
end TP
/-! Evaluation of combinators. -/
namespace TP
open PySem PySem.Spec PyProof.Rows L2
section
variable {env : Env} {s s1 : Sto} {f g h : Ev} {t u : EvB} {fs gs : EvA} {i j : Nat} {op op' : D → D → Sto → RV}
@[simp] theorem eVar_def : eVar i env s = (match env[i]? with | some (some (.d x)) => some (.ok x, s) | _ => none) := rfl
@[simp] theorem eC_def {d : D} : eC d env s = some (.ok d, s) := rfl
@[simp] theorem eOp_def : eOp op f g env s = bind (f env s) fun x s1 => bind (g env s1) fun y s2 => lift (op x y s2) := rfl
@[simp] theorem bOf_def : bOf f env s = bind (f env s) fun x s1 => match x with | .bl b => some (.ok b, s1) | _ => none := rfl
@[simp] theorem eB_def : eB t env s = bind (t env s) fun b s1 => some (.ok (.bl b), s1) := rfl
@[simp] theorem bAnd_def : bAnd t u env s = bind (t env s) fun b s1 => if b then u env s1 else some (.ok false, s1) := rfl
@[simp] theorem bOr_def : bOr t u env s = bind (t env s) fun b s1 => if b then some (.ok true, s1) else u env s1 := rfl
@[simp] theorem bNot_def : bNot t env s = bind (t env s) fun b s1 => some (.ok (!b), s1) := rfl
@[simp] theorem eAnd_def : eAnd f g env s = bind (f env s) fun x s1 => match x with | .bl b => (if b then g env s1 else some (.ok (.bl false), s1)) | _ => none := by
  unfold eAnd; congr 1; funext x s1; cases x <;> try rfl
  rename_i b; cases b <;> rfl
@[simp] theorem eOr_def : eOr f g env s = bind (f env s) fun x s1 => match x with | .bl b => (if b then some (.ok (.bl true), s1) else g env s1) | _ => none := by
  unfold eOr; congr 1; funext x s1; cases x <;> try rfl
  rename_i b; cases b <;> rfl
@[simp] theorem eNot_def : eNot f env s = bind (f env s) fun x s1 => match x with | .bl b => some (.ok (.bl (!b)), s1) | _ => none := rfl
@[simp] theorem eIf_def : eIf t f g env s = bind (t env s) fun b s1 => if b then f env s1 else g env s1 := rfl
@[simp] theorem aNil_def : aNil env s = some (.ok [], s) := rfl
@[simp] theorem aCons_def : aCons f fs env s = bind (f env s) fun x s1 => bind (fs env s1) fun xs s2 => some (.ok (.d x :: xs), s2) := rfl
@[simp] theorem plain_nil : plain [] = some [] := rfl
@[simp] theorem plain_d {x : D} {xs : List TP.A} : plain (.d x :: xs) = (plain xs).map (x :: ·) := by
  simp only [plain]
@[simp] theorem eFn_def {op : List D → Sto → RV} : eFn op fs env s = bind (fs env s) fun xs s1 => match plain xs with | some ds => lift (op ds s1) | none => none := rfl
@[simp] theorem eCall_def {F : Fn} : eCall F fs env s = bind (fs env s) F := rfl
@[simp] theorem lift_someR {d : D} : lift (some (d, s)) = some (.ok d, s) := rfl
@[simp] theorem sSeq_def {a b : EvS} : sSeq a b env s = bind (a env s) fun fl s1 => match fl with | .nx e => b e s1 | r => some (.ok r, s1) := by
  unfold sSeq; congr 1
@[simp] theorem sNext_def : sNext env s = some (.ok (.nx env), s) := rfl
@[simp] theorem sRet_def : sRet f env s = bind (f env s) fun x s1 => some (.ok (.rt x), s1) := rfl
@[simp] theorem sRetN_def : sRetN env s = some (.ok (.rt .non), s) := rfl
@[simp] theorem sExpr_def : sExpr f env s = bind (f env s) fun _ s1 => some (.ok (.nx env), s1) := rfl
@[simp] theorem sIf_def {a b : EvS} : sIf t a b env s = bind (t env s) fun c s1 => if c then a env s1 else b env s1 := rfl
@[simp] theorem sAsg_def {g : EvG} : sAsg f g env s = bind (f env s) fun x s1 => match g x env s1 with | some (.ok e, s2) => some (.ok (.nx e), s2) | _ => none := rfl
@[simp] theorem gSet_def {d : D} : gSet i d env s = some (.ok (env.set i (some (.d d))), s) := rfl
@[simp] theorem sTrim_def {a : EvS} : sTrim a env s = trimS s (a env s) := rfl
@[simp] theorem trimS_ok {fl : Fl} : trimS s (some (.ok fl, s1)) = some (.ok fl, trim s (rootsF s.length fl) s1) := rfl
@[simp] theorem trimS_none : trimS s none = none := rfl
@[simp] theorem trimS_err {x : Exn} : trimS s (some (.error x, s1)) = some (.error x, s1) := rfl
@[simp] theorem rootsF_rt {n : Nat} {d : D} : rootsF n (.rt d) = bndD n d := rfl
@[simp] theorem rootsF_nx {n : Nat} : rootsF n (.nx env) = rootsE n env := rfl
def finF : R Fl → R D
  | some (.ok (.rt d), s1) => some (.ok d, s1)
  | some (.ok (.nx _), s1) => some (.ok .non, s1)
  | some (.error x, s1) => some (.error x, s1)
  | _ => none
@[simp] theorem finF_rt {d : D} : finF (some (.ok (.rt d), s)) = some (.ok d, s) := rfl
@[simp] theorem finF_nx {e : Env} : finF (some (.ok (.nx e), s)) = some (.ok .non, s) := rfl
@[simp] theorem finF_err {x : Exn} : finF (some (.error x, s)) = some (.error x, s) := rfl
theorem callF_def {n m : Nat} {b : EvS} {xs : List TP.A} (h : xs.length = m) : callF n m b xs s = finF (trimS s (b (xs.map some ++ List.replicate (n - m) none) s)) := by
  unfold callF; rw [if_pos h]
  unfold finF; rfl
@[simp] theorem eIsTy_def {Ty : String} : eIsTy Ty f env s = bind (f env s) fun x s1 => match tyName x s1 with
    | some t => (match kitB t Ty with | some b => some (.ok (.bl b), s1) | none => none)
    | none => none := rfl
@[simp] theorem kit_NoneType_bool : kitB "NoneType" "bool" = some false := by kernel_rfl
@[simp] theorem kit_NoneType_int : kitB "NoneType" "int" = some false := by kernel_rfl
@[simp] theorem kit_NoneType_str : kitB "NoneType" "str" = some false := by kernel_rfl
@[simp] theorem kit_NoneType_tuple : kitB "NoneType" "tuple" = some false := by kernel_rfl
@[simp] theorem kit_NoneType_list : kitB "NoneType" "list" = some false := by kernel_rfl
@[simp] theorem kit_bool_bool : kitB "bool" "bool" = some true := by kernel_rfl
@[simp] theorem kit_bool_int : kitB "bool" "int" = some true := by kernel_rfl
@[simp] theorem kit_bool_str : kitB "bool" "str" = some false := by kernel_rfl
@[simp] theorem kit_bool_tuple : kitB "bool" "tuple" = some false := by kernel_rfl
@[simp] theorem kit_bool_list : kitB "bool" "list" = some false := by kernel_rfl
@[simp] theorem kit_int_bool : kitB "int" "bool" = some false := by kernel_rfl
@[simp] theorem kit_int_int : kitB "int" "int" = some true := by kernel_rfl
@[simp] theorem kit_int_str : kitB "int" "str" = some false := by kernel_rfl
@[simp] theorem kit_int_tuple : kitB "int" "tuple" = some false := by kernel_rfl
@[simp] theorem kit_int_list : kitB "int" "list" = some false := by kernel_rfl
@[simp] theorem kit_str_bool : kitB "str" "bool" = some false := by kernel_rfl
@[simp] theorem kit_str_int : kitB "str" "int" = some false := by kernel_rfl
@[simp] theorem kit_str_str : kitB "str" "str" = some true := by kernel_rfl
@[simp] theorem kit_str_tuple : kitB "str" "tuple" = some false := by kernel_rfl
@[simp] theorem kit_str_list : kitB "str" "list" = some false := by kernel_rfl
@[simp] theorem kit_tuple_bool : kitB "tuple" "bool" = some false := by kernel_rfl
@[simp] theorem kit_tuple_int : kitB "tuple" "int" = some false := by kernel_rfl
@[simp] theorem kit_tuple_str : kitB "tuple" "str" = some false := by kernel_rfl
@[simp] theorem kit_tuple_tuple : kitB "tuple" "tuple" = some true := by kernel_rfl
@[simp] theorem kit_tuple_list : kitB "tuple" "list" = some false := by kernel_rfl
@[simp] theorem kit_list_bool : kitB "list" "bool" = some false := by kernel_rfl
@[simp] theorem kit_list_int : kitB "list" "int" = some false := by kernel_rfl
@[simp] theorem kit_list_str : kitB "list" "str" = some false := by kernel_rfl
@[simp] theorem kit_list_tuple : kitB "list" "tuple" = some false := by kernel_rfl
@[simp] theorem kit_list_list : kitB "list" "list" = some true := by kernel_rfl

@[simp] theorem gSubD_def {fo fi : Ev} {d : D} : gSubD fo fi d env s = (match fo env s with
  | some (.ok o, s1) => (match fi env s1 with
    | some (.ok i, s2) => (match setD o i d s2 with
      | some s3 => some (.ok env, s3)
      | none => none)
    | _ => none)
  | _ => none) := rfl
@[simp] theorem gTupD_def {n : Nat} {gs : EvGs} {ds : List D} : gTupD n gs (.tup ds) env s = if ds.length = n then gs ds env s else none := rfl
@[simp] theorem gsNil_def : gsNil [] env s = some (.ok env, s) := rfl
@[simp] theorem gsCons_def {g : EvG} {gs : EvGs} {d : D} {ds : List D} : gsCons g gs (d :: ds) env s = (match g d env s with
    | some (.ok e, s1) => gs ds e s1
    | _ => none) := rfl
@[simp] theorem onIB_def {g : Int → Int → Bool} {a b : Int} : onIB g (.int a) (.int b) s = some (.bl (g a b), s) := rfl
@[simp] theorem onI_def {C : Int → Int → Bool} {g : Int → Int → Int} {a b : Int} : onI C g (.int a) (.int b) s = if C a b then some (.int (g a b), s) else none := rfl
@[simp] theorem addD_int {a b : Int} : addD (.int a) (.int b) s = some (.int (a + b), s) := rfl
theorem addD_str {a b : List Nat} : addD (.str a) (.str b) s = if a.length + b.length ≤ sizeLine then some (.str (a ++ b), s) else none := rfl
theorem addD_tup {a b : List D} : addD (.tup a) (.tup b) s = if a.length + b.length ≤ sizeLine then some (.tup (a ++ b), s) else none := rfl
@[simp] theorem ltD_int {a b : Int} : ltD (.int a) (.int b) s = some (.bl (decide (a < b)), s) := rfl
@[simp] theorem ltD_str {a b : List Nat} : ltD (.str a) (.str b) s = some (.bl (decide (a < b)), s) := rfl
@[simp] theorem eqOp_int {a b : Int} : eqOp (.int a) (.int b) s = some (.bl (decide (a = b)), s) := by
  show some (D.bl (a == b), s) = _
  by_cases h : a = b <;> simp [h]
@[simp] theorem neOp_int {a b : Int} : neOp (.int a) (.int b) s = some (.bl (!decide (a = b)), s) := by
  show some (D.bl (!(a == b)), s) = _
  by_cases h : a = b <;> simp [h]
@[simp] theorem eqOp_str {a b : List Nat} : eqOp (.str a) (.str b) s = some (.bl (decide (a = b)), s) := by
  show some (D.bl (a == b), s) = _
  by_cases h : a = b <;> simp [h]
@[simp] theorem neOp_str {a b : List Nat} : neOp (.str a) (.str b) s = some (.bl (!decide (a = b)), s) := by
  show some (D.bl (!(a == b)), s) = _
  by_cases h : a = b <;> simp [h]
@[simp] theorem eqOp_bl {a b : Bool} : eqOp (.bl a) (.bl b) s = some (.bl (a == b), s) := rfl
@[simp] theorem isNon_def {neg : Bool} {x : D} : isNon neg x .non s = some (.bl (if neg then !decide (x = .non) else decide (x = .non)), s) := rfl
@[simp] theorem intOf_int {i : Int} : intOf [.int i] s = some (.int i, s) := rfl
@[simp] theorem absD_int {i : Int} : absD [.int i] s = some (.int (if i < 0 then -i else i), s) := rfl
@[simp] theorem divmod_def {a b : Int} : divmodD [.int a, .int b] s = if 0 < b ∧ b < 1073741824 then some (.tup [.int (a / b), .int (a % b)], s) else none := rfl
@[simp] theorem max2_def {a b : Int} : max2D [.int a, .int b] s = some (.int (if b > a then b else a), s) := rfl
@[simp] theorem min2_def {a b : Int} : min2D [.int a, .int b] s = some (.int (if b < a then b else a), s) := rfl
@[simp] theorem lenD_tup {xs : List D} : lenD [.tup xs] s = some (.int xs.length, s) := rfl
theorem lenD_str {z : List Nat} (h : z.length ≤ sizeLine) : lenD [.str z] s = some (.int z.length, s) := by unfold lenD; simp [h]
theorem lenD_ref {n : Nat} {xs : List D} (h : lstAt s n = some xs) : lenD [.ref n] s = some (.int xs.length, s) := by unfold lenD; simp [h]
theorem lstAt_lst {n : Nat} {xs : List D} (h : s[n]? = some (.lst xs)) : lstAt s n = some xs := by unfold lstAt; rw [h]
theorem lstAt_frz {n : Nat} {xs : List D} (h : s[n]? = some (.frz xs)) : lstAt s n = some xs := by unfold lstAt; rw [h]
theorem ixN_nat {n i : Nat} (h : i < n) : ixN n (i : Int) = some i := by
  unfold ixN; simp; omega
theorem ixN_last {n : Nat} (h : 0 < n) : ixN n (-1) = some (n - 1) := by
  unfold ixN
  rw [if_neg (by omega), if_pos (by omega)]
  congr 1; omega
theorem ixD_tup {xs : List D} {i : Int} {j : Nat} {d : D} (h : ixN xs.length i = some j) (hd : xs[j]? = some d) : ixD (.tup xs) (.int i) s = some (d, s) := by
  unfold ixD; simp [h, hd]
theorem ixD_ref {n : Nat} {xs : List D} {i : Int} {j : Nat} {d : D} (hl : lstAt s n = some xs) (h : ixN xs.length i = some j) (hd : xs[j]? = some d) : ixD (.ref n) (.int i) s = some (d, s) := by
  unfold ixD; simp [hl, h, hd]
theorem ixD_str {z : List Nat} {i : Int} {j c : Nat} (hz : z.length ≤ sizeLine) (h : ixN z.length i = some j) (hd : z[j]? = some c) : ixD (.str z) (.int i) s = some (.str [c], s) := by
  unfold ixD; simp [hz, h, hd]
theorem setD_def {n m : Nat} {i : Int} {xs : List D} {v : D} (hl : s[n]? = some (.lst xs)) (h : ixN xs.length i = some m) : setD (.ref n) (.int i) v s = some (s.set n (.lst (xs.set m v))) := by
  unfold setD; simp [hl, h]
@[simp] theorem mkTup_def {ds : List D} : mkTup ds s = if ds.length ≤ sizeLine then some (.tup ds, s) else none := rfl
@[simp] theorem mkLst_def {ds : List D} : mkLst ds s = if ds.length ≤ sizeLine then some (.ref s.length, s ++ [.lst ds]) else none := rfl
theorem sz {n : Nat} (h : n ≤ 100000) : n ≤ sizeLine := by rw [sizeLine_eq]; omega
/-! ### the bowl -/
def BowlC (c : Cell) : Prop := ∃ x y z : Int, c = .lst [.int x, .int y, .int z] ∧ 0 ≤ x
def Bowl (s : Sto) (b : Nat) : Prop := ∃ c, s[b]? = some c ∧ BowlC c
theorem Bowl.lt {b : Nat} (h : Bowl s b) : b < s.length := by
  obtain ⟨c, h1, _⟩ := h
  exact (List.getElem?_eq_some_iff.mp h1).1
theorem Bowl.set {b : Nat} {c : Cell} (h : Bowl s b) (hc : BowlC c) : Bowl (s.set b c) b := ⟨c, List.getElem?_set_self h.lt, hc⟩
theorem get_app {α : Type} {l m : List α} {n : Nat} {x : α} (e : l[n]? = some x) : (l ++ m)[n]? = some x := by
  rw [List.getElem?_append_left (List.getElem?_eq_some_iff.mp e).1]; exact e
theorem Bowl.app {b : Nat} {g : Sto} (h : Bowl s b) : Bowl (s ++ g) b := by
  obtain ⟨c, h1, h2⟩ := h
  exact ⟨c, get_app h1, h2⟩
theorem BowlC.bnd {c : Cell} (h : BowlC c) (n : Nat) : bndC n c = true := by
  obtain ⟨x, y, z, rfl, _⟩ := h
  simp [bndC, bndDs, bndD]

/-! ### loops and comprehensions -/
theorem forL_inv {g : EvG} {b : EvS} {chk : Sto → Bool} (I : Nat → Env → Sto → Prop) : ∀ (xs : List D) (i : Nat) (env : Env) (s : Sto), I i env s →
    (∀ j x env s, xs[j]? = some x → I (i + j) env s → chk s = true ∧ ∃ e1 s1 e2 s2, g x env s = some (.ok e1, s1) ∧ b e1 s1 = some (.ok (.nx e2), s2) ∧ I (i + j + 1) e2 s2) → (∀ env s, I (i + xs.length) env s → chk s = true) →
    ∃ env' s', forL g b chk xs env s = some (.ok (.nx env'), s') ∧ I (i + xs.length) env' s'
  | [], i, env, s, h, _, fin => ⟨env, s, by simp only [forL]; rw [if_pos (fin env s h)]; rfl, h⟩
  | x :: xs, i, env, s, h, st, fin => by
    obtain ⟨hc, e1, s1, e2, s2, h1, h2, h3⟩ := st 0 x env s rfl h
    obtain ⟨env', s', h4, h5⟩ := forL_inv I xs (i + 1) e2 s2 h3 (fun j y env s hj hI => by
      have := st (j + 1) y env s (by simpa using hj) (by rw [show i + (j + 1) = i + 1 + j by omega]; exact hI)
      rw [show i + (j + 1) + 1 = i + 1 + j + 1 by omega] at this
      exact this) (fun env s hI => fin env s (by rw [show i + (x :: xs).length = i + 1 + xs.length by simp; omega]; exact hI))
    refine ⟨env', s', ?_, by rw [show i + (x :: xs).length = i + 1 + xs.length by simp; omega]; exact h5⟩
    simp only [forL]
    rw [if_pos hc, h1]
    simp only [h2, bind_ok]
    exact h4
/-- a comprehension without tests, element by element; J says what of the store besides the list being made -/
theorem lcL_inv {gx : EvX} {e : Ev} {vs : List Nat} {env0 : Env} {chk : Sto → Bool} {nD : Nat} (J : Nat → Sto → List D → Prop) : ∀ (xs : List D) (i : Nat) (t : Sto) (acc : List D), t.length = nD → J i t acc → acc.length + xs.length ≤ 100000 →
    (∀ j x t acc, xs[j]? = some x → t.length = nD → J (i + j) t acc → chk (t ++ [.lst acc]) = true ∧ ∃ asg y t', gx x = some asg ∧ asg.all (fun p => vs.contains p.1) = true ∧ t'.length = nD ∧ e (setsE env0 asg) (t ++ [.lst acc]) = some (.ok y, t' ++ [.lst acc]) ∧ J (i + j + 1) t' (acc ++ [y])) →
    (∀ t acc, t.length = nD → J (i + xs.length) t acc → chk (t ++ [.lst acc]) = true) →
    ∃ t' ys, t'.length = nD ∧ lcL gx bYes e vs env0 chk nD xs (t ++ [.lst acc]) = some (t' ++ [.lst ys]) ∧ J (i + xs.length) t' ys
  | [], i, t, acc, ht, h, _, _, fin => ⟨t, acc, ht, by simp only [lcL]; rw [if_pos (fin t acc ht h)], h⟩
  | x :: xs, i, t, acc, ht, h, hz, st, fin => by
    obtain ⟨hc, asg, y, t', h1, h2, h3, h4, h5⟩ := st 0 x t acc rfl ht h
    have hz' : (acc ++ [y]).length + xs.length ≤ 100000 := by simp at hz ⊢; omega
    obtain ⟨t2, ys, g1, g2, g3⟩ := lcL_inv J xs (i + 1) t' (acc ++ [y]) h3 h5 hz' (fun j z t acc hj ht hJ => by
      have := st (j + 1) z t acc (by simpa using hj) ht (by rw [show i + (j + 1) = i + 1 + j by omega]; exact hJ)
      rw [show i + (j + 1) + 1 = i + 1 + j + 1 by omega] at this
      exact this) (fun t acc ht hJ => fin t acc ht (by rw [show i + (x :: xs).length = i + 1 + xs.length by simp; omega]; exact hJ))
    refine ⟨t2, ys, g1, ?_, by rw [show i + (x :: xs).length = i + 1 + xs.length by simp; omega]; exact g3⟩
    simp only [lcL]
    rw [if_pos hc, h1]
    simp only [h2, if_true]
    have hb : bYes (setsE env0 asg) (t ++ [.lst acc]) = some (.ok true, t ++ [.lst acc]) := rfl
    rw [hb]
    simp only [if_true]
    rw [h4]
    have hget : (t' ++ [Cell.lst acc])[nD]? = some (.lst acc) := by rw [← h3]; simp
    have hlt : acc.length < sizeLine := by rw [sizeLine_eq]; simp at hz; omega
    have htr : ∀ r, trim (t ++ [Cell.lst acc]) r (t' ++ [Cell.lst acc]) = t' ++ [.lst acc] := fun r => trim_len r (by simp [ht, h3])
    simp only [hget, htr]
    rw [if_pos hlt]
    have hset : (t' ++ [Cell.lst acc]).set nD (.lst (acc ++ [y])) = t' ++ [.lst (acc ++ [y])] := by rw [← h3]; simp
    rw [hset]
    exact g2
theorem eLc_of {fi : EvI} {gx : EvX} {e : Ev} {vs : List Nat} {src : Src} {t : Sto} {ys : List D} (h1 : fi env s = some (.ok src, s1)) (h2 : lcL gx bYes e vs (maskE vs env) src.chk s1.length src.items (s1 ++ [.lst []]) = some (t ++ [.lst ys])) : eLc fi gx bYes e vs env s = some (.ok (.ref s1.length), t ++ [.lst ys]) := by
  unfold eLc
  rw [h1]
  simp only [bind_ok]
  rw [h2]; rfl
@[simp] theorem iRange1_def : iRange1 fs env s = bind (fs env s) fun xs s1 => match xs with
  | [.d (.int j)] => if smallI j then ret ⟨rangeD 0 j.toNat, fun _ => true⟩ s1 else none
  | _ => none := by unfold iRange1; congr 1
@[simp] theorem iAny_def : iAny f env s = bind (f env s) fun x s1 => match itemsOf x s1 with
  | some src => ret src s1
  | none => none := by unfold iAny; congr 1
theorem rangeD_get {lo : Int} {n j : Nat} {x : D} (h : (rangeD lo n)[j]? = some x) : j < n ∧ x = .int (lo + j) := by
  unfold rangeD at h
  rw [List.getElem?_map] at h
  cases hr : (List.range n)[j]? with
  | none => rw [hr] at h; cases h
  | some i =>
    rw [hr] at h
    have := List.getElem?_eq_some_iff.mp hr
    obtain ⟨h1, h2⟩ := this
    simp at h1 h2
    subst h2
    exact ⟨h1, (Option.some.inj h).symm⟩
@[simp] theorem rangeD_len {lo : Int} {n : Nat} : (rangeD lo n).length = n := by simp [rangeD]

@[simp] theorem eMeth_def {Ty : String} {op : D → List D → Sto → RV} {fo : Ev} : eMeth Ty op fo fs env s = bind (fo env s) fun x s1 => match tyName x s1 with
  | some t => if t = Ty then bind (fs env s1) fun xs s2 => match plain xs with
      | some ds => lift (op x ds s2)
      | none => none
    else none
  | none => none := by unfold eMeth; congr 1
@[simp] theorem sPar2_def : sPar2 i j fs env s = bind (fs env s) fun xs s1 => match xs with
  | [.d u, .d v] => some (.ok (.nx ((env.set i (some (.d u))).set j (some (.d v)))), s1)
  | _ => none := by unfold sPar2; congr 1
@[simp] theorem trim_false {old new : Sto} : trim old false new = new := rfl
theorem tyName_lst {n : Nat} {xs : List D} (h : lstAt s n = some xs) : tyName (.ref n) s = some "list" := by
  show (match lstAt s n with | some _ => some "list" | none => none) = _
  rw [h]
theorem append_of {n : Nat} {xs : List D} {y : D} (h : s[n]? = some (.lst xs)) (hz : xs.length < 100000) : appendD (.ref n) [y] s = some (.non, s.set n (.lst (xs ++ [y]))) := by
  unfold appendD; simp only [h]; rw [if_pos (by rw [sizeLine_eq]; omega)]
theorem popAt_of {n j : Nat} {i : Int} {xs : List D} {y : D} (h : s[n]? = some (.lst xs)) (hi : ixN xs.length i = some j) (hy : xs[j]? = some y) (hs : smallI i = true) : popAtD (.ref n) [.int i] s = some (y, s.set n (.lst (xs.eraseIdx j))) := by
  unfold popAtD; simp only [h, hi, hy, hs, if_true]
theorem small_nat {m : Nat} (h : m ≤ 100000) : smallI (m : Int) = true := by unfold smallI; rw [Nat.ble_eq]; omega
/-! ### signs -/
def insN (x : Nat) : List Nat → List Nat
  | [] => [x]
  | y :: l => if y < x then y :: insN x l else x :: y :: l
def sortN (l : List Nat) : List Nat := l.foldr insN []
theorem insN_perm (x : Nat) : ∀ l, (insN x l).Perm (x :: l)
  | [] => .refl _
  | y :: l => by
    unfold insN
    split
    · exact ((insN_perm x l).cons y).trans (.swap x y l)
    · exact .refl _
theorem sortN_perm : ∀ l : List Nat, (sortN l).Perm l
  | [] => .refl _
  | x :: l => (insN_perm x _).trans ((sortN_perm l).cons x)
theorem insN_up (x : Nat) : ∀ {l : List Nat}, l.Pairwise (· ≤ ·) → (insN x l).Pairwise (· ≤ ·)
  | [], _ => List.pairwise_singleton _ _
  | y :: l, h => by
    have hp := List.pairwise_cons.mp h
    unfold insN
    split
    · rename_i hy
      refine List.pairwise_cons.mpr ⟨fun z hz => ?_, insN_up x hp.2⟩
      rcases List.mem_cons.mp ((insN_perm x l).mem_iff.mp hz) with rfl | hz
      · omega
      · exact hp.1 z hz
    · refine List.pairwise_cons.mpr ⟨fun z hz => ?_, h⟩
      rcases List.mem_cons.mp hz with rfl | hz
      · omega
      · have := hp.1 z hz; omega
theorem sortN_up : ∀ l : List Nat, (sortN l).Pairwise (· ≤ ·)
  | [] => List.Pairwise.nil
  | x :: l => insN_up x (sortN_up l)
theorem sortN_lt {l : List Nat} (h : l.Nodup) : (sortN l).Pairwise (· < ·) := by
  have h1 := sortN_up l
  have h2 : (sortN l).Nodup := (sortN_perm l).nodup_iff.mpr h
  have := h1.and h2
  exact this.imp fun ⟨a, b⟩ => by omega
theorem ins_signs (x : Nat) : ∀ l : List Nat, insT (.str [x]) (signs l) = signs (insN x l)
  | [] => rfl
  | y :: l => by
    have ih := ins_signs x l
    simp only [signs, List.map_cons] at ih ⊢
    simp only [insT, insN]
    have e : ltT (.str [y]) (.str [x]) = decide (y < x) := by
      simp only [ltT]
      congr 1
      simp [List.cons_lt_cons_iff]
    rw [e]
    by_cases h : y < x
    · simp only [h, decide_true, if_true, List.map_cons]; rw [ih]
    · simp only [h, decide_false, if_false, List.map_cons, Bool.false_eq_true]
theorem sort_signs : ∀ l : List Nat, sortT (signs l) = signs (sortN l)
  | [] => rfl
  | x :: l => by
    show insT (.str [x]) (sortT (signs l)) = _
    rw [sort_signs l, ins_signs]; rfl
theorem okSort_signs (l : List Nat) : okSort (signs l) = true := by
  unfold okSort
  rw [Bool.and_eq_true]
  constructor
  · unfold signs
    induction l with
    | nil => rfl
    | cons x l ih => simp only [List.map_cons, okDs, okD, Bool.true_and]; exact ih
  · rw [List.all_eq_true]
    intro x hx
    obtain ⟨c, _, rfl⟩ := List.mem_map.mp hx
    rw [List.all_eq_true]
    intro y hy
    obtain ⟨d, _, rfl⟩ := List.mem_map.mp hy
    rfl
theorem texts_signs : ∀ l : List Nat, texts (signs l) = some (l.map fun c => [c])
  | [] => rfl
  | x :: l => by
    have := texts_signs l
    simp only [signs] at this
    simp [signs, texts, this]
theorem joinL_signs : ∀ l : List Nat, joinL [] (l.map fun c => [c]) = l
  | [] => rfl
  | [x] => rfl
  | x :: y :: l => by
    have ih := joinL_signs (y :: l)
    simp only [List.map_cons] at ih ⊢
    show [x] ++ [] ++ TL.joinL [] ([y] :: l.map fun c => [c]) = _
    have ih' : TL.joinL [] ([y] :: l.map fun c => [c]) = y :: l := ih
    rw [ih']; rfl
theorem sorted_of {n : Nat} {xs : List D} (h : lstAt s n = some xs) (ok : okSort xs = true) : sortedD [.ref n] s = some (.ref s.length, s ++ [.lst (sortT xs)]) := by
  unfold sortedD; simp only [h, ok, if_true]
theorem join_signs {n : Nat} {l : List Nat} (h : lstAt s n = some (signs l)) (hl : l.length ≤ 1000) : joinD (.str []) [.ref n] s = some (.str l, s) := by
  unfold joinD
  simp only [itemsT, h, texts_signs]
  rw [if_pos, joinL_signs]
  have : ((l.map fun c => [c]).map fun x : List Nat => x.length).sum = l.length := by
    clear h hl
    induction l with
    | nil => rfl
    | cons x l ih => simp only [List.map_cons, List.sum_cons, ih, List.length_cons, List.length_nil]; omega
  rw [this]; simp; omega

theorem listOf_str {z : List Nat} (h : z.length ≤ 100000) : TP.listOf [.str z] s = some (.ref s.length, s ++ [.lst (signs z)]) := by
  show (if z.length ≤ sizeLine then some (D.ref s.length, s ++ [Cell.lst (signs z)]) else none) = _
  rw [if_pos (sz h)]
theorem listOf_tup {xs : List D} : TP.listOf [.tup xs] s = some (.ref s.length, s ++ [.lst xs]) := rfl
theorem tupleOf_str {z : List Nat} (h : z.length ≤ 100000) : TP.tupleOf [.str z] s = some (.tup (signs z), s) := by
  show (if z.length ≤ sizeLine then some (D.tup (signs z), s) else none) = _
  rw [if_pos (sz h)]
theorem tupleOf_ref {n : Nat} {xs : List D} (h : lstAt s n = some xs) : TP.tupleOf [.ref n] s = some (.tup xs, s) := by
  show (match lstAt s n with | some xs => some (D.tup xs, s) | none => none) = _
  rw [h]
end
end TP
namespace TP
open PySem PySem.Spec PyProof.Rows L2
section
variable {env : Env} {s s1 : Sto} {f g h : Ev} {t u : EvB} {fs gs : EvA} {i j : Nat} {op op' : D → D → Sto → RV}
@[simp] theorem eChain_def : eChain op op' f g h env s = bind (f env s) fun x s1 => bind (g env s1) fun y s2 => bind (lift (op x y s2)) fun z s3 => match z with
  | .bl b => if b then bind (h env s3) fun w s4 => lift (op' y w s4) else some (.ok (.bl false), s3)
  | _ => none := by
  unfold eChain
  congr 1; funext x s1
  congr 1; funext y s2
  congr 1; funext z s3
  cases z <;> try rfl
  rename_i b; cases b <;> rfl
@[simp] theorem eSlot_def {F : List D → Sto → R D} {n : Nat} (hi : env[i]? = some (some (.f n F))) : eSlot i fs env s = bind (fs env s) fun xs s1 => match plain xs with
  | some ds => F ds s1
  | none => none := by
  unfold eSlot; simp only [hi]; all_goals rfl
@[simp] theorem aGlb_def {F : Fn} : aGlb F fs env s = bind (fs env s) fun xs s1 => some (.ok (.f 0 (fun ds s => F (ds.map TP.A.d) s) :: xs), s1) := rfl
@[simp] theorem aLam_def {n m : Nat} {js : List Nat} {b : Ev} : aLam n m js b env s = some (.ok [.f s.length (callL n m (capsOf js env) b)], s) := rfl
def finL : R Fl → R D
  | some (.ok (.rt d), s1) => some (.ok d, s1)
  | some (.error x, s1) => some (.error x, s1)
  | _ => none
@[simp] theorem finL_rt {d : D} : finL (some (.ok (.rt d), s)) = some (.ok d, s) := rfl
theorem callL_def {n m : Nat} {caps : List (Option TP.A)} {b : Ev} {ds : List D} (hm : ds.length = m) : callL n m caps b ds s = finL (trimS s (sRet b (ds.map (fun d => some (TP.A.d d)) ++ caps ++ List.replicate n none) s)) := by
  unfold callL finL; rw [if_pos hm]; all_goals rfl
@[simp] theorem oPart_none : oPart none env s = some (.ok none, s) := rfl
@[simp] theorem oPart_some : oPart (some f) env s = bind (f env s) fun x s1 => match x with
  | .int i => some (.ok (some i), s1)
  | _ => none := by unfold oPart; congr 1
@[simp] theorem eSlice_def {lo hi : Option Ev} : eSlice f lo hi env s = bind (f env s) fun x s1 => bind (oPart lo env s1) fun l s2 => bind (oPart hi env s2) fun h s3 => lift (sliceD x l h s3) := rfl
@[simp] theorem sliceD_tup {xs : List D} {lo hi : Option Int} : sliceD (.tup xs) lo hi s = some (.tup (cutL xs lo hi), s) := rfl
theorem sliceD_str {z : List Nat} {lo hi : Option Int} (h : z.length ≤ 100000) : sliceD (.str z) lo hi s = some (.str (cutL z lo hi), s) := by
  show (if z.length ≤ sizeLine then some (D.str (cutL z lo hi), s) else none) = _
  rw [if_pos (sz h)]
theorem cut_to {α : Type} {xs : List α} {n : Nat} (h : n ≤ xs.length) : cutL xs none (some (n : Int)) = xs.take n := by
  unfold cutL
  rw [show HT.sIx xs.length 0 none = 0 by simp [HT.sIx], show HT.sIx xs.length xs.length (some (n : Int)) = min n xs.length from HT.sIx_nat xs.length xs.length n]
  rw [Nat.min_eq_left h]; simp
@[simp] theorem iEnumD_def : iEnumD fs env s = bind (fs env s) fun xs s1 => match xs with
  | [.d x] => (match itemsOf x s1 with
    | some src => some (.ok ⟨enumD src.items, src.chk⟩, s1)
    | none => none)
  | _ => none := by
  unfold iEnumD; congr 1
@[simp] theorem itemsOf_tup {xs : List D} : itemsOf (.tup xs) s = some ⟨xs, fun _ => true⟩ := rfl
@[simp] theorem itemsOf_str {z : List Nat} : itemsOf (.str z) s = some ⟨z.map fun c => .str [c], fun _ => true⟩ := rfl
theorem itemsOf_ref {n : Nat} {xs : List D} (h : lstAt s n = some xs) : itemsOf (.ref n) s = some ⟨xs, isLst n xs⟩ := by
  show (lstAt s n).map _ = _; rw [h]; rfl
@[simp] theorem enumD_len {xs : List D} : (enumD xs).length = xs.length := by simp [enumD]
/-- a comprehension that changes nothing but its list -/
theorem lcL_pure {gx : EvX} {tt : EvB} {e : Ev} {vs : List Nat} {env0 : Env} {chk : Sto → Bool} {s0 : Sto} (val : D → Option D) : ∀ (xs : List D) (acc : List D), acc.length + xs.length ≤ 100000 → (∀ acc, chk (s0 ++ [.lst acc]) = true) →
    (∀ x ∈ xs, ∃ asg, gx x = some asg ∧ asg.all (fun p => vs.contains p.1) = true ∧ ∀ acc, tt (setsE env0 asg) (s0 ++ [.lst acc]) = some (.ok (val x).isSome, s0 ++ [.lst acc]) ∧ ∀ y, val x = some y → e (setsE env0 asg) (s0 ++ [.lst acc]) = some (.ok y, s0 ++ [.lst acc])) →
    lcL gx tt e vs env0 chk s0.length xs (s0 ++ [.lst acc]) = some (s0 ++ [.lst (acc ++ xs.filterMap val)])
  | [], acc, _, hc, _ => by simp only [lcL]; rw [if_pos (hc acc)]; simp
  | x :: xs, acc, hz, hc, hx => by
    obtain ⟨asg, h1, h2, h3⟩ := hx x (by simp)
    obtain ⟨h4, h5⟩ := h3 acc
    simp only [lcL]
    rw [if_pos (hc acc), h1]
    simp only [h2, if_true, h4]
    have hz' : acc.length + xs.length ≤ 100000 := by simp at hz; omega
    cases hv : val x with
    | none =>
      simp only [Option.isSome_none, Bool.false_eq_true, if_false, trim_same]
      rw [lcL_pure val xs acc hz' hc fun y hy => hx y (by simp [hy]), List.filterMap_cons_none hv]
    | some y =>
      simp only [Option.isSome_some, if_true, h5 y hv, trim_same]
      have hget : (s0 ++ [Cell.lst acc])[s0.length]? = some (.lst acc) := by simp
      have hlt : acc.length < sizeLine := by rw [sizeLine_eq]; simp at hz; omega
      simp only [hget]
      rw [if_pos hlt]
      have hset : (s0 ++ [Cell.lst acc]).set s0.length (.lst (acc ++ [y])) = s0 ++ [.lst (acc ++ [y])] := by simp
      rw [hset, lcL_pure val xs (acc ++ [y]) (by simp at hz ⊢; omega) hc fun y hy => hx y (by simp [hy]), List.filterMap_cons_some hv]
      simp
theorem eLc_pure {fi : EvI} {gx : EvX} {tt : EvB} {e : Ev} {vs : List Nat} {src : Src} (val : D → Option D) (h1 : fi env s = some (.ok src, s1)) (hz : src.items.length ≤ 100000) (hc : ∀ acc, src.chk (s1 ++ [.lst acc]) = true)
    (hx : ∀ x ∈ src.items, ∃ asg, gx x = some asg ∧ asg.all (fun p => vs.contains p.1) = true ∧ ∀ acc, tt (setsE (maskE vs env) asg) (s1 ++ [.lst acc]) = some (.ok (val x).isSome, s1 ++ [.lst acc]) ∧ ∀ y, val x = some y → e (setsE (maskE vs env) asg) (s1 ++ [.lst acc]) = some (.ok y, s1 ++ [.lst acc])) :
    eLc fi gx tt e vs env s = some (.ok (.ref s1.length), s1 ++ [.lst (src.items.filterMap val)]) := by
  unfold eLc
  rw [h1, bind_ok, lcL_pure val src.items [] (by simpa using hz) hc hx]
  rfl
theorem all_true {n : Nat} {xs : List D} (h : lstAt s n = some xs) (ht : ∀ x ∈ xs, x = .bl true) : allD false [.ref n] s = some (.bl true, s) := by
  have hb : ∀ {xs : List D}, (∀ x ∈ xs, x = D.bl true) → ∃ bs, bools xs = some bs ∧ bs.all id = true := by
    intro xs
    induction xs with
    | nil => exact fun _ => ⟨[], rfl, rfl⟩
    | cons x l ih =>
      intro hx
      obtain ⟨bs, h1, h2⟩ := ih fun y hy => hx y (by simp [hy])
      have := hx x (by simp); subst this
      exact ⟨true :: bs, by simp only [bools, h1]; rfl, by simp; simpa using h2⟩
  obtain ⟨bs, h1, h2⟩ := hb ht
  unfold allD
  simp only [h, h1, h2, Bool.false_eq_true, if_false]
theorem eq_nil {xs : List D} : eqOp (.tup xs) (.tup []) s = some (.bl xs.isEmpty, s) := by
  cases xs <;> rfl
theorem eq_lists {i j : Nat} {xs ys : List D} (hi : lstAt s i = some xs) (hj : lstAt s j = some ys) (h : ys = []) (hx : xs = []) : eqOp (.ref i) (.ref j) s = some (.bl true, s) := by
  subst h; subst hx
  have e : eqD s maxN (.ref i) (.ref j) = some true := by
    show (match lstAt s i, lstAt s j with
      | some xs, some ys => if i = j then some true else if xs.length = ys.length then eqL (eqD s 59) xs ys else some false
      | _, _ => none) = _
    rw [hi, hj]
    by_cases h : i = j <;> simp [h, eqL]
  unfold eqOp; rw [e]; rfl
theorem ne_lists {i j : Nat} {xs ys : List D} (hi : lstAt s i = some xs) (hj : lstAt s j = some ys) (h : ys = []) (hx : xs = []) : neOp (.ref i) (.ref j) s = some (.bl false, s) := by
  subst h; subst hx
  have e : eqD s maxN (.ref i) (.ref j) = some true := by
    show (match lstAt s i, lstAt s j with
      | some xs, some ys => if i = j then some true else if xs.length = ys.length then eqL (eqD s 59) xs ys else some false
      | _, _ => none) = _
    rw [hi, hj]
    by_cases h : i = j <;> simp [h, eqL]
  unfold neOp; rw [e]; rfl
end
end TP
namespace TP
@[simp] theorem eNeg_def {env : Env} {s : Sto} {f : Ev} : eNeg f env s = bind (f env s) fun x s1 => lift (negD x s1) := rfl
@[simp] theorem negD_int {s : Sto} {i : Int} : negD (.int i) s = some (.int (-i), s) := rfl
theorem snoc_get {s : Sto} {c : Cell} : (s ++ [c])[s.length]? = some c := by simp
theorem one_lt {a b : Nat} (h : a < b) : ([a] : List Nat) < [b] := by simp [List.cons_lt_cons_iff, h]
end TP
namespace TP
/-! ### == of such data; what _law_same is told -/
mutual
theorem eqD_dec {s : Sto} : ∀ (n : Nat) (a b : D), okD n a = true → okD n b = true → eqD s (n + 1) a b = some (decide (a = b))
  | n, .int i, .int j, _, _ => by simp only [eqD]; by_cases h : i = j <;> simp [h]
  | n, .str i, .str j, _, _ => by simp only [eqD]; by_cases h : i = j <;> simp [h]
  | n, .int i, .str j, _, _ => by simp only [eqD]; simp
  | n, .str i, .int j, _, _ => by simp only [eqD]; simp
  | n, .int i, .tup j, _, _ => by simp only [eqD]; simp
  | n, .str i, .tup j, _, _ => by simp only [eqD]; simp
  | n + 1, .tup j, .int i, _, _ => by simp only [eqD]; simp
  | n + 1, .tup j, .str i, _, _ => by simp only [eqD]; simp
  | n + 1, .tup xs, .tup ys, h1, h2 => by
    show eqL (eqD s (n + 1)) xs ys = _
    rw [eqL_dec n xs ys (by simpa [okD] using h1) (by simpa [okD] using h2)]
    by_cases h : xs = ys <;> simp [h]
  | 0, .tup _, _, h, _ => by simp [okD] at h
  | n, .non, _, h, _ => by cases n <;> simp [okD] at h
  | n, .bl _, _, h, _ => by cases n <;> simp [okD] at h
  | n, .ref _, _, h, _ => by cases n <;> simp [okD] at h
  | n, _, .non, _, h => by cases n <;> simp [okD] at h
  | n, _, .bl _, _, h => by cases n <;> simp [okD] at h
  | n, _, .ref _, _, h => by cases n <;> simp [okD] at h
theorem eqL_dec {s : Sto} : ∀ (n : Nat) (a b : List D), okDs n a = true → okDs n b = true → eqL (eqD s (n + 1)) a b = some (decide (a = b))
  | _, [], [], _, _ => rfl
  | _, [], _ :: _, _, _ => by simp [eqL]
  | _, _ :: _, [], _, _ => by simp [eqL]
  | n, x :: xs, y :: ys, h1, h2 => by
    simp only [okDs, Bool.and_eq_true] at h1 h2
    simp only [eqL, eqD_dec n x y h1.1 h2.1, eqL_dec n xs ys h1.2 h2.2]
    by_cases e1 : x = y <;> by_cases e2 : xs = ys <;> simp [e1, e2]
end
theorem eqOp_dec {s : Sto} {a b : D} (h1 : okD 59 a = true) (h2 : okD 59 b = true) : eqOp a b s = some (.bl (decide (a = b)), s) := by
  unfold eqOp
  rw [show eqD s maxN a b = some (decide (a = b)) from eqD_dec 59 a b h1 h2]; rfl
mutual
/-- data: depth below n -/
def okS : Nat → D → Bool
  | 0, _ => false
  | n + 1, .tup xs => okSs n xs && decide (xs.length ≤ 1000)
  | _ + 1, .ref _ => false
  | _ + 1, _ => true
def okSs : Nat → List D → Bool
  | _, [] => true
  | n, x :: xs => okS n x && okSs n xs
end
theorem okSs_get : ∀ {n : Nat} {xs : List D} {j : Nat} {x : D}, okSs n xs = true → xs[j]? = some x → okS n x = true
  | _, [], _, _, _, h => by simp at h
  | _, a :: xs, 0, _, h, h1 => by simp at h1; subst h1; simp [okSs] at h; exact h.1
  | _, a :: xs, j + 1, _, h, h1 => by simp [okSs] at h; exact okSs_get h.2 (by simpa using h1)
end TP
/-! What each def of the law computes, as combinators (printed by gen.py). -/
namespace K01
open TP
open PySem PySem.Spec PyProof.Rows L2 LamX
def c_is_whole : EvS := (sRet (eAnd (eIsTy "int" (eVar 0)) (eNot (eIsTy "bool" (eVar 0)))))
def f_is_whole : Fn := callF 1 1 c_is_whole
def c_is_between : EvS := (sRet (eAnd (eCall f_is_whole (aCons (eVar 0) aNil)) (eChain leI leI (eVar 1) (eVar 0) (eVar 2))))
def f_is_between : Fn := callF 3 3 c_is_between
def c_is_up_to : EvS := (sRet (eCall f_is_between (aCons (eVar 0) (aCons (eC (.int 0)) (aCons (eVar 1) aNil)))))
def f_is_up_to : Fn := callF 2 2 c_is_up_to
def c_is_one_of : EvS := (sRet (eAnd (eIsTy "str" (eVar 0)) (eOp (inD false) (eVar 0) (eVar 1))))
def f_is_one_of : Fn := callF 2 2 c_is_one_of
def c_is_tuple_of : EvS := (sRet (eAnd (eIsTy "tuple" (eVar 0)) (eOp eqOp (eFn lenD (aCons (eVar 0) aNil)) (eVar 1))))
def f_is_tuple_of : Fn := callF 2 2 c_is_tuple_of
def c_wrong_in : EvS := (sSeq (sIf (bOr (bNot (bOf (eIsTy "tuple" (eVar 0)))) (bOf (eOp ltD (eFn lenD (aCons (eVar 0) aNil)) (eVar 1)))) (sRet (eFn mkLst (aCons (eC .non) aNil))) sNext) (sSeq (sFor (iEnumD (aCons (eVar 0) aNil)) (gTupD 2 (gsCons (gSet 4) (gsCons (gSet 5) gsNil))) (sIf (bOr (bOf (eOp eqOp (eVar 4) (eVar 2))) (bNot (bOf (eSlot 3 (aCons (eSlice (eVar 0) none (some (eVar 4))) (aCons (eVar 5) aNil)))))) (sRet (eFn mkLst (aCons (eVar 4) aNil))) sNext)) (sRet (eFn mkLst aNil))))
def f_wrong_in : Fn := callF 6 4 c_wrong_in
def c_are_all : EvS := (sRet (eOp eqOp (eCall f_wrong_in (aCons (eVar 0) (aCons (eVar 1) (aCons (eVar 2) (aLam 0 2 [3] (eSlot 2 (aCons (eVar 1) aNil))))))) (eFn mkLst aNil)))
def f_are_all : Fn := callF 4 4 c_are_all
def c_are_below : EvS := (sRet (eOr (eOp eqOp (eVar 0) (eFn mkTup aNil)) (eOp ltD (eOp ixD (eVar 0) (eNeg (eC (.int 1)))) (eVar 1))))
def f_are_below : Fn := callF 2 2 c_are_below
def c_are_letters : EvS := (sSeq (sIf (bOr (bNot (bOf (eIsTy "str" (eVar 0)))) (bNot (bOf (eChain leI leI (eC (.int 1)) (eFn lenD (aCons (eVar 0) aNil)) (eC (.int 4)))))) (sRet (eC (.bl false))) sNext) (sRet (eFn (allD false) (aCons (eLc (iEnumD (aCons (eVar 0) aNil)) (xTup 2 (xsCons (xName 1) (xsCons (xName 2) xsNil))) bYes (eAnd (eOp (inD false) (eVar 2) (eC (.str [97, 98, 99, 100, 101, 102, 103, 104, 105, 106, 107, 108, 109, 110, 111, 112, 113, 114, 115, 116, 117, 118, 119, 120, 121, 122]))) (eCall f_are_below (aCons (eFn tupleOf (aCons (eSlice (eVar 0) none (some (eVar 1))) aNil)) (aCons (eVar 2) aNil)))) [1, 2]) aNil))))
def f_are_letters : Fn := callF 3 1 c_are_letters
def c_is_print : EvS := (sRet (eAnd (eIsTy "str" (eVar 1)) (eAnd (eChain leI leI (eC (.int 1)) (eFn lenD (aCons (eVar 1) aNil)) (eC (.int 3))) (eFn (allD false) (aCons (eLc (iAny (eVar 1)) (xName 2) bYes (eOp (inD false) (eVar 2) (eVar 0)) [2]) aNil)))))
def f_is_print : Fn := callF 3 2 c_is_print
def c_is_rule_cell : EvS := (sRet (eCall f_is_between (aCons (eVar 0) (aCons (eOp addD (eC (.int 0)) (eC (.int 1))) (aCons (eOp subD (eC (.int 63)) (eC (.int 1))) aNil)))))
def f_is_rule_cell : Fn := callF 1 1 c_is_rule_cell
def c_is_rule : EvS := (sSeq (sIf (bOr (bNot (bOf (eCall f_is_tuple_of (aCons (eVar 1) (aCons (eC (.int 3)) aNil))))) (bOr (bNot (bOf (eCall f_is_print (aCons (eVar 0) (aCons (eOp ixD (eVar 1) (eC (.int 0))) aNil))))) (bNot (bOf (eCall f_is_one_of (aCons (eOp ixD (eVar 1) (eC (.int 1))) (aCons (eFn listOf (aCons (eC (.tup [(.str [97, 110, 121]), (.str [98, 101, 103, 105, 110]), (.str [101, 110, 100]), (.str [109, 105, 100, 100, 108, 101]), (.str [119, 104, 111, 108, 101])])) aNil)) aNil))))))) (sRet (eC (.bl false))) sNext) (sRet (eCall f_are_all (aCons (eOp ixD (eVar 1) (eC (.int 2))) (aCons (eC (.int 1)) (aCons (eC (.int 3)) (aGlb f_is_rule_cell aNil)))))))
def f_is_rule : Fn := callF 2 2 c_is_rule
def c_is_behind : EvS := (sRet (eAnd (eCall f_are_below (aCons (eVar 0) (aCons (eVar 1) aNil))) (eOr (eOp eqOp (eVar 0) (eFn mkTup aNil)) (eOp neOp (eSlice (eOp ixD (eVar 0) (eNeg (eC (.int 1)))) none (some (eC (.int 2)))) (eSlice (eVar 1) none (some (eC (.int 2))))))))
def f_is_behind : Fn := callF 2 2 c_is_behind
def c_wrong_in_rules : EvS := (sSeq (sAsg (eCall f_wrong_in (aCons (eVar 1) (aCons (eC (.int 0)) (aCons (eC (.int 16)) (aLam 0 2 [0] (eAnd (eCall f_is_rule (aCons (eVar 2) (aCons (eVar 1) aNil))) (eCall f_is_behind (aCons (eVar 0) (aCons (eVar 1) aNil))))))))) (gSet 2)) (sSeq (sIf (bOf (eOp neOp (eVar 2) (eFn mkLst aNil))) (sRet (eVar 2)) sNext) (sSeq (sTrim (sAsg (eLc (iAny (eVar 1)) (xName 4) (bOf (eOp eqOp (eOp ixD (eVar 4) (eC (.int 1))) (eC (.str [97, 110, 121])))) (eOp ixD (eVar 4) (eC (.int 0))) [4]) (gSet 3))) (sRet (eIf (bOf (eOp neOp (eLc (iAny (eVar 0)) (xName 5) (bOf (eOp (inD true) (eVar 5) (eVar 3))) (eVar 5) [5]) (eFn mkLst aNil))) (eFn mkLst (aCons (eC .non) aNil)) (eFn mkLst aNil))))))
def f_wrong_in_rules : Fn := callF 6 2 c_wrong_in_rules
def c_Book___init__ : EvS := (sSeq (sIf (bNot (bOf (eCall f_is_up_to (aCons (eVar 1) (aCons (eC (.int 250)) aNil))))) sNever sNext) (sSeq (sIf (bNot (bOf (eCall f_is_between (aCons (eVar 2) (aCons (eC (.int 4)) (aCons (eC (.int 16)) aNil)))))) sNever sNext) (sSeq (sIf (bNot (bOf (eCall f_are_letters (aCons (eVar 3) aNil)))) sNever sNext) (sSeq (sFor (iAny (eCall f_wrong_in_rules (aCons (eVar 3) (aCons (eVar 4) aNil)))) (gSet 5) sNever) (sFldD [66, 111, 111, 107] [97, 108, 108, 95, 116, 111, 108, 100] (eVar 0) (eFn mkTup (aCons (eVar 1) (aCons (eVar 2) (aCons (eVar 3) (aCons (eVar 4) aNil))))))))))
def f_Book___init__ : Fn := callF 6 5 c_Book___init__
def c_Book_edition : EvS := (sRet (eOp ixD (eAttr [([66, 111, 111, 107], .fld)] [97, 108, 108, 95, 116, 111, 108, 100] (eVar 0)) (eC (.int 0))))
def f_Book_edition : Fn := callF 1 1 c_Book_edition
def c_Book_width : EvS := (sRet (eOp ixD (eAttr [([66, 111, 111, 107], .fld)] [97, 108, 108, 95, 116, 111, 108, 100] (eVar 0)) (eC (.int 1))))
def f_Book_width : Fn := callF 1 1 c_Book_width
def c_Book_letters : EvS := (sRet (eOp ixD (eAttr [([66, 111, 111, 107], .fld)] [97, 108, 108, 95, 116, 111, 108, 100] (eVar 0)) (eC (.int 2))))
def f_Book_letters : Fn := callF 1 1 c_Book_letters
def c_Book_rules : EvS := (sRet (eOp ixD (eAttr [([66, 111, 111, 107], .fld)] [97, 108, 108, 95, 116, 111, 108, 100] (eVar 0)) (eC (.int 3))))
def f_Book_rules : Fn := callF 1 1 c_Book_rules
def c_Book_parts : EvS := (sRet (eAttr [([66, 111, 111, 107], .fld)] [97, 108, 108, 95, 116, 111, 108, 100] (eVar 0)))
def f_Book_parts : Fn := callF 1 1 c_Book_parts
def c_Book___eq__ : EvS := (sRet (eAnd (eIsC [("NoneType", false), ("bool", false), ("int", false), ("str", false), ("tuple", false), ("list", false)] [([66, 111, 111, 107], true)] (eVar 1)) (eOp eqOp (eAttr [([66, 111, 111, 107], .prop f_Book_parts)] [112, 97, 114, 116, 115] (eVar 0)) (eAttr [([66, 111, 111, 107], .prop f_Book_parts)] [112, 97, 114, 116, 115] (eVar 1)))))
def f_Book___eq__ : Fn := callF 2 2 c_Book___eq__
def c__law_bowl : EvS := (sSeq (sAsg (eOp addD (eC (.int 771041)) (eOp mulI (eC (.int 8819)) (eVar 1))) (gSet 2)) (sSeq (sFor (iAny (eSlice (eVar 0) none (some (eC (.int 9))))) (gSet 3) (sAsg (eOp modD (eFn intOf (aCons (eOp addD (eOp addD (eOp mulI (eVar 2) (eC (.int 48611))) (eOp mulI (eOp modD (eFn intOf (aCons (eVar 3) aNil)) (eC (.int 2147483053))) (eC (.int 19)))) (eC (.int 41))) aNil)) (eC (.int 2147483563))) (gSet 2))) (sSeq (sAsg (eIf (bOf (eOp ltD (eVar 1) (eFn lenD (aCons (eVar 0) aNil)))) (eFn intOf (aCons (eOp ixD (eVar 0) (eVar 1)) aNil)) (eC (.int 0))) (gSet 4)) (sSeq (sAsg (eOp modD (eFn intOf (aCons (eOp addD (eOp addD (eOp mulI (eVar 2) (eC (.int 53))) (eOp mulI (eOp modD (eVar 4) (eC (.int 2147483053))) (eC (.int 27011)))) (eC (.int 11))) aNil)) (eC (.int 2147483563))) (gSet 2)) (sRet (eFn mkLst (aCons (eIf (bOr (bOf (eOp ltD (eVar 4) (eC (.int 0)))) (bOf (eOp geI (eVar 4) (eOp powD (eC (.int 10)) (eC (.int 16)))))) (eFn absD (aCons (eVar 4) aNil)) (eC (.int 0))) (aCons (eVar 2) (aCons (eC (.int 0)) aNil)))))))))
def f__law_bowl : Fn := callF 5 2 c__law_bowl
def c__law_draw : EvS := (sSeq (sIf (bOf (eOp gtI (eOp ixD (eVar 0) (eC (.int 0))) (eC (.int 0)))) (sSeq (sAsg (eFn divmodD (aCons (eOp ixD (eVar 0) (eC (.int 0))) (aCons (eVar 1) aNil))) (gTupD 2 (gsCons (gSubD (eVar 0) (eC (.int 0))) (gsCons (gSet 2) gsNil)))) (sRet (eVar 2))) sNext) (sSeq (sAsg (eOp addD (eOp ixD (eVar 0) (eC (.int 2))) (eC (.int 1))) (gSubD (eVar 0) (eC (.int 2)))) (sSeq (sAsg (eOp modD (eFn intOf (aCons (eOp addD (eOp mulI (eOp ixD (eVar 0) (eC (.int 1))) (eC (.int 39373))) (eOp mulI (eC (.int 17011)) (eOp ixD (eVar 0) (eC (.int 2))))) aNil)) (eC (.int 2147483563))) (gSet 3)) (sSeq (sAsg (eOp modD (eFn intOf (aCons (eOp addD (eOp mulI (eVar 3) (eOp addD (eOp modD (eFn intOf (aCons (eVar 3) aNil)) (eC (.int 4093))) (eC (.int 30011)))) (eOp mulI (eC (.int 7)) (eOp ixD (eVar 0) (eC (.int 2))))) aNil)) (eC (.int 2147483563))) (gSubD (eVar 0) (eC (.int 1)))) (sRet (eOp modD (eFn intOf (aCons (eOp fdivD (eOp ixD (eVar 0) (eC (.int 1))) (eC (.int 733))) aNil)) (eVar 1)))))))
def f__law_draw : Fn := callF 4 2 c__law_draw
def c__law_of : EvS := (sRet (eOp ixD (eVar 1) (eCall f__law_draw (aCons (eVar 0) (aCons (eFn lenD (aCons (eVar 1) aNil)) aNil)))))
def f__law_of : Fn := callF 2 2 c__law_of
def c__law_same (self : Fn) : EvS := (sSeq (sIf (bOf (eIsTy "tuple" (eVar 1))) (sSeq (sIf (bOr (bNot (bOf (eIsTy "tuple" (eVar 0)))) (bOf (eOp neOp (eFn lenD (aCons (eVar 0) aNil)) (eFn lenD (aCons (eVar 1) aNil))))) (sRet (eC (.bl false))) sNext) (sRet (eFn (allD false) (aCons (eLc (iRange1 (aCons (eFn lenD (aCons (eVar 1) aNil)) aNil)) (xName 2) bYes (eCall self (aCons (eOp ixD (eVar 0) (eVar 2)) (aCons (eOp ixD (eVar 1) (eVar 2)) aNil))) [2]) aNil)))) sNext) (sSeq (sIf (bOf (eOp (isNon false) (eVar 1) (eC .non))) (sRet (eOp (isNon false) (eVar 0) (eC .non))) sNext) (sSeq (sIf (bOf (eIsTy "bool" (eVar 1))) (sRet (eAnd (eIsTy "bool" (eVar 0)) (eOp eqOp (eVar 0) (eVar 1)))) sNext) (sSeq (sIf (bOf (eIsTy "int" (eVar 1))) (sRet (eAnd (eIsTy "int" (eVar 0)) (eAnd (eNot (eIsTy "bool" (eVar 0))) (eOp eqOp (eVar 0) (eVar 1))))) sNext) (sSeq (sIf (bOf (eIsTy "str" (eVar 1))) (sRet (eAnd (eIsTy "str" (eVar 0)) (eOp eqOp (eVar 0) (eVar 1)))) sNext) (sRet (eOp eqOp (eVar 0) (eVar 1))))))))
def f__law_same : Nat → Fn
  | 0 => fun _ _ => none
  | n + 1 => callF 3 2 (c__law_same (f__law_same n))
def c__law_cells : EvS := (sRet (eFn tupleOf (aCons (eLc (iRange1 (aCons (eCall f__law_of (aCons (eVar 0) (aCons (eFn mkTup (aCons (eC (.int 1)) (aCons (eC (.int 1)) (aCons (eC (.int 1)) (aCons (eC (.int 2)) (aCons (eC (.int 3)) aNil)))))) aNil))) aNil)) (xName 2) bYes (eOp addD (eC (.int 1)) (eCall f__law_draw (aCons (eVar 0) (aCons (eVar 1) aNil)))) [2]) aNil)))
def f__law_cells : Fn := callF 3 2 c__law_cells
def c__law_print : EvS := (sSeq (sAsg (eC (.str [])) (gSet 2)) (sSeq (sFor (iRange1 (aCons (eCall f__law_of (aCons (eVar 0) (aCons (eFn mkTup (aCons (eC (.int 1)) (aCons (eC (.int 2)) (aCons (eC (.int 2)) (aCons (eC (.int 3)) aNil))))) aNil))) aNil)) (gSet 3) (sAsg (eOp addD (eVar 2) (eCall f__law_of (aCons (eVar 0) (aCons (eVar 1) aNil)))) (gSet 2))) (sRet (eVar 2))))
def f__law_print : Fn := callF 4 2 c__law_print
def c__law_letters : EvS := (sSeq (sTrim (sPar2 2 3 (aCons (eFn listOf (aCons (eC (.str [97, 98, 99, 100, 101, 102, 103, 104, 105, 106, 107, 108, 109, 110, 111, 112, 113, 114, 115, 116, 117, 118, 119, 120, 121, 122])) aNil)) (aCons (eFn mkLst aNil) aNil)))) (sSeq (sIf (bOf (eOp gtI (eCall f__law_draw (aCons (eVar 0) (aCons (eC (.int 3)) aNil))) (eC (.int 0)))) (sTrim (sAsg (eFn listOf (aCons (eC (.str [97, 98, 99, 100])) aNil)) (gSet 2))) sNext) (sSeq (sFor (iRange1 (aCons (eOp addD (eC (.int 1)) (eCall f__law_draw (aCons (eVar 0) (aCons (eVar 1) aNil)))) aNil)) (gSet 4) (sExpr (eMeth "list" appendD (eVar 3) (aCons (eMeth "list" popAtD (eVar 2) (aCons (eCall f__law_draw (aCons (eVar 0) (aCons (eFn lenD (aCons (eVar 2) aNil)) aNil))) aNil)) aNil)))) (sRet (eMeth "str" joinD (eC (.str [])) (aCons (eFn sortedD (aCons (eVar 3) aNil)) aNil))))))
def f__law_letters : Fn := callF 5 2 c__law_letters
def c__law_book : EvS := (sSeq (sTrim (sAsg (eFn mkTup (aCons (eCall f__law_letters (aCons (eVar 0) (aCons (eVar 1) aNil))) (aCons (eCall f__law_of (aCons (eVar 0) (aCons (eFn mkTup (aCons (eC (.int 2)) (aCons (eC (.int 3)) (aCons (eC (.int 5)) (aCons (eC (.int 62)) aNil))))) aNil))) (aCons (eFn mkLst aNil) (aCons (eFn mkLst aNil) aNil))))) (gTupD 4 (gsCons (gSet 3) (gsCons (gSet 4) (gsCons (gSet 5) (gsCons (gSet 6) gsNil))))))) (sSeq (sFor (iAny (eVar 3)) (gSet 7) (sSeq (sExpr (eMeth "list" appendD (eVar 5) (aCons (eFn mkTup (aCons (eVar 7) (aCons (eC (.str [97, 110, 121])) (aCons (eCall f__law_cells (aCons (eVar 0) (aCons (eVar 4) aNil))) aNil)))) aNil))) (sExpr (eMeth "list" appendD (eVar 6) (aCons (eFn mkTup (aCons (eVar 7) (aCons (eC (.str [97, 110, 121])) aNil))) aNil))))) (sSeq (sFor (iRange1 (aCons (eCall f__law_draw (aCons (eVar 0) (aCons (eOp addD (eVar 2) (eC (.int 1))) aNil))) aNil)) (gSet 8) (sSeq (sAsg (eFn mkTup (aCons (eCall f__law_print (aCons (eVar 0) (aCons (eVar 3) aNil))) (aCons (eCall f__law_of (aCons (eVar 0) (aCons (eFn mkTup (aCons (eC (.str [97, 110, 121])) (aCons (eC (.str [97, 110, 121])) (aCons (eC (.str [98, 101, 103, 105, 110])) (aCons (eC (.str [101, 110, 100])) (aCons (eC (.str [109, 105, 100, 100, 108, 101])) (aCons (eC (.str [119, 104, 111, 108, 101])) aNil))))))) aNil))) aNil))) (gSet 9)) (sIf (bAnd (bOf (eOp (inD true) (eVar 9) (eVar 6))) (bOf (eOp ltD (eFn lenD (aCons (eVar 5) aNil)) (eC (.int 16))))) (sSeq (sExpr (eMeth "list" appendD (eVar 5) (aCons (eOp addD (eVar 9) (eFn mkTup (aCons (eCall f__law_cells (aCons (eVar 0) (aCons (eVar 4) aNil))) aNil))) aNil))) (sExpr (eMeth "list" appendD (eVar 6) (aCons (eVar 9) aNil)))) sNext))) (sRet (eFn mkTup (aCons (eCall f__law_draw (aCons (eVar 0) (aCons (eC (.int 251)) aNil))) (aCons (eOp addD (eC (.int 4)) (eCall f__law_draw (aCons (eVar 0) (aCons (eC (.int 13)) aNil)))) (aCons (eVar 3) (aCons (eFn tupleOf (aCons (eFn sortedD (aCons (eVar 5) aNil)) aNil)) aNil)))))))))
def f__law_book : Fn := callF 10 3 c__law_book
def c__law_made : EvS := (sRet (eMake [66, 111, 111, 107] 4 f_Book___init__ (aCons (eOp ixD (eVar 0) (eC (.int 0))) (aCons (eOp ixD (eVar 0) (eC (.int 1))) (aCons (eOp ixD (eVar 0) (eC (.int 2))) (aCons (eOp ixD (eVar 0) (eC (.int 3))) aNil))))))
def f__law_made : Fn := callF 1 1 c__law_made
def c__law_right : EvS := (sSeq (sFor (iRange1 (aCons (eC (.int 8)) aNil)) (gSet 1) (sSeq (sPar2 2 3 (aCons (eCall f__law_book (aCons (eVar 0) (aCons (eC (.int 4)) (aCons (eC (.int 9)) aNil)))) (aCons (eCall f__law_book (aCons (eVar 0) (aCons (eC (.int 1)) (aCons (eC (.int 0)) aNil)))) aNil))) (sSeq (sAsg (eKw0 (opMakeK [66, 111, 111, 107] 0 4 f_Book___init__ [3, 2, 1, 0]) (aCons (eOp ixD (eVar 2) (eC (.int 3))) (aCons (eOp ixD (eVar 2) (eC (.int 2))) (aCons (eOp ixD (eVar 2) (eC (.int 1))) (aCons (eOp ixD (eVar 2) (eC (.int 0))) aNil))))) (gSet 4)) (sSeq (sIf (bNot (bOf (eCall (f__law_same 9) (aCons (eFn mkTup (aCons (eAttr [([66, 111, 111, 107], .prop f_Book_edition)] [101, 100, 105, 116, 105, 111, 110] (eVar 4)) (aCons (eAttr [([66, 111, 111, 107], .prop f_Book_width)] [119, 105, 100, 116, 104] (eVar 4)) (aCons (eAttr [([66, 111, 111, 107], .prop f_Book_letters)] [108, 101, 116, 116, 101, 114, 115] (eVar 4)) (aCons (eAttr [([66, 111, 111, 107], .prop f_Book_rules)] [114, 117, 108, 101, 115] (eVar 4)) (aCons (eAttr [([66, 111, 111, 107], .prop f_Book_parts)] [112, 97, 114, 116, 115] (eVar 4)) aNil)))))) (aCons (eOp addD (eVar 2) (eFn mkTup (aCons (eVar 2) aNil))) aNil))))) (sRet (eC (.bl false))) sNext) (sSeq (sIf (bNot (bOf (eCall (f__law_same 9) (aCons (eFn mkTup (aCons (eOp (orOp eqOp (eqI false [([66, 111, 111, 107], f_Book___eq__)] ["NoneType", "bool", "int", "str", "tuple", "list"] [[66, 111, 111, 107]])) (eVar 4) (eCall f__law_made (aCons (eVar 2) aNil))) (aCons (eOp (orOp eqOp (eqI false [([66, 111, 111, 107], f_Book___eq__)] ["NoneType", "bool", "int", "str", "tuple", "list"] [[66, 111, 111, 107]])) (eVar 4) (eCall f__law_made (aCons (eVar 3) aNil))) (aCons (eOp (orOp eqOp (eqI false [([66, 111, 111, 107], f_Book___eq__)] ["NoneType", "bool", "int", "str", "tuple", "list"] [[66, 111, 111, 107]])) (eVar 4) (eVar 2)) (aCons (eOp (orOp neOp (eqI true [([66, 111, 111, 107], f_Book___eq__)] ["NoneType", "bool", "int", "str", "tuple", "list"] [[66, 111, 111, 107]])) (eVar 4) (eCall f__law_made (aCons (eVar 2) aNil))) aNil))))) (aCons (eFn mkTup (aCons (eC (.bl true)) (aCons (eOp (orOp eqOp (eqI false [([66, 111, 111, 107], f_Book___eq__)] ["NoneType", "bool", "int", "str", "tuple", "list"] [[66, 111, 111, 107]])) (eVar 2) (eVar 3)) (aCons (eC (.bl false)) (aCons (eC (.bl false)) aNil))))) aNil))))) (sRet (eC (.bl false))) sNext) (sIf (bOr (bOf (eOp (orOp eqOp (eqI false [([66, 111, 111, 107], f_Book___eq__)] ["NoneType", "bool", "int", "str", "tuple", "list"] [[66, 111, 111, 107]])) (eVar 4) (eMake [66, 111, 111, 107] 4 f_Book___init__ (aCons (eIf (bOf (eOp ltD (eOp ixD (eVar 2) (eC (.int 0))) (eC (.int 250)))) (eOp addD (eOp ixD (eVar 2) (eC (.int 0))) (eC (.int 1))) (eC (.int 0))) (aCons (eOp ixD (eVar 2) (eC (.int 1))) (aCons (eOp ixD (eVar 2) (eC (.int 2))) (aCons (eOp ixD (eVar 2) (eC (.int 3))) aNil))))))) (bOf (eOp (orOp eqOp (eqI false [([66, 111, 111, 107], f_Book___eq__)] ["NoneType", "bool", "int", "str", "tuple", "list"] [[66, 111, 111, 107]])) (eVar 4) (eMake [66, 111, 111, 107] 4 f_Book___init__ (aCons (eOp ixD (eVar 2) (eC (.int 0))) (aCons (eIf (bOf (eOp ltD (eOp ixD (eVar 2) (eC (.int 1))) (eC (.int 16)))) (eOp addD (eOp ixD (eVar 2) (eC (.int 1))) (eC (.int 1))) (eC (.int 4))) (aCons (eOp ixD (eVar 2) (eC (.int 2))) (aCons (eOp ixD (eVar 2) (eC (.int 3))) aNil)))))))) (sRet (eC (.bl false))) sNext)))))) (sRet (eC (.bl true))))
def f__law_right : Fn := callF 5 1 c__law_right
def c_law : EvS := (sRet (eFn (allD false) (aCons (eLc (iRange1 (aCons (eFn max2D (aCons (eC (.int 1)) (aCons (eFn min2D (aCons (eFn lenD (aCons (eVar 0) aNil)) (aCons (eC (.int 3)) aNil))) aNil))) aNil)) (xName 1) bYes (eCall f__law_right (aCons (eCall f__law_bowl (aCons (eVar 0) (aCons (eVar 1) aNil))) aNil)) [1]) aNil)))
def f_law : Fn := callF 2 1 c_law
end K01
namespace K01
open TP
theorem ix3 {s : Sto} {b : Nat} {p q r : D} (h : s[b]? = some (.lst [p, q, r])) : ixD (.ref b) (.int 0) s = some (p, s) ∧ ixD (.ref b) (.int 1) s = some (q, s) ∧ ixD (.ref b) (.int 2) s = some (r, s) := by
  have l := lstAt_lst h
  exact ⟨ixD_ref l (j := 0) (by rfl) rfl, ixD_ref l (j := 1) (by rfl) rfl, ixD_ref l (j := 2) (by rfl) rfl⟩
theorem st3 {s : Sto} {b : Nat} {p q r v : D} (h : s[b]? = some (.lst [p, q, r])) : setD (.ref b) (.int 0) v s = some (s.set b (.lst [v, q, r])) ∧ setD (.ref b) (.int 1) v s = some (s.set b (.lst [p, v, r])) ∧ setD (.ref b) (.int 2) v s = some (s.set b (.lst [p, q, v])) :=
  ⟨setD_def h (m := 0) (by rfl), setD_def h (m := 1) (by rfl), setD_def h (m := 2) (by rfl)⟩
theorem draw {s : Sto} {b : Nat} {m : Int} (hb : Bowl s b) (h0 : 0 < m) (h1 : m < 1073741824) : ∃ v c, 0 ≤ v ∧ v < m ∧ BowlC c ∧ f__law_draw [.d (.ref b), .d (.int m)] s = some (.ok (.int v), s.set b c) := by
  obtain ⟨c, hc, x, y, z, rfl, hx⟩ := hb
  have hlt := (List.getElem?_eq_some_iff.mp hc).1
  obtain ⟨i0, i1, i2⟩ := ix3 hc
  have w0 : ∀ v, setD (.ref b) (.int 0) v s = some (s.set b (.lst [v, .int y, .int z])) := fun v => (st3 hc).1
  have w2 : ∀ v, setD (.ref b) (.int 2) v s = some (s.set b (.lst [.int x, .int y, v])) := fun v => (st3 hc).2.2
  have j0 : ∀ p q r, ixD (.ref b) (.int 0) (s.set b (.lst [p, q, r])) = some (p, s.set b (.lst [p, q, r])) := fun p q r => (ix3 (List.getElem?_set_self hlt)).1
  have j1 : ∀ p q r, ixD (.ref b) (.int 1) (s.set b (.lst [p, q, r])) = some (q, s.set b (.lst [p, q, r])) := fun p q r => (ix3 (List.getElem?_set_self hlt)).2.1
  have j2 : ∀ p q r, ixD (.ref b) (.int 2) (s.set b (.lst [p, q, r])) = some (r, s.set b (.lst [p, q, r])) := fun p q r => (ix3 (List.getElem?_set_self hlt)).2.2
  have v1 : ∀ p q r v, setD (.ref b) (.int 1) v (s.set b (.lst [p, q, r])) = some (s.set b (.lst [p, v, r])) := fun p q r v => by rw [(st3 (List.getElem?_set_self hlt)).2.1, List.set_set]
  have hmod : ∀ w : Int, (w % m) < m := fun w => Int.emod_lt_of_pos _ h0
  have hmod0 : ∀ w : Int, 0 ≤ w % m := fun w => Int.emod_nonneg _ (by omega)
  have e0 : ∀ w u : Int, mulC u (w % 4093 + 30011) = true := fun w u => by
    have g1 := Int.emod_nonneg w (show (4093 : Int) ≠ 0 by omega)
    have g2 := Int.emod_lt_of_pos w (show (0 : Int) < 4093 by omega)
    rw [mulC_iff]; right; constructor <;> omega
  have e1 : ∀ u : Int, mulC u 39373 = true := fun u => by simp [mulC]
  have e2 : ∀ u : Int, mulC 17011 u = true := fun u => by simp [mulC]
  have e3 : ∀ u : Int, mulC 7 u = true := fun u => by simp [mulC]
  clear hlt
  by_cases h : 0 < x
  · refine ⟨x % m, _, hmod0 x, hmod x, ⟨x / m, y, z, rfl, Int.ediv_nonneg hx (by omega)⟩, ?_⟩
    simp [f__law_draw, callF_def, c__law_draw, i0, w0, h, h0, h1, bndD]
  · have key : ∃ v y' z', 0 ≤ v ∧ v < m ∧ f__law_draw [.d (.ref b), .d (.int m)] s = some (.ok (.int v), s.set b (.lst [.int x, .int y', .int z'])) := by
      simp [f__law_draw, callF_def, c__law_draw, i0, i2, h, w2, j1, j2, v1, bndD, h0, e0, e1, e2, e3]
      first
        | exact ⟨hmod0 _, hmod _, _, _, rfl⟩
        | exact ⟨_, hmod0 _, hmod _, _, _, _, rfl⟩
        | exact ⟨_, hmod0 _, hmod _, rfl, _, _, rfl⟩
    obtain ⟨v, y', z', k1, k2, k3⟩ := key
    exact ⟨v, _, k1, k2, ⟨x, y', z', rfl, hx⟩, k3⟩

theorem of_tup {s : Sto} {b : Nat} {xs : List D} (hb : Bowl s b) (h0 : 0 < xs.length) (h1 : xs.length < 100000) : ∃ y c, y ∈ xs ∧ BowlC c ∧ f__law_of [.d (.ref b), .d (.tup xs)] s = some (.ok y, s.set b c) := by
  obtain ⟨v, c, k1, k2, hc, hd⟩ := draw (m := xs.length) hb (by omega) (by omega)
  have hj : v.toNat < xs.length := by omega
  have hv : v = (v.toNat : Int) := by omega
  have hix : ixD (.tup xs) (.int v) (s.set b c) = some (xs[v.toNat], s.set b c) := ixD_tup (j := v.toNat) (by rw [hv]; exact ixN_nat hj) (List.getElem?_eq_getElem hj)
  refine ⟨xs[v.toNat], c, List.getElem_mem hj, hc, ?_⟩
  simp [f__law_of, callF_def, c__law_of, hd, hix]
theorem of_str {s : Sto} {b : Nat} {z : List Nat} (hb : Bowl s b) (h0 : 0 < z.length) (h1 : z.length < 100000) : ∃ a c, a ∈ z ∧ BowlC c ∧ f__law_of [.d (.ref b), .d (.str z)] s = some (.ok (.str [a]), s.set b c) := by
  obtain ⟨v, c, k1, k2, hc, hd⟩ := draw (m := z.length) hb (by omega) (by omega)
  have hj : v.toNat < z.length := by omega
  have hv : v = (v.toNat : Int) := by omega
  have hix : ixD (.str z) (.int v) (s.set b c) = some (.str [z[v.toNat]], s.set b c) := ixD_str (j := v.toNat) (sz (by omega)) (by rw [hv]; exact ixN_nat hj) (List.getElem?_eq_getElem hj)
  have hl : lenD [.str z] s = some (.int z.length, s) := lenD_str (sz (by omega))
  refine ⟨z[v.toNat], c, List.getElem_mem hj, hc, ?_⟩
  simp [f__law_of, callF_def, c__law_of, hd, hix, hl]
/-- cells: one to three of them, in 1 .. wide -/
def CellsOk (wide : Int) (d : D) : Prop := ∃ cs : List Int, d = .tup (cs.map .int) ∧ 1 ≤ cs.length ∧ cs.length ≤ 3 ∧ ∀ c ∈ cs, 1 ≤ c ∧ c ≤ wide
theorem ints_of {P : Int → Prop} : ∀ {ys : List D}, (∀ y ∈ ys, ∃ i, y = .int i ∧ P i) → ∃ cs : List Int, ys = cs.map .int ∧ ∀ c ∈ cs, P c
  | [], _ => ⟨[], rfl, fun c h => by cases h⟩
  | y :: ys, h => by
    obtain ⟨i, rfl, hi⟩ := h y (by simp)
    obtain ⟨cs, rfl, hc⟩ := ints_of (P := P) (ys := ys) fun z hz => h z (by simp [hz])
    exact ⟨i :: cs, rfl, fun c hm => by
      rcases List.mem_cons.mp hm with rfl | hm
      · exact hi
      · exact hc c hm⟩
theorem cells {s : Sto} {b : Nat} {wide : Int} (hb : Bowl s b) (h0 : 0 < wide) (h1 : wide < 100000) : ∃ d c, CellsOk wide d ∧ BowlC c ∧ f__law_cells [.d (.ref b), .d (.int wide)] s = some (.ok d, s.set b c) := by
  obtain ⟨n, c0, hn, hc0, hof⟩ := of_tup (xs := [.int 1, .int 1, .int 1, .int 2, .int 3]) hb (by simp) (by simp)
  obtain ⟨m, rfl, hm⟩ : ∃ m : Nat, n = .int m ∧ 1 ≤ m ∧ m ≤ 3 := by
    simp only [List.mem_cons, List.mem_nil_iff, or_false] at hn
    rcases hn with rfl | rfl | rfl | rfl | rfl
    · exact ⟨1, rfl, by omega⟩
    · exact ⟨1, rfl, by omega⟩
    · exact ⟨1, rfl, by omega⟩
    · exact ⟨2, rfl, by omega⟩
    · exact ⟨3, rfl, by omega⟩
  have hlt := hb.lt
  have hsm : smallI (m : Int) = true := small_nat (by omega)
  obtain ⟨t, ys, ht, hl, ⟨c, hc, htc, hlen, hP⟩⟩ := lcL_inv (gx := xName 2) (e := eOp addD (eC (.int 1)) (eCall f__law_draw (aCons (eVar 0) (aCons (eVar 1) aNil)))) (vs := [2]) (env0 := maskE [2] [some (.d (.ref b)), some (.d (.int wide)), none]) (chk := fun _ => true) (nD := s.length)
    (fun i t acc => ∃ c, BowlC c ∧ t = s.set b c ∧ acc.length = i ∧ ∀ y ∈ acc, ∃ k, y = .int k ∧ (1 ≤ k ∧ k ≤ wide)) (rangeD 0 m) 0 (s.set b c0) [] (by simp) ⟨c0, hc0, rfl, rfl, fun y h => by cases h⟩ (by simp; omega)
    (fun j x t acc hj ht ⟨c, hc, htc, hlen, hP⟩ => by
      have hbt : Bowl (t ++ [.lst acc]) b := by rw [htc]; exact (hb.set hc).app
      obtain ⟨v, c', k1, k2, hc', hd⟩ := draw hbt h0 (by omega)
      have hset : (t ++ [Cell.lst acc]).set b c' = s.set b c' ++ [.lst acc] := by
        rw [List.set_append_left _ _ (by rw [ht]; exact hlt), htc, List.set_set]
      refine ⟨rfl, [(2, x)], .int (1 + v), s.set b c', rfl, by simp, by simp, ?_, c', hc', rfl, by simp [hlen], fun y hy => ?_⟩
      · simp [setsE, maskE, wipeE, dropF, hd, hset]
      · rcases List.mem_append.mp hy with hy | hy
        · exact hP y hy
        · simp at hy; subst hy; exact ⟨1 + v, rfl, by omega, by omega⟩)
    (fun t acc ht hJ => rfl)
  obtain ⟨cs, rfl, hcs⟩ := ints_of hP
  have hlen' : cs.length = m := by simpa using hlen
  refine ⟨.tup (cs.map .int), c, ⟨cs, rfl, by omega, by omega, hcs⟩, hc, ?_⟩
  subst htc
  have hcomp : eLc (iRange1 (aCons (eCall f__law_of (aCons (eVar 0) (aCons (eFn mkTup (aCons (eC (.int 1)) (aCons (eC (.int 1)) (aCons (eC (.int 1)) (aCons (eC (.int 2)) (aCons (eC (.int 3)) aNil)))))) aNil))) aNil)) (xName 2) bYes (eOp addD (eC (.int 1)) (eCall f__law_draw (aCons (eVar 0) (aCons (eVar 1) aNil)))) [2] [some (.d (.ref b)), some (.d (.int wide)), none] s = some (.ok (.ref s.length), s.set b c ++ [.lst (cs.map .int)]) := by
    have := eLc_of (fi := iRange1 (aCons (eCall f__law_of (aCons (eVar 0) (aCons (eFn mkTup (aCons (eC (.int 1)) (aCons (eC (.int 1)) (aCons (eC (.int 1)) (aCons (eC (.int 2)) (aCons (eC (.int 3)) aNil)))))) aNil))) aNil)) (env := [some (.d (.ref b)), some (.d (.int wide)), none]) (s := s) (s1 := s.set b c0) (src := ⟨rangeD 0 m, fun _ => true⟩) (gx := xName 2) (e := eOp addD (eC (.int 1)) (eCall f__law_draw (aCons (eVar 0) (aCons (eVar 1) aNil)))) (vs := [2]) (t := s.set b c) (ys := cs.map .int)
      (by simp [sz, hof, hsm, TP.ret]) (by simpa using hl)
    simpa using this
  have htup : tupleOf [.ref s.length] (s.set b c ++ [.lst (cs.map .int)]) = some (.tup (cs.map .int), s.set b c ++ [.lst (cs.map .int)]) := by
    have : lstAt (s.set b c ++ [.lst (cs.map .int)]) s.length = some (cs.map .int) := lstAt_lst (by simp)
    unfold tupleOf; simp [this]
  have hbnd : ∀ n, bndD n (.tup (cs.map .int)) = true := fun n => by
    simp only [bndD]
    clear hcomp htup hlen hlen' hl hcs hP
    induction cs with
    | nil => rfl
    | cons a l ih => simp only [List.map_cons, bndDs, bndD, Bool.true_and]; exact ih
  have htrim : trim s true (s.set b c ++ [.lst (cs.map .int)]) = s.set b c := trim_set_app s _ b c (hc.bnd _)
  simp [f__law_cells, callF_def, c__law_cells, hcomp, htup, hbnd, htrim]

/-- a print: one to three of the letters -/
theorem print {s : Sto} {b : Nat} {z : List Nat} (hb : Bowl s b) (h0 : 0 < z.length) (h1 : z.length < 1000) : ∃ p c, 1 ≤ p.length ∧ p.length ≤ 3 ∧ (∀ a ∈ p, a ∈ z) ∧ BowlC c ∧ f__law_print [.d (.ref b), .d (.str z)] s = some (.ok (.str p), s.set b c) := by
  obtain ⟨n, c0, hn, hc0, hof⟩ := of_tup (xs := [.int 1, .int 2, .int 2, .int 3]) hb (by simp) (by simp)
  obtain ⟨m, rfl, hm⟩ : ∃ m : Nat, n = .int m ∧ 1 ≤ m ∧ m ≤ 3 := by
    simp only [List.mem_cons, List.mem_nil_iff, or_false] at hn
    rcases hn with rfl | rfl | rfl | rfl
    · exact ⟨1, rfl, by omega⟩
    · exact ⟨2, rfl, by omega⟩
    · exact ⟨2, rfl, by omega⟩
    · exact ⟨3, rfl, by omega⟩
  have hsm : smallI (m : Int) = true := small_nat (by omega)
  obtain ⟨env', s', hl, ⟨c, p, k', rfl, hc, rfl, hlen, hP⟩⟩ := forL_inv (g := gSet 3) (b := sAsg (eOp addD (eVar 2) (eCall f__law_of (aCons (eVar 0) (aCons (eVar 1) aNil)))) (gSet 2)) (chk := fun _ => true)
    (fun i env t => ∃ c p k', env = [some (.d (.ref b)), some (.d (.str z)), some (.d (.str p)), k'] ∧ BowlC c ∧ t = s.set b c ∧ p.length = i ∧ ∀ a ∈ p, a ∈ z) (rangeD 0 m) 0 [some (.d (.ref b)), some (.d (.str z)), some (.d (.str [])), none] (s.set b c0) ⟨c0, [], none, rfl, hc0, rfl, rfl, fun a h => by cases h⟩
    (fun j x env t hj ⟨c, p, k', he, hc, ht, hlen, hP⟩ => by
      subst he; subst ht
      obtain ⟨a, c', ha, hc', hof⟩ := of_str (z := z) (hb.set hc) h0 (by omega)
      rw [List.set_set] at hof
      have hjm := (rangeD_get hj).1
      have hadd : addD (.str p) (.str [a]) (s.set b c') = some (.str (p ++ [a]), s.set b c') := by rw [addD_str, if_pos (sz (by simp; omega))]
      refine ⟨rfl, _, _, [some (.d (.ref b)), some (.d (.str z)), some (.d (.str (p ++ [a]))), some (.d x)], s.set b c', rfl, ?_, c', p ++ [a], _, rfl, hc', rfl, by simp [hlen], fun y hy => ?_⟩
      · simp [hof, hadd]
      · rcases List.mem_append.mp hy with hy | hy
        · exact hP y hy
        · simp at hy; subst hy; exact ha)
    (fun env t hI => rfl)
  refine ⟨p, c, by simp at hlen; omega, by simp at hlen; omega, hP, hc, ?_⟩
  have hfor : sFor (iRange1 (aCons (eCall f__law_of (aCons (eVar 0) (aCons (eFn mkTup (aCons (eC (.int 1)) (aCons (eC (.int 2)) (aCons (eC (.int 2)) (aCons (eC (.int 3)) aNil))))) aNil))) aNil)) (gSet 3) (sAsg (eOp addD (eVar 2) (eCall f__law_of (aCons (eVar 0) (aCons (eVar 1) aNil)))) (gSet 2)) [some (.d (.ref b)), some (.d (.str z)), some (.d (.str [])), none] s = some (.ok (.nx [some (.d (.ref b)), some (.d (.str z)), some (.d (.str p)), k']), s.set b c) := by
    unfold sFor
    have : iRange1 (aCons (eCall f__law_of (aCons (eVar 0) (aCons (eFn mkTup (aCons (eC (.int 1)) (aCons (eC (.int 2)) (aCons (eC (.int 2)) (aCons (eC (.int 3)) aNil))))) aNil))) aNil) [some (.d (.ref b)), some (.d (.str z)), some (.d (.str [])), none] s = some (.ok ⟨rangeD 0 m, fun _ => true⟩, s.set b c0) := by
      simp [sz, hof, hsm, TP.ret]
    rw [this, bind_ok]
    exact hl
  simp [f__law_print, callF_def, c__law_print, hfor]

abbrev az : List Nat := [97, 98, 99, 100, 101, 102, 103, 104, 105, 106, 107, 108, 109, 110, 111, 112, 113, 114, 115, 116, 117, 118, 119, 120, 121, 122]
abbrev popB : EvS := sExpr (eMeth "list" appendD (eVar 3) (aCons (eMeth "list" popAtD (eVar 2) (aCons (eCall f__law_draw (aCons (eVar 0) (aCons (eFn lenD (aCons (eVar 2) aNil)) aNil))) aNil)) aNil))
theorem set_at_app {s g : Sto} {b : Nat} {c c' : Cell} (h : b < s.length) : (s.set b c ++ g).set b c' = s.set b c' ++ g := by
  rw [List.set_append_left _ _ (by simpa using h), List.set_set]
theorem set_behind {s g : Sto} {b l : Nat} {c x : Cell} (h : s.length ≤ l) : (s.set b c ++ g).set l x = s.set b c ++ g.set (l - s.length) x := by
  rw [List.set_append_right _ _ (by simpa using h)]; simp
theorem get_ne {s : Sto} {b l : Nat} {c : Cell} {x : Option Cell} (h : b ≠ l) (e : s[l]? = x) : (s.set b c)[l]? = x := by rw [List.getElem?_set_ne h]; exact e
theorem erase_perm : ∀ {l : List Nat} {j a : Nat}, l[j]? = some a → l.Perm (a :: l.eraseIdx j)
  | [], _, _, h => by simp at h
  | x :: l, 0, a, h => by simp at h; subst h; exact .refl _
  | x :: l, j + 1, a, h => by
    simp at h
    exact ((erase_perm h).cons x).trans (.swap a x _)
theorem signs_len (l : List Nat) : (signs l).length = l.length := by simp [signs]
theorem signs_get {l : List Nat} {j a : Nat} (h : l[j]? = some a) : (signs l)[j]? = some (.str [a]) := by simp [signs, h]
theorem signs_erase : ∀ {l : List Nat} {j : Nat}, (signs l).eraseIdx j = signs (l.eraseIdx j)
  | [], _ => rfl
  | x :: l, 0 => rfl
  | x :: l, j + 1 => by
    have := signs_erase (l := l) (j := j)
    simp only [signs, List.map_cons] at this ⊢
    simp only [List.eraseIdx_cons_succ, List.map_cons, this]
theorem signs_snoc {l : List Nat} {a : Nat} : signs l ++ [.str [a]] = signs (l ++ [a]) := by simp [signs]
/-- one sign goes over -/
theorem pop_one {t : Sto} {b l f : Nat} {mo : Int} {left found : List Nat} {k' : Option TP.A} (hb : Bowl t b) (hbl : b ≠ l) (hbf : b ≠ f) (hlf : l ≠ f) (h1 : t[l]? = some (.lst (signs left))) (h2 : t[f]? = some (.lst (signs found))) (hl : 0 < left.length) (hl2 : left.length < 100) (hf : found.length < 100) :
    ∃ c j a, BowlC c ∧ left[j]? = some a ∧ popB [some (.d (.ref b)), some (.d (.int mo)), some (.d (.ref l)), some (.d (.ref f)), k'] t = some (.ok (.nx [some (.d (.ref b)), some (.d (.int mo)), some (.d (.ref l)), some (.d (.ref f)), k']), ((t.set b c).set l (.lst (signs (left.eraseIdx j)))).set f (.lst (signs (found ++ [a])))) := by
  obtain ⟨v, c, k1, k2, hc, hd⟩ := draw (m := left.length) hb (by omega) (by omega)
  have hj : v.toNat < left.length := by omega
  have hv : v = (v.toNat : Int) := by omega
  obtain ⟨a, hg⟩ : ∃ a, left[v.toNat]? = some a := ⟨_, List.getElem?_eq_getElem hj⟩
  have l1 : lstAt t l = some (signs left) := lstAt_lst h1
  have l2 : lstAt t f = some (signs found) := lstAt_lst h2
  have e1 : (t.set b c)[l]? = some (.lst (signs left)) := get_ne hbl h1
  have hpop : popAtD (.ref l) [.int v] (t.set b c) = some (.str [a], (t.set b c).set l (.lst (signs (left.eraseIdx v.toNat)))) := by
    rw [popAt_of (j := v.toNat) e1 (by rw [signs_len, hv]; exact ixN_nat hj) (signs_get hg) (by rw [hv]; exact small_nat (by omega)), signs_erase]
  have e2 : ((t.set b c).set l (.lst (signs (left.eraseIdx v.toNat))))[f]? = some (.lst (signs found)) := get_ne hlf (get_ne hbf h2)
  have happ : appendD (.ref f) [.str [a]] ((t.set b c).set l (.lst (signs (left.eraseIdx v.toNat)))) = some (.non, ((t.set b c).set l (.lst (signs (left.eraseIdx v.toNat)))).set f (.lst (signs (found ++ [a])))) := by
    rw [append_of e2 (by rw [signs_len]; omega), signs_snoc]
  have t1 : tyName (.ref f) t = some "list" := tyName_lst l2
  have t2 : tyName (.ref l) t = some "list" := tyName_lst l1
  have hlen : lenD [.ref l] t = some (.int left.length, t) := by rw [lenD_ref l1, signs_len]
  refine ⟨c, v.toNat, a, hc, hg, ?_⟩
  unfold popB
  simp [t1, t2, hlen, hd, hpop, happ]
theorem letters {s : Sto} {b : Nat} {mo : Int} (hb : Bowl s b) (h0 : 0 < mo) (h1 : mo ≤ 4) : ∃ z c, 1 ≤ z.length ∧ (z.length : Int) ≤ mo ∧ z.Pairwise (· < ·) ∧ (∀ a ∈ z, a ∈ az) ∧ BowlC c ∧ f__law_letters [.d (.ref b), .d (.int mo)] s = some (.ok (.str z), s.set b c) := by
  have hlt := hb.lt
  -- the two lists
  have st1 : sTrim (sPar2 2 3 (aCons (eFn listOf (aCons (eC (.str [97, 98, 99, 100, 101, 102, 103, 104, 105, 106, 107, 108, 109, 110, 111, 112, 113, 114, 115, 116, 117, 118, 119, 120, 121, 122])) aNil)) (aCons (eFn mkLst aNil) aNil))) [some (.d (.ref b)), some (.d (.int mo)), none, none, none] s = some (.ok (.nx [some (.d (.ref b)), some (.d (.int mo)), some (.d (.ref s.length)), some (.d (.ref (s.length + 1))), none]), s ++ [.lst (signs az), .lst []]) := by
    have e : listOf [.str [97, 98, 99, 100, 101, 102, 103, 104, 105, 106, 107, 108, 109, 110, 111, 112, 113, 114, 115, 116, 117, 118, 119, 120, 121, 122]] s = some (.ref s.length, s ++ [.lst (signs az)]) := listOf_str (by simp)
    have e2 : (0 : Nat) ≤ PySem.sizeLine := Nat.zero_le _
    simp [e, e2, rootsE, bndA, bndD]
  -- which of them is drawn from
  obtain ⟨v3, c3, _, _, hc3, hd3⟩ := draw (m := 3) (s := s ++ [.lst (signs az), .lst []]) hb.app (by omega) (by omega)
  rw [List.set_append_left _ _ hlt] at hd3
  have st2 : ∃ l left0 g, s.length ≤ l ∧ l ≠ s.length + 1 ∧ (s.set b c3 ++ g)[l]? = some (.lst (signs left0)) ∧ (s.set b c3 ++ g)[s.length + 1]? = some (.lst (signs [])) ∧ 4 ≤ left0.length ∧ left0.length ≤ 26 ∧ left0.Nodup ∧ (∀ a ∈ left0, a ∈ az) ∧
      sIf (bOf (eOp gtI (eCall f__law_draw (aCons (eVar 0) (aCons (eC (.int 3)) aNil))) (eC (.int 0)))) (sTrim (sAsg (eFn listOf (aCons (eC (.str [97, 98, 99, 100])) aNil)) (gSet 2))) sNext [some (.d (.ref b)), some (.d (.int mo)), some (.d (.ref s.length)), some (.d (.ref (s.length + 1))), none] (s ++ [.lst (signs az), .lst []]) =
        some (.ok (.nx [some (.d (.ref b)), some (.d (.int mo)), some (.d (.ref l)), some (.d (.ref (s.length + 1))), none]), s.set b c3 ++ g) := by
    by_cases hv : 0 < v3
    · refine ⟨s.length + 2, [97, 98, 99, 100], [.lst (signs az), .lst [], .lst (signs [97, 98, 99, 100])], by omega, by omega, ?_, ?_, by simp, by simp, by decide, by decide, ?_⟩
      · rw [List.getElem?_append_right (by simp)]; simp
      · rw [List.getElem?_append_right (by simp)]; simp [signs]
      · have e : listOf [.str [97, 98, 99, 100]] (s.set b c3 ++ [.lst (signs az), .lst []]) = some (.ref (s.length + 2), s.set b c3 ++ [.lst (signs az), .lst [], .lst (signs [97, 98, 99, 100])]) := by
          rw [listOf_str (by simp)]; simp
        simp [hd3, hv, e, rootsE, bndA, bndD]
    · refine ⟨s.length, az, [.lst (signs az), .lst []], by omega, by omega, ?_, ?_, by decide, by decide, by decide, fun a h => h, ?_⟩
      · rw [List.getElem?_append_right (by simp)]; simp
      · rw [List.getElem?_append_right (by simp)]; simp [signs]
      · simp [hd3, hv]
  obtain ⟨l, left0, g0, hl0, hlf, gl, gf, n1, n2, nd, sub, st2⟩ := st2
  have hb2 : Bowl (s.set b c3 ++ g0) b := (hb.set hc3).app
  obtain ⟨v4, c4, k1, k2, hc4, hd4⟩ := draw (m := mo) hb2 h0 (by omega)
  rw [set_at_app hlt] at hd4
  obtain ⟨m, hm, m1, m2⟩ : ∃ m : Nat, 1 + v4 = (m : Int) ∧ 1 ≤ m ∧ (m : Int) ≤ mo := ⟨(1 + v4).toNat, by omega, by omega, by omega⟩
  obtain ⟨env', s', hl, ⟨c, g, left, found, k', rfl, hc, rfl, q1, q2, hlen, hperm⟩⟩ := forL_inv (g := gSet 4) (b := popB) (chk := fun _ => true)
    (fun i env t => ∃ c g left found k', env = [some (.d (.ref b)), some (.d (.int mo)), some (.d (.ref l)), some (.d (.ref (s.length + 1))), k'] ∧ BowlC c ∧ t = s.set b c ++ g ∧ t[l]? = some (.lst (signs left)) ∧ t[s.length + 1]? = some (.lst (signs found)) ∧ found.length = i ∧ (left ++ found).Perm left0)
    (rangeD 0 m) 0 [some (.d (.ref b)), some (.d (.int mo)), some (.d (.ref l)), some (.d (.ref (s.length + 1))), none] (s.set b c4 ++ g0)
    ⟨c4, g0, left0, [], none, rfl, hc4, rfl, by rw [← set_at_app (c := c3) hlt]; exact get_ne (by omega) gl, by rw [← set_at_app (c := c3) hlt]; exact get_ne (by omega) gf, rfl, by simp⟩
    (fun j x env t hj ⟨c, g, left, found, k', he, hc, ht, q1, q2, hlen, hperm⟩ => by
      have hjm := (rangeD_get hj).1
      have hpl := hperm.length_eq
      simp only [List.length_append] at hpl
      have hbt : Bowl t b := by rw [ht]; exact (hb.set hc).app
      obtain ⟨c', i, a, hc', ha, hpop⟩ := pop_one (mo := mo) (k' := some (.d x)) hbt (show b ≠ l by omega) (show b ≠ s.length + 1 by omega) hlf q1 q2 (by omega) (by omega) (by omega)
      have hil : i < left.length := (List.getElem?_eq_some_iff.mp ha).1
      subst he
      have hlt' : l < t.length := (List.getElem?_eq_some_iff.mp q1).1
      have hft' : s.length + 1 < t.length := (List.getElem?_eq_some_iff.mp q2).1
      refine ⟨rfl, _, _, [some (.d (.ref b)), some (.d (.int mo)), some (.d (.ref l)), some (.d (.ref (s.length + 1))), some (.d x)], _, rfl, hpop, c', (g.set (l - s.length) (.lst (signs (left.eraseIdx i)))).set (s.length + 1 - s.length) (.lst (signs (found ++ [a]))), left.eraseIdx i, found ++ [a], _, rfl, hc', ?_, ?_, ?_, by simp [hlen], ?_⟩
      · rw [ht, set_at_app hlt, set_behind hl0, set_behind (by omega)]
      · rw [List.getElem?_set_ne (Ne.symm hlf), List.getElem?_set_self (by simpa using hlt')]
      · rw [List.getElem?_set_self (by simpa using hft')]
      · have p1 := erase_perm ha
        refine List.Perm.trans ?_ hperm
        have p2 : (left.eraseIdx i ++ (found ++ [a])).Perm ((a :: left.eraseIdx i) ++ found) := by
          rw [← List.append_assoc]
          refine (List.perm_append_comm (l₁ := left.eraseIdx i ++ found) (l₂ := [a])).trans ?_
          simp
        exact p2.trans (p1.symm.append_right found))
    (fun env t hI => rfl)
  have hlen' : found.length = m := by simpa using hlen
  have hsubf : ∀ a ∈ found, a ∈ left0 := fun a ha => hperm.mem_iff.mp (List.mem_append_right _ ha)
  have hndf : found.Nodup := ((hperm.nodup_iff.mpr nd).sublist (List.sublist_append_right _ _))
  refine ⟨sortN found, c, by rw [(sortN_perm found).length_eq]; omega, by rw [(sortN_perm found).length_eq]; omega, sortN_lt hndf, fun a ha => sub a (hsubf a ((sortN_perm found).mem_iff.mp ha)), hc, ?_⟩
  have hfor : sFor (iRange1 (aCons (eOp addD (eC (.int 1)) (eCall f__law_draw (aCons (eVar 0) (aCons (eVar 1) aNil)))) aNil)) (gSet 4) popB [some (.d (.ref b)), some (.d (.int mo)), some (.d (.ref l)), some (.d (.ref (s.length + 1))), none] (s.set b c3 ++ g0) = some (.ok (.nx [some (.d (.ref b)), some (.d (.int mo)), some (.d (.ref l)), some (.d (.ref (s.length + 1))), k']), s.set b c ++ g) := by
    unfold sFor
    have hsm : smallI (m : Int) = true := small_nat (by omega)
    have : iRange1 (aCons (eOp addD (eC (.int 1)) (eCall f__law_draw (aCons (eVar 0) (aCons (eVar 1) aNil)))) aNil) [some (.d (.ref b)), some (.d (.int mo)), some (.d (.ref l)), some (.d (.ref (s.length + 1))), none] (s.set b c3 ++ g0) = some (.ok ⟨rangeD 0 m, fun _ => true⟩, s.set b c4 ++ g0) := by
      simp [hd4, hm, hsm, TP.ret]
    rw [this, bind_ok]
    exact hl
  have hs : sortedD [.ref (s.length + 1)] (s.set b c ++ g) = some (.ref (s.set b c ++ g).length, (s.set b c ++ g) ++ [.lst (signs (sortN found))]) := by
    rw [sorted_of (lstAt_lst q2) (okSort_signs found), sort_signs]
  have hj : joinD (.str []) [.ref (s.set b c ++ g).length] ((s.set b c ++ g) ++ [.lst (signs (sortN found))]) = some (.str (sortN found), (s.set b c ++ g) ++ [.lst (signs (sortN found))]) := by
    refine join_signs (lstAt_lst (by simp)) ?_
    rw [(sortN_perm found).length_eq]; omega
  have hty : tyName (.str []) (s.set b c ++ g) = some "str" := rfl
  have htrim : trim s true (s.set b c ++ g ++ [.lst (signs (sortN found))]) = s.set b c := by
    rw [List.append_assoc]; exact trim_set_app s _ b c (hc.bnd _)
  unfold f__law_letters
  rw [callF_def (by rfl)]
  unfold c__law_letters
  simp only [List.map_cons, List.map_nil, Nat.reduceSub, List.replicate_succ, List.replicate_zero, List.cons_append, List.nil_append, sSeq_def, st1, bind_ok, st2]
  rw [hfor]
  simp only [List.length_append, List.length_set, List.append_assoc] at hs hj htrim
  simp [hty, hs, hj, htrim, bndD]
end K01
namespace K01
open TP
/-- a rule: print, where, cells -/
structure Ru where
  p : List Nat
  w : List Nat
  cs : List Int
  deriving DecidableEq
def rd (r : Ru) : D := .tup [.str r.p, .str r.w, .tup (r.cs.map .int)]
def key (r : Ru) : List Nat × List Nat := (r.p, r.w)
def kd (k : List Nat × List Nat) : D := .tup [.str k.1, .str k.2]
abbrev any_ : List Nat := [97, 110, 121]
abbrev wheres : List (List Nat) := [[97, 110, 121], [98, 101, 103, 105, 110], [101, 110, 100], [109, 105, 100, 100, 108, 101], [119, 104, 111, 108, 101]]
structure RuOk (z : List Nat) (r : Ru) : Prop where
  p1 : 1 ≤ r.p.length
  p3 : r.p.length ≤ 3
  pz : ∀ a ∈ r.p, a ∈ z
  w : r.w ∈ wheres
  c1 : 1 ≤ r.cs.length
  c3 : r.cs.length ≤ 3
  c : ∀ c ∈ r.cs, 1 ≤ c ∧ c ≤ 62
theorem kd_eq {s : Sto} {n : Nat} {k k' : List Nat × List Nat} : eqD s (n + 2) (kd k) (kd k') = some (decide (k = k')) := by
  obtain ⟨a, b⟩ := k
  obtain ⟨a', b'⟩ := k'
  simp only [kd, eqD, eqL]
  by_cases h1 : a = a' <;> by_cases h2 : b = b' <;> simp [h1, h2]
theorem any_kd {s : Sto} {k : List Nat × List Nat} : ∀ l : List (List Nat × List Nat), anyD (fun z => eqD s maxN z (kd k)) (l.map kd) = some (decide (k ∈ l))
  | [] => by simp [anyD]
  | x :: l => by
    have e : eqD s maxN (kd x) (kd k) = some (decide (x = k)) := kd_eq
    simp only [List.map_cons, anyD, e, any_kd l]
    by_cases h1 : x = k
    · subst h1; simp
    · have h1' : ¬ k = x := fun h => h1 h.symm
      by_cases h2 : k ∈ l <;> simp [h1, h1', h2]
theorem notin_kd {s : Sto} {q : Nat} {l : List (List Nat × List Nat)} {k : List Nat × List Nat} (h : lstAt s q = some (l.map kd)) : inD true (kd k) (.ref q) s = some (.bl (!decide (k ∈ l)), s) := by
  show (match lstAt s q with | some ys => (anyD (fun z => eqD s maxN z (kd k)) ys).map fun b => (D.bl (if true then !b else b), s) | none => none) = _
  rw [h]
  simp only [any_kd, Option.map_some, if_true]
/-- the store behind: bowl, list of rules, list of heads -/
structure St (s : Sto) (b : Nat) (rs : List Ru) (t : Sto) : Prop where
  ex : ∃ c g, BowlC c ∧ t = s.set b c ++ g
  r : t[s.length]? = some (.lst (rs.map rd))
  q : t[s.length + 1]? = some (.lst ((rs.map key).map kd))
theorem St.bowl {s : Sto} {b : Nat} {rs : List Ru} {t : Sto} (hb : Bowl s b) (h : St s b rs t) : Bowl t b := by
  obtain ⟨c, g, hc, rfl⟩ := h.ex
  exact (hb.set hc).app
theorem St.draw {s : Sto} {b : Nat} {rs : List Ru} {t : Sto} {c' : Cell} (hb : Bowl s b) (h : St s b rs t) (hc' : BowlC c') : St s b rs (t.set b c') := by
  have hlt := hb.lt
  obtain ⟨c, g, hc, ht⟩ := h.ex
  exact ⟨⟨c', g, hc', by rw [ht, set_at_app hlt]⟩, get_ne (by omega) h.r, get_ne (by omega) h.q⟩
theorem St.add {s : Sto} {b : Nat} {rs : List Ru} {t : Sto} {r : Ru} (h : St s b rs t) : St s b (rs ++ [r]) ((t.set s.length (.lst (rs.map rd ++ [rd r]))).set (s.length + 1) (.lst ((rs.map key).map kd ++ [kd (key r)]))) := by
  obtain ⟨c, g, hc, ht⟩ := h.ex
  have l1 := (List.getElem?_eq_some_iff.mp h.r).1
  have l2 := (List.getElem?_eq_some_iff.mp h.q).1
  refine ⟨⟨c, _, hc, by rw [ht, set_behind (Nat.le_refl _), set_behind (by omega)]⟩, ?_, ?_⟩
  · rw [List.getElem?_set_ne (by omega), List.getElem?_set_self (by simpa using l1)]; simp
  · rw [List.getElem?_set_self (by simpa using l2)]; simp
theorem app1 {s : Sto} {b : Nat} {rs : List Ru} {t : Sto} {y : D} (h : St s b rs t) (hl : rs.length < 1000) : tyName (.ref s.length) t = some "list" ∧ appendD (.ref s.length) [y] t = some (.non, t.set s.length (.lst (rs.map rd ++ [y]))) :=
  ⟨tyName_lst (lstAt_lst h.r), append_of h.r (by simp; omega)⟩
theorem app2 {s : Sto} {b : Nat} {rs : List Ru} {t : Sto} {y : D} {x : Cell} (h : St s b rs t) (hl : rs.length < 1000) : tyName (.ref (s.length + 1)) (t.set s.length x) = some "list" ∧ appendD (.ref (s.length + 1)) [y] (t.set s.length x) = some (.non, (t.set s.length x).set (s.length + 1) (.lst ((rs.map key).map kd ++ [y]))) := by
  have e : (t.set s.length x)[s.length + 1]? = some (.lst ((rs.map key).map kd)) := get_ne (by omega) h.q
  exact ⟨tyName_lst (lstAt_lst e), append_of e (by simp; omega)⟩
abbrev b1 : EvS := sSeq (sExpr (eMeth "list" appendD (eVar 5) (aCons (eFn mkTup (aCons (eVar 7) (aCons (eC (.str [97, 110, 121])) (aCons (eCall f__law_cells (aCons (eVar 0) (aCons (eVar 4) aNil))) aNil)))) aNil))) (sExpr (eMeth "list" appendD (eVar 6) (aCons (eFn mkTup (aCons (eVar 7) (aCons (eC (.str [97, 110, 121])) aNil))) aNil)))
abbrev envB (b : Nat) (mo me : Int) (z : List Nat) (wide : Int) (n : Nat) (k7 k8 k9 : Option TP.A) : Env := [some (.d (.ref b)), some (.d (.int mo)), some (.d (.int me)), some (.d (.str z)), some (.d (.int wide)), some (.d (.ref n)), some (.d (.ref (n + 1))), k7, k8, k9]
theorem turn1 {s : Sto} {b : Nat} {mo me wide : Int} {z : List Nat} {rs : List Ru} {t : Sto} {a : Nat} {k8 k9 : Option TP.A} (hb : Bowl s b) (h : St s b rs t) (hl : rs.length < 1000) (h0 : 0 < wide) (h1 : wide ≤ 62) (ha : a ∈ z) :
    ∃ r t', RuOk z r ∧ key r = ([a], any_) ∧ St s b (rs ++ [r]) t' ∧ b1 (envB b mo me z wide s.length (some (.d (.str [a]))) k8 k9) t = some (.ok (.nx (envB b mo me z wide s.length (some (.d (.str [a]))) k8 k9)), t') := by
  obtain ⟨d, c, ⟨cs, rfl, g1, g2, g3⟩, hc, hcell⟩ := cells (h.bowl hb) h0 (by omega)
  have h2 := h.draw hb hc
  have e2 : (2 : Nat) ≤ PySem.sizeLine := sz (by omega)
  have e3 : (3 : Nat) ≤ PySem.sizeLine := sz (by omega)
  obtain ⟨p1, p2⟩ := app1 (y := rd ⟨[a], any_, cs⟩) h2 hl
  obtain ⟨q1, q2⟩ := app2 (y := kd ([a], any_)) (x := .lst (rs.map rd ++ [rd ⟨[a], any_, cs⟩])) h2 hl
  obtain ⟨p0, _⟩ := app1 (y := .non) h hl
  refine ⟨⟨[a], any_, cs⟩, _, ⟨by simp, by simp, by simpa using ha, List.mem_cons_self .., g1, g2, fun c hc => ⟨(g3 c hc).1, by have := (g3 c hc).2; omega⟩⟩, rfl, h2.add, ?_⟩
  simp only [rd, kd, key] at p2 q1 q2 ⊢
  unfold b1 envB
  simp [p0, e2, e3, hcell, p2, q1, q2]

abbrev w6 : List D := [.str [97, 110, 121], .str [97, 110, 121], .str [98, 101, 103, 105, 110], .str [101, 110, 100], .str [109, 105, 100, 100, 108, 101], .str [119, 104, 111, 108, 101]]
abbrev b2 : EvS := sSeq (sAsg (eFn mkTup (aCons (eCall f__law_print (aCons (eVar 0) (aCons (eVar 3) aNil))) (aCons (eCall f__law_of (aCons (eVar 0) (aCons (eFn mkTup (aCons (eC (.str [97, 110, 121])) (aCons (eC (.str [97, 110, 121])) (aCons (eC (.str [98, 101, 103, 105, 110])) (aCons (eC (.str [101, 110, 100])) (aCons (eC (.str [109, 105, 100, 100, 108, 101])) (aCons (eC (.str [119, 104, 111, 108, 101])) aNil))))))) aNil))) aNil))) (gSet 9)) (sIf (bAnd (bOf (eOp (inD true) (eVar 9) (eVar 6))) (bOf (eOp ltD (eFn lenD (aCons (eVar 5) aNil)) (eC (.int 16))))) (sSeq (sExpr (eMeth "list" appendD (eVar 5) (aCons (eOp addD (eVar 9) (eFn mkTup (aCons (eCall f__law_cells (aCons (eVar 0) (aCons (eVar 4) aNil))) aNil))) aNil))) (sExpr (eMeth "list" appendD (eVar 6) (aCons (eVar 9) aNil)))) sNext)
theorem turn2 {s : Sto} {b : Nat} {mo me wide : Int} {z : List Nat} {rs : List Ru} {t : Sto} {k7 k8 k9 : Option TP.A} (hb : Bowl s b) (h : St s b rs t) (hl : rs.length ≤ 16) (h0 : 0 < wide) (h1 : wide ≤ 62) (hz : 0 < z.length) (hz2 : z.length < 100) :
    ∃ k9' t', b2 (envB b mo me z wide s.length k7 k8 k9) t = some (.ok (.nx (envB b mo me z wide s.length k7 k8 k9')), t') ∧
      (St s b rs t' ∨ ∃ r, RuOk z r ∧ key r ∉ rs.map key ∧ rs.length < 16 ∧ St s b (rs ++ [r]) t') := by
  obtain ⟨p, c1, p1, p3, pz, hc1, hpr⟩ := print (z := z) (h.bowl hb) hz (by omega)
  have h2 := h.draw hb hc1
  obtain ⟨wd, c2, hw, hc2, hof⟩ := of_tup (xs := w6) (h2.bowl hb) (by simp) (by simp)
  obtain ⟨w, rfl, hw'⟩ : ∃ w, wd = .str w ∧ w ∈ wheres := by
    simp only [w6, List.mem_cons, List.mem_nil_iff, or_false] at hw
    rcases hw with rfl | rfl | rfl | rfl | rfl | rfl <;> exact ⟨_, rfl, by simp⟩
  have h3 := h2.draw hb hc2
  have e1 : (1 : Nat) ≤ PySem.sizeLine := sz (by omega)
  have e2 : (2 : Nat) ≤ PySem.sizeLine := sz (by omega)
  have e6 : (6 : Nat) ≤ PySem.sizeLine := sz (by omega)
  have hni : inD true (.tup [.str p, .str w]) (.ref (s.length + 1)) ((t.set b c1).set b c2) = some (.bl (!decide ((p, w) ∈ rs.map key)), (t.set b c1).set b c2) := notin_kd (k := (p, w)) (lstAt_lst h3.q)
  have hlen : lenD [.ref s.length] ((t.set b c1).set b c2) = some (.int rs.length, (t.set b c1).set b c2) := by rw [lenD_ref (lstAt_lst h3.r)]; simp
  refine ⟨some (.d (.tup [.str p, .str w])), ?_⟩
  by_cases hin : (p, w) ∈ rs.map key
  · refine ⟨_, ?_, .inl h3⟩
    unfold b2 envB
    simp only [List.set_set] at hni
    simp [hpr, e2, e6, hof, hni, hin]
  · by_cases h16 : rs.length < 16
    · obtain ⟨d, c, ⟨cs, rfl, g1, g2, g3⟩, hc, hcell⟩ := cells (h3.bowl hb) h0 (by omega)
      have h4 := h3.draw hb hc
      obtain ⟨p0, _⟩ := app1 (y := .non) h3 (by omega)
      obtain ⟨_, p2⟩ := app1 (y := rd ⟨p, w, cs⟩) h4 (by omega)
      obtain ⟨q1, q2⟩ := app2 (y := kd (p, w)) (x := .lst (rs.map rd ++ [rd ⟨p, w, cs⟩])) h4 (by omega)
      refine ⟨_, ?_, .inr ⟨⟨p, w, cs⟩, ⟨p1, p3, pz, hw', g1, g2, fun c hc => ⟨(g3 c hc).1, by have := (g3 c hc).2; omega⟩⟩, hin, h16, h4.add⟩⟩
      have hadd : addD (.tup [.str p, .str w]) (.tup [.tup (cs.map .int)]) (((t.set b c1).set b c2).set b c) = some (.tup [.str p, .str w, .tup (cs.map .int)], ((t.set b c1).set b c2).set b c) := by
        rw [addD_tup, if_pos (sz (by simp))]; rfl
      have h16' : (rs.length : Int) < 16 := by omega
      simp only [rd, kd, key, List.set_set] at p0 p2 q1 q2 hadd hcell hni hlen ⊢
      unfold b2 envB
      simp [hpr, e1, e2, e6, hof, hni, hin, hlen, h16', p0, hcell, hadd, p2, q1, q2]
    · refine ⟨_, ?_, .inl h3⟩
      have h16' : ¬ (rs.length : Int) < 16 := by omega
      simp only [List.set_set] at hni hlen ⊢
      unfold b2 envB
      simp [hpr, e2, e6, hof, hni, hin, hlen, h16']

/-! ### sorted rules -/
def insR (x : Ru) : List Ru → List Ru
  | [] => [x]
  | y :: l => if ltT (rd y) (rd x) then y :: insR x l else x :: y :: l
def sortR (l : List Ru) : List Ru := l.foldr insR []
theorem ins_rd (x : Ru) : ∀ l : List Ru, insT (rd x) (l.map rd) = (insR x l).map rd
  | [] => rfl
  | y :: l => by
    simp only [List.map_cons, insT, insR]
    by_cases h : ltT (rd y) (rd x) = true
    · rw [if_pos h, if_pos h, ins_rd x l]; rfl
    · rw [if_neg h, if_neg h]; rfl
theorem sort_rd : ∀ l : List Ru, sortT (l.map rd) = (sortR l).map rd
  | [] => rfl
  | x :: l => by
    show insT (rd x) (sortT (l.map rd)) = _
    rw [sort_rd l, ins_rd]; rfl
theorem insR_perm (x : Ru) : ∀ l, (insR x l).Perm (x :: l)
  | [] => .refl _
  | y :: l => by
    unfold insR
    split
    · exact ((insR_perm x l).cons y).trans (.swap x y l)
    · exact .refl _
theorem sortR_perm : ∀ l : List Ru, (sortR l).Perm l
  | [] => .refl _
  | x :: l => (insR_perm x _).trans ((sortR_perm l).cons x)
theorem cmp_ints : ∀ (a b : List Int), cmpDs (a.map D.int) (b.map D.int) = true
  | [], [] => rfl
  | [], _ :: _ => rfl
  | _ :: _, [] => rfl
  | x :: a, y :: b => by
    have := cmp_ints a b
    simp only [List.map_cons, cmpDs, cmpD, Bool.true_and]; exact this
theorem ok_ints (n : Nat) : ∀ a : List Int, okDs n (a.map D.int) = true
  | [] => rfl
  | x :: a => by
    have := ok_ints n a
    simp only [List.map_cons, okDs, okD, Bool.true_and]; exact this
theorem ok_rd (n : Nat) (r : Ru) : okD (n + 2) (rd r) = true := by
  simp only [rd, okD, okDs, ok_ints, Bool.and_self]
theorem okSort_rd (l : List Ru) : okSort (l.map rd) = true := by
  unfold okSort
  rw [Bool.and_eq_true]
  constructor
  · induction l with
    | nil => rfl
    | cons x l ih => simp only [List.map_cons, okDs, Bool.and_eq_true]; exact ⟨ok_rd 38 x, ih⟩
  · rw [List.all_eq_true]
    intro x hx
    obtain ⟨c, _, rfl⟩ := List.mem_map.mp hx
    rw [List.all_eq_true]
    intro y hy
    obtain ⟨d, _, rfl⟩ := List.mem_map.mp hy
    have e : cmpD (rd c) (rd d) = true := by simp only [rd, cmpD, cmpDs, cmp_ints, Bool.and_self]
    rw [e]; rfl
/-- what is drawn as a book -/
structure Bk where
  e : Int
  w : Int
  z : List Nat
  rs : List Ru
def bd (k : Bk) : D := .tup [.int k.e, .int k.w, .str k.z, .tup (k.rs.map rd)]
structure BkOk (k : Bk) : Prop where
  e0 : 0 ≤ k.e
  e1 : k.e ≤ 250
  w0 : 4 ≤ k.w
  w1 : k.w ≤ 16
  z1 : 1 ≤ k.z.length
  z4 : k.z.length ≤ 4
  zu : k.z.Pairwise (· < ·)
  za : ∀ a ∈ k.z, a ∈ az
  len : k.rs.length ≤ 16
  ok : ∀ r ∈ k.rs, RuOk k.z r
  nd : (k.rs.map key).Nodup
  up : k.rs.Pairwise fun x y => ltT (rd y) (rd x) = false
  all : ∀ a ∈ k.z, ([a], any_) ∈ k.rs.map key
theorem bnd_ints (n : Nat) : ∀ a : List Int, bndDs n (a.map D.int) = true
  | [] => rfl
  | x :: a => by
    have := bnd_ints n a
    simp only [List.map_cons, bndDs, bndD, Bool.true_and]; exact this
theorem bnd_rds (n : Nat) : ∀ l : List Ru, bndDs n (l.map rd) = true
  | [] => rfl
  | x :: l => by
    have := bnd_rds n l
    simp only [List.map_cons, bndDs, rd, bndD, bnd_ints, Bool.true_and, Bool.and_true, Bool.and_self] at this ⊢; exact this
theorem bnd_bd (n : Nat) (k : Bk) : bndD n (bd k) = true := by
  simp only [bd, bndD, bndDs, bnd_rds, Bool.and_self]
theorem book {s : Sto} {b : Nat} {mo me : Int} (hb : Bowl s b) (h0 : 0 < mo) (h1 : mo ≤ 4) (m0 : 0 ≤ me) (m1 : me ≤ 9) : ∃ k c, BkOk k ∧ BowlC c ∧ f__law_book [.d (.ref b), .d (.int mo), .d (.int me)] s = some (.ok (bd k), s.set b c) := by
  have hlt := hb.lt
  obtain ⟨z, c1, z1, z4, zu, za, hc1, hlet⟩ := letters hb h0 h1
  obtain ⟨wd, c2, hw, hc2, hof⟩ := of_tup (xs := [.int 2, .int 3, .int 5, .int 62]) (hb.set hc1) (by simp) (by simp)
  rw [List.set_set] at hof
  obtain ⟨wide, rfl, w0, w1⟩ : ∃ w, wd = .int w ∧ 0 < w ∧ w ≤ 62 := by
    simp only [List.mem_cons, List.mem_nil_iff, or_false] at hw
    rcases hw with rfl | rfl | rfl | rfl <;> exact ⟨_, rfl, by omega, by omega⟩
  have hbody : c__law_book = sSeq (sTrim (sAsg (eFn mkTup (aCons (eCall f__law_letters (aCons (eVar 0) (aCons (eVar 1) aNil))) (aCons (eCall f__law_of (aCons (eVar 0) (aCons (eFn mkTup (aCons (eC (.int 2)) (aCons (eC (.int 3)) (aCons (eC (.int 5)) (aCons (eC (.int 62)) aNil))))) aNil))) (aCons (eFn mkLst aNil) (aCons (eFn mkLst aNil) aNil))))) (gTupD 4 (gsCons (gSet 3) (gsCons (gSet 4) (gsCons (gSet 5) (gsCons (gSet 6) gsNil)))))))
      (sSeq (sFor (iAny (eVar 3)) (gSet 7) b1) (sSeq (sFor (iRange1 (aCons (eCall f__law_draw (aCons (eVar 0) (aCons (eOp addD (eVar 2) (eC (.int 1))) aNil))) aNil)) (gSet 8) b2)
        (sRet (eFn mkTup (aCons (eCall f__law_draw (aCons (eVar 0) (aCons (eC (.int 251)) aNil))) (aCons (eOp addD (eC (.int 4)) (eCall f__law_draw (aCons (eVar 0) (aCons (eC (.int 13)) aNil)))) (aCons (eVar 3) (aCons (eFn tupleOf (aCons (eFn sortedD (aCons (eVar 5) aNil)) aNil)) aNil)))))))) := rfl
  have z2 : z.length ≤ 4 := by omega
  -- the first statement
  have st1 : sTrim (sAsg (eFn mkTup (aCons (eCall f__law_letters (aCons (eVar 0) (aCons (eVar 1) aNil))) (aCons (eCall f__law_of (aCons (eVar 0) (aCons (eFn mkTup (aCons (eC (.int 2)) (aCons (eC (.int 3)) (aCons (eC (.int 5)) (aCons (eC (.int 62)) aNil))))) aNil))) (aCons (eFn mkLst aNil) (aCons (eFn mkLst aNil) aNil))))) (gTupD 4 (gsCons (gSet 3) (gsCons (gSet 4) (gsCons (gSet 5) (gsCons (gSet 6) gsNil)))))) [some (.d (.ref b)), some (.d (.int mo)), some (.d (.int me)), none, none, none, none, none, none, none] s =
      some (.ok (.nx (envB b mo me z wide s.length none none none)), s.set b c2 ++ [.lst [], .lst []]) := by
    have e4 : (4 : Nat) ≤ PySem.sizeLine := sz (by omega)
    have e0 : (0 : Nat) ≤ PySem.sizeLine := Nat.zero_le _
    unfold envB
    simp [hlet, hof, e4, e0, rootsE, bndA, bndD]
  have S0 : St s b [] (s.set b c2 ++ [.lst [], .lst []]) := ⟨⟨c2, _, hc2, rfl⟩, by rw [List.getElem?_append_right (by simp)]; simp, by rw [List.getElem?_append_right (by simp)]; simp⟩
  -- the letters' own rules
  obtain ⟨env1, t1, hl1, ⟨rs1, k7, rfl, S1, len1, ok1, key1⟩⟩ := forL_inv (g := gSet 7) (b := b1) (chk := fun _ => true)
    (fun i env t => ∃ rs k7, env = envB b mo me z wide s.length k7 none none ∧ St s b rs t ∧ rs.length = i ∧ (∀ r ∈ rs, RuOk z r) ∧ rs.map key = (z.take i).map fun a => ([a], any_))
    (z.map fun c => D.str [c]) 0 (envB b mo me z wide s.length none none none) _ ⟨[], none, rfl, S0, rfl, (fun _ h => by cases h), by simp⟩
    (fun j x env t hj ⟨rs, k7, he, hS, hlen, hok, hkey⟩ => by
      obtain ⟨a, ha, rfl⟩ : ∃ a, z[j]? = some a ∧ x = .str [a] := by
        rw [List.getElem?_map] at hj
        cases hz : z[j]? with
        | none => rw [hz] at hj; cases hj
        | some a => rw [hz] at hj; exact ⟨a, rfl, (Option.some.inj hj).symm⟩
      have hjl := (List.getElem?_eq_some_iff.mp ha).1
      obtain ⟨r, t', hr, hk, hS', hrun⟩ := turn1 (mo := mo) (me := me) (k8 := none) (k9 := none) hb hS (by omega) w0 w1 (List.mem_of_getElem? ha)
      subst he
      refine ⟨rfl, _, _, _, t', rfl, hrun, rs ++ [r], some (.d (.str [a])), rfl, hS', by simp [hlen], fun r' hr' => ?_, ?_⟩
      · rcases List.mem_append.mp hr' with h | h
        · exact hok r' h
        · simp at h; subst h; exact hr
      · rw [List.map_append, hkey]
        simp only [List.map_cons, List.map_nil, hk]
        rw [show 0 + j + 1 = j + 1 by omega, show 0 + j = j by omega, List.take_add_one, ha]
        simp)
    (fun env t hI => rfl)
  simp only [Nat.zero_add, List.length_map] at len1 key1
  rw [List.take_length] at key1
  have hnd1 : (rs1.map key).Nodup := by
    rw [key1]
    refine List.Pairwise.map _ (fun a b hab => ?_) (zu.imp fun h => Nat.ne_of_lt h)
    exact fun h => hab (by simpa using h)
  -- how many more
  obtain ⟨v3, c3, k1, k2, hc3, hd3⟩ := draw (m := me + 1) (S1.bowl hb) (by omega) (by omega)
  have S1' := S1.draw hb hc3
  obtain ⟨m, rfl⟩ : ∃ m : Nat, v3 = m := ⟨v3.toNat, by omega⟩
  obtain ⟨env2, t2, hl2, ⟨rs, k8, k9, rfl, S2, len2, ok2, nd2, key2⟩⟩ := forL_inv (g := gSet 8) (b := b2) (chk := fun _ => true)
    (fun i env t => ∃ rs k8 k9, env = envB b mo me z wide s.length k7 k8 k9 ∧ St s b rs t ∧ rs.length ≤ 16 ∧ (∀ r ∈ rs, RuOk z r) ∧ (rs.map key).Nodup ∧ ∀ a ∈ z, ([a], any_) ∈ rs.map key)
    (rangeD 0 m) 0 (envB b mo me z wide s.length k7 none none) _ ⟨rs1, none, none, rfl, S1', by omega, ok1, hnd1, fun a ha => by rw [key1]; exact List.mem_map.mpr ⟨a, ha, rfl⟩⟩
    (fun j x env t hj ⟨rs, k8, k9, he, hS, hlen, hok, hnd, hkey⟩ => by
      obtain ⟨k9', t', hrun, hcase⟩ := turn2 (mo := mo) (me := me) (k7 := k7) (k8 := some (.d x)) (k9 := k9) hb hS hlen w0 w1 z1 (by omega)
      subst he
      rcases hcase with hS' | ⟨r, hr, hnk, h16, hS'⟩
      · exact ⟨rfl, _, _, _, t', rfl, hrun, rs, _, k9', rfl, hS', hlen, hok, hnd, hkey⟩
      · refine ⟨rfl, _, _, _, t', rfl, hrun, rs ++ [r], _, k9', rfl, hS', by simp; omega, fun r' hr' => ?_, ?_, fun a ha => ?_⟩
        · rcases List.mem_append.mp hr' with h | h
          · exact hok r' h
          · simp at h; subst h; exact hr
        · rw [List.map_append, List.nodup_append]
          refine ⟨hnd, by simp, fun x hx y hy => ?_⟩
          simp at hy; subst hy
          intro e; subst e; exact hnk hx
        · rw [List.map_append]; exact List.mem_append_left _ (hkey a ha))
    (fun env t hI => rfl)
  -- the end
  obtain ⟨v4, c4, e0, e1, hc4, hd4⟩ := draw (m := 251) (S2.bowl hb) (by omega) (by omega)
  have S3 := S2.draw hb hc4
  obtain ⟨v5, c5, f0, f1, hc5, hd5⟩ := draw (m := 13) (S3.bowl hb) (by omega) (by omega)
  have S4 := S3.draw hb hc5
  obtain ⟨c, g, hc, ht⟩ := S4.ex
  have hperm := sortR_perm rs
  refine ⟨⟨v4, 4 + v5, z, sortR rs⟩, c, ⟨e0, by show v4 ≤ 250; omega, by show 4 ≤ 4 + v5; omega, by show 4 + v5 ≤ 16; omega, z1, z2, zu, za, by rw [show (Bk.mk v4 (4 + v5) z (sortR rs)).rs = sortR rs from rfl, hperm.length_eq]; exact len2, fun r hr => ok2 r (hperm.mem_iff.mp hr), ((hperm.map key).nodup_iff).mpr nd2, ?_, fun a ha => (hperm.map key).mem_iff.mpr (key2 a ha)⟩, hc, ?_⟩
  · have := sortT_up (rs.map rd)
    rw [sort_rd] at this
    exact List.pairwise_map.mp this
  · have hsort : sortedD [.ref s.length] (s.set b c ++ g) = some (.ref (s.length + g.length), s.set b c ++ (g ++ [.lst ((sortR rs).map rd)])) := by
      rw [← ht, sorted_of (lstAt_lst S4.r) (okSort_rd rs), sort_rd, ht]; simp
    have htup : tupleOf [.ref (s.length + g.length)] (s.set b c ++ (g ++ [.lst ((sortR rs).map rd)])) = some (.tup ((sortR rs).map rd), s.set b c ++ (g ++ [.lst ((sortR rs).map rd)])) := by
      refine tupleOf_ref (lstAt_lst ?_)
      rw [← List.append_assoc, List.getElem?_append_right (by simp)]; simp
    have htrim : trim s true (s.set b c ++ (g ++ [.lst ((sortR rs).map rd)])) = s.set b c := trim_set_app s _ b c (hc.bnd _)
    have e4 : (4 : Nat) ≤ PySem.sizeLine := sz (by omega)
    have hbn := bnd_bd s.length ⟨v4, 4 + v5, z, sortR rs⟩
    simp only [bd] at hbn
    have hfor1 : sFor (iAny (eVar 3)) (gSet 7) b1 (envB b mo me z wide s.length none none none) (s.set b c2 ++ [.lst [], .lst []]) = some (.ok (.nx (envB b mo me z wide s.length k7 none none)), t1) := by
      unfold sFor
      have : iAny (eVar 3) (envB b mo me z wide s.length none none none) (s.set b c2 ++ [.lst [], .lst []]) = some (.ok ⟨z.map fun c => D.str [c], fun _ => true⟩, s.set b c2 ++ [.lst [], .lst []]) := by
        unfold envB; simp [itemsOf, TP.ret]
      rw [this, bind_ok]; exact hl1
    have hfor2 : sFor (iRange1 (aCons (eCall f__law_draw (aCons (eVar 0) (aCons (eOp addD (eVar 2) (eC (.int 1))) aNil))) aNil)) (gSet 8) b2 (envB b mo me z wide s.length k7 none none) t1 = some (.ok (.nx (envB b mo me z wide s.length k7 k8 k9)), t2) := by
      unfold sFor
      have hsm : smallI (m : Int) = true := small_nat (by omega)
      have : iRange1 (aCons (eCall f__law_draw (aCons (eVar 0) (aCons (eOp addD (eVar 2) (eC (.int 1))) aNil))) aNil) (envB b mo me z wide s.length k7 none none) t1 = some (.ok ⟨rangeD 0 m, fun _ => true⟩, t1.set b c3) := by
        unfold envB; simp [hd3, hsm, TP.ret]
      rw [this, bind_ok]; exact hl2
    unfold f__law_book
    rw [callF_def (by rfl), hbody]
    simp only [List.map_cons, List.map_nil, Nat.reduceSub, List.replicate_succ, List.replicate_zero, List.cons_append, List.nil_append, sSeq_def, st1, bind_ok, hfor1, hfor2]
    rw [ht] at hd5
    unfold envB
    simp [hd4, hd5, hsort, htup, htrim, e4, hbn, bd]
end K01
namespace K01
open TP
@[simp] theorem e_whole {s : Sto} {i : Int} : f_is_whole [.d (.int i)] s = some (.ok (.bl true), s) := by
  simp [f_is_whole, callF_def, c_is_whole, tyName]
@[simp] theorem e_between {s : Sto} {v a b : Int} : f_is_between [.d (.int v), .d (.int a), .d (.int b)] s = some (.ok (.bl (decide (a ≤ v) && decide (v ≤ b))), s) := by
  by_cases h : a ≤ v <;> simp [f_is_between, callF_def, c_is_between, h]
@[simp] theorem e_up_to {s : Sto} {v b : Int} : f_is_up_to [.d (.int v), .d (.int b)] s = some (.ok (.bl (decide (0 ≤ v) && decide (v ≤ b))), s) := by
  simp [f_is_up_to, callF_def, c_is_up_to]
@[simp] theorem e_cell {s : Sto} {v : Int} : f_is_rule_cell [.d (.int v)] s = some (.ok (.bl (decide (1 ≤ v) && decide (v ≤ 62))), s) := by
  simp [f_is_rule_cell, callF_def, c_is_rule_cell]
theorem e_tuple_of {s : Sto} {xs : List D} {n : Int} : f_is_tuple_of [.d (.tup xs), .d (.int n)] s = some (.ok (.bl (decide ((xs.length : Int) = n))), s) := by
  simp [f_is_tuple_of, callF_def, c_is_tuple_of, tyName]
/-- are_below, where it is true -/
theorem below_nil {s : Sto} {y : D} : f_are_below [.d (.tup []), .d y] s = some (.ok (.bl true), s) := by
  have e : (0 : Nat) ≤ PySem.sizeLine := Nat.zero_le _
  simp [f_are_below, callF_def, c_are_below, e, eq_nil]
theorem below_cons {s : Sto} {xs : List D} {x y : D} {b : Bool} (h : xs[xs.length - 1]? = some x) (hl : 0 < xs.length) (hlt : ltD x y s = some (.bl b, s)) : f_are_below [.d (.tup xs), .d y] s = some (.ok (.bl b), s) := by
  have e : (0 : Nat) ≤ PySem.sizeLine := Nat.zero_le _
  have e1 : xs.isEmpty = false := by cases xs <;> simp at hl ⊢
  have e2 : ixD (.tup xs) (.int (-1)) s = some (x, s) := ixD_tup (ixN_last hl) h
  simp [f_are_below, callF_def, c_are_below, e, eq_nil, e1, e2, hlt, bndD]
theorem in_str {s : Sto} {a : Nat} {z : List Nat} : inD false (.str [a]) (.str z) s = some (.bl (decide (a ∈ z)), s) := rfl
theorem take_last {α : Type} {l : List α} {j : Nat} (h0 : 0 < j) (h : j ≤ l.length) : (l.take j)[(l.take j).length - 1]? = l[j - 1]? := by
  rw [List.length_take, Nat.min_eq_left h, List.getElem?_take_of_lt (by omega)]
theorem e_letters {s : Sto} {z : List Nat} (z1 : 1 ≤ z.length) (z4 : z.length ≤ 4) (zu : z.Pairwise (· < ·)) (za : ∀ a ∈ z, a ∈ az) : f_are_letters [.d (.str z)] s = some (.ok (.bl true), s) := by
  have hlen : ∀ s : Sto, lenD [.str z] s = some (.int z.length, s) := fun s => lenD_str (sz (by omega))
  have hcomp := eLc_pure (fi := iEnumD (aCons (eVar 0) aNil)) (env := [some (.d (.str z)), none, none]) (s := s) (s1 := s) (gx := xTup 2 (xsCons (xName 1) (xsCons (xName 2) xsNil))) (tt := bYes) (e := eAnd (eOp (inD false) (eVar 2) (eC (.str az))) (eCall f_are_below (aCons (eFn tupleOf (aCons (eSlice (eVar 0) none (some (eVar 1))) aNil)) (aCons (eVar 2) aNil)))) (vs := [1, 2])
    (src := ⟨enumD (z.map fun c => D.str [c]), fun _ => true⟩) (fun _ => some (.bl true)) (by simp) (by simp; omega) (fun _ => rfl) (fun x hx => by
      obtain ⟨j, hj⟩ := List.getElem?_of_mem hx
      obtain ⟨y, hy, rfl⟩ := enumD_get hj
      obtain ⟨a, ha, rfl⟩ : ∃ a, z[j]? = some a ∧ y = .str [a] := by
        rw [List.getElem?_map] at hy
        cases hz : z[j]? with
        | none => rw [hz] at hy; cases hy
        | some a => rw [hz] at hy; exact ⟨a, rfl, (Option.some.inj hy).symm⟩
      have hjl := (List.getElem?_eq_some_iff.mp ha).1
      have haz : a ∈ az := za a (List.mem_of_getElem? ha)
      refine ⟨[(1, .int j), (2, .str [a])], rfl, by simp, fun acc => ⟨rfl, fun y' hy' => ?_⟩⟩
      cases hy'
      have h1 : sliceD (.str z) none (some (j : Int)) (s ++ [.lst acc]) = some (.str (z.take j), s ++ [.lst acc]) := by rw [sliceD_str (by omega), cut_to (by omega)]
      have h2 : tupleOf [.str (z.take j)] (s ++ [.lst acc]) = some (.tup (signs (z.take j)), s ++ [.lst acc]) := tupleOf_str (by simp; omega)
      have h3 : f_are_below [.d (.tup (signs (z.take j))), .d (.str [a])] (s ++ [.lst acc]) = some (.ok (.bl true), s ++ [.lst acc]) := by
        cases j with
        | zero => exact below_nil
        | succ j =>
          have hb : z[j]? = some z[j] := List.getElem?_eq_getElem (by omega)
          have hlt : z[j] < a := by
            have := (List.pairwise_iff_getElem.mp zu) j (j + 1) (by omega) hjl (by omega)
            rw [List.getElem?_eq_getElem hjl] at ha; cases ha; exact this
          refine below_cons (x := .str [z[j]]) ?_ (by rw [signs_len]; simp; omega) ?_
          · rw [signs_len]
            refine signs_get ?_
            rw [take_last (by omega) (by omega)]; exact hb
          · rw [ltD_str]; simp only [one_lt hlt, decide_true]
      have h0 : inD false (.str [a]) (.str az) (s ++ [.lst acc]) = some (.bl true, s ++ [.lst acc]) := by rw [in_str]; simp only [haz, decide_true]
      simp only [setsE, maskE, wipeE, List.map_cons, List.map_nil, dropF, List.set_cons_succ, List.set_cons_zero]
      clear ha hjl haz hj hx hy
      simp [h0, h1, h2, h3])
  have hall : ∀ s' : Sto, s' = s ++ [.lst ((enumD (z.map fun c => D.str [c])).filterMap fun _ => some (.bl true))] → allD false [.ref s.length] s' = some (.bl true, s') := fun s' e => by
    subst e
    refine all_true (lstAt_lst snoc_get) fun x hx => ?_
    obtain ⟨y, _, hy⟩ := List.mem_filterMap.mp hx
    cases hy; rfl
  unfold f_are_letters
  rw [callF_def (by rfl)]
  unfold c_are_letters
  have l1 : (1 : Int) ≤ z.length := by omega
  have l4 : (z.length : Int) ≤ 4 := by omega
  have hif : sIf (bOr (bNot (bOf (eIsTy "str" (eVar 0)))) (bNot (bOf (eChain leI leI (eC (.int 1)) (eFn lenD (aCons (eVar 0) aNil)) (eC (.int 4)))))) (sRet (eC (.bl false))) sNext [some (.d (.str z)), none, none] s = some (.ok (.nx [some (.d (.str z)), none, none]), s) := by
    simp [tyName, hlen, l1, l4]
  simp only [List.map_cons, List.map_nil, Nat.reduceSub, List.replicate_succ, List.replicate_zero, List.cons_append, List.nil_append, sSeq_def, hif, bind_ok, sRet_def, eFn_def, aCons_def, hcomp, aNil_def, plain_d, plain_nil, Option.map_some]
  rw [hall _ rfl]
  simp only [lift_some, bind_ok, trimS_ok, rootsF_rt, bndD, trim_app, finF_rt]

theorem e_print {s : Sto} {z p : List Nat} (p1 : 1 ≤ p.length) (p3 : p.length ≤ 3) (pz : ∀ a ∈ p, a ∈ z) : f_is_print [.d (.str z), .d (.str p)] s = some (.ok (.bl true), s) := by
  have hlen : lenD [.str p] s = some (.int p.length, s) := lenD_str (sz (by omega))
  have hcomp := eLc_pure (fi := iAny (eVar 1)) (env := [some (.d (.str z)), some (.d (.str p)), none]) (s := s) (s1 := s) (gx := xName 2) (tt := bYes) (e := eOp (inD false) (eVar 2) (eVar 0)) (vs := [2])
    (src := ⟨p.map fun c => D.str [c], fun _ => true⟩) (fun _ => some (.bl true)) (by simp [TP.ret]) (by simp; omega) (fun _ => rfl) (fun x hx => by
      obtain ⟨a, ha, rfl⟩ := List.mem_map.mp hx
      have haz := pz a ha
      refine ⟨[(2, .str [a])], rfl, by simp, fun acc => ⟨rfl, fun y' hy' => ?_⟩⟩
      cases hy'
      have h0 : inD false (.str [a]) (.str z) (s ++ [.lst acc]) = some (.bl true, s ++ [.lst acc]) := by rw [in_str]; simp only [haz, decide_true]
      simp only [setsE, maskE, wipeE, List.map_cons, List.map_nil, dropF, List.set_cons_succ, List.set_cons_zero]
      simp [h0])
  have hall : ∀ s' : Sto, s' = s ++ [.lst ((p.map fun c => D.str [c]).filterMap fun _ => some (.bl true))] → allD false [.ref s.length] s' = some (.bl true, s') := fun s' e => by
    subst e
    refine all_true (lstAt_lst snoc_get) fun x hx => ?_
    obtain ⟨y, _, hy⟩ := List.mem_filterMap.mp hx
    cases hy; rfl
  have l1 : (1 : Int) ≤ p.length := by omega
  have l3 : (p.length : Int) ≤ 3 := by omega
  have e1 : eIsTy "str" (eVar 1) [some (.d (.str z)), some (.d (.str p)), none] s = some (.ok (.bl true), s) := by simp [tyName]
  have e2 : eChain leI leI (eC (.int 1)) (eFn lenD (aCons (eVar 1) aNil)) (eC (.int 3)) [some (.d (.str z)), some (.d (.str p)), none] s = some (.ok (.bl true), s) := by simp [hlen, l1, l3]
  unfold f_is_print
  rw [callF_def (by rfl)]
  unfold c_is_print
  simp only [List.map_cons, List.map_nil, Nat.reduceSub, List.replicate_succ, List.replicate_zero, List.cons_append, List.nil_append, sRet_def, eAnd_def, e1, e2, bind_ok, if_true, eFn_def, aCons_def, hcomp, aNil_def, plain_d, plain_nil, Option.map_some]
  rw [hall _ rfl]
  simp only [lift_some, bind_ok, trimS_ok, rootsF_rt, bndD, trim_app, finF_rt]
theorem any_str {s : Sto} {w : List Nat} : ∀ l : List (List Nat), anyD (fun z => eqD s maxN z (.str w)) (l.map D.str) = some (decide (w ∈ l))
  | [] => by simp [anyD]
  | x :: l => by
    have e : eqD s maxN (.str x) (.str w) = some (x == w) := rfl
    simp only [List.map_cons, anyD, e, any_str l]
    by_cases h1 : x = w
    · subst h1; simp
    · have h1' : ¬ w = x := fun h => h1 h.symm
      by_cases h2 : w ∈ l <;> simp [h1, h1', h2]
theorem e_one_of {s : Sto} {w : List Nat} {l : List (List Nat)} {n : Nat} (h : lstAt s n = some (l.map D.str)) (hw : w ∈ l) : f_is_one_of [.d (.str w), .d (.ref n)] s = some (.ok (.bl true), s) := by
  have e : inD false (.str w) (.ref n) s = some (.bl true, s) := by
    show (match lstAt s n with | some ys => (anyD (fun z => eqD s maxN z (.str w)) ys).map fun b => (D.bl (if false then !b else b), s) | none => none) = _
    rw [h]
    simp only [any_str, Option.map_some, hw, decide_true]; rfl
  simp [f_is_one_of, callF_def, c_is_one_of, tyName, e, bndD]
/-- wrong_in, where nothing is wrong -/
theorem e_wrong_in {s : Sto} {xs : List D} {least most : Int} {n : Nat} {g : List D → Sto → R D} (h0 : least ≤ xs.length) (h1 : (xs.length : Int) ≤ most)
    (hg : ∀ (j : Nat) (x : D), xs[j]? = some x → g [.tup (xs.take j), x] s = some (.ok (.bl true), s)) : f_wrong_in [.d (.tup xs), .d (.int least), .d (.int most), .f n g] s = some (.ok (.ref s.length), s ++ [.lst []]) := by
  have e0 : (0 : Nat) ≤ PySem.sizeLine := Nat.zero_le _
  have hl : ¬ (xs.length : Int) < least := by omega
  obtain ⟨env', s', hf, k4, k5, he, hs⟩ := forL_inv (g := gTupD 2 (gsCons (gSet 4) (gsCons (gSet 5) gsNil))) (b := sIf (bOr (bOf (eOp eqOp (eVar 4) (eVar 2))) (bNot (bOf (eSlot 3 (aCons (eSlice (eVar 0) none (some (eVar 4))) (aCons (eVar 5) aNil)))))) (sRet (eFn mkLst (aCons (eVar 4) aNil))) sNext) (chk := fun _ => true)
    (fun i env t => ∃ k4 k5, env = [some (.d (.tup xs)), some (.d (.int least)), some (.d (.int most)), some (.f n g), k4, k5] ∧ t = s) (enumD xs) 0 [some (.d (.tup xs)), some (.d (.int least)), some (.d (.int most)), some (.f n g), none, none] s ⟨none, none, rfl, rfl⟩
    (fun j x env t hj ⟨k4, k5, he, ht⟩ => by
      obtain ⟨y, hy, rfl⟩ := enumD_get hj
      have hjl := (List.getElem?_eq_some_iff.mp hy).1
      have hgj := hg j y hy
      subst he; subst ht
      have hne : ¬ (j : Int) = most := by omega
      have hcut : cutL xs none (some (j : Int)) = xs.take j := cut_to (by omega)
      refine ⟨rfl, [some (.d (.tup xs)), some (.d (.int least)), some (.d (.int most)), some (.f n g), some (.d (.int j)), some (.d y)], t, [some (.d (.tup xs)), some (.d (.int least)), some (.d (.int most)), some (.f n g), some (.d (.int j)), some (.d y)], t, by simp, ?_, some (.d (.int j)), some (.d y), rfl, rfl⟩
      clear hj hy hjl
      simp [hne, hcut, hgj, eSlot_def (F := g) (n := n)])
    (fun env t hI => rfl)
  rw [he, hs] at hf
  have hif : sIf (bOr (bNot (bOf (eIsTy "tuple" (eVar 0)))) (bOf (eOp ltD (eFn lenD (aCons (eVar 0) aNil)) (eVar 1)))) (sRet (eFn mkLst (aCons (eC .non) aNil))) sNext [some (.d (.tup xs)), some (.d (.int least)), some (.d (.int most)), some (.f n g), none, none] s = some (.ok (.nx [some (.d (.tup xs)), some (.d (.int least)), some (.d (.int most)), some (.f n g), none, none]), s) := by
    simp [tyName, hl]
  have hfor : sFor (iEnumD (aCons (eVar 0) aNil)) (gTupD 2 (gsCons (gSet 4) (gsCons (gSet 5) gsNil))) (sIf (bOr (bOf (eOp eqOp (eVar 4) (eVar 2))) (bNot (bOf (eSlot 3 (aCons (eSlice (eVar 0) none (some (eVar 4))) (aCons (eVar 5) aNil)))))) (sRet (eFn mkLst (aCons (eVar 4) aNil))) sNext) [some (.d (.tup xs)), some (.d (.int least)), some (.d (.int most)), some (.f n g), none, none] s =
      some (.ok (.nx [some (.d (.tup xs)), some (.d (.int least)), some (.d (.int most)), some (.f n g), k4, k5]), s) := by
    unfold sFor
    have : iEnumD (aCons (eVar 0) aNil) [some (.d (.tup xs)), some (.d (.int least)), some (.d (.int most)), some (.f n g), none, none] s = some (.ok ⟨enumD xs, fun _ => true⟩, s) := by simp
    rw [this, bind_ok]; exact hf
  unfold f_wrong_in
  rw [callF_def (by rfl)]
  unfold c_wrong_in
  simp only [List.map_cons, List.map_nil, Nat.reduceSub, List.replicate_succ, List.replicate_zero, List.cons_append, List.nil_append, sSeq_def, hif, hfor, bind_ok]
  simp [e0, bndD]
theorem e_are_all {s : Sto} {xs : List D} {least most : Int} {n : Nat} {g : List D → Sto → R D} (h0 : least ≤ xs.length) (h1 : (xs.length : Int) ≤ most)
    (hg : ∀ (j : Nat) (x : D), xs[j]? = some x → g [x] s = some (.ok (.bl true), s)) : f_are_all [.d (.tup xs), .d (.int least), .d (.int most), .f n g] s = some (.ok (.bl true), s) := by
  have hw := e_wrong_in (s := s) (xs := xs) (least := least) (most := most) (n := s.length) (g := callL 0 2 [some (.f n g)] (eSlot 2 (aCons (eVar 1) aNil))) h0 h1 (fun j x hx => by
    rw [callL_def (by rfl)]
    have := hg j x hx
    clear hx
    simp [this, eSlot_def (F := g) (n := n), bndD])
  have e0 : (0 : Nat) ≤ PySem.sizeLine := Nat.zero_le _
  have heq : eqOp (.ref s.length) (.ref (s.length + 1)) (s ++ [.lst [], .lst []]) = some (.bl true, s ++ [.lst [], .lst []]) :=
    eq_lists (xs := []) (ys := []) (lstAt_lst (by simp)) (lstAt_lst (by simp)) rfl rfl
  simp [f_are_all, callF_def, c_are_all, capsOf, hw, e0, heq, bndD]
theorem e_rule {s : Sto} {z : List Nat} {r : Ru} (h : RuOk z r) : f_is_rule [.d (.str z), .d (rd r)] s = some (.ok (.bl true), s) := by
  have h1 := e_tuple_of (s := s) (xs := [.str r.p, .str r.w, .tup (r.cs.map .int)]) (n := 3)
  have h2 := e_print (s := s) h.p1 h.p3 h.pz
  have h3 := e_one_of (s := s ++ [.lst (wheres.map D.str)]) (l := wheres) (lstAt_lst snoc_get) h.w
  have h4 := e_are_all (s := s ++ [.lst (wheres.map D.str)]) (xs := r.cs.map .int) (least := 1) (most := 3) (n := 0) (g := fun ds s => f_is_rule_cell (ds.map TP.A.d) s) (by have := h.c1; simp; omega) (by have := h.c3; simp; omega) (fun j x hx => by
    obtain ⟨c, hc, rfl⟩ := List.mem_map.mp (List.mem_of_getElem? hx)
    have := h.c c hc
    simp [this.1, this.2])
  have i0 : ∀ s : Sto, ixD (.tup [.str r.p, .str r.w, .tup (r.cs.map .int)]) (.int 0) s = some (.str r.p, s) := fun s => ixD_tup (j := 0) (by rfl) rfl
  have i1 : ∀ s : Sto, ixD (.tup [.str r.p, .str r.w, .tup (r.cs.map .int)]) (.int 1) s = some (.str r.w, s) := fun s => ixD_tup (j := 1) (by rfl) rfl
  have i2 : ∀ s : Sto, ixD (.tup [.str r.p, .str r.w, .tup (r.cs.map .int)]) (.int 2) s = some (.tup (r.cs.map .int), s) := fun s => ixD_tup (j := 2) (by rfl) rfl
  have hl : TP.listOf [.tup [.str [97, 110, 121], .str [98, 101, 103, 105, 110], .str [101, 110, 100], .str [109, 105, 100, 100, 108, 101], .str [119, 104, 111, 108, 101]]] s = some (.ref s.length, s ++ [.lst (wheres.map D.str)]) := listOf_tup
  simp only [rd]
  simp only [List.length_cons, List.length_nil] at h1
  simp at h1
  generalize wheres.map D.str = W at hl h3 h4
  simp [f_is_rule, callF_def, c_is_rule, h1, i0, i1, i2, h2, hl, h3, h4, bndD]
end K01
namespace K01
open TP
theorem rd_lt {s : Sto} {r r' : Ru} (hk : key r ≠ key r') (h : ltT (rd r') (rd r) = false) : ltD (rd r) (rd r') s = some (.bl true, s) := by
  have hne : rd r ≠ rd r' := fun e => hk (by simp only [rd, D.tup.injEq, List.cons.injEq, D.str.injEq] at e; simp only [key, e.1, e.2.1])
  have hlt : ltT (rd r) (rd r') = true := by
    rcases ltT_total _ _ hne with g | g
    · exact g
    · rw [h] at g; cases g
  have hc : cmpD (rd r) (rd r') = true := by simp only [rd, cmpD, cmpDs, cmp_ints, Bool.and_self]
  unfold ltD
  rw [ok_rd 38 r, ok_rd 38 r', hc, hlt]; rfl
theorem ne_kd {s : Sto} {k k' : List Nat × List Nat} : neOp (kd k) (kd k') s = some (.bl (!decide (k = k')), s) := by
  have e : eqD s maxN (kd k) (kd k') = some (decide (k = k')) := kd_eq
  unfold neOp; rw [e]; rfl
theorem cut_two {r : Ru} : cutL [D.str r.p, D.str r.w, D.tup (r.cs.map .int)] none (some 2) = [.str r.p, .str r.w] := cut_to (n := 2) (by simp)
theorem e_behind {s : Sto} {rs : List Ru} {j : Nat} {r : Ru} (hr : rs[j]? = some r) (nd : (rs.map key).Nodup) (up : rs.Pairwise fun x y => ltT (rd y) (rd x) = false) : f_is_behind [.d (.tup ((rs.map rd).take j)), .d (rd r)] s = some (.ok (.bl true), s) := by
  have e0 : (0 : Nat) ≤ PySem.sizeLine := Nat.zero_le _
  have hjl := (List.getElem?_eq_some_iff.mp hr).1
  cases j with
  | zero =>
    have h1 := below_nil (s := s) (y := rd r)
    clear hr hjl
    simp [f_is_behind, callF_def, c_is_behind, h1, e0, eq_nil]
  | succ j =>
    have hp : rs[j]? = some rs[j] := List.getElem?_eq_getElem (by omega)
    have hrr : rs[j + 1] = r := by rw [List.getElem?_eq_getElem hjl] at hr; exact Option.some.inj hr
    have hup := (List.pairwise_iff_getElem.mp up) j (j + 1) (by omega) hjl (by omega)
    rw [hrr] at hup
    have hk : key rs[j] ≠ key r := by
      have := (List.pairwise_iff_getElem.mp (List.nodup_iff_pairwise_ne.mp nd)) j (j + 1) (by simp; omega) (by simpa using hjl) (by omega)
      simpa [hrr] using this
    generalize rs[j] = q at hp hup hk
    have hl : 0 < ((rs.map rd).take (j + 1)).length := by simp; omega
    have hlast : ((rs.map rd).take (j + 1))[((rs.map rd).take (j + 1)).length - 1]? = some (rd q) := by
      rw [take_last (by omega) (by simp; omega)]; simp [hp]
    have h1 := below_cons (s := s) hlast hl (rd_lt hk hup)
    have h2 : ixD (.tup ((rs.map rd).take (j + 1))) (.int (-1)) s = some (rd q, s) := ixD_tup (ixN_last hl) hlast
    have h3 : ((rs.map rd).take (j + 1)).isEmpty = false := by
      cases h : (rs.map rd).take (j + 1) with
      | nil => rw [h] at hl; simp at hl
      | cons _ _ => rfl
    have h4 : neOp (.tup [.str q.p, .str q.w]) (.tup [.str r.p, .str r.w]) s = some (.bl true, s) := by
      have := ne_kd (s := s) (k := key q) (k' := key r)
      simp only [hk, decide_false, Bool.not_false] at this
      exact this
    have hcq := cut_two (r := q)
    have hcr := cut_two (r := r)
    generalize (rs.map rd).take (j + 1) = A at h1 h2 h3
    simp only [rd] at h1 h2 ⊢
    clear hup hk hrr hp hr hjl hl hlast
    simp [f_is_behind, callF_def, c_is_behind, h1, h2, h3, h4, hcq, hcr, e0, eq_nil, bndD]
theorem forL_nil {g : EvG} {b : EvS} {chk : Sto → Bool} {env : Env} {s : Sto} (h : chk s = true) : forL g b chk [] env s = some (.ok (.nx env), s) := by
  simp only [forL]; rw [if_pos h]; rfl
theorem e_wrong {s : Sto} {k : Bk} (h : BkOk k) : ∃ m g, f_wrong_in_rules [.d (.str k.z), .d (.tup (k.rs.map rd))] s = some (.ok (.ref m), s ++ g) ∧ (s ++ g)[m]? = some (.lst []) := by
  have e0 : (0 : Nat) ≤ PySem.sizeLine := Nat.zero_le _
  have hw := e_wrong_in (s := s) (xs := k.rs.map rd) (least := 0) (most := 16) (n := s.length) (g := callL 0 2 [some (.d (.str k.z))] (eAnd (eCall f_is_rule (aCons (eVar 2) (aCons (eVar 1) aNil))) (eCall f_is_behind (aCons (eVar 0) (aCons (eVar 1) aNil))))) (by simp) (by have := h.len; simp; omega) (fun j x hx => by
    obtain ⟨r, hr, rfl⟩ : ∃ r, k.rs[j]? = some r ∧ x = rd r := by
      rw [List.getElem?_map] at hx
      cases hz : k.rs[j]? with
      | none => rw [hz] at hx; cases hx
      | some a => rw [hz] at hx; exact ⟨a, rfl, (Option.some.inj hx).symm⟩
    have h1 := e_rule (s := s) (h.ok r (List.mem_of_getElem? hr))
    have h2 := e_behind (s := s) hr h.nd h.up
    rw [callL_def (by rfl)]
    generalize (k.rs.map rd).take j = A at h2
    clear hx hr
    simp [h1, h2, bndD])
  -- the prints of the rules that stand anywhere
  let al : List D := (k.rs.map rd).filterMap fun d => match d with
    | .tup [.str p, .str w, _] => if w = any_ then some (.str p) else none
    | _ => none
  have hal : ∀ a ∈ k.z, D.str [a] ∈ al := fun a ha => by
    obtain ⟨r, hr, hk⟩ := List.mem_map.mp (h.all a ha)
    refine List.mem_filterMap.mpr ⟨rd r, List.mem_map.mpr ⟨r, hr, rfl⟩, ?_⟩
    simp only [key, Prod.mk.injEq] at hk
    simp only [rd, hk.1, hk.2, if_true]
  have hals : ∃ l : List (List Nat), al = l.map D.str := by
    show ∃ l : List (List Nat), ((k.rs.map rd).filterMap _) = l.map D.str
    generalize k.rs = R
    induction R with
    | nil => exact ⟨[], rfl⟩
    | cons r R ih =>
      obtain ⟨l, hl⟩ := ih
      by_cases hw : r.w = any_
      · exact ⟨r.p :: l, by rw [List.map_cons, List.filterMap_cons_some (b := .str r.p) (by simp only [rd, hw, if_true]), hl]; rfl⟩
      · exact ⟨l, by rw [List.map_cons, List.filterMap_cons_none (by simp only [rd, hw, if_false]), hl]⟩
  obtain ⟨l, hl⟩ := hals
  have hin : ∀ a ∈ k.z, [a] ∈ l := fun a ha => by
    have := hal a ha
    rw [hl] at this
    obtain ⟨x, hx, e⟩ := List.mem_map.mp this
    cases e; exact hx
  have hc1 : ∀ (k2 : Option TP.A) (S : Sto), eLc (iAny (eVar 1)) (xName 4) (bOf (eOp eqOp (eOp ixD (eVar 4) (eC (.int 1))) (eC (.str [97, 110, 121])))) (eOp ixD (eVar 4) (eC (.int 0))) [4] [some (.d (.str k.z)), some (.d (.tup (k.rs.map rd))), k2, none, none, none] S = some (.ok (.ref S.length), S ++ [.lst al]) := fun k2 S => by
    refine eLc_pure (s1 := S) (src := ⟨k.rs.map rd, fun _ => true⟩) _ (by simp [TP.ret]) (by have := h.len; simp; omega) (fun _ => rfl) fun x hx => ?_
    obtain ⟨r, hr, rfl⟩ := List.mem_map.mp hx
    refine ⟨[(4, rd r)], rfl, by simp, fun acc => ?_⟩
    have i0 : ∀ S, ixD (.tup [.str r.p, .str r.w, .tup (r.cs.map .int)]) (.int 0) S = some (.str r.p, S) := fun S => ixD_tup (j := 0) (by rfl) rfl
    have i1 : ∀ S, ixD (.tup [.str r.p, .str r.w, .tup (r.cs.map .int)]) (.int 1) S = some (.str r.w, S) := fun S => ixD_tup (j := 1) (by rfl) rfl
    simp only [setsE, maskE, wipeE, List.map_cons, List.map_nil, List.set_cons_succ, List.set_cons_zero, rd]
    by_cases hw : r.w = any_
    · simp only [hw] at i0 i1 ⊢
      refine ⟨by simp [i1], fun y hy => ?_⟩
      simp only [if_true] at hy
      cases hy
      simp [i0]
    · refine ⟨by simp [i1, hw], fun y hy => ?_⟩
      simp only [hw, if_false] at hy
      cases hy
  have hc2 : ∀ (k2 : Option TP.A) (n4 : Nat) (S : Sto), lstAt S n4 = some al → (∀ acc, lstAt (S ++ [.lst acc]) n4 = some al) → eLc (iAny (eVar 0)) (xName 5) (bOf (eOp (inD true) (eVar 5) (eVar 3))) (eVar 5) [5] [some (.d (.str k.z)), some (.d (.tup (k.rs.map rd))), k2, some (.d (.ref n4)), none, none] S = some (.ok (.ref S.length), S ++ [.lst []]) := fun k2 n4 S h1 h2 => by
    have := eLc_pure (fi := iAny (eVar 0)) (env := [some (.d (.str k.z)), some (.d (.tup (k.rs.map rd))), k2, some (.d (.ref n4)), none, none]) (s := S) (s1 := S) (gx := xName 5) (tt := bOf (eOp (inD true) (eVar 5) (eVar 3))) (e := eVar 5) (vs := [5]) (src := ⟨k.z.map fun c => D.str [c], fun _ => true⟩) (fun _ => none) (by simp [TP.ret]) (by have := h.z4; simp; omega) (fun _ => rfl) (fun x hx => by
      obtain ⟨a, ha, rfl⟩ := List.mem_map.mp hx
      refine ⟨[(5, .str [a])], rfl, by simp, fun acc => ⟨?_, fun y hy => by cases hy⟩⟩
      have e : inD true (.str [a]) (.ref n4) (S ++ [.lst acc]) = some (.bl false, S ++ [.lst acc]) := by
        show (match lstAt (S ++ [Cell.lst acc]) n4 with | some ys => (anyD (fun z => eqD (S ++ [Cell.lst acc]) maxN z (.str [a])) ys).map fun b => (D.bl (if true then !b else b), S ++ [Cell.lst acc]) | none => none) = _
        rw [h2 acc, hl]
        simp only [any_str, Option.map_some, hin a ha, decide_true, if_true]; rfl
      simp only [setsE, maskE, wipeE, List.map_cons, List.map_nil, dropF, List.set_cons_succ, List.set_cons_zero]
      simp [e])
    rw [this]
    congr 3
    induction k.z.map fun c => D.str [c] with
    | nil => rfl
    | cons x l ih => simp
  have ne1 := ne_lists (s := s ++ [.lst [], .lst []]) (i := s.length) (j := s.length + 1) (xs := []) (ys := []) (lstAt_lst (by simp)) (lstAt_lst (by simp)) rfl rfl
  have c1 := hc1 (some (.d (.ref s.length))) (s ++ [.lst [], .lst []])
  have g2 : ∀ g, lstAt (s ++ (.lst [] :: .lst [] :: .lst al :: g)) (s.length + 2) = some al := fun g => lstAt_lst (by rw [List.getElem?_append_right (by omega)]; simp)
  have c2 := hc2 (some (.d (.ref s.length))) (s.length + 2) (s ++ [.lst [], .lst [], .lst al]) (g2 []) (fun acc => by
    have := g2 [.lst acc]
    simpa using this)
  have ne2 := ne_lists (s := s ++ [.lst [], .lst [], .lst al, .lst [], .lst []]) (i := s.length + 3) (j := s.length + 4) (xs := []) (ys := []) (lstAt_lst (by rw [List.getElem?_append_right (by omega)]; simp)) (lstAt_lst (by rw [List.getElem?_append_right (by omega)]; simp)) rfl rfl
  refine ⟨s.length + 5, [.lst [], .lst [], .lst al, .lst [], .lst [], .lst []], ?_, by rw [List.getElem?_append_right (by omega)]; simp⟩
  simp only [List.length_append, List.length_cons, List.length_nil, List.append_assoc, List.cons_append, List.nil_append, Nat.zero_add, Nat.reduceAdd] at c1 c2 ne1 ne2
  clear_value al
  clear hal hl hin hc1 hc2 g2
  simp [f_wrong_in_rules, callF_def, c_wrong_in_rules, capsOf, hw, e0, ne1, c1, rootsE, bndA, bndD, c2, ne2]
  rw [show decide (s.length + 5 < s.length) = false from decide_eq_false (by omega)]; rfl
end K01
namespace K01
open TP
abbrev nB : List Nat := [66, 111, 111, 107]
abbrev nA : List Nat := [97, 108, 108, 95, 116, 111, 108, 100]
/-- a made book -/
def bc (k : Bk) : Cell := .ins nB [(nA, bd k)]
theorem sFld_of {S : Sto} {n : Nat} {fs : List (List Nat × D)} {fo fe : Ev} {env : Env} {y : D} {c nm : List Nat} (h1 : fe env S = some (.ok y, S)) (h2 : fo env S = some (.ok (.ref n), S)) (h : S[n]? = some (.ins c fs)) (hl : fs.length < 1000) : sFldD c nm fo fe env S = some (.ok (.nx env), S.set n (.ins c (putD nm y fs))) := by
  unfold sFldD
  simp only [h1, h2, bind_ok, h]
  rw [if_pos ⟨trivial, hl⟩]; rfl
theorem e_init {s : Sto} {k : Bk} (h : BkOk k) : f_Book___init__ [.d (.ref s.length), .d (.int k.e), .d (.int k.w), .d (.str k.z), .d (.tup (k.rs.map rd))] (s ++ [.ins nB []]) = some (.ok .non, s ++ [bc k]) := by
  obtain ⟨m, g, hw, hm⟩ := e_wrong (s := s ++ [.ins nB []]) h
  have hl := e_letters (s := s ++ [.ins nB []]) h.z1 h.z4 h.zu h.za
  have e4 : (4 : Nat) ≤ PySem.sizeLine := sz (by omega)
  have hfor : ∀ env : Env, env[3]? = some (some (.d (.str k.z))) → env[4]? = some (some (.d (.tup (k.rs.map rd)))) → sFor (iAny (eCall f_wrong_in_rules (aCons (eVar 3) (aCons (eVar 4) aNil)))) (gSet 5) sNever env (s ++ [.ins nB []]) = some (.ok (.nx env), s ++ [.ins nB []] ++ g) := fun env h3 h4 => by
    unfold sFor
    have : iAny (eCall f_wrong_in_rules (aCons (eVar 3) (aCons (eVar 4) aNil))) env (s ++ [.ins nB []]) = some (.ok ⟨[], isLst m []⟩, s ++ [.ins nB []] ++ g) := by
      simp only [iAny_def, eCall_def, aCons_def, eVar_def, h3, h4, aNil_def, bind_ok, hw, itemsOf_ref (lstAt_lst hm)]; rfl
    rw [this, bind_ok]
    refine forL_nil ?_
    simp only [isLst, hm, decide_true, Bool.true_or]
  have hget : (s ++ [Cell.ins nB []] ++ g)[s.length]? = some (.ins nB []) := by
    rw [List.append_assoc, List.getElem?_append_right (Nat.le_refl _)]; simp
  have b1 : decide (0 ≤ k.e) = true := decide_eq_true h.e0
  have b2 : decide (k.e ≤ 250) = true := decide_eq_true h.e1
  have b3 : decide (4 ≤ k.w) = true := decide_eq_true h.w0
  have b4 : decide (k.w ≤ 16) = true := decide_eq_true h.w1
  have hset : (s ++ [Cell.ins nB []] ++ g).set s.length (.ins nB [(nA, bd k)]) = (s ++ [Cell.ins nB []]).set s.length (bc k) ++ g := by
    rw [List.set_append_left _ _ (by simp)]; rfl
  have hset2 : (s ++ [Cell.ins nB []]).set s.length (bc k) = s ++ [bc k] := by simp
  have hbnd : bndC (s ++ [Cell.ins nB []]).length (bc k) = true := by
    show bndFs _ [(nA, bd k)] = true
    simp only [bndFs, bnd_bd, Bool.and_self]
  have htrim := trim_set_app (s ++ [Cell.ins nB []]) g s.length (bc k) hbnd
  have hroots : rootsE (s ++ [Cell.ins nB []]).length [some (.d (.ref s.length)), some (.d (.int k.e)), some (.d (.int k.w)), some (.d (.str k.z)), some (.d (.tup (k.rs.map rd))), none] = true := by
    simp [rootsE, bndA, bndD, bnd_rds]
  have h1 : sIf (bNot (bOf (eCall f_is_up_to (aCons (eVar 1) (aCons (eC (.int 250)) aNil))))) sNever sNext [some (.d (.ref s.length)), some (.d (.int k.e)), some (.d (.int k.w)), some (.d (.str k.z)), some (.d (.tup (k.rs.map rd))), none] (s ++ [.ins nB []]) = some (.ok (.nx [some (.d (.ref s.length)), some (.d (.int k.e)), some (.d (.int k.w)), some (.d (.str k.z)), some (.d (.tup (k.rs.map rd))), none]), s ++ [.ins nB []]) := by
    simp [h.e0, h.e1]
  have h2 : sIf (bNot (bOf (eCall f_is_between (aCons (eVar 2) (aCons (eC (.int 4)) (aCons (eC (.int 16)) aNil)))))) sNever sNext [some (.d (.ref s.length)), some (.d (.int k.e)), some (.d (.int k.w)), some (.d (.str k.z)), some (.d (.tup (k.rs.map rd))), none] (s ++ [.ins nB []]) = some (.ok (.nx [some (.d (.ref s.length)), some (.d (.int k.e)), some (.d (.int k.w)), some (.d (.str k.z)), some (.d (.tup (k.rs.map rd))), none]), s ++ [.ins nB []]) := by
    simp [h.w0, h.w1]
  have h3 : sIf (bNot (bOf (eCall f_are_letters (aCons (eVar 3) aNil)))) sNever sNext [some (.d (.ref s.length)), some (.d (.int k.e)), some (.d (.int k.w)), some (.d (.str k.z)), some (.d (.tup (k.rs.map rd))), none] (s ++ [.ins nB []]) = some (.ok (.nx [some (.d (.ref s.length)), some (.d (.int k.e)), some (.d (.int k.w)), some (.d (.str k.z)), some (.d (.tup (k.rs.map rd))), none]), s ++ [.ins nB []]) := by
    simp [hl]
  have h5 := sFld_of (c := nB) (nm := nA) (fo := eVar 0) (fe := eFn mkTup (aCons (eVar 1) (aCons (eVar 2) (aCons (eVar 3) (aCons (eVar 4) aNil))))) (env := [some (.d (.ref s.length)), some (.d (.int k.e)), some (.d (.int k.w)), some (.d (.str k.z)), some (.d (.tup (k.rs.map rd))), none]) (y := bd k) (S := s ++ [.ins nB []] ++ g) (by simp [e4, bd]) (by simp) hget (by simp)
  rw [hset2] at htrim
  have hf := hfor [some (.d (.ref s.length)), some (.d (.int k.e)), some (.d (.int k.w)), some (.d (.str k.z)), some (.d (.tup (k.rs.map rd))), none] rfl rfl
  unfold f_Book___init__
  rw [callF_def (by rfl)]
  unfold c_Book___init__
  simp only [List.map_cons, List.map_nil, Nat.reduceSub, List.replicate_succ, List.replicate_zero, List.cons_append, List.nil_append, sSeq_def, h1, h2, h3, bind_ok, hf, h5, putD, hset, trimS_ok, rootsF_nx, hroots, htrim, finF_nx, hset2]
theorem e_made {s : Sto} {k : Bk} (h : BkOk k) : mkI nB f_Book___init__ [.int k.e, .int k.w, .str k.z, .tup (k.rs.map rd)] s = some (.ok (.ref s.length), s ++ [bc k]) := by
  unfold mkI
  simp only [List.map_cons, List.map_nil, e_init h, bind_ok]; rfl
/-! ### what is read of it -/
theorem at_parts {S : Sto} {n : Nat} {k : Bk} (h : S[n]? = some (bc k)) : attrD [(nB, .fld)] nA (.ref n) S = some (bd k, S) := by
  show (match S[n]? with | some (.ins c fs) => (match accOf c [(nB, .fld)] with | some .fld => (fldOf nA fs).map fun d => (d, S) | some (.prop F) => rvOf (F [.d (.ref n)] S) | none => none) | _ => none) = _
  rw [h]; rfl
theorem p_parts {S : Sto} {n : Nat} {k : Bk} (h : S[n]? = some (bc k)) : f_Book_parts [.d (.ref n)] S = some (.ok (bd k), S) := by
  have := at_parts h
  have hb := bnd_bd S.length k
  clear h
  simp [f_Book_parts, callF_def, c_Book_parts, eAttr, this]
end K01
namespace K01
open TP
theorem bOf_ty {f : Ev} {env : Env} {s : Sto} {b : Bool} (h : f env s = some (.ok (.bl b), s)) : bOf f env s = some (.ok b, s) := by
  simp only [bOf_def, h, bind_ok]
theorem same : ∀ (n : Nat) (d : D) (s : Sto), okS n d = true → f__law_same n [.d d, .d d] s = some (.ok (.bl true), s)
  | 0, _, _, h => by simp [okS] at h
  | n + 1, .non, s, _ => by
    simp [f__law_same, callF_def, c__law_same, tyName, bndD]
  | n + 1, .bl b, s, _ => by
    simp [f__law_same, callF_def, c__law_same, tyName, bndD]
  | n + 1, .int i, s, _ => by
    simp [f__law_same, callF_def, c__law_same, tyName, bndD]
  | n + 1, .str i, s, _ => by
    simp [f__law_same, callF_def, c__law_same, tyName, bndD]
  | n + 1, .ref i, s, h => by simp [okS] at h
  | n + 1, .tup xs, s, h => by
    simp only [okS, Bool.and_eq_true, decide_eq_true_eq] at h
    have hsm : smallI (xs.length : Int) = true := small_nat (by omega)
    have hcomp := eLc_pure (fi := iRange1 (aCons (eFn lenD (aCons (eVar 1) aNil)) aNil)) (env := [some (.d (.tup xs)), some (.d (.tup xs)), none]) (s := s) (s1 := s) (gx := xName 2) (tt := bYes) (e := eCall (f__law_same n) (aCons (eOp ixD (eVar 0) (eVar 2)) (aCons (eOp ixD (eVar 1) (eVar 2)) aNil))) (vs := [2])
      (src := ⟨rangeD 0 xs.length, fun _ => true⟩) (fun _ => some (.bl true)) (by simp [hsm, TP.ret]) (by simp; omega) (fun _ => rfl) (fun x hx => by
        obtain ⟨j, hj⟩ := List.getElem?_of_mem hx
        obtain ⟨hjl, rfl⟩ := rangeD_get hj
        refine ⟨[(2, .int (0 + j))], rfl, by simp, fun acc => ⟨rfl, fun y hy => ?_⟩⟩
        cases hy
        have hg : xs[j]? = some xs[j] := List.getElem?_eq_getElem hjl
        have hix : ixD (.tup xs) (.int (0 + (j : Int))) (s ++ [.lst acc]) = some (xs[j], s ++ [.lst acc]) := ixD_tup (j := j) (by rw [Int.zero_add]; exact ixN_nat hjl) hg
        have ih := same n xs[j] (s ++ [.lst acc]) (okSs_get h.1 hg)
        generalize xs[j] = y at hix ih
        simp only [setsE, maskE, wipeE, List.map_cons, List.map_nil, dropF, List.set_cons_succ, List.set_cons_zero]
        clear hg hjl hj hx
        simp only [eCall_def, aCons_def, eOp_def, eVar_def, List.getElem?_cons_zero, List.getElem?_cons_succ, bind_ok, hix, lift_some, aNil_def, ih])
    have hall : ∀ s' : Sto, s' = s ++ [.lst ((rangeD 0 xs.length).filterMap fun _ => some (.bl true))] → allD false [.ref s.length] s' = some (.bl true, s') := fun s' e => by
      subst e
      refine all_true (lstAt_lst snoc_get) fun x hx => ?_
      obtain ⟨y, _, hy⟩ := List.mem_filterMap.mp hx
      cases hy; rfl
    have hb : bOr (bNot (bOf (eIsTy "tuple" (eVar 0)))) (bOf (eOp neOp (eFn lenD (aCons (eVar 0) aNil)) (eFn lenD (aCons (eVar 1) aNil)))) [some (.d (.tup xs)), some (.d (.tup xs)), none] s = some (.ok false, s) := by
      simp [tyName]
    have ht : eIsTy "tuple" (eVar 1) [some (.d (.tup xs)), some (.d (.tup xs)), none] s = some (.ok (.bl true), s) := by simp [tyName]
    unfold f__law_same
    rw [callF_def (by rfl)]
    unfold c__law_same
    simp only [List.map_cons, List.map_nil, Nat.reduceSub, List.replicate_succ, List.replicate_zero, List.cons_append, List.nil_append, sSeq_def, sIf_def, bOf_ty ht, bind_ok, if_true]
    simp only [hb, bind_ok, Bool.false_eq_true, if_false, sNext_def, sRet_def, eFn_def, aCons_def, hcomp, aNil_def, plain_d, plain_nil, Option.map_some]
    rw [hall _ rfl]
    simp only [lift_some, bind_ok, trimS_ok, rootsF_rt, bndD, trim_app, finF_rt]

theorem attr_prop {S : Sto} {n : Nat} {k : Bk} {F : Fn} {nm : List Nat} {d : D} (h : S[n]? = some (bc k)) (hF : F [.d (.ref n)] S = some (.ok d, S)) : attrD [(nB, .prop F)] nm (.ref n) S = some (d, S) := by
  show (match S[n]? with | some (.ins c fs) => (match accOf c [(nB, .prop F)] with | some .fld => (fldOf nm fs).map fun d => (d, S) | some (.prop F) => rvOf (F [.d (.ref n)] S) | none => none) | _ => none) = _
  rw [h]
  show rvOf (F [.d (.ref n)] S) = _
  rw [hF]; rfl
theorem p_ix {S : Sto} {n : Nat} {k : Bk} (h : S[n]? = some (bc k)) : f_Book_edition [.d (.ref n)] S = some (.ok (.int k.e), S) ∧ f_Book_width [.d (.ref n)] S = some (.ok (.int k.w), S) ∧ f_Book_letters [.d (.ref n)] S = some (.ok (.str k.z), S) ∧ f_Book_rules [.d (.ref n)] S = some (.ok (.tup (k.rs.map rd)), S) := by
  have ha := at_parts h
  have hb := bnd_rds S.length k.rs
  have i0 : ixD (bd k) (.int 0) S = some (.int k.e, S) := ixD_tup (j := 0) (by rfl) rfl
  have i1 : ixD (bd k) (.int 1) S = some (.int k.w, S) := ixD_tup (j := 1) (by rfl) rfl
  have i2 : ixD (bd k) (.int 2) S = some (.str k.z, S) := ixD_tup (j := 2) (by rfl) rfl
  have i3 : ixD (bd k) (.int 3) S = some (.tup (k.rs.map rd), S) := ixD_tup (j := 3) (by rfl) rfl
  clear h
  refine ⟨?_, ?_, ?_, ?_⟩
  · simp [f_Book_edition, callF_def, c_Book_edition, eAttr, ha, i0]
  · simp [f_Book_width, callF_def, c_Book_width, eAttr, ha, i1]
  · simp [f_Book_letters, callF_def, c_Book_letters, eAttr, ha, i2]
  · simp [f_Book_rules, callF_def, c_Book_rules, eAttr, ha, i3, bndD, hb]
theorem okDs_rds (n : Nat) : ∀ l : List Ru, okDs (n + 2) (l.map rd) = true
  | [] => rfl
  | x :: l => by
    simp only [List.map_cons, okDs, ok_rd, okDs_rds n l, Bool.and_self]
theorem ok_bd (n : Nat) (k : Bk) : okD (n + 4) (bd k) = true := by
  simp only [bd, okD, okDs, okDs_rds, Bool.and_self]
theorem eq_bd {S : Sto} {k k' : Bk} : eqOp (bd k) (bd k') S = some (.bl (decide (bd k = bd k')), S) := eqOp_dec (ok_bd 55 k) (ok_bd 55 k')
abbrev bsN : List (String × Bool) := [("NoneType", false), ("bool", false), ("int", false), ("str", false), ("tuple", false), ("list", false)]
theorem ty_ins {S : Sto} {n : Nat} {k : Bk} (h : S[n]? = some (bc k)) : tyName (.ref n) S = none ∧ clsOf (.ref n) S = some nB ∧ lstAt S n = none := by
  have hl : lstAt S n = none := by unfold lstAt; rw [h]; rfl
  refine ⟨?_, ?_, hl⟩
  · show (match lstAt S n with | some _ => some "list" | none => none) = _
    rw [hl]
  · show (match S[n]? with | some (.ins c _) => some c | _ => none) = _
    rw [h]; rfl
theorem e_eq_ref {S : Sto} {n m : Nat} {k k' : Bk} (h : S[n]? = some (bc k)) (h' : S[m]? = some (bc k')) : f_Book___eq__ [.d (.ref n), .d (.ref m)] S = some (.ok (.bl (decide (bd k = bd k'))), S) := by
  obtain ⟨t1, t2, _⟩ := ty_ins h'
  have hi : isD bsN [(nB, true)] (.ref m) S = some true := by
    unfold isD; rw [t1, t2]; rfl
  have a1 := attr_prop (nm := [112, 97, 114, 116, 115]) h (p_parts h)
  have a2 := attr_prop (nm := [112, 97, 114, 116, 115]) h' (p_parts h')
  have he := eq_bd (S := S) (k := k) (k' := k')
  have hc : eIsC bsN [(nB, true)] (eVar 1) [some (.d (.ref n)), some (.d (.ref m))] S = some (.ok (.bl true), S) := by
    unfold eIsC
    simp only [eVar_def, List.getElem?_cons_zero, List.getElem?_cons_succ, bind_ok, hi]; rfl
  generalize decide (bd k = bd k') = B at he ⊢
  clear h h' t1 t2 hi
  simp [f_Book___eq__, callF_def, c_Book___eq__, hc, eAttr, a1, a2, he, bndD]
theorem e_eq_tup {S : Sto} {n : Nat} {k k' : Bk} : f_Book___eq__ [.d (.ref n), .d (bd k')] S = some (.ok (.bl false), S) := by
  have hc : eIsC bsN [(nB, true)] (eVar 1) [some (.d (.ref n)), some (.d (bd k'))] S = some (.ok (.bl false), S) := by
    unfold eIsC
    simp only [eVar_def, List.getElem?_cons_zero, List.getElem?_cons_succ, bind_ok]; rfl
  simp [f_Book___eq__, callF_def, c_Book___eq__, hc, bndD]
abbrev EQ (neg : Bool) : D → D → Sto → RV := orOp (if neg then neOp else eqOp) (eqI neg [(nB, f_Book___eq__)] ["NoneType", "bool", "int", "str", "tuple", "list"] [nB])
theorem q_ref {S : Sto} {n m : Nat} {k k' : Bk} (h : S[n]? = some (bc k)) (h' : S[m]? = some (bc k')) : orOp eqOp (eqI false [(nB, f_Book___eq__)] ["NoneType", "bool", "int", "str", "tuple", "list"] [nB]) (.ref n) (.ref m) S = some (.bl (decide (bd k = bd k')), S) ∧
    orOp neOp (eqI true [(nB, f_Book___eq__)] ["NoneType", "bool", "int", "str", "tuple", "list"] [nB]) (.ref n) (.ref m) S = some (.bl (!decide (bd k = bd k')), S) := by
  obtain ⟨_, c1, l1⟩ := ty_ins h
  obtain ⟨t2, c2, l2⟩ := ty_ins h'
  have e1 : eqD S maxN (.ref n) (.ref m) = none := by
    show (match lstAt S n, lstAt S m with
      | some xs, some ys => if n = m then some true else if xs.length = ys.length then eqL (eqD S 59) xs ys else some false
      | _, _ => none) = _
    rw [l1]
  have o1 : eqOp (.ref n) (.ref m) S = none := by unfold eqOp; rw [e1]; rfl
  have o2 : neOp (.ref n) (.ref m) S = none := by unfold neOp; rw [e1]; rfl
  have hr : okR ["NoneType", "bool", "int", "str", "tuple", "list"] [nB] (.ref m) S = true := by unfold okR; rw [t2, c2]; rfl
  have hF := e_eq_ref h h'
  have hq : ∀ neg, eqI neg [(nB, f_Book___eq__)] ["NoneType", "bool", "int", "str", "tuple", "list"] [nB] (.ref n) (.ref m) S = some (.bl (if neg then !decide (bd k = bd k') else decide (bd k = bd k')), S) := fun neg => by
    unfold eqI
    rw [c1]
    show (if okR ["NoneType", "bool", "int", "str", "tuple", "list"] [nB] (.ref m) S = true then (match rvOf (f_Book___eq__ [.d (.ref n), .d (.ref m)] S) with | some (.bl b, s') => some (D.bl (if neg then !b else b), s') | _ => none) else none) = _
    rw [if_pos hr, hF]; rfl
  constructor
  · show (match eqOp (.ref n) (.ref m) S with | some r => some r | none => _) = _
    rw [o1]; exact hq false
  · show (match neOp (.ref n) (.ref m) S with | some r => some r | none => _) = _
    rw [o2]; exact hq true
theorem q_tup {S : Sto} {n : Nat} {k k' : Bk} (h : S[n]? = some (bc k)) : orOp eqOp (eqI false [(nB, f_Book___eq__)] ["NoneType", "bool", "int", "str", "tuple", "list"] [nB]) (.ref n) (bd k') S = some (.bl false, S) := by
  obtain ⟨_, c1, l1⟩ := ty_ins h
  have e1 : eqD S maxN (.ref n) (bd k') = none := by
    show (match lstAt S n with | some _ => some false | none => none) = _
    rw [l1]
  have o1 : eqOp (.ref n) (bd k') S = none := by unfold eqOp; rw [e1]; rfl
  show (match eqOp (.ref n) (bd k') S with | some r => some r | none => _) = _
  rw [o1]
  show eqI false _ _ _ (.ref n) (bd k') S = _
  unfold eqI
  rw [c1]
  show (if okR ["NoneType", "bool", "int", "str", "tuple", "list"] [nB] (bd k') S = true then (match rvOf (f_Book___eq__ [.d (.ref n), .d (bd k')] S) with | some (.bl b, s') => some (D.bl (if false then !b else b), s') | _ => none) else none) = _
  rw [if_pos (by rfl), e_eq_tup (k := k)]; rfl
theorem q_bb {S : Sto} {k k' : Bk} : orOp eqOp (eqI false [(nB, f_Book___eq__)] ["NoneType", "bool", "int", "str", "tuple", "list"] [nB]) (bd k) (bd k') S = some (.bl (decide (bd k = bd k')), S) := by
  show (match eqOp (bd k) (bd k') S with | some r => some r | none => _) = _
  rw [eq_bd]
theorem e_law_made {S : Sto} {k : Bk} (h : BkOk k) : f__law_made [.d (bd k)] S = some (.ok (.ref S.length), S ++ [bc k]) := by
  have hm := e_made (s := S) h
  have i0 : ∀ S, ixD (bd k) (.int 0) S = some (.int k.e, S) := fun S => ixD_tup (j := 0) (by rfl) rfl
  have i1 : ∀ S, ixD (bd k) (.int 1) S = some (.int k.w, S) := fun S => ixD_tup (j := 1) (by rfl) rfl
  have i2 : ∀ S, ixD (bd k) (.int 2) S = some (.str k.z, S) := fun S => ixD_tup (j := 2) (by rfl) rfl
  have i3 : ∀ S, ixD (bd k) (.int 3) S = some (.tup (k.rs.map rd), S) := fun S => ixD_tup (j := 3) (by rfl) rfl
  simp [f__law_made, callF_def, c__law_made, eMake, i0, i1, i2, i3, hm, bndD]
end K01
namespace K01
open TP
abbrev r0 : EvS := (sPar2 2 3 (aCons (eCall f__law_book (aCons (eVar 0) (aCons (eC (.int 4)) (aCons (eC (.int 9)) aNil)))) (aCons (eCall f__law_book (aCons (eVar 0) (aCons (eC (.int 1)) (aCons (eC (.int 0)) aNil)))) aNil)))
abbrev r1 : EvS := (sAsg (eKw0 (opMakeK [66, 111, 111, 107] 0 4 f_Book___init__ [3, 2, 1, 0]) (aCons (eOp ixD (eVar 2) (eC (.int 3))) (aCons (eOp ixD (eVar 2) (eC (.int 2))) (aCons (eOp ixD (eVar 2) (eC (.int 1))) (aCons (eOp ixD (eVar 2) (eC (.int 0))) aNil))))) (gSet 4))
abbrev r2 : EvS := (sIf (bNot (bOf (eCall (f__law_same 9) (aCons (eFn mkTup (aCons (eAttr [([66, 111, 111, 107], .prop f_Book_edition)] [101, 100, 105, 116, 105, 111, 110] (eVar 4)) (aCons (eAttr [([66, 111, 111, 107], .prop f_Book_width)] [119, 105, 100, 116, 104] (eVar 4)) (aCons (eAttr [([66, 111, 111, 107], .prop f_Book_letters)] [108, 101, 116, 116, 101, 114, 115] (eVar 4)) (aCons (eAttr [([66, 111, 111, 107], .prop f_Book_rules)] [114, 117, 108, 101, 115] (eVar 4)) (aCons (eAttr [([66, 111, 111, 107], .prop f_Book_parts)] [112, 97, 114, 116, 115] (eVar 4)) aNil)))))) (aCons (eOp addD (eVar 2) (eFn mkTup (aCons (eVar 2) aNil))) aNil))))) (sRet (eC (.bl false))) sNext)
abbrev r3 : EvS := (sIf (bNot (bOf (eCall (f__law_same 9) (aCons (eFn mkTup (aCons (eOp (orOp eqOp (eqI false [([66, 111, 111, 107], f_Book___eq__)] ["NoneType", "bool", "int", "str", "tuple", "list"] [[66, 111, 111, 107]])) (eVar 4) (eCall f__law_made (aCons (eVar 2) aNil))) (aCons (eOp (orOp eqOp (eqI false [([66, 111, 111, 107], f_Book___eq__)] ["NoneType", "bool", "int", "str", "tuple", "list"] [[66, 111, 111, 107]])) (eVar 4) (eCall f__law_made (aCons (eVar 3) aNil))) (aCons (eOp (orOp eqOp (eqI false [([66, 111, 111, 107], f_Book___eq__)] ["NoneType", "bool", "int", "str", "tuple", "list"] [[66, 111, 111, 107]])) (eVar 4) (eVar 2)) (aCons (eOp (orOp neOp (eqI true [([66, 111, 111, 107], f_Book___eq__)] ["NoneType", "bool", "int", "str", "tuple", "list"] [[66, 111, 111, 107]])) (eVar 4) (eCall f__law_made (aCons (eVar 2) aNil))) aNil))))) (aCons (eFn mkTup (aCons (eC (.bl true)) (aCons (eOp (orOp eqOp (eqI false [([66, 111, 111, 107], f_Book___eq__)] ["NoneType", "bool", "int", "str", "tuple", "list"] [[66, 111, 111, 107]])) (eVar 2) (eVar 3)) (aCons (eC (.bl false)) (aCons (eC (.bl false)) aNil))))) aNil))))) (sRet (eC (.bl false))) sNext)
abbrev r4 : EvS := (sIf (bOr (bOf (eOp (orOp eqOp (eqI false [([66, 111, 111, 107], f_Book___eq__)] ["NoneType", "bool", "int", "str", "tuple", "list"] [[66, 111, 111, 107]])) (eVar 4) (eMake [66, 111, 111, 107] 4 f_Book___init__ (aCons (eIf (bOf (eOp ltD (eOp ixD (eVar 2) (eC (.int 0))) (eC (.int 250)))) (eOp addD (eOp ixD (eVar 2) (eC (.int 0))) (eC (.int 1))) (eC (.int 0))) (aCons (eOp ixD (eVar 2) (eC (.int 1))) (aCons (eOp ixD (eVar 2) (eC (.int 2))) (aCons (eOp ixD (eVar 2) (eC (.int 3))) aNil))))))) (bOf (eOp (orOp eqOp (eqI false [([66, 111, 111, 107], f_Book___eq__)] ["NoneType", "bool", "int", "str", "tuple", "list"] [[66, 111, 111, 107]])) (eVar 4) (eMake [66, 111, 111, 107] 4 f_Book___init__ (aCons (eOp ixD (eVar 2) (eC (.int 0))) (aCons (eIf (bOf (eOp ltD (eOp ixD (eVar 2) (eC (.int 1))) (eC (.int 16)))) (eOp addD (eOp ixD (eVar 2) (eC (.int 1))) (eC (.int 1))) (eC (.int 4))) (aCons (eOp ixD (eVar 2) (eC (.int 2))) (aCons (eOp ixD (eVar 2) (eC (.int 3))) aNil)))))))) (sRet (eC (.bl false))) sNext)
abbrev rB : EvS := sSeq r0 (sSeq r1 (sSeq r2 (sSeq r3 r4)))
theorem c_right_eq : c__law_right = sSeq (sFor (iRange1 (aCons (eC (.int 8)) aNil)) (gSet 1) rB) (sRet (eC (.bl true))) := rfl

abbrev eR (b : Nat) (l x y z : Option TP.A) : Env := [some (.d (.ref b)), l, x, y, z]
abbrev five (k : Bk) : D := .tup [.int k.e, .int k.w, .str k.z, .tup (k.rs.map rd), bd k]
theorem okS_ints (n : Nat) : ∀ a : List Int, okSs (n + 1) (a.map D.int) = true
  | [] => rfl
  | x :: a => by
    have := okS_ints n a
    simp only [List.map_cons, okSs, okS, Bool.true_and]; exact this
theorem okS_rd {z : List Nat} {r : Ru} (n : Nat) (h : RuOk z r) : okS (n + 3) (rd r) = true := by
  have := h.c3
  simp only [rd, okS, okSs, okS_ints, Bool.and_eq_true, decide_eq_true_eq, List.length_cons, List.length_nil, List.length_map]
  simp
  try omega
theorem okS_rds (n : Nat) {z : List Nat} : ∀ l : List Ru, (∀ r ∈ l, RuOk z r) → okSs (n + 3) (l.map rd) = true
  | [], _ => rfl
  | x :: l, h => by
    simp only [List.map_cons, okSs, okS_rd n (h x (by simp)), okS_rds n l fun r hr => h r (by simp [hr]), Bool.and_self]
theorem okS_bd {k : Bk} (n : Nat) (h : BkOk k) : okS (n + 5) (bd k) = true := by
  have := h.len
  simp only [bd, okS, okSs, okS_rds n k.rs h.ok, Bool.and_eq_true, decide_eq_true_eq, List.length_cons, List.length_nil, List.length_map]
  simp
  try omega
theorem okS_five {k : Bk} (h : BkOk k) : okS 9 (five k) = true := by
  have := h.len
  simp only [five, okS, okSs, okS_rds 4 k.rs h.ok, okS_bd 3 h, Bool.and_eq_true, decide_eq_true_eq, List.length_cons, List.length_nil, List.length_map]
  simp
  try omega
theorem step0 {t : Sto} {b : Nat} {l x y z : Option TP.A} (hb : Bowl t b) : ∃ k k' c, BkOk k ∧ BkOk k' ∧ BowlC c ∧ r0 (eR b l x y z) t = some (.ok (.nx (eR b l (some (.d (bd k))) (some (.d (bd k'))) z)), t.set b c) := by
  obtain ⟨k, c1, hk, hc1, h1⟩ := book (mo := 4) (me := 9) hb (by omega) (by omega) (by omega) (by omega)
  obtain ⟨k', c2, hk', hc2, h2⟩ := book (mo := 1) (me := 0) (hb.set hc1) (by omega) (by omega) (by omega) (by omega)
  rw [List.set_set] at h2
  refine ⟨k, k', c2, hk, hk', hc2, ?_⟩
  unfold r0 eR
  simp only [sPar2_def, aCons_def, eCall_def, eVar_def, eC_def, aNil_def, List.getElem?_cons_zero, List.getElem?_cons_succ, bind_ok, h1, h2, List.set_cons_succ, List.set_cons_zero]
theorem ixs_bd {S : Sto} {k : Bk} : ixD (bd k) (.int 0) S = some (.int k.e, S) ∧ ixD (bd k) (.int 1) S = some (.int k.w, S) ∧ ixD (bd k) (.int 2) S = some (.str k.z, S) ∧ ixD (bd k) (.int 3) S = some (.tup (k.rs.map rd), S) :=
  ⟨ixD_tup (j := 0) (by rfl) rfl, ixD_tup (j := 1) (by rfl) rfl, ixD_tup (j := 2) (by rfl) rfl, ixD_tup (j := 3) (by rfl) rfl⟩
theorem step1 {t : Sto} {b : Nat} {l y z : Option TP.A} {k : Bk} (h : BkOk k) : r1 (eR b l (some (.d (bd k))) y z) t = some (.ok (.nx (eR b l (some (.d (bd k))) y (some (.d (.ref t.length))))), t ++ [bc k]) := by
  have hm := e_made (s := t) h
  obtain ⟨i0, i1, i2, i3⟩ := ixs_bd (S := t) (k := k)
  have hop : opMakeK nB 0 4 f_Book___init__ [3, 2, 1, 0] [] [.tup (k.rs.map rd), .str k.z, .int k.w, .int k.e] t = some (.ok (.ref t.length), t ++ [bc k]) := by
    unfold opMakeK
    rw [if_pos ⟨rfl, rfl⟩]
    exact hm
  unfold r1 eR
  simp only [sAsg_def, eKw0, aCons_def, eOp_def, eVar_def, eC_def, aNil_def, List.getElem?_cons_zero, List.getElem?_cons_succ, bind_ok, i0, i1, i2, i3, lift_some, plain_d, plain_nil, Option.map_some, hop, gSet_def, List.set_cons_succ, List.set_cons_zero]
theorem step2 {t : Sto} {b n : Nat} {l y : Option TP.A} {k : Bk} (h : BkOk k) (hn : t[n]? = some (bc k)) : r2 (eR b l (some (.d (bd k))) y (some (.d (.ref n)))) t = some (.ok (.nx (eR b l (some (.d (bd k))) y (some (.d (.ref n))))), t) := by
  obtain ⟨p0, p1, p2, p3⟩ := p_ix hn
  have a0 := attr_prop (nm := [101, 100, 105, 116, 105, 111, 110]) hn p0
  have a1 := attr_prop (nm := [119, 105, 100, 116, 104]) hn p1
  have a2 := attr_prop (nm := [108, 101, 116, 116, 101, 114, 115]) hn p2
  have a3 := attr_prop (nm := [114, 117, 108, 101, 115]) hn p3
  have a4 := attr_prop (nm := [112, 97, 114, 116, 115]) hn (p_parts hn)
  have hs := same 9 (five k) t (okS_five h)
  have e5 : (5 : Nat) ≤ PySem.sizeLine := sz (by omega)
  have e1 : (1 : Nat) ≤ PySem.sizeLine := sz (by omega)
  have hadd : addD (bd k) (.tup [bd k]) t = some (five k, t) := by
    unfold bd; rw [addD_tup, if_pos (sz (by simp))]; rfl
  unfold r2 eR
  simp only [sIf_def, bNot_def, bOf_def, eCall_def, aCons_def, eFn_def, eAttr, eOp_def, eVar_def, aNil_def, List.getElem?_cons_zero, List.getElem?_cons_succ, bind_ok, a0, a1, a2, a3, a4, lift_some, plain_d, plain_nil, Option.map_some, mkTup_def, List.length_cons, List.length_nil, Nat.zero_add, Nat.reduceAdd, e5, e1, if_true, hadd]
  rw [hs]
  simp only [bind_ok, Bool.not_true, Bool.false_eq_true, if_false, sNext_def]
theorem step3 {t : Sto} {b n : Nat} {l : Option TP.A} {k k' : Bk} (h : BkOk k) (h' : BkOk k') (hn : t[n]? = some (bc k)) : r3 (eR b l (some (.d (bd k))) (some (.d (bd k'))) (some (.d (.ref n)))) t = some (.ok (.nx (eR b l (some (.d (bd k))) (some (.d (bd k'))) (some (.d (.ref n))))), t ++ [bc k] ++ [bc k'] ++ [bc k]) := by
  have m1 := e_law_made (S := t) h
  have m2 := e_law_made (S := t ++ [bc k]) h'
  have m3 := e_law_made (S := t ++ [bc k] ++ [bc k']) h
  have hn1 : (t ++ [bc k])[n]? = some (bc k) := get_app hn
  have hn2 : (t ++ [bc k] ++ [bc k'])[n]? = some (bc k) := get_app hn1
  have hn3 : (t ++ [bc k] ++ [bc k'] ++ [bc k])[n]? = some (bc k) := get_app hn2
  have q1 := (q_ref hn1 (snoc_get (s := t) (c := bc k))).1
  have q2 := (q_ref hn2 (snoc_get (s := t ++ [bc k]) (c := bc k'))).1
  have q3 := q_tup (k' := k) hn2
  have q4 := (q_ref hn3 (snoc_get (s := t ++ [bc k] ++ [bc k']) (c := bc k))).2
  have q5 := q_bb (S := t ++ [bc k] ++ [bc k'] ++ [bc k]) (k := k) (k' := k')
  have e4 : (4 : Nat) ≤ PySem.sizeLine := sz (by omega)
  have hs := same 9 (.tup [.bl true, .bl (decide (bd k = bd k')), .bl false, .bl false]) (t ++ [bc k] ++ [bc k'] ++ [bc k]) (by rfl)
  simp only [decide_true, Bool.not_true] at q1 q4
  unfold r3 eR
  simp only [sIf_def, bNot_def, bOf_def, eCall_def, aCons_def, eFn_def, eOp_def, eVar_def, eC_def, aNil_def, List.getElem?_cons_zero, List.getElem?_cons_succ, bind_ok, m1, m2, m3, q1, q2, q3, q4, q5, lift_some, plain_d, plain_nil, Option.map_some, mkTup_def, List.length_cons, List.length_nil, Nat.zero_add, Nat.reduceAdd, e4, if_true]
  rw [hs]
  simp only [bind_ok, Bool.not_true, Bool.false_eq_true, if_false, sNext_def]


theorem step4 {t : Sto} {b n : Nat} {l y : Option TP.A} {k : Bk} (h : BkOk k) (hn : t[n]? = some (bc k)) : ∃ g, r4 (eR b l (some (.d (bd k))) y (some (.d (.ref n)))) t = some (.ok (.nx (eR b l (some (.d (bd k))) y (some (.d (.ref n))))), t ++ g) := by
  obtain ⟨e1, he1, hne1, hv1⟩ : ∃ e1 : Int, (0 ≤ e1 ∧ e1 ≤ 250) ∧ k.e ≠ e1 ∧ e1 = if decide (k.e < 250) = true then k.e + 1 else 0 := by
    refine ⟨_, ?_, ?_, rfl⟩
    · have := h.e0; have := h.e1; split <;> simp_all <;> omega
    · have := h.e0; have := h.e1; split <;> simp_all <;> omega
  obtain ⟨w1, hw1, hnw1, hv2⟩ : ∃ w1 : Int, (4 ≤ w1 ∧ w1 ≤ 16) ∧ k.w ≠ w1 ∧ w1 = if decide (k.w < 16) = true then k.w + 1 else 4 := by
    refine ⟨_, ?_, ?_, rfl⟩
    · have := h.w0; have := h.w1; split <;> simp_all <;> omega
    · have := h.w0; have := h.w1; split <;> simp_all <;> omega
  have hk1 : BkOk { k with e := e1 } := { h with e0 := he1.1, e1 := he1.2 }
  have hk2 : BkOk { k with w := w1 } := { h with w0 := hw1.1, w1 := hw1.2 }
  have m1 := e_made (s := t) hk1
  have m2 := e_made (s := t ++ [bc { k with e := e1 }]) hk2
  have hn1 : (t ++ [bc { k with e := e1 }])[n]? = some (bc k) := get_app hn
  have hn2 : (t ++ [bc { k with e := e1 }] ++ [bc { k with w := w1 }])[n]? = some (bc k) := get_app hn1
  have q1 := (q_ref hn1 (snoc_get (s := t) (c := bc { k with e := e1 }))).1
  have q2 := (q_ref hn2 (snoc_get (s := t ++ [bc { k with e := e1 }]) (c := bc { k with w := w1 }))).1
  rw [decide_eq_false (by intro hc; injection hc with hc; injection hc with hc; injection hc with hc; exact hne1 hc)] at q1
  rw [decide_eq_false (by intro hc; injection hc with hc; injection hc with _ hc; injection hc with hc; injection hc with hc; exact hnw1 hc)] at q2
  refine ⟨[bc { k with e := e1 }] ++ [bc { k with w := w1 }], ?_⟩
  have I := @ixs_bd t k
  have J := @ixs_bd (t ++ [bc { k with e := e1 }]) k
  obtain ⟨i0, i1, i2, i3⟩ := I
  obtain ⟨j0, j1, j2, j3⟩ := J
  have E1 : (eIf (bOf (eOp ltD (eOp ixD (eVar 2) (eC (.int 0))) (eC (.int 250)))) (eOp addD (eOp ixD (eVar 2) (eC (.int 0))) (eC (.int 1))) (eC (.int 0))) (eR b l (some (.d (bd k))) y (some (.d (.ref n)))) t = some (.ok (.int e1), t) := by
    rw [hv1]; unfold eR
    simp only [eIf_def, bOf_def, eOp_def, eVar_def, eC_def, List.getElem?_cons_zero, List.getElem?_cons_succ, bind_ok, i0, lift_some, ltD_int, addD_int]
    split <;> rfl
  have E2 : (eIf (bOf (eOp ltD (eOp ixD (eVar 2) (eC (.int 1))) (eC (.int 16)))) (eOp addD (eOp ixD (eVar 2) (eC (.int 1))) (eC (.int 1))) (eC (.int 4))) (eR b l (some (.d (bd k))) y (some (.d (.ref n)))) (t ++ [bc { k with e := e1 }]) = some (.ok (.int w1), t ++ [bc { k with e := e1 }]) := by
    rw [hv2]; unfold eR
    simp only [eIf_def, bOf_def, eOp_def, eVar_def, eC_def, List.getElem?_cons_zero, List.getElem?_cons_succ, bind_ok, j1, lift_some, ltD_int, addD_int]
    split <;> rfl
  have M1 : (eMake nB 4 f_Book___init__ (aCons (eIf (bOf (eOp ltD (eOp ixD (eVar 2) (eC (.int 0))) (eC (.int 250)))) (eOp addD (eOp ixD (eVar 2) (eC (.int 0))) (eC (.int 1))) (eC (.int 0))) (aCons (eOp ixD (eVar 2) (eC (.int 1))) (aCons (eOp ixD (eVar 2) (eC (.int 2))) (aCons (eOp ixD (eVar 2) (eC (.int 3))) aNil))))) (eR b l (some (.d (bd k))) y (some (.d (.ref n)))) t = some (.ok (.ref t.length), t ++ [bc { k with e := e1 }]) := by
    unfold eMake
    simp only [aCons_def, E1, eOp_def, eVar_def, eC_def, aNil_def, eR, List.getElem?_cons_zero, List.getElem?_cons_succ, bind_ok, i1, i2, i3, lift_some, plain_d, plain_nil, Option.map_some, List.length_cons, List.length_nil]
    rw [if_pos trivial, m1]
  have M2 : (eMake nB 4 f_Book___init__ (aCons (eOp ixD (eVar 2) (eC (.int 0))) (aCons (eIf (bOf (eOp ltD (eOp ixD (eVar 2) (eC (.int 1))) (eC (.int 16)))) (eOp addD (eOp ixD (eVar 2) (eC (.int 1))) (eC (.int 1))) (eC (.int 4))) (aCons (eOp ixD (eVar 2) (eC (.int 2))) (aCons (eOp ixD (eVar 2) (eC (.int 3))) aNil))))) (eR b l (some (.d (bd k))) y (some (.d (.ref n)))) (t ++ [bc { k with e := e1 }]) = some (.ok (.ref (t ++ [bc { k with e := e1 }]).length), t ++ [bc { k with e := e1 }] ++ [bc { k with w := w1 }]) := by
    unfold eMake
    simp only [aCons_def, E2, eOp_def, eVar_def, eC_def, aNil_def, eR, List.getElem?_cons_zero, List.getElem?_cons_succ, bind_ok, j0, j2, j3, lift_some, plain_d, plain_nil, Option.map_some, List.length_cons, List.length_nil]
    rw [if_pos trivial, m2]
  rw [← List.append_assoc]
  unfold r4
  rw [sIf_def, bOr_def, bOf_def, eOp_def, eVar_def]
  simp only [eR, List.getElem?_cons_zero, List.getElem?_cons_succ, bind_ok] at M1 M2 ⊢
  simp only [M1, bind_ok, q1, lift_some, Bool.false_eq_true, if_false, bOf_def, eOp_def, eVar_def, List.getElem?_cons_zero, List.getElem?_cons_succ, M2, q2, sNext_def]


theorem rB_step {t : Sto} {b : Nat} {l x y z : Option TP.A} (hb : Bowl t b) : ∃ x' y' z' c g, BowlC c ∧ rB (eR b l x y z) t = some (.ok (.nx (eR b l x' y' z')), t.set b c ++ g) := by
  obtain ⟨k, k', c, hk, hk', hc, h0⟩ := step0 (l := l) (x := x) (y := y) (z := z) hb
  have hn : (t.set b c ++ [bc k])[t.length]? = some (bc k) := by
    rw [List.getElem?_append_right (by simp)]; simp
  have h1 := step1 (t := t.set b c) (b := b) (l := l) (y := some (.d (bd k'))) (z := z) hk
  rw [List.length_set] at h1
  have h2 := step2 (b := b) (l := l) (y := some (.d (bd k'))) hk hn
  have h3 := step3 (b := b) (l := l) hk hk' hn
  have hn3 : (t.set b c ++ [bc k] ++ [bc k] ++ [bc k'] ++ [bc k])[t.length]? = some (bc k) := get_app (get_app (get_app hn))
  obtain ⟨g, h4⟩ := step4 (b := b) (l := l) (y := some (.d (bd k'))) hk hn3
  refine ⟨some (.d (bd k)), some (.d (bd k')), some (.d (.ref t.length)), c, [bc k] ++ [bc k] ++ [bc k'] ++ [bc k] ++ g, hc, ?_⟩
  unfold rB
  simp only [sSeq_def, h0, h1, h2, h3, h4, bind_ok]
  simp only [List.append_assoc]
theorem right {s : Sto} {b : Nat} (hb : Bowl s b) : ∃ c, BowlC c ∧ f__law_right [.d (.ref b)] s = some (.ok (.bl true), s.set b c) := by
  have hlt := hb.lt
  obtain ⟨c0, h0, hc0⟩ := hb
  have hs0 : s = s.set b c0 ++ [] := by
    rw [List.append_nil]
    obtain ⟨h1, h2⟩ := List.getElem?_eq_some_iff.mp h0
    rw [← h2]; simp
  obtain ⟨env', s', hl, ⟨l, x, y, z, c, g, rfl, hc, rfl⟩⟩ := forL_inv (g := gSet 1) (b := rB) (chk := fun _ => true)
    (fun i env t => ∃ l x y z c g, env = eR b l x y z ∧ BowlC c ∧ t = s.set b c ++ g) (rangeD 0 8) 0 (eR b none none none none) s ⟨none, none, none, none, c0, [], rfl, hc0, hs0⟩
    (fun j v env t hj ⟨l, x, y, z, c, g, he, hc, ht⟩ => by
      have hbt : Bowl t b := by rw [ht]; exact (Bowl.set ⟨c0, h0, hc0⟩ hc).app
      obtain ⟨x', y', z', c', g', hc', hr⟩ := rB_step (l := some (.d v)) (x := x) (y := y) (z := z) hbt
      subst he
      refine ⟨rfl, eR b (some (.d v)) x y z, t, _, _, rfl, hr, some (.d v), x', y', z', c', g ++ g', rfl, hc', ?_⟩
      rw [ht, set_at_app hlt, List.append_assoc])
    (fun env t hI => rfl)
  refine ⟨c, hc, ?_⟩
  have hfor : sFor (iRange1 (aCons (eC (.int 8)) aNil)) (gSet 1) rB (eR b none none none none) s = some (.ok (.nx (eR b l x y z)), s.set b c ++ g) := by
    unfold sFor
    have : iRange1 (aCons (eC (.int 8)) aNil) (eR b none none none none) s = some (.ok ⟨rangeD 0 8, fun _ => true⟩, s) := rfl
    rw [this, bind_ok]
    exact hl
  unfold f__law_right
  rw [callF_def (by rfl), c_right_eq]
  show finF (trimS s (sSeq _ _ (eR b none none none none) s)) = _
  rw [sSeq_def, hfor]
  simp only [bind_ok, sRet_def, eC_def, trimS_ok, rootsF_rt, bndD, trim_set_app s g b c (hc.bnd _), finF_rt]
end K01
namespace K01
open TP
theorem itemsOf_at {S : Sto} {n : Nat} {xs : List D} (h : lstAt S n = some xs) : itemsOf (.ref n) S = some ⟨xs, isLst n xs⟩ := by
  show (lstAt S n).map _ = _
  rw [h]; rfl
theorem ten16 {S : Sto} : powD (.int 10) (.int 16) S = some (.int 10000000000000000, S) := rfl
abbrev bwB : EvS := (sAsg (eOp modD (eFn intOf (aCons (eOp addD (eOp addD (eOp mulI (eVar 2) (eC (.int 48611))) (eOp mulI (eOp modD (eFn intOf (aCons (eVar 3) aNil)) (eC (.int 2147483053))) (eC (.int 19)))) (eC (.int 41))) aNil)) (eC (.int 2147483563))) (gSet 2))
theorem mul_l {a b : Int} (h : b.natAbs ≤ 100000) : mulC a b = true := by rw [mulC_iff]; right; constructor <;> omega
theorem mul_r {a b : Int} (h : a.natAbs ≤ 100000) : mulC a b = true := by rw [mulC_iff]; left; constructor <;> omega
theorem e_bowl {S : Sto} {r : Nat} {ns : List Int} {lap : Int} (hl : lstAt S r = some (ns.map D.int)) (hr : r < S.length) (h0 : 0 ≤ lap) (hn : ns.length ≤ 63) : ∃ g c, BowlC c ∧ f__law_bowl [.d (.ref r), .d (.int lap)] S = some (.ok (.ref (S.length + 1)), S ++ [g] ++ [c]) := by
  have e1 : ∀ a : Int, mulC a 48611 = true := fun a => mul_l (by omega)
  have e2 : ∀ a : Int, mulC a 19 = true := fun a => mul_l (by omega)
  have e3 : ∀ a : Int, mulC 8819 a = true := fun a => mul_r (by omega)
  have e4 : ∀ a : Int, mulC a 53 = true := fun a => mul_l (by omega)
  have e5 : ∀ a : Int, mulC a 27011 = true := fun a => mul_l (by omega)
  obtain ⟨ms, hms⟩ : ∃ ms : List Int, cutL (ns.map D.int) none (some 9) = ms.map D.int := ⟨cutL ns none (some 9), by simp [cutL, List.map_take, List.map_drop]⟩
  obtain ⟨env', s', hf, ⟨k', k3, rfl, rfl⟩⟩ := forL_inv (g := gSet 3) (b := bwB) (chk := isLst S.length (ms.map D.int))
    (fun i env t => ∃ (k : Int) (k3 : Option TP.A), env = [some (.d (.ref r)), some (.d (.int lap)), some (.d (.int k)), k3, none] ∧ t = S ++ [.lst (ms.map D.int)]) (ms.map D.int) 0 [some (.d (.ref r)), some (.d (.int lap)), some (.d (.int (771041 + 8819 * lap))), none, none] (S ++ [.lst (ms.map D.int)]) ⟨_, none, rfl, rfl⟩
    (fun j x env t hj ⟨k, k3, he, ht⟩ => by
      obtain ⟨y, _, hy⟩ := List.mem_map.mp (List.mem_of_getElem? hj)
      subst he; subst ht; subst hy
      refine ⟨by simp [isLst], [some (.d (.ref r)), some (.d (.int lap)), some (.d (.int k)), some (.d (.int y)), none], _, [some (.d (.ref r)), some (.d (.int lap)), some (.d (.int ((k * 48611 + y % 2147483053 * 19 + 41) % 2147483563))), some (.d (.int y)), none], _, rfl, ?_, _, _, rfl, rfl⟩
      simp [e1, e2])
    (fun env t ⟨k, k3, he, ht⟩ => by subst ht; simp [isLst])
  have hfor : sFor (iAny (eSlice (eVar 0) none (some (eC (.int 9))))) (gSet 3) bwB [some (.d (.ref r)), some (.d (.int lap)), some (.d (.int (771041 + 8819 * lap))), none, none] S = some (.ok (.nx [some (.d (.ref r)), some (.d (.int lap)), some (.d (.int k')), k3, none]), S ++ [.lst (ms.map D.int)]) := by
    unfold sFor
    have hs : eSlice (eVar 0) none (some (eC (.int 9))) [some (.d (.ref r)), some (.d (.int lap)), some (.d (.int (771041 + 8819 * lap))), none, none] S = some (.ok (.ref S.length), S ++ [.lst (ms.map D.int)]) := by
      have hsl : sliceD (.ref r) none (some 9) S = some (.ref S.length, S ++ [.lst (ms.map D.int)]) := by
        show (match lstAt S r with | some xs => some (D.ref S.length, S ++ [Cell.lst (cutL xs none (some 9))]) | none => none) = _
        rw [hl]; simp only [hms]
      show lift (sliceD (.ref r) none (some 9) S) = _
      rw [hsl]; rfl
    have : iAny (eSlice (eVar 0) none (some (eC (.int 9)))) [some (.d (.ref r)), some (.d (.int lap)), some (.d (.int (771041 + 8819 * lap))), none, none] S = some (.ok ⟨ms.map D.int, isLst S.length (ms.map D.int)⟩, S ++ [.lst (ms.map D.int)]) := by
      rw [iAny_def, hs, bind_ok, itemsOf_at (lstAt_lst snoc_get)]; rfl
    rw [this, bind_ok]
    exact hf
  have hl2 : lstAt (S ++ [.lst (ms.map D.int)]) r = some (ns.map D.int) := by
    unfold lstAt at hl ⊢
    rw [List.getElem?_append_left hr]; exact hl
  have hlen := lenD_ref (s := S ++ [.lst (ms.map D.int)]) hl2
  obtain ⟨left, hleft⟩ : ∃ left : Int, (eIf (bOf (eOp ltD (eVar 1) (eFn lenD (aCons (eVar 0) aNil)))) (eFn intOf (aCons (eOp ixD (eVar 0) (eVar 1)) aNil)) (eC (.int 0))) [some (.d (.ref r)), some (.d (.int lap)), some (.d (.int k')), k3, none] (S ++ [.lst (ms.map D.int)]) = some (.ok (.int left), S ++ [.lst (ms.map D.int)]) := by
    by_cases h : lap < (ns.length : Int)
    · have hj : lap.toNat < ns.length := by omega
      have hix : ixD (.ref r) (.int lap) (S ++ [.lst (ms.map D.int)]) = some (.int ns[lap.toNat], S ++ [.lst (ms.map D.int)]) :=
        ixD_ref hl2 (j := lap.toNat) (by rw [show lap = (lap.toNat : Int) by omega, List.length_map]; exact ixN_nat hj) (by simp [hj])
      exact ⟨ns[lap.toNat], by simp [hlen, h, hix]⟩
    · exact ⟨0, by simp [hlen, h]⟩
  obtain ⟨A, hA, hpos⟩ : ∃ A : Int, (∀ x4 : Int, (eIf (bOr (bOf (eOp ltD (eVar 4) (eC (.int 0)))) (bOf (eOp geI (eVar 4) (eOp powD (eC (.int 10)) (eC (.int 16)))))) (eFn absD (aCons (eVar 4) aNil)) (eC (.int 0))) [some (.d (.ref r)), some (.d (.int lap)), some (.d (.int x4)), k3, some (.d (.int left))] (S ++ [.lst (ms.map D.int)]) = some (.ok (.int A), S ++ [.lst (ms.map D.int)])) ∧ 0 ≤ A := by
    by_cases h : left < 0
    · exact ⟨-left, fun x4 => by simp [h], by omega⟩
    · by_cases h2 : 10000000000000000 ≤ left
      · refine ⟨left, fun x4 => ?_, by omega⟩
        simp only [eIf_def, bOr_def, bOf_def, eOp_def, eVar_def, eC_def, List.getElem?_cons_zero, List.getElem?_cons_succ, bind_ok, ltD_int, lift_some, decide_eq_false h, Bool.false_eq_true, if_false, ten16, onIB_def, decide_eq_true h2, if_true, eFn_def, aCons_def, aNil_def, plain_d, plain_nil, Option.map_some, absD_int, if_neg h]
      · refine ⟨0, fun x4 => ?_, by omega⟩
        simp only [eIf_def, bOr_def, bOf_def, eOp_def, eVar_def, eC_def, List.getElem?_cons_zero, List.getElem?_cons_succ, bind_ok, ltD_int, lift_some, decide_eq_false h, Bool.false_eq_true, if_false, ten16, onIB_def, decide_eq_false h2]
  have e3' : (3 : Nat) ≤ PySem.sizeLine := sz (by omega)
  refine ⟨.lst (ms.map D.int), .lst [.int A, .int ((k' * 53 + left % 2147483053 * 27011 + 11) % 2147483563), .int 0], ⟨_, _, _, rfl, hpos⟩, ?_⟩
  have hb : bndD S.length (.ref (S.length + 1)) = false := by simp [bndD]
  unfold f__law_bowl
  rw [callF_def (by rfl)]
  unfold c__law_bowl
  simp only [List.map_cons, List.map_nil, Nat.reduceSub, List.replicate_succ, List.replicate_zero, List.cons_append, List.nil_append]
  rw [sSeq_def]
  have a1 : sAsg (eOp addD (eC (.int 771041)) (eOp mulI (eC (.int 8819)) (eVar 1))) (gSet 2) [some (.d (.ref r)), some (.d (.int lap)), none, none, none] S = some (.ok (.nx [some (.d (.ref r)), some (.d (.int lap)), some (.d (.int (771041 + 8819 * lap))), none, none]), S) := by simp [e3]
  rw [a1]
  simp only [bind_ok, sSeq_def, hfor]
  rw [sAsg_def, hleft]
  simp only [bind_ok, gSet_def, List.set_cons_succ, List.set_cons_zero]
  rw [sAsg_def]
  have a2 : eOp modD (eFn intOf (aCons (eOp addD (eOp addD (eOp mulI (eVar 2) (eC (.int 53))) (eOp mulI (eOp modD (eVar 4) (eC (.int 2147483053))) (eC (.int 27011)))) (eC (.int 11))) aNil)) (eC (.int 2147483563)) [some (.d (.ref r)), some (.d (.int lap)), some (.d (.int k')), k3, some (.d (.int left))] (S ++ [.lst (ms.map D.int)]) = some (.ok (.int ((k' * 53 + left % 2147483053 * 27011 + 11) % 2147483563)), S ++ [.lst (ms.map D.int)]) := by simp [e4, e5]
  rw [a2]
  simp only [bind_ok, gSet_def, List.set_cons_succ, List.set_cons_zero, sRet_def, eFn_def]
  rw [aCons_def, hA]
  simp only [bind_ok, aCons_def, eVar_def, eC_def, aNil_def, List.getElem?_cons_zero, List.getElem?_cons_succ, plain_d, plain_nil, Option.map_some, mkLst_def, List.length_cons, List.length_nil, Nat.zero_add, Nat.reduceAdd, e3', if_true, lift_some, trimS_ok, rootsF_rt, List.length_append, hb, trim_false, finF_rt]
theorem lcL_gar {gx : EvX} {e : Ev} {vs : List Nat} {env0 : Env} {chk : Sto → Bool} {y : D} (hy : ∀ n, bndD n y = true) {t : Sto} (hc : ∀ acc, chk (t ++ [.lst acc]) = true) : ∀ (xs acc : List D), acc.length + xs.length ≤ 100000 →
    (∀ x ∈ xs, ∃ asg, gx x = some asg ∧ asg.all (fun p => vs.contains p.1) = true ∧ ∀ acc, ∃ g, e (setsE env0 asg) (t ++ [.lst acc]) = some (.ok y, t ++ [.lst acc] ++ g)) →
    lcL gx bYes e vs env0 chk t.length xs (t ++ [.lst acc]) = some (t ++ [.lst (acc ++ List.replicate xs.length y)])
  | [], acc, _, _ => by simp only [lcL]; rw [if_pos (hc acc)]; simp
  | x :: xs, acc, hz, hx => by
    obtain ⟨asg, h1, h2, h3⟩ := hx x (by simp)
    obtain ⟨g, h4⟩ := h3 acc
    have ih := lcL_gar hy hc xs (acc ++ [y]) (by simp at hz ⊢; omega) fun z hz => hx z (by simp [hz])
    simp only [lcL]
    rw [if_pos (hc acc), h1]
    simp only [h2, if_true]
    have hb : bYes (setsE env0 asg) (t ++ [.lst acc]) = some (.ok true, t ++ [.lst acc]) := rfl
    rw [hb]
    simp only [if_true]
    rw [h4]
    have hget : (t ++ [Cell.lst acc] ++ g)[t.length]? = some (.lst acc) := get_app snoc_get
    have hlt : acc.length < PySem.sizeLine := by rw [PySem.sizeLine_eq]; simp at hz; omega
    simp only [hget, hy, trim_app]
    rw [if_pos hlt]
    have hset : (t ++ [Cell.lst acc]).set t.length (.lst (acc ++ [y])) = t ++ [.lst (acc ++ [y])] := by simp
    rw [hset, ih, List.length_cons, List.replicate_succ, List.append_assoc]; rfl
theorem math (ns : List Int) (c : Cell) (h : ns.length ≤ 63) (hb : ∀ z ∈ ns, PySem.Builtin.Int.intBits z ≤ 1048576) (hc : scriptC c ns) : ∃ s', f_law [.d (.ref 0)] [c] = some (.ok (.bl true), s') := by
  have hl0 : ∀ g : Sto, lstAt ([c] ++ g) 0 = some (ns.map D.int) := fun g => by
    rcases hc with rfl | rfl <;> rfl
  have hlen := lenD_ref (s := [c]) (hl0 [])
  rw [List.length_map] at hlen
  obtain ⟨m, hm, m3⟩ : ∃ m : Nat, (if (if (3 : Int) < (ns.length : Int) then 3 else (ns.length : Int)) > 1 then (if (3 : Int) < (ns.length : Int) then 3 else (ns.length : Int)) else 1) = (m : Int) ∧ m ≤ 3 := by
    refine ⟨(if (if (3 : Int) < (ns.length : Int) then 3 else (ns.length : Int)) > 1 then (if (3 : Int) < (ns.length : Int) then 3 else (ns.length : Int)) else 1).toNat, ?_, ?_⟩ <;> (repeat' split) <;> omega
  have hsm : smallI (m : Int) = true := small_nat (by omega)
  have hi : iRange1 (aCons (eFn max2D (aCons (eC (.int 1)) (aCons (eFn min2D (aCons (eFn lenD (aCons (eVar 0) aNil)) (aCons (eC (.int 3)) aNil))) aNil))) aNil) [some (.d (.ref 0)), none] [c] = some (.ok ⟨rangeD 0 m, fun _ => true⟩, [c]) := by
    simp only [iRange1_def, eFn_def, aCons_def, eVar_def, eC_def, aNil_def, List.getElem?_cons_zero, bind_ok, plain_d, plain_nil, Option.map_some, hlen, lift_some, min2_def, max2_def, hm, hsm, if_true, Int.toNat_natCast]
    rfl
  have hg := lcL_gar (gx := xName 1) (e := eCall f__law_right (aCons (eCall f__law_bowl (aCons (eVar 0) (aCons (eVar 1) aNil))) aNil)) (vs := [1]) (env0 := maskE [1] [some (.d (.ref 0)), none]) (chk := fun _ => true) (y := .bl true) (fun n => rfl) (t := [c]) (fun acc => rfl) (rangeD 0 m) [] (by simp; omega) (fun x hx => by
    obtain ⟨j, hj⟩ := List.getElem?_of_mem hx
    obtain ⟨hjl, rfl⟩ := rangeD_get hj
    refine ⟨[(1, .int (0 + j))], rfl, by simp, fun acc => ?_⟩
    obtain ⟨g1, c1, hc1, hbo⟩ := e_bowl (S := [c] ++ [.lst acc]) (r := 0) (lap := 0 + (j : Int)) (hl0 _) (by simp) (by omega) h
    have hB : Bowl ([c] ++ [.lst acc] ++ [g1] ++ [c1]) (([c] ++ [Cell.lst acc]).length + 1) := ⟨c1, by simp, hc1⟩
    obtain ⟨c2, hc2, hri⟩ := right hB
    refine ⟨[g1] ++ [c2], ?_⟩
    have he : setsE (maskE [1] [some (.d (.ref 0)), none]) [(1, .int (0 + j))] = [some (.d (.ref 0)), some (.d (.int (0 + j)))] := rfl
    rw [he]
    simp only [eCall_def, aCons_def, eVar_def, aNil_def, List.getElem?_cons_zero, List.getElem?_cons_succ, bind_ok, hbo, hri]
    simp)
  have hlc := eLc_of (env := [some (.d (.ref 0)), none]) (s := [c]) hi hg
  have hall := all_true (lstAt_lst (s := [c] ++ [.lst ([] ++ List.replicate (rangeD 0 m).length (.bl true))]) (n := [c].length) snoc_get) (fun x hx => by
    rw [List.nil_append] at hx
    exact (List.mem_replicate.mp hx).2)
  unfold f_law
  rw [callF_def (by rfl)]
  unfold c_law
  refine ⟨trim [c] true ([c] ++ [.lst ([] ++ List.replicate (rangeD 0 m).length (.bl true))]), ?_⟩
  show finF (trimS [c] (sRet _ [some (.d (.ref 0)), none] [c])) = _
  rw [sRet_def, eFn_def, aCons_def, hlc]
  simp only [bind_ok, aNil_def, plain_d, plain_nil, Option.map_some, hall, lift_some, trimS_ok, rootsF_rt, finF_rt, bndD]
end K01
/-! The derivations (printed by gen.py). -/
namespace K01
open TP
open PySem PySem.Spec PyProof.Rows L2 LamX
def topS (i : Nat) : Stmt := PySem.Challenge.pw_touchpress_k01_whole_books.main.body.getD i (.Pass ⟨0, 0, 0, 0⟩)
abbrev s_is_whole : Stmt := topS 2
theorem sc_is_whole : FnScope ["value"] ["value"] (defScope s_is_whole) := ⟨rfl, rfl, rfl, by decide +kernel, rfl, by decide +kernel, by decide +kernel⟩
abbrev s_is_between : Stmt := topS 3
theorem sc_is_between : FnScope ["value", "least", "most"] ["value", "least", "most"] (defScope s_is_between) := ⟨rfl, rfl, rfl, by decide +kernel, rfl, by decide +kernel, by decide +kernel⟩
abbrev s_is_up_to : Stmt := topS 4
theorem sc_is_up_to : FnScope ["value", "most"] ["value", "most"] (defScope s_is_up_to) := ⟨rfl, rfl, rfl, by decide +kernel, rfl, by decide +kernel, by decide +kernel⟩
abbrev s_is_one_of : Stmt := topS 5
theorem sc_is_one_of : FnScope ["value", "words"] ["value", "words"] (defScope s_is_one_of) := ⟨rfl, rfl, rfl, by decide +kernel, rfl, by decide +kernel, by decide +kernel⟩
abbrev s_is_tuple_of : Stmt := topS 6
theorem sc_is_tuple_of : FnScope ["value", "many"] ["value", "many"] (defScope s_is_tuple_of) := ⟨rfl, rfl, rfl, by decide +kernel, rfl, by decide +kernel, by decide +kernel⟩
abbrev s_wrong_in : Stmt := topS 7
theorem sc_wrong_in : FnScope ["value", "least", "most", "is_right", "index", "each"] ["value", "least", "most", "is_right"] (defScope s_wrong_in) := ⟨rfl, rfl, rfl, by decide +kernel, rfl, by decide +kernel, by decide +kernel⟩
abbrev s_are_all : Stmt := topS 8
theorem sc_are_all : FnScope ["value", "least", "most", "is_right"] ["value", "least", "most", "is_right"] (defScope s_are_all) := ⟨rfl, rfl, rfl, by decide +kernel, rfl, by decide +kernel, by decide +kernel⟩
abbrev s_are_below : Stmt := topS 9
theorem sc_are_below : FnScope ["ahead", "value"] ["ahead", "value"] (defScope s_are_below) := ⟨rfl, rfl, rfl, by decide +kernel, rfl, by decide +kernel, by decide +kernel⟩
abbrev s_are_letters : Stmt := topS 27
theorem sc_are_letters : FnScope ["value", "at", "sign"] ["value"] (defScope s_are_letters) := ⟨rfl, rfl, rfl, by decide +kernel, rfl, by decide +kernel, by decide +kernel⟩
abbrev s_is_print : Stmt := topS 28
theorem sc_is_print : FnScope ["letters", "value", "sign"] ["letters", "value"] (defScope s_is_print) := ⟨rfl, rfl, rfl, by decide +kernel, rfl, by decide +kernel, by decide +kernel⟩
abbrev s_is_rule_cell : Stmt := topS 29
theorem sc_is_rule_cell : FnScope ["value"] ["value"] (defScope s_is_rule_cell) := ⟨rfl, rfl, rfl, by decide +kernel, rfl, by decide +kernel, by decide +kernel⟩
abbrev s_is_rule : Stmt := topS 30
theorem sc_is_rule : FnScope ["letters", "value"] ["letters", "value"] (defScope s_is_rule) := ⟨rfl, rfl, rfl, by decide +kernel, rfl, by decide +kernel, by decide +kernel⟩
abbrev s_is_behind : Stmt := topS 31
theorem sc_is_behind : FnScope ["ahead", "rule"] ["ahead", "rule"] (defScope s_is_behind) := ⟨rfl, rfl, rfl, by decide +kernel, rfl, by decide +kernel, by decide +kernel⟩
abbrev s_wrong_in_rules : Stmt := topS 32
theorem sc_wrong_in_rules : FnScope ["letters", "value", "found", "alone", "rule", "sign"] ["letters", "value"] (defScope s_wrong_in_rules) := ⟨rfl, rfl, rfl, by decide +kernel, rfl, by decide +kernel, by decide +kernel⟩
abbrev s_Book___init__ : Stmt := clsS (topS 39) 0
theorem sc_Book___init__ : FnScope ["self", "edition", "width", "letters", "rules", "index"] ["self", "edition", "width", "letters", "rules"] (defScope s_Book___init__) := ⟨rfl, rfl, rfl, by decide +kernel, rfl, by decide +kernel, by decide +kernel⟩
abbrev s_Book_edition : Stmt := clsS (topS 39) 1
theorem sc_Book_edition : FnScope ["self"] ["self"] (defScope s_Book_edition) := ⟨rfl, rfl, rfl, by decide +kernel, rfl, by decide +kernel, by decide +kernel⟩
abbrev s_Book_width : Stmt := clsS (topS 39) 2
theorem sc_Book_width : FnScope ["self"] ["self"] (defScope s_Book_width) := ⟨rfl, rfl, rfl, by decide +kernel, rfl, by decide +kernel, by decide +kernel⟩
abbrev s_Book_letters : Stmt := clsS (topS 39) 3
theorem sc_Book_letters : FnScope ["self"] ["self"] (defScope s_Book_letters) := ⟨rfl, rfl, rfl, by decide +kernel, rfl, by decide +kernel, by decide +kernel⟩
abbrev s_Book_rules : Stmt := clsS (topS 39) 4
theorem sc_Book_rules : FnScope ["self"] ["self"] (defScope s_Book_rules) := ⟨rfl, rfl, rfl, by decide +kernel, rfl, by decide +kernel, by decide +kernel⟩
abbrev s_Book_parts : Stmt := clsS (topS 39) 5
theorem sc_Book_parts : FnScope ["self"] ["self"] (defScope s_Book_parts) := ⟨rfl, rfl, rfl, by decide +kernel, rfl, by decide +kernel, by decide +kernel⟩
abbrev s_Book___eq__ : Stmt := clsS (topS 39) 6
theorem sc_Book___eq__ : FnScope ["self", "other"] ["self", "other"] (defScope s_Book___eq__) := ⟨rfl, rfl, rfl, by decide +kernel, rfl, by decide +kernel, by decide +kernel⟩
abbrev s__law_bowl : Stmt := topS 41
theorem sc__law_bowl : FnScope ["script", "lap", "stir", "cell", "own"] ["script", "lap"] (defScope s__law_bowl) := ⟨rfl, rfl, rfl, by decide +kernel, rfl, by decide +kernel, by decide +kernel⟩
abbrev s__law_draw : Stmt := topS 42
theorem sc__law_draw : FnScope ["bowl", "many", "figure", "turn"] ["bowl", "many"] (defScope s__law_draw) := ⟨rfl, rfl, rfl, by decide +kernel, rfl, by decide +kernel, by decide +kernel⟩
abbrev s__law_of : Stmt := topS 43
theorem sc__law_of : FnScope ["bowl", "some"] ["bowl", "some"] (defScope s__law_of) := ⟨rfl, rfl, rfl, by decide +kernel, rfl, by decide +kernel, by decide +kernel⟩
abbrev s__law_same : Stmt := topS 44
theorem sc__law_same : FnScope ["told", "due", "k"] ["told", "due"] (defScope s__law_same) := ⟨rfl, rfl, rfl, by decide +kernel, rfl, by decide +kernel, by decide +kernel⟩
abbrev s__law_cells : Stmt := topS 45
theorem sc__law_cells : FnScope ["bowl", "wide", "k"] ["bowl", "wide"] (defScope s__law_cells) := ⟨rfl, rfl, rfl, by decide +kernel, rfl, by decide +kernel, by decide +kernel⟩
abbrev s__law_print : Stmt := topS 46
theorem sc__law_print : FnScope ["bowl", "letters", "found", "k"] ["bowl", "letters"] (defScope s__law_print) := ⟨rfl, rfl, rfl, by decide +kernel, rfl, by decide +kernel, by decide +kernel⟩
abbrev s__law_letters : Stmt := topS 47
theorem sc__law_letters : FnScope ["bowl", "most", "left", "found", "k"] ["bowl", "most"] (defScope s__law_letters) := ⟨rfl, rfl, rfl, by decide +kernel, rfl, by decide +kernel, by decide +kernel⟩
abbrev s__law_book : Stmt := topS 48
theorem sc__law_book : FnScope ["bowl", "most", "more", "letters", "wide", "rules", "seen", "x", "k", "head"] ["bowl", "most", "more"] (defScope s__law_book) := ⟨rfl, rfl, rfl, by decide +kernel, rfl, by decide +kernel, by decide +kernel⟩
abbrev s__law_made : Stmt := topS 49
theorem sc__law_made : FnScope ["book"] ["book"] (defScope s__law_made) := ⟨rfl, rfl, rfl, by decide +kernel, rfl, by decide +kernel, by decide +kernel⟩
abbrev s__law_right : Stmt := topS 50
theorem sc__law_right : FnScope ["bowl", "lap", "book", "other", "made"] ["bowl"] (defScope s__law_right) := ⟨rfl, rfl, rfl, by decide +kernel, rfl, by decide +kernel, by decide +kernel⟩
abbrev s_law : Stmt := topS 51
theorem sc_law : FnScope ["script", "lap"] ["script"] (defScope s_law) := ⟨rfl, rfl, rfl, by decide +kernel, rfl, by decide +kernel, by decide +kernel⟩
def ds : List PD := [⟨fun K => He.ga K "is_whole", "is_whole", "is_whole", s_is_whole⟩,
  ⟨fun K => He.ga K "is_between", "is_between", "is_between", s_is_between⟩,
  ⟨fun K => He.ga K "is_up_to", "is_up_to", "is_up_to", s_is_up_to⟩,
  ⟨fun K => He.ga K "is_one_of", "is_one_of", "is_one_of", s_is_one_of⟩,
  ⟨fun K => He.ga K "is_tuple_of", "is_tuple_of", "is_tuple_of", s_is_tuple_of⟩,
  ⟨fun K => He.ga K "wrong_in", "wrong_in", "wrong_in", s_wrong_in⟩,
  ⟨fun K => He.ga K "are_all", "are_all", "are_all", s_are_all⟩,
  ⟨fun K => He.ga K "are_below", "are_below", "are_below", s_are_below⟩,
  ⟨fun K => He.ga K "are_letters", "are_letters", "are_letters", s_are_letters⟩,
  ⟨fun K => He.ga K "is_print", "is_print", "is_print", s_is_print⟩,
  ⟨fun K => He.ga K "is_rule_cell", "is_rule_cell", "is_rule_cell", s_is_rule_cell⟩,
  ⟨fun K => He.ga K "is_rule", "is_rule", "is_rule", s_is_rule⟩,
  ⟨fun K => He.ga K "is_behind", "is_behind", "is_behind", s_is_behind⟩,
  ⟨fun K => He.ga K "wrong_in_rules", "wrong_in_rules", "wrong_in_rules", s_wrong_in_rules⟩,
  ⟨fun K => He.ma K (He.ga K "Book") "__init__", "__init__", "Book.__init__", s_Book___init__⟩,
  ⟨fun K => prG K "Book" "edition", "edition", "Book.edition", s_Book_edition⟩,
  ⟨fun K => prG K "Book" "width", "width", "Book.width", s_Book_width⟩,
  ⟨fun K => prG K "Book" "letters", "letters", "Book.letters", s_Book_letters⟩,
  ⟨fun K => prG K "Book" "rules", "rules", "Book.rules", s_Book_rules⟩,
  ⟨fun K => prG K "Book" "parts", "parts", "Book.parts", s_Book_parts⟩,
  ⟨fun K => He.ma K (He.ga K "Book") "__eq__", "__eq__", "Book.__eq__", s_Book___eq__⟩,
  ⟨fun K => He.ga K "_law_bowl", "_law_bowl", "_law_bowl", s__law_bowl⟩,
  ⟨fun K => He.ga K "_law_draw", "_law_draw", "_law_draw", s__law_draw⟩,
  ⟨fun K => He.ga K "_law_of", "_law_of", "_law_of", s__law_of⟩,
  ⟨fun K => He.ga K "_law_same", "_law_same", "_law_same", s__law_same⟩,
  ⟨fun K => He.ga K "_law_cells", "_law_cells", "_law_cells", s__law_cells⟩,
  ⟨fun K => He.ga K "_law_print", "_law_print", "_law_print", s__law_print⟩,
  ⟨fun K => He.ga K "_law_letters", "_law_letters", "_law_letters", s__law_letters⟩,
  ⟨fun K => He.ga K "_law_book", "_law_book", "_law_book", s__law_book⟩,
  ⟨fun K => He.ga K "_law_made", "_law_made", "_law_made", s__law_made⟩,
  ⟨fun K => He.ga K "_law_right", "_law_right", "_law_right", s__law_right⟩,
  ⟨fun K => He.ga K "law", "law", "law", s_law⟩]
def tf : List ((Frg → Addr) × Str) := [(fun K => He.ga K "are_all", ((("are_all" : Str) ++ ".<locals>.") ++ "<lambda>")), (fun K => He.ga K "wrong_in_rules", ((("wrong_in_rules" : Str) ++ ".<locals>.") ++ "<lambda>"))]
abbrev TBs (K : Frg) : List (Addr × Str) := tabL tf K
def exL (K : Frg) : List Bool := [(He.Fa.glo "is_whole").ok K,
  (He.Fa.glo "is_between").ok K,
  (He.Fa.glo "is_up_to").ok K,
  (He.Fa.glo "is_one_of").ok K,
  (He.Fa.glo "is_tuple_of").ok K,
  (He.Fa.glo "wrong_in").ok K,
  (He.Fa.glo "are_all").ok K,
  (He.Fa.glo "are_below").ok K,
  (He.Fa.str "LETTERS" (sn [97, 98, 99, 100, 101, 102, 103, 104, 105, 106, 107, 108, 109, 110, 111, 112, 113, 114, 115, 116, 117, 118, 119, 120, 121, 122])).ok K,
  (He.Fa.int "MOST_LETTERS" 4).ok K,
  (He.Fa.glo "are_letters").ok K,
  (He.Fa.int "MOST_PRINT" 3).ok K,
  (He.Fa.glo "is_print").ok K,
  (He.Fa.int "JOINT" 63).ok K,
  (He.Fa.int "BLANK" 0).ok K,
  (He.Fa.glo "is_rule_cell").ok K,
  (He.Fa.int "MOST_RULE_CELLS" 3).ok K,
  (He.Fa.glo "WHERES").ok K,
  He.tupB K "WHERES" [.str (sn [97, 110, 121]), .str (sn [98, 101, 103, 105, 110]), .str (sn [101, 110, 100]), .str (sn [109, 105, 100, 100, 108, 101]), .str (sn [119, 104, 111, 108, 101])],
  (He.Fa.int "TRIPLE" 3).ok K,
  (He.Fa.glo "is_rule").ok K,
  (He.Fa.glo "is_behind").ok K,
  (He.Fa.str "ANY" (sn [97, 110, 121])).ok K,
  (He.Fa.int "MOST_RULES" 16).ok K,
  (He.Fa.glo "wrong_in_rules").ok K,
  (He.Fa.glo "Book").ok K,
  (He.Fa.cls "Book").ok K,
  (He.Fa.noat "Book" "all_told").ok K,
  (He.Fa.int "MOST_WIDTH" 16).ok K,
  (He.Fa.int "LEAST_WIDTH" 4).ok K,
  (He.Fa.int "MOST_EDITION" 250).ok K,
  prB K "Book" "parts",
  kitB1 K "Book" [("NoneType", false), ("bool", false), ("int", false), ("str", false), ("tuple", false), ("list", false)],
  insB K "Book",
  kitB2 K "Book" "Book" true,
  (He.Fa.glo "_law_bowl").ok K,
  (He.Fa.glo "_law_draw").ok K,
  (He.Fa.glo "_law_of").ok K,
  (He.Fa.glo "_law_same").ok K,
  (He.Fa.glo "_law_cells").ok K,
  (He.Fa.glo "_law_print").ok K,
  (He.Fa.glo "_law_letters").ok K,
  (He.Fa.glo "_law_book").ok K,
  (He.Fa.mkr "Book").ok K,
  (He.Fa.glo "_law_made").ok K,
  (He.Fa.meth "Book" "__eq__").ok K,
  nfB1 K "Book" ["NoneType", "bool", "int", "str", "tuple", "list"],
  nfB2 K "Book" "Book",
  neB K "Book",
  prB K "Book" "rules",
  prB K "Book" "letters",
  prB K "Book" "width",
  prB K "Book" "edition",
  (He.Fa.glo "_law_right").ok K,
  (He.Fa.glo "law").ok K,
  (He.Fa.free "isinstance").ok K,
  (He.Fa.free "bool").ok K,
  (He.Fa.free "int").ok K,
  (He.Fa.free "str").ok K,
  (He.Fa.free "len").ok K,
  (He.Fa.free "tuple").ok K,
  (He.Fa.free "enumerate").ok K,
  (He.Fa.free "all").ok K,
  (He.Fa.free "list").ok K,
  (He.Fa.free "abs").ok K,
  (He.Fa.free "divmod").ok K,
  (He.Fa.free "range").ok K,
  (He.Fa.free "sorted").ok K,
  (He.Fa.free "min").ok K,
  (He.Fa.free "max").ok K]
def ex (K : Frg) : Bool := (exL K).all id
structure Facts (K : Frg) (mg : Str → Option Value) (base : Heap) : Prop where
  u_is_whole : ∃ fd, L2.Fun K "is_whole" "is_whole" s_is_whole (He.ga K "is_whole") fd ∧ (fun _ => True) fd.code
  g_is_whole : mg ("is_whole" : Str) = some (.ref (He.ga K "is_whole"))
  u_is_between : ∃ fd, L2.Fun K "is_between" "is_between" s_is_between (He.ga K "is_between") fd ∧ (fun _ => True) fd.code
  g_is_between : mg ("is_between" : Str) = some (.ref (He.ga K "is_between"))
  u_is_up_to : ∃ fd, L2.Fun K "is_up_to" "is_up_to" s_is_up_to (He.ga K "is_up_to") fd ∧ (fun _ => True) fd.code
  g_is_up_to : mg ("is_up_to" : Str) = some (.ref (He.ga K "is_up_to"))
  u_is_one_of : ∃ fd, L2.Fun K "is_one_of" "is_one_of" s_is_one_of (He.ga K "is_one_of") fd ∧ (fun _ => True) fd.code
  g_is_one_of : mg ("is_one_of" : Str) = some (.ref (He.ga K "is_one_of"))
  u_is_tuple_of : ∃ fd, L2.Fun K "is_tuple_of" "is_tuple_of" s_is_tuple_of (He.ga K "is_tuple_of") fd ∧ (fun _ => True) fd.code
  g_is_tuple_of : mg ("is_tuple_of" : Str) = some (.ref (He.ga K "is_tuple_of"))
  u_wrong_in : ∃ fd, L2.Fun K "wrong_in" "wrong_in" s_wrong_in (He.ga K "wrong_in") fd ∧ (fun _ => True) fd.code
  g_wrong_in : mg ("wrong_in" : Str) = some (.ref (He.ga K "wrong_in"))
  u_are_all : ∃ fd, L2.Fun K "are_all" "are_all" s_are_all (He.ga K "are_all") fd ∧ (CodeR base mg (TBs K) ((("are_all" : Str) ++ ".<locals>.") ++ "<lambda>")) fd.code
  g_are_all : mg ("are_all" : Str) = some (.ref (He.ga K "are_all"))
  u_are_below : ∃ fd, L2.Fun K "are_below" "are_below" s_are_below (He.ga K "are_below") fd ∧ (fun _ => True) fd.code
  g_are_below : mg ("are_below" : Str) = some (.ref (He.ga K "are_below"))
  c_LETTERS : ∃ t, mg ("LETTERS" : Str) = some (.str (sn [97, 98, 99, 100, 101, 102, 103, 104, 105, 106, 107, 108, 109, 110, 111, 112, 113, 114, 115, 116, 117, 118, 119, 120, 121, 122]) t)
  c_MOST_LETTERS : ∃ t, mg ("MOST_LETTERS" : Str) = some (.int 4 t)
  u_are_letters : ∃ fd, L2.Fun K "are_letters" "are_letters" s_are_letters (He.ga K "are_letters") fd ∧ (fun _ => True) fd.code
  g_are_letters : mg ("are_letters" : Str) = some (.ref (He.ga K "are_letters"))
  c_MOST_PRINT : ∃ t, mg ("MOST_PRINT" : Str) = some (.int 3 t)
  u_is_print : ∃ fd, L2.Fun K "is_print" "is_print" s_is_print (He.ga K "is_print") fd ∧ (fun _ => True) fd.code
  g_is_print : mg ("is_print" : Str) = some (.ref (He.ga K "is_print"))
  c_JOINT : ∃ t, mg ("JOINT" : Str) = some (.int 63 t)
  c_BLANK : ∃ t, mg ("BLANK" : Str) = some (.int 0 t)
  u_is_rule_cell : ∃ fd, L2.Fun K "is_rule_cell" "is_rule_cell" s_is_rule_cell (He.ga K "is_rule_cell") fd ∧ (fun _ => True) fd.code
  g_is_rule_cell : mg ("is_rule_cell" : Str) = some (.ref (He.ga K "is_rule_cell"))
  c_MOST_RULE_CELLS : ∃ t, mg ("MOST_RULE_CELLS" : Str) = some (.int 3 t)
  c_WHERES : TupG K mg "WHERES" (.tup [(.str [97, 110, 121]), (.str [98, 101, 103, 105, 110]), (.str [101, 110, 100]), (.str [109, 105, 100, 100, 108, 101]), (.str [119, 104, 111, 108, 101])])
  c_TRIPLE : ∃ t, mg ("TRIPLE" : Str) = some (.int 3 t)
  u_is_rule : ∃ fd, L2.Fun K "is_rule" "is_rule" s_is_rule (He.ga K "is_rule") fd ∧ (fun _ => True) fd.code
  g_is_rule : mg ("is_rule" : Str) = some (.ref (He.ga K "is_rule"))
  u_is_behind : ∃ fd, L2.Fun K "is_behind" "is_behind" s_is_behind (He.ga K "is_behind") fd ∧ (fun _ => True) fd.code
  g_is_behind : mg ("is_behind" : Str) = some (.ref (He.ga K "is_behind"))
  c_ANY : ∃ t, mg ("ANY" : Str) = some (.str (sn [97, 110, 121]) t)
  c_MOST_RULES : ∃ t, mg ("MOST_RULES" : Str) = some (.int 16 t)
  u_wrong_in_rules : ∃ fd, L2.Fun K "wrong_in_rules" "wrong_in_rules" s_wrong_in_rules (He.ga K "wrong_in_rules") fd ∧ (CodeR base mg (TBs K) ((("wrong_in_rules" : Str) ++ ".<locals>.") ++ "<lambda>")) fd.code
  g_wrong_in_rules : mg ("wrong_in_rules" : Str) = some (.ref (He.ga K "wrong_in_rules"))
  g_Book : mg ("Book" : Str) = some (.ref (He.ga K "Book"))
  q_Book : mg (sn [66, 111, 111, 107]) = some (.ref (He.ga K "Book"))
  cl_Book : Cls K (He.ga K "Book")
  na_Book_all_told : NoAttr K (He.ga K "Book") "all_told"
  c_MOST_WIDTH : ∃ t, mg ("MOST_WIDTH" : Str) = some (.int 16 t)
  c_LEAST_WIDTH : ∃ t, mg ("LEAST_WIDTH" : Str) = some (.int 4 t)
  c_MOST_EDITION : ∃ t, mg ("MOST_EDITION" : Str) = some (.int 250 t)
  u_Book___init__ : ∃ fd, L2.Fun K "__init__" "Book.__init__" s_Book___init__ (He.ma K (He.ga K "Book") "__init__") fd ∧ (fun _ => True) fd.code
  u_Book_edition : ∃ fd, L2.Fun K "edition" "Book.edition" s_Book_edition (prG K "Book" "edition") fd ∧ (fun _ => True) fd.code
  u_Book_width : ∃ fd, L2.Fun K "width" "Book.width" s_Book_width (prG K "Book" "width") fd ∧ (fun _ => True) fd.code
  u_Book_letters : ∃ fd, L2.Fun K "letters" "Book.letters" s_Book_letters (prG K "Book" "letters") fd ∧ (fun _ => True) fd.code
  u_Book_rules : ∃ fd, L2.Fun K "rules" "Book.rules" s_Book_rules (prG K "Book" "rules") fd ∧ (fun _ => True) fd.code
  u_Book_parts : ∃ fd, L2.Fun K "parts" "Book.parts" s_Book_parts (prG K "Book" "parts") fd ∧ (fun _ => True) fd.code
  p_Book_parts : PropOf K (He.ga K "Book") "parts" (He.ma K (He.ga K "Book") "parts") (prG K "Book" "parts")
  kb_Book : ∀ t ∈ ([("NoneType", false), ("bool", false), ("int", false), ("str", false), ("tuple", false), ("list", false)] : List (String × Bool)), PySem.W.kitOne K (.type t.1) (.ref (He.ga K "Book")) = some t.2
  in_Book : InsF K (He.ga K "Book")
  kc_Book_Book : PySem.W.kitOne K (.ref (He.ga K "Book")) (.ref (He.ga K "Book")) = some true
  u_Book___eq__ : ∃ fd, L2.Fun K "__eq__" "Book.__eq__" s_Book___eq__ (He.ma K (He.ga K "Book") "__eq__") fd ∧ (fun _ => True) fd.code
  u__law_bowl : ∃ fd, L2.Fun K "_law_bowl" "_law_bowl" s__law_bowl (He.ga K "_law_bowl") fd ∧ (fun _ => True) fd.code
  g__law_bowl : mg ("_law_bowl" : Str) = some (.ref (He.ga K "_law_bowl"))
  u__law_draw : ∃ fd, L2.Fun K "_law_draw" "_law_draw" s__law_draw (He.ga K "_law_draw") fd ∧ (fun _ => True) fd.code
  g__law_draw : mg ("_law_draw" : Str) = some (.ref (He.ga K "_law_draw"))
  u__law_of : ∃ fd, L2.Fun K "_law_of" "_law_of" s__law_of (He.ga K "_law_of") fd ∧ (fun _ => True) fd.code
  g__law_of : mg ("_law_of" : Str) = some (.ref (He.ga K "_law_of"))
  u__law_same : ∃ fd, L2.Fun K "_law_same" "_law_same" s__law_same (He.ga K "_law_same") fd ∧ (fun _ => True) fd.code
  g__law_same : mg ("_law_same" : Str) = some (.ref (He.ga K "_law_same"))
  u__law_cells : ∃ fd, L2.Fun K "_law_cells" "_law_cells" s__law_cells (He.ga K "_law_cells") fd ∧ (fun _ => True) fd.code
  g__law_cells : mg ("_law_cells" : Str) = some (.ref (He.ga K "_law_cells"))
  u__law_print : ∃ fd, L2.Fun K "_law_print" "_law_print" s__law_print (He.ga K "_law_print") fd ∧ (fun _ => True) fd.code
  g__law_print : mg ("_law_print" : Str) = some (.ref (He.ga K "_law_print"))
  u__law_letters : ∃ fd, L2.Fun K "_law_letters" "_law_letters" s__law_letters (He.ga K "_law_letters") fd ∧ (fun _ => True) fd.code
  g__law_letters : mg ("_law_letters" : Str) = some (.ref (He.ga K "_law_letters"))
  u__law_book : ∃ fd, L2.Fun K "_law_book" "_law_book" s__law_book (He.ga K "_law_book") fd ∧ (fun _ => True) fd.code
  g__law_book : mg ("_law_book" : Str) = some (.ref (He.ga K "_law_book"))
  mk_Book : Mk K (He.ga K "Book") (He.ma K (He.ga K "Book") "__init__")
  u__law_made : ∃ fd, L2.Fun K "_law_made" "_law_made" s__law_made (He.ga K "_law_made") fd ∧ (fun _ => True) fd.code
  g__law_made : mg ("_law_made" : Str) = some (.ref (He.ga K "_law_made"))
  m_Book___eq__ : Meth K (He.ga K "Book") "__eq__" (He.ma K (He.ga K "Book") "__eq__")
  nb_Book : ∀ t ∈ (["NoneType", "bool", "int", "str", "tuple", "list"] : List String), PySem.W.notFirst K (He.ga K "Book") (.type t) = true
  nf_Book_Book : PySem.W.notFirst K (He.ga K "Book") (.ref (He.ga K "Book")) = true
  ne_Book : neB K "Book" = true
  p_Book_rules : PropOf K (He.ga K "Book") "rules" (He.ma K (He.ga K "Book") "rules") (prG K "Book" "rules")
  p_Book_letters : PropOf K (He.ga K "Book") "letters" (He.ma K (He.ga K "Book") "letters") (prG K "Book" "letters")
  p_Book_width : PropOf K (He.ga K "Book") "width" (He.ma K (He.ga K "Book") "width") (prG K "Book" "width")
  p_Book_edition : PropOf K (He.ga K "Book") "edition" (He.ma K (He.ga K "Book") "edition") (prG K "Book" "edition")
  u__law_right : ∃ fd, L2.Fun K "_law_right" "_law_right" s__law_right (He.ga K "_law_right") fd ∧ (fun _ => True) fd.code
  g__law_right : mg ("_law_right" : Str) = some (.ref (He.ga K "_law_right"))
  u_law : ∃ fd, L2.Fun K "law" "law" s_law (He.ga K "law") fd ∧ (fun _ => True) fd.code
  g_law : mg ("law" : Str) = some (.ref (He.ga K "law"))
  n_isinstance : mg ("isinstance" : Str) = none
  n_bool : mg ("bool" : Str) = none
  n_int : mg ("int" : Str) = none
  n_str : mg ("str" : Str) = none
  n_len : mg ("len" : Str) = none
  n_tuple : mg ("tuple" : Str) = none
  n_enumerate : mg ("enumerate" : Str) = none
  n_all : mg ("all" : Str) = none
  n_list : mg ("list" : Str) = none
  n_abs : mg ("abs" : Str) = none
  n_divmod : mg ("divmod" : Str) = none
  n_range : mg ("range" : Str) = none
  n_sorted : mg ("sorted" : Str) = none
  n_min : mg ("min" : Str) = none
  n_max : mg ("max" : Str) = none
theorem facts_of {K : Frg} {mg : Str → Option Value} {base h h' : Heap} (X : K.In h') (G : h'.Ns mainGlobals mg) (c : SaysP ds tf ex h K) (tb : ∀ p ∈ tf, TabB base mg (cTa K (p.1 K)).1 (cTa K (p.1 K)).2) : Facts K mg base where
  u_is_whole := (let ⟨fd, F, e⟩ := c.def_ 0 rfl; ⟨fd, F, trivial⟩)
  g_is_whole := He.glo_ok X G (exAt c.more 0)
  u_is_between := (let ⟨fd, F, e⟩ := c.def_ 1 rfl; ⟨fd, F, trivial⟩)
  g_is_between := He.glo_ok X G (exAt c.more 1)
  u_is_up_to := (let ⟨fd, F, e⟩ := c.def_ 2 rfl; ⟨fd, F, trivial⟩)
  g_is_up_to := He.glo_ok X G (exAt c.more 2)
  u_is_one_of := (let ⟨fd, F, e⟩ := c.def_ 3 rfl; ⟨fd, F, trivial⟩)
  g_is_one_of := He.glo_ok X G (exAt c.more 3)
  u_is_tuple_of := (let ⟨fd, F, e⟩ := c.def_ 4 rfl; ⟨fd, F, trivial⟩)
  g_is_tuple_of := He.glo_ok X G (exAt c.more 4)
  u_wrong_in := (let ⟨fd, F, e⟩ := c.def_ 5 rfl; ⟨fd, F, trivial⟩)
  g_wrong_in := He.glo_ok X G (exAt c.more 5)
  u_are_all := (let ⟨fd, F, e⟩ := c.def_ 6 rfl; ⟨fd, F, e ▸ codeR_of c tb 0 rfl⟩)
  g_are_all := He.glo_ok X G (exAt c.more 6)
  u_are_below := (let ⟨fd, F, e⟩ := c.def_ 7 rfl; ⟨fd, F, trivial⟩)
  g_are_below := He.glo_ok X G (exAt c.more 7)
  c_LETTERS := He.str_ok X G (exAt c.more 8)
  c_MOST_LETTERS := He.int_ok X G (exAt c.more 9)
  u_are_letters := (let ⟨fd, F, e⟩ := c.def_ 8 rfl; ⟨fd, F, trivial⟩)
  g_are_letters := He.glo_ok X G (exAt c.more 10)
  c_MOST_PRINT := He.int_ok X G (exAt c.more 11)
  u_is_print := (let ⟨fd, F, e⟩ := c.def_ 9 rfl; ⟨fd, F, trivial⟩)
  g_is_print := He.glo_ok X G (exAt c.more 12)
  c_JOINT := He.int_ok X G (exAt c.more 13)
  c_BLANK := He.int_ok X G (exAt c.more 14)
  u_is_rule_cell := (let ⟨fd, F, e⟩ := c.def_ 10 rfl; ⟨fd, F, trivial⟩)
  g_is_rule_cell := He.glo_ok X G (exAt c.more 15)
  c_MOST_RULE_CELLS := He.int_ok X G (exAt c.more 16)
  c_WHERES := ⟨_, He.glo_ok X G (exAt c.more 17), fun H μ => ⟨_, _, rfl, He.tupB_ok (exAt c.more 18) H, ⟨_, _, rfl, rfl, ⟨_, _, rfl, rfl, ⟨_, _, rfl, rfl, ⟨_, _, rfl, rfl, ⟨_, _, rfl, rfl, rfl⟩⟩⟩⟩⟩⟩⟩
  c_TRIPLE := He.int_ok X G (exAt c.more 19)
  u_is_rule := (let ⟨fd, F, e⟩ := c.def_ 11 rfl; ⟨fd, F, trivial⟩)
  g_is_rule := He.glo_ok X G (exAt c.more 20)
  u_is_behind := (let ⟨fd, F, e⟩ := c.def_ 12 rfl; ⟨fd, F, trivial⟩)
  g_is_behind := He.glo_ok X G (exAt c.more 21)
  c_ANY := He.str_ok X G (exAt c.more 22)
  c_MOST_RULES := He.int_ok X G (exAt c.more 23)
  u_wrong_in_rules := (let ⟨fd, F, e⟩ := c.def_ 13 rfl; ⟨fd, F, e ▸ codeR_of c tb 1 rfl⟩)
  g_wrong_in_rules := He.glo_ok X G (exAt c.more 24)
  g_Book := He.glo_ok X G (exAt c.more 25)
  q_Book := (show mg (sn [66, 111, 111, 107]) = _ from (show (sn [66, 111, 111, 107] : Str) = "Book" by decide +kernel) ▸ He.glo_ok X G (exAt c.more 25))
  cl_Book := He.cls_ok (exAt c.more 26)
  na_Book_all_told := He.noat_ok (exAt c.more 27)
  c_MOST_WIDTH := He.int_ok X G (exAt c.more 28)
  c_LEAST_WIDTH := He.int_ok X G (exAt c.more 29)
  c_MOST_EDITION := He.int_ok X G (exAt c.more 30)
  u_Book___init__ := (let ⟨fd, F, e⟩ := c.def_ 14 rfl; ⟨fd, F, trivial⟩)
  u_Book_edition := (let ⟨fd, F, e⟩ := c.def_ 15 rfl; ⟨fd, F, trivial⟩)
  u_Book_width := (let ⟨fd, F, e⟩ := c.def_ 16 rfl; ⟨fd, F, trivial⟩)
  u_Book_letters := (let ⟨fd, F, e⟩ := c.def_ 17 rfl; ⟨fd, F, trivial⟩)
  u_Book_rules := (let ⟨fd, F, e⟩ := c.def_ 18 rfl; ⟨fd, F, trivial⟩)
  u_Book_parts := (let ⟨fd, F, e⟩ := c.def_ 19 rfl; ⟨fd, F, trivial⟩)
  p_Book_parts := pr_ok (exAt c.more 31)
  kb_Book := kit1_ok (exAt c.more 32)
  in_Book := ins_ok (exAt c.more 33)
  kc_Book_Book := kit2_ok (exAt c.more 34)
  u_Book___eq__ := (let ⟨fd, F, e⟩ := c.def_ 20 rfl; ⟨fd, F, trivial⟩)
  u__law_bowl := (let ⟨fd, F, e⟩ := c.def_ 21 rfl; ⟨fd, F, trivial⟩)
  g__law_bowl := He.glo_ok X G (exAt c.more 35)
  u__law_draw := (let ⟨fd, F, e⟩ := c.def_ 22 rfl; ⟨fd, F, trivial⟩)
  g__law_draw := He.glo_ok X G (exAt c.more 36)
  u__law_of := (let ⟨fd, F, e⟩ := c.def_ 23 rfl; ⟨fd, F, trivial⟩)
  g__law_of := He.glo_ok X G (exAt c.more 37)
  u__law_same := (let ⟨fd, F, e⟩ := c.def_ 24 rfl; ⟨fd, F, trivial⟩)
  g__law_same := He.glo_ok X G (exAt c.more 38)
  u__law_cells := (let ⟨fd, F, e⟩ := c.def_ 25 rfl; ⟨fd, F, trivial⟩)
  g__law_cells := He.glo_ok X G (exAt c.more 39)
  u__law_print := (let ⟨fd, F, e⟩ := c.def_ 26 rfl; ⟨fd, F, trivial⟩)
  g__law_print := He.glo_ok X G (exAt c.more 40)
  u__law_letters := (let ⟨fd, F, e⟩ := c.def_ 27 rfl; ⟨fd, F, trivial⟩)
  g__law_letters := He.glo_ok X G (exAt c.more 41)
  u__law_book := (let ⟨fd, F, e⟩ := c.def_ 28 rfl; ⟨fd, F, trivial⟩)
  g__law_book := He.glo_ok X G (exAt c.more 42)
  mk_Book := He.mkr_ok (exAt c.more 43)
  u__law_made := (let ⟨fd, F, e⟩ := c.def_ 29 rfl; ⟨fd, F, trivial⟩)
  g__law_made := He.glo_ok X G (exAt c.more 44)
  m_Book___eq__ := He.meth_ok (exAt c.more 45)
  nb_Book := nf1_ok (exAt c.more 46)
  nf_Book_Book := nf2_ok (exAt c.more 47)
  ne_Book := exAt c.more 48
  p_Book_rules := pr_ok (exAt c.more 49)
  p_Book_letters := pr_ok (exAt c.more 50)
  p_Book_width := pr_ok (exAt c.more 51)
  p_Book_edition := pr_ok (exAt c.more 52)
  u__law_right := (let ⟨fd, F, e⟩ := c.def_ 30 rfl; ⟨fd, F, trivial⟩)
  g__law_right := He.glo_ok X G (exAt c.more 53)
  u_law := (let ⟨fd, F, e⟩ := c.def_ 31 rfl; ⟨fd, F, trivial⟩)
  g_law := He.glo_ok X G (exAt c.more 54)
  n_isinstance := He.free_ok X G (exAt c.more 55)
  n_bool := He.free_ok X G (exAt c.more 56)
  n_int := He.free_ok X G (exAt c.more 57)
  n_str := He.free_ok X G (exAt c.more 58)
  n_len := He.free_ok X G (exAt c.more 59)
  n_tuple := He.free_ok X G (exAt c.more 60)
  n_enumerate := He.free_ok X G (exAt c.more 61)
  n_all := He.free_ok X G (exAt c.more 62)
  n_list := He.free_ok X G (exAt c.more 63)
  n_abs := He.free_ok X G (exAt c.more 64)
  n_divmod := He.free_ok X G (exAt c.more 65)
  n_range := He.free_ok X G (exAt c.more 66)
  n_sorted := He.free_ok X G (exAt c.more 67)
  n_min := He.free_ok X G (exAt c.more 68)
  n_max := He.free_ok X G (exAt c.more 69)
abbrev PR : Program := PySem.Challenge.pw_touchpress_k01_whole_books
theorem d_is_whole {w : World} {K : Frg} {mg : Str → Option Value} {base : Heap} (Z : Facts K mg base)  : DefOk PR w K mg base (TBs K) (0 + 1) 0 "is_whole" ["value"] f_is_whole :=
  defOk_of (R := (fun _ => True)) Z.g_is_whole Z.u_is_whole sc_is_whole (fun _ _ _ _ _ _ us hl => match us, hl with | [_], _ => rfl) fun cdv hR A outer s H E hr =>
    (qss_one (qs_ret (qe_and (qe_isTy rfl Z.n_isinstance bt_isinstance rfl Z.n_int bt_int (qv 0)) (qe_one (qe_not (qe_isTy rfl Z.n_isinstance bt_isinstance rfl Z.n_bool bt_bool (qv 0)))))))
theorem d_is_between {w : World} {K : Frg} {mg : Str → Option Value} {base : Heap} (Z : Facts K mg base)  : DefOk PR w K mg base (TBs K) (1 + 1) 0 "is_between" ["value", "least", "most"] f_is_between :=
  defOk_of (R := (fun _ => True)) Z.g_is_between Z.u_is_between sc_is_between (fun _ _ _ _ _ _ us hl => match us, hl with | [_, _, _], _ => rfl) fun cdv hR A outer s H E hr =>
    (qss_one (qs_ret (qe_and (qe_cal (d_is_whole Z) (hr.mono (by omega)) takes_d (qar_cons (qv 0) qar_nil)) (qe_one (qe_chain ops_leI ops_leI (qv 1) (qv 0) (qv 2))))))
theorem d_is_up_to {w : World} {K : Frg} {mg : Str → Option Value} {base : Heap} (Z : Facts K mg base)  : DefOk PR w K mg base (TBs K) (2 + 1) 0 "is_up_to" ["value", "most"] f_is_up_to :=
  defOk_of (R := (fun _ => True)) Z.g_is_up_to Z.u_is_up_to sc_is_up_to (fun _ _ _ _ _ _ us hl => match us, hl with | [_, _], _ => rfl) fun cdv hR A outer s H E hr =>
    (qss_one (qs_ret (qe_cal (d_is_between Z) (hr.mono (by omega)) takes_d (qar_cons (qv 0) (qar_cons qe_int (qar_cons (qv 1) qar_nil))))))
theorem d_is_one_of {w : World} {K : Frg} {mg : Str → Option Value} {base : Heap} (Z : Facts K mg base)  : DefOk PR w K mg base (TBs K) (0 + 1) 0 "is_one_of" ["value", "words"] f_is_one_of :=
  defOk_of (R := (fun _ => True)) Z.g_is_one_of Z.u_is_one_of sc_is_one_of (fun _ _ _ _ _ _ us hl => match us, hl with | [_, _], _ => rfl) fun cdv hR A outer s H E hr =>
    (qss_one (qs_ret (qe_and (qe_isTy rfl Z.n_isinstance bt_isinstance rfl Z.n_str bt_str (qv 0)) (qe_one (qe_cmp (ops_in hr.units) (qv 0) (qv 1) rfl)))))
theorem d_is_tuple_of {w : World} {K : Frg} {mg : Str → Option Value} {base : Heap} (Z : Facts K mg base)  : DefOk PR w K mg base (TBs K) (0 + 1) 0 "is_tuple_of" ["value", "many"] f_is_tuple_of :=
  defOk_of (R := (fun _ => True)) Z.g_is_tuple_of Z.u_is_tuple_of sc_is_tuple_of (fun _ _ _ _ _ _ us hl => match us, hl with | [_, _], _ => rfl) fun cdv hR A outer s H E hr =>
    (qss_one (qs_ret (qe_and (qe_isTy rfl Z.n_isinstance bt_isinstance rfl Z.n_tuple bt_tuple (qv 0)) (qe_one (qe_cmp (ops_eq hr.units) (qe_len Z.n_len (qv 0)) (qv 1) rfl)))))
theorem d_wrong_in {w : World} {K : Frg} {mg : Str → Option Value} {base : Heap} (Z : Facts K mg base) {kc : Nat} : DefOk PR w K mg base (TBs K) ((kc + 0) + 1) kc "wrong_in" ["value", "least", "most", "is_right"] f_wrong_in :=
  defOk_of (R := (fun _ => True)) Z.g_wrong_in Z.u_wrong_in sc_wrong_in (fun _ _ _ _ _ _ us hl => match us, hl with | [_, _, _, _], _ => rfl) fun cdv hR A outer s H E hr =>
    (qss_cons (qs_if (qb_bool (qw_or (qb_not (qb_val (qe_isTy rfl Z.n_isinstance bt_isinstance rfl Z.n_tuple bt_tuple (qv 0)))) (qw_or1 (qb_cmp (ops_lt hr.units) (qe_len Z.n_len (qv 0)) (qv 1) rfl)))) (qss_one (qs_ret (qe_lst (qa_cons qe_non qa_nil)))) qss_nil) (qss_cons (qs_for owns_d rfl (qi_enum rfl Z.n_enumerate (qa_cons (qv 0) qa_nil)) (qg_tup rfl (qgs_cons (qg_name (i := 4) sc_wrong_in.nd rfl (by first | exact .inl rfl | exact .inr rfl)) (qgs_cons (qg_name (i := 5) sc_wrong_in.nd rfl (by first | exact .inl rfl | exact .inr rfl)) qgs_nil))) (qss_one (qs_if (qb_bool (qw_or (qb_cmp (ops_eq hr.units) (qv 4) (qv 2) rfl) (qw_or1 (qb_not (qb_val (qe_slot (i := 3) (hr.mono (by omega)) rfl (by first | exact Or.inl rfl | exact Or.inr (Or.inl rfl) | exact Or.inr (Or.inr rfl)) takes_d (qar_cons (qe_slice (qv 0) qo_none (qo_some (qv 4))) (qar_cons (qv 5) qar_nil)))))))) (qss_one (qs_ret (qe_lst (qa_cons (qv 4) qa_nil)))) qss_nil))) (qss_one (qs_ret (qe_lst qa_nil)))))
theorem d_are_all {w : World} {K : Frg} {mg : Str → Option Value} {base : Heap} (Z : Facts K mg base) {kc : Nat} : DefOk PR w K mg base (TBs K) ((kc + 2) + 1) kc "are_all" ["value", "least", "most", "is_right"] f_are_all :=
  defOk_of (R := (CodeR base mg (TBs K) ((("are_all" : Str) ++ ".<locals>.") ++ "<lambda>"))) Z.g_are_all Z.u_are_all sc_are_all (fun _ _ _ _ _ _ us hl => match us, hl with | [_, _, _, _], _ => rfl) fun cdv hR A outer s H E hr =>
    (qss_one (qs_ret (qe_cmp (ops_eq hr.units) (qe_cal (d_wrong_in Z (kc := (kc + 1))) (hr.mono (by omega)) takes_d (qar_cons (qv 0) (qar_cons (qv 1) (qar_cons (qv 2) (by obtain ⟨cc, Pt, rfl, tb, hm, hu⟩ := hR; exact qar_lam (N := ["ahead", "each", "is_right"]) (ps := ["ahead", "each"]) (fr := ["is_right"]) (js := [3]) (kb := (kc + 0)) (lscope_by rfl) tb rfl hm hu rfl (fun _ _ _ _ _ us hl => match us, hl with | [_, _], _ => rfl) rfl (by omega) (fun cl f c' A outer s H E hr2 => (qe_slot (i := 2) (hr2.mono (by omega)) rfl (by first | exact Or.inl rfl | exact Or.inr (Or.inl rfl) | exact Or.inr (Or.inr rfl)) takes_l (qar_cons (qv 1) qar_nil)))))))) (qe_lst qa_nil) rfl)))
theorem d_are_below {w : World} {K : Frg} {mg : Str → Option Value} {base : Heap} (Z : Facts K mg base)  : DefOk PR w K mg base (TBs K) (0 + 1) 0 "are_below" ["ahead", "value"] f_are_below :=
  defOk_of (R := (fun _ => True)) Z.g_are_below Z.u_are_below sc_are_below (fun _ _ _ _ _ _ us hl => match us, hl with | [_, _], _ => rfl) fun cdv hR A outer s H E hr =>
    (qss_one (qs_ret (qe_or (qe_cmp (ops_eq hr.units) (qv 0) (qe_tup qa_nil) rfl) (qe_one (qe_cmp (ops_lt hr.units) (qe_ix ixs_seq (qv 0) (qe_neg qe_int) (fun _ _ => rfl)) (qv 1) rfl)))))
theorem d_are_letters {w : World} {K : Frg} {mg : Str → Option Value} {base : Heap} (Z : Facts K mg base)  : DefOk PR w K mg base (TBs K) (1 + 1) 0 "are_letters" ["value"] f_are_letters :=
  defOk_of (R := (fun _ => True)) Z.g_are_letters Z.u_are_letters sc_are_letters (fun _ _ _ _ _ _ us hl => match us, hl with | [_], _ => rfl) fun cdv hR A outer s H E hr =>
    (qss_cons (qs_if (qb_bool (qw_or (qb_not (qb_val (qe_isTy rfl Z.n_isinstance bt_isinstance rfl Z.n_str bt_str (qv 0)))) (qw_or1 (qb_not (qb_chain ops_leI ops_leI qe_int (qe_len Z.n_len (qv 0)) (qe_gi (i := 4) Z.c_MOST_LETTERS)))))) (qss_one (qs_ret qe_bl)) qss_nil) (qss_one (qs_ret (qe_all rfl Z.n_all (qe_lc (own := [("at", 1), ("sign", 2)]) rfl sc_are_letters.nd (qi_enum rfl Z.n_enumerate (qa_cons (qv 0) qa_nil)) (blkOk_by rfl) (fun s H C cl fp => (qx_tup rfl (qxs_cons (qx_name (i := 1) sc_are_letters.nd rfl (by first | exact .inl rfl | exact .inr rfl)) (qxs_cons (qx_name (i := 2) sc_are_letters.nd rfl (by first | exact .inl rfl | exact .inr rfl)) qxs_nil)))) (fun s H C cl fp => qts_nil) (fun s H C cl fp => (qe_and (qe_cmp (ops_in hr.units) (qv 2) (qe_gs (l := [97, 98, 99, 100, 101, 102, 103, 104, 105, 106, 107, 108, 109, 110, 111, 112, 113, 114, 115, 116, 117, 118, 119, 120, 121, 122]) Z.c_LETTERS) rfl) (qe_one (qe_cal (d_are_below Z) (hr.mono (by omega)) takes_n (qar_cons (qe_tuplec rfl Z.n_tuple (qe_slice (qv 0) qo_none (qo_some (qv 1)))) (qar_cons (qv 2) qar_nil)))))))))))
theorem d_is_print {w : World} {K : Frg} {mg : Str → Option Value} {base : Heap} (Z : Facts K mg base)  : DefOk PR w K mg base (TBs K) (0 + 1) 0 "is_print" ["letters", "value"] f_is_print :=
  defOk_of (R := (fun _ => True)) Z.g_is_print Z.u_is_print sc_is_print (fun _ _ _ _ _ _ us hl => match us, hl with | [_, _], _ => rfl) fun cdv hR A outer s H E hr =>
    (qss_one (qs_ret (qe_and (qe_isTy rfl Z.n_isinstance bt_isinstance rfl Z.n_str bt_str (qv 1)) (qe_and (qe_chain ops_leI ops_leI qe_int (qe_len Z.n_len (qv 1)) (qe_gi (i := 3) Z.c_MOST_PRINT)) (qe_one (qe_all rfl Z.n_all (qe_lc (own := [("sign", 2)]) rfl sc_is_print.nd (qi_any (qv 1)) (blkOk_by rfl) (fun s H C cl fp => (qx_name (i := 2) sc_is_print.nd rfl (by first | exact .inl rfl | exact .inr rfl))) (fun s H C cl fp => qts_nil) (fun s H C cl fp => (qe_cmp (ops_in hr.units) (qv 2) (qv 0) rfl)))))))))
theorem d_is_rule_cell {w : World} {K : Frg} {mg : Str → Option Value} {base : Heap} (Z : Facts K mg base)  : DefOk PR w K mg base (TBs K) (2 + 1) 0 "is_rule_cell" ["value"] f_is_rule_cell :=
  defOk_of (R := (fun _ => True)) Z.g_is_rule_cell Z.u_is_rule_cell sc_is_rule_cell (fun _ _ _ _ _ _ us hl => match us, hl with | [_], _ => rfl) fun cdv hR A outer s H E hr =>
    (qss_one (qs_ret (qe_cal (d_is_between Z) (hr.mono (by omega)) takes_d (qar_cons (qv 0) (qar_cons (qe_op ops_add (qe_gi (i := 0) Z.c_BLANK) qe_int) (qar_cons (qe_op ops_sub (qe_gi (i := 63) Z.c_JOINT) qe_int) qar_nil))))))
theorem d_is_rule {w : World} {K : Frg} {mg : Str → Option Value} {base : Heap} (Z : Facts K mg base)  : DefOk PR w K mg base (TBs K) (6 + 1) 0 "is_rule" ["letters", "value"] f_is_rule :=
  defOk_of (R := (fun _ => True)) Z.g_is_rule Z.u_is_rule sc_is_rule (fun _ _ _ _ _ _ us hl => match us, hl with | [_, _], _ => rfl) fun cdv hR A outer s H E hr =>
    (qss_cons (qs_if (qb_bool (qw_or (qb_not (qb_val (qe_cal (d_is_tuple_of Z) (hr.mono (by omega)) takes_d (qar_cons (qv 1) (qar_cons (qe_gi (i := 3) Z.c_TRIPLE) qar_nil))))) (qw_or (qb_not (qb_val (qe_cal (d_is_print Z) (hr.mono (by omega)) takes_d (qar_cons (qv 0) (qar_cons (qe_ix ixs_seq (qv 1) qe_int (fun _ _ => rfl)) qar_nil))))) (qw_or1 (qb_not (qb_val (qe_cal (d_is_one_of Z) (hr.mono (by omega)) takes_d (qar_cons (qe_ix ixs_seq (qv 1) qe_int (fun _ _ => rfl)) (qar_cons (qe_listc rfl Z.n_list (qe_gt Z.c_WHERES)) qar_nil))))))))) (qss_one (qs_ret qe_bl)) qss_nil) (qss_one (qs_ret (qe_cal (d_are_all Z (kc := 3)) (hr.mono (by omega)) takes_d (qar_cons (qe_ix ixs_seq (qv 1) qe_int (fun _ _ => rfl)) (qar_cons qe_int (qar_cons (qe_gi (i := 3) Z.c_MOST_RULE_CELLS) (qar_def (d_is_rule_cell Z) (by omega) qar_nil))))))))
theorem d_is_behind {w : World} {K : Frg} {mg : Str → Option Value} {base : Heap} (Z : Facts K mg base)  : DefOk PR w K mg base (TBs K) (1 + 1) 0 "is_behind" ["ahead", "rule"] f_is_behind :=
  defOk_of (R := (fun _ => True)) Z.g_is_behind Z.u_is_behind sc_is_behind (fun _ _ _ _ _ _ us hl => match us, hl with | [_, _], _ => rfl) fun cdv hR A outer s H E hr =>
    (qss_one (qs_ret (qe_and (qe_cal (d_are_below Z) (hr.mono (by omega)) takes_d (qar_cons (qv 0) (qar_cons (qv 1) qar_nil))) (qe_one (qe_or (qe_cmp (ops_eq hr.units) (qv 0) (qe_tup qa_nil) rfl) (qe_one (qe_cmp (ops_ne hr.units) (qe_slice (qe_ix ixs_seq (qv 0) (qe_neg qe_int) (fun _ _ => rfl)) qo_none (qo_some qe_int)) (qe_slice (qv 1) qo_none (qo_some qe_int)) rfl)))))))
theorem d_wrong_in_rules {w : World} {K : Frg} {mg : Str → Option Value} {base : Heap} (Z : Facts K mg base)  : DefOk PR w K mg base (TBs K) (9 + 1) 0 "wrong_in_rules" ["letters", "value"] f_wrong_in_rules :=
  defOk_of (R := (CodeR base mg (TBs K) ((("wrong_in_rules" : Str) ++ ".<locals>.") ++ "<lambda>"))) Z.g_wrong_in_rules Z.u_wrong_in_rules sc_wrong_in_rules (fun _ _ _ _ _ _ us hl => match us, hl with | [_, _], _ => rfl) fun cdv hR A outer s H E hr =>
    (qss_cons (qs_set (i := 2) sc_wrong_in_rules.nd rfl (by first | exact .inl rfl | exact .inr rfl) (qe_cal (d_wrong_in Z (kc := 8)) (hr.mono (by omega)) takes_d (qar_cons (qv 1) (qar_cons qe_int (qar_cons (qe_gi (i := 16) Z.c_MOST_RULES) (by obtain ⟨cc, Pt, rfl, tb, hm, hu⟩ := hR; exact qar_lam (N := ["ahead", "each", "letters"]) (ps := ["ahead", "each"]) (fr := ["letters"]) (js := [0]) (kb := 7) (lscope_by rfl) tb rfl hm hu rfl (fun _ _ _ _ _ us hl => match us, hl with | [_, _], _ => rfl) rfl (by omega) (fun cl f c' A outer s H E hr2 => (qe_and (qe_cal (d_is_rule Z) (hr2.mono (by omega)) takes_l (qar_cons (qv 2) (qar_cons (qv 1) qar_nil))) (qe_one (qe_cal (d_is_behind Z) (hr2.mono (by omega)) takes_l (qar_cons (qv 0) (qar_cons (qv 1) qar_nil)))))))))))) (qss_cons (qs_if (qb_cmp (ops_ne hr.units) (qv 2) (qe_lst qa_nil) rfl) (qss_one (qs_ret (qv 2))) qss_nil) (qss_cons (qs_trim (by first | exact (qs_set (i := 3) sc_wrong_in_rules.nd rfl (by first | exact .inl rfl | exact .inr rfl) (qe_lc (own := [("rule", 4)]) rfl sc_wrong_in_rules.nd (qi_any (qv 1)) (blkOk_by rfl) (fun s H C cl fp => (qx_name (i := 4) sc_wrong_in_rules.nd rfl (by first | exact .inl rfl | exact .inr rfl))) (fun s H C cl fp => (qts_one (qb_cmp (ops_eq hr.units) (qe_ix ixs_seq (qv 4) qe_int (fun _ _ => rfl)) (qe_gs (l := [97, 110, 121]) Z.c_ANY) rfl))) (fun s H C cl fp => (qe_ix ixs_seq (qv 4) qe_int (fun _ _ => rfl))))) | exact (qs_setLc (i := 3) (own := [("rule", 4)]) rfl sc_wrong_in_rules.nd rfl rfl rfl (qi_any (qv 1)) (blkOk_by rfl) (fun s H C cl fp => (qx_name (i := 4) sc_wrong_in_rules.nd rfl (by first | exact .inl rfl | exact .inr rfl))) (fun s H C cl fp => (qts_one (qb_cmp (ops_eq hr.units) (qe_ix ixs_seq (qv 4) qe_int (fun _ _ => rfl)) (qe_gs (l := [97, 110, 121]) Z.c_ANY) rfl))) (fun s H C cl fp => (qe_ix ixs_seq (qv 4) qe_int (fun _ _ => rfl)))))) (qss_one (qs_ret (qe_if (qb_cmp (ops_ne hr.units) (qe_lc (own := [("sign", 5)]) rfl sc_wrong_in_rules.nd (qi_any (qv 0)) (blkOk_by rfl) (fun s H C cl fp => (qx_name (i := 5) sc_wrong_in_rules.nd rfl (by first | exact .inl rfl | exact .inr rfl))) (fun s H C cl fp => (qts_one (qb_cmp (ops_notIn hr.units) (qv 5) (qv 3) rfl))) (fun s H C cl fp => (qv 5))) (qe_lst qa_nil) rfl) (qe_lst (qa_cons qe_non qa_nil)) (qe_lst qa_nil)))))))
theorem d_Book___init__ {w : World} {K : Frg} {mg : Str → Option Value} {base : Heap} (Z : Facts K mg base) : MetOk PR w K mg base (TBs K) (10 + 1) 0 (He.ma K (He.ga K "Book") "__init__") ["self", "edition", "width", "letters", "rules"] f_Book___init__ :=
  metOk_of (R := (fun _ => True)) Z.u_Book___init__ sc_Book___init__ (fun _ _ _ _ _ _ us hl => match us, hl with | [_, _, _, _, _], _ => rfl) fun cdv hR A outer s H E hr =>
    (qss_cons (qs_if (qb_not (qb_val (qe_cal (d_is_up_to Z) (hr.mono (by omega)) takes_d (qar_cons (qv 1) (qar_cons (qe_gi (i := 250) Z.c_MOST_EDITION) qar_nil))))) (qss_one qs_never) qss_nil) (qss_cons (qs_if (qb_not (qb_val (qe_cal (d_is_between Z) (hr.mono (by omega)) takes_d (qar_cons (qv 2) (qar_cons (qe_gi (i := 4) Z.c_LEAST_WIDTH) (qar_cons (qe_gi (i := 16) Z.c_MOST_WIDTH) qar_nil)))))) (qss_one qs_never) qss_nil) (qss_cons (qs_if (qb_not (qb_val (qe_cal (d_are_letters Z) (hr.mono (by omega)) takes_d (qar_cons (qv 3) qar_nil)))) (qss_one qs_never) qss_nil) (qss_cons (qs_for owns_d rfl (qi_any (qe_cal (d_wrong_in_rules Z) (hr.mono (by omega)) takes_d (qar_cons (qv 3) (qar_cons (qv 4) qar_nil)))) (qg_name (i := 5) sc_Book___init__.nd rfl (by first | exact .inl rfl | exact .inr rfl)) (qss_one qs_never)) (qss_one (qs_fld (c := [66, 111, 111, 107]) (nm := [97, 108, 108, 95, 116, 111, 108, 100]) Z.q_Book Z.cl_Book Z.na_Book_all_told (by decide +kernel) (qv 0) (qe_tup (qa_cons (qv 1) (qa_cons (qv 2) (qa_cons (qv 3) (qa_cons (qv 4) qa_nil)))))))))))
theorem d_Book_edition {w : World} {K : Frg} {mg : Str → Option Value} {base : Heap} (Z : Facts K mg base) : MetOk PR w K mg base (TBs K) (1 + 1) 0 (prG K "Book" "edition") ["self"] f_Book_edition :=
  metOk_of (R := (fun _ => True)) Z.u_Book_edition sc_Book_edition (fun _ _ _ _ _ _ us hl => match us, hl with | [_], _ => rfl) fun cdv hR A outer s H E hr =>
    (qss_one (qs_ret (qe_ix ixs_seq (qe_attr (j := 0) (hr.mono (by omega)) (by decide +kernel) (allCons (accF Z.q_Book Z.cl_Book Z.na_Book_all_told) allNil) (qv 0)) qe_int (fun _ _ => rfl))))
theorem d_Book_width {w : World} {K : Frg} {mg : Str → Option Value} {base : Heap} (Z : Facts K mg base) : MetOk PR w K mg base (TBs K) (1 + 1) 0 (prG K "Book" "width") ["self"] f_Book_width :=
  metOk_of (R := (fun _ => True)) Z.u_Book_width sc_Book_width (fun _ _ _ _ _ _ us hl => match us, hl with | [_], _ => rfl) fun cdv hR A outer s H E hr =>
    (qss_one (qs_ret (qe_ix ixs_seq (qe_attr (j := 0) (hr.mono (by omega)) (by decide +kernel) (allCons (accF Z.q_Book Z.cl_Book Z.na_Book_all_told) allNil) (qv 0)) qe_int (fun _ _ => rfl))))
theorem d_Book_letters {w : World} {K : Frg} {mg : Str → Option Value} {base : Heap} (Z : Facts K mg base) : MetOk PR w K mg base (TBs K) (1 + 1) 0 (prG K "Book" "letters") ["self"] f_Book_letters :=
  metOk_of (R := (fun _ => True)) Z.u_Book_letters sc_Book_letters (fun _ _ _ _ _ _ us hl => match us, hl with | [_], _ => rfl) fun cdv hR A outer s H E hr =>
    (qss_one (qs_ret (qe_ix ixs_seq (qe_attr (j := 0) (hr.mono (by omega)) (by decide +kernel) (allCons (accF Z.q_Book Z.cl_Book Z.na_Book_all_told) allNil) (qv 0)) qe_int (fun _ _ => rfl))))
theorem d_Book_rules {w : World} {K : Frg} {mg : Str → Option Value} {base : Heap} (Z : Facts K mg base) : MetOk PR w K mg base (TBs K) (1 + 1) 0 (prG K "Book" "rules") ["self"] f_Book_rules :=
  metOk_of (R := (fun _ => True)) Z.u_Book_rules sc_Book_rules (fun _ _ _ _ _ _ us hl => match us, hl with | [_], _ => rfl) fun cdv hR A outer s H E hr =>
    (qss_one (qs_ret (qe_ix ixs_seq (qe_attr (j := 0) (hr.mono (by omega)) (by decide +kernel) (allCons (accF Z.q_Book Z.cl_Book Z.na_Book_all_told) allNil) (qv 0)) qe_int (fun _ _ => rfl))))
theorem d_Book_parts {w : World} {K : Frg} {mg : Str → Option Value} {base : Heap} (Z : Facts K mg base) : MetOk PR w K mg base (TBs K) (1 + 1) 0 (prG K "Book" "parts") ["self"] f_Book_parts :=
  metOk_of (R := (fun _ => True)) Z.u_Book_parts sc_Book_parts (fun _ _ _ _ _ _ us hl => match us, hl with | [_], _ => rfl) fun cdv hR A outer s H E hr =>
    (qss_one (qs_ret (qe_attr (j := 0) (hr.mono (by omega)) (by decide +kernel) (allCons (accF Z.q_Book Z.cl_Book Z.na_Book_all_told) allNil) (qv 0))))
theorem d_Book___eq__ {w : World} {K : Frg} {mg : Str → Option Value} {base : Heap} (Z : Facts K mg base) : MetOk PR w K mg base (TBs K) (3 + 1) 0 (He.ma K (He.ga K "Book") "__eq__") ["self", "other"] f_Book___eq__ :=
  metOk_of (R := (fun _ => True)) Z.u_Book___eq__ sc_Book___eq__ (fun _ _ _ _ _ _ us hl => match us, hl with | [_, _], _ => rfl) fun cdv hR A outer s H E hr =>
    (qss_one (qs_ret (qe_and (qe_isC (bs := [("NoneType", false), ("bool", false), ("int", false), ("str", false), ("tuple", false), ("list", false)]) (cs := [([66, 111, 111, 107], true)]) rfl Z.n_isinstance bt_isinstance rfl Z.g_Book Z.kb_Book (allCons ⟨_, Z.q_Book, Z.in_Book, Z.kc_Book_Book⟩ allNil) (qv 1)) (qe_one (qe_cmp (ops_eq hr.units) (qe_attr (j := 2) (hr.mono (by omega)) (by decide +kernel) (allCons (accP Z.q_Book Z.cl_Book Z.p_Book_parts (d_Book_parts Z)) allNil) (qv 0)) (qe_attr (j := 2) (hr.mono (by omega)) (by decide +kernel) (allCons (accP Z.q_Book Z.cl_Book Z.p_Book_parts (d_Book_parts Z)) allNil) (qv 1)) rfl)))))
theorem d__law_bowl {w : World} {K : Frg} {mg : Str → Option Value} {base : Heap} (Z : Facts K mg base)  : DefOk PR w K mg base (TBs K) (0 + 1) 0 "_law_bowl" ["script", "lap"] f__law_bowl :=
  defOk_of (R := (fun _ => True)) Z.g__law_bowl Z.u__law_bowl sc__law_bowl (fun _ _ _ _ _ _ us hl => match us, hl with | [_, _], _ => rfl) fun cdv hR A outer s H E hr =>
    (qss_cons (qs_set (i := 2) sc__law_bowl.nd rfl (by first | exact .inl rfl | exact .inr rfl) (qe_op ops_add qe_int (qe_op ops_mulI qe_int (qv 1)))) (qss_cons (qs_for owns_d rfl (qi_any (qe_slice (qv 0) qo_none (qo_some qe_int))) (qg_name (i := 3) sc__law_bowl.nd rfl (by first | exact .inl rfl | exact .inr rfl)) (qss_one (qs_set (i := 2) sc__law_bowl.nd rfl (by first | exact .inl rfl | exact .inr rfl) (qe_op ops_mod (qe_intc Z.n_int (qe_op ops_add (qe_op ops_add (qe_op ops_mulI (qv 2) qe_int) (qe_op ops_mulI (qe_op ops_mod (qe_intc Z.n_int (qv 3)) qe_int) qe_int)) qe_int)) qe_int)))) (qss_cons (qs_set (i := 4) sc__law_bowl.nd rfl (by first | exact .inl rfl | exact .inr rfl) (qe_if (qb_cmp (ops_lt hr.units) (qv 1) (qe_len Z.n_len (qv 0)) rfl) (qe_intc Z.n_int (qe_ix ixs_seq (qv 0) (qv 1) (fun _ _ => rfl))) qe_int)) (qss_cons (qs_set (i := 2) sc__law_bowl.nd rfl (by first | exact .inl rfl | exact .inr rfl) (qe_op ops_mod (qe_intc Z.n_int (qe_op ops_add (qe_op ops_add (qe_op ops_mulI (qv 2) qe_int) (qe_op ops_mulI (qe_op ops_mod (qv 4) qe_int) qe_int)) qe_int)) qe_int)) (qss_one (qs_ret (qe_lst (qa_cons (qe_if (qb_bool (qw_or (qb_cmp (ops_lt hr.units) (qv 4) qe_int rfl) (qw_or1 (qb_cmp ops_geI (qv 4) (qe_op ops_pow qe_int qe_int) rfl)))) (qe_abs Z.n_abs (qv 4)) qe_int) (qa_cons (qv 2) (qa_cons qe_int qa_nil))))))))))
theorem d__law_draw {w : World} {K : Frg} {mg : Str → Option Value} {base : Heap} (Z : Facts K mg base)  : DefOk PR w K mg base (TBs K) (0 + 1) 0 "_law_draw" ["bowl", "many"] f__law_draw :=
  defOk_of (R := (fun _ => True)) Z.g__law_draw Z.u__law_draw sc__law_draw (fun _ _ _ _ _ _ us hl => match us, hl with | [_, _], _ => rfl) fun cdv hR A outer s H E hr =>
    (qss_cons (qs_if (qb_cmp ops_gtI (qe_ix ixs_seq (qv 0) qe_int (fun _ _ => rfl)) qe_int rfl) (qss_cons (qs_asg (qe_divmod Z.n_divmod (qe_ix ixs_seq (qv 0) qe_int (fun _ _ => rfl)) (qv 1)) (qg_tup rfl (qgs_cons (qg_sub (qv 0) qe_int) (qgs_cons (qg_name (i := 2) sc__law_draw.nd rfl (by first | exact .inl rfl | exact .inr rfl)) qgs_nil)))) (qss_one (qs_ret (qv 2)))) qss_nil) (qss_cons (qs_asg (qe_op ops_add (qe_ix ixs_seq (qv 0) qe_int (fun _ _ => rfl)) qe_int) (qg_sub (qv 0) qe_int)) (qss_cons (qs_set (i := 3) sc__law_draw.nd rfl (by first | exact .inl rfl | exact .inr rfl) (qe_op ops_mod (qe_intc Z.n_int (qe_op ops_add (qe_op ops_mulI (qe_ix ixs_seq (qv 0) qe_int (fun _ _ => rfl)) qe_int) (qe_op ops_mulI qe_int (qe_ix ixs_seq (qv 0) qe_int (fun _ _ => rfl))))) qe_int)) (qss_cons (qs_asg (qe_op ops_mod (qe_intc Z.n_int (qe_op ops_add (qe_op ops_mulI (qv 3) (qe_op ops_add (qe_op ops_mod (qe_intc Z.n_int (qv 3)) qe_int) qe_int)) (qe_op ops_mulI qe_int (qe_ix ixs_seq (qv 0) qe_int (fun _ _ => rfl))))) qe_int) (qg_sub (qv 0) qe_int)) (qss_one (qs_ret (qe_op ops_mod (qe_intc Z.n_int (qe_op ops_fdiv (qe_ix ixs_seq (qv 0) qe_int (fun _ _ => rfl)) qe_int)) (qv 1))))))))
theorem d__law_of {w : World} {K : Frg} {mg : Str → Option Value} {base : Heap} (Z : Facts K mg base)  : DefOk PR w K mg base (TBs K) (1 + 1) 0 "_law_of" ["bowl", "some"] f__law_of :=
  defOk_of (R := (fun _ => True)) Z.g__law_of Z.u__law_of sc__law_of (fun _ _ _ _ _ _ us hl => match us, hl with | [_, _], _ => rfl) fun cdv hR A outer s H E hr =>
    (qss_one (qs_ret (qe_ix ixs_seq (qv 1) (qe_cal (d__law_draw Z) (hr.mono (by omega)) takes_d (qar_cons (qv 0) (qar_cons (qe_len Z.n_len (qv 1)) qar_nil))) (fun _ _ => rfl))))
theorem d__law_same {w : World} {K : Frg} {mg : Str → Option Value} {base : Heap} (Z : Facts K mg base) : ∀ n, DefOk PR w K mg base (TBs K) (0 + n) 0 "_law_same" ["told", "due"] (f__law_same n)
  | 0 => defOk_zero (R := (fun _ => True)) Z.g__law_same Z.u__law_same (fun _ _ _ _ _ _ us hl => match us, hl with | [_, _], _ => rfl)
  | n + 1 => by
    have ih := d__law_same (w := w) Z n
    refine defOk_of (R := (fun _ => True)) (k := 0 + n) Z.g__law_same Z.u__law_same sc__law_same (fun _ _ _ _ _ _ us hl => match us, hl with | [_, _], _ => rfl) fun cdv hR A outer s H E hr => ?_
    exact (qss_cons (qs_if (qb_val (qe_isTy rfl Z.n_isinstance bt_isinstance rfl Z.n_tuple bt_tuple (qv 1))) (qss_cons (qs_if (qb_bool (qw_or (qb_not (qb_val (qe_isTy rfl Z.n_isinstance bt_isinstance rfl Z.n_tuple bt_tuple (qv 0)))) (qw_or1 (qb_cmp (ops_ne hr.units) (qe_len Z.n_len (qv 0)) (qe_len Z.n_len (qv 1)) rfl)))) (qss_one (qs_ret qe_bl)) qss_nil) (qss_one (qs_ret (qe_all rfl Z.n_all (qe_lc (own := [("k", 2)]) rfl sc__law_same.nd (qi_range1 rfl Z.n_range (qa_cons (qe_len Z.n_len (qv 1)) qa_nil)) (blkOk_by rfl) (fun s H C cl fp => (qx_name (i := 2) sc__law_same.nd rfl (by first | exact .inl rfl | exact .inr rfl))) (fun s H C cl fp => qts_nil) (fun s H C cl fp => (qe_cal ih (hr.mono (by omega)) takes_n (qar_cons (qe_ix ixs_seq (qv 0) (qv 2) (fun _ _ => rfl)) (qar_cons (qe_ix ixs_seq (qv 1) (qv 2) (fun _ _ => rfl)) qar_nil))))))))) qss_nil) (qss_cons (qs_if (qb_cmp ops_isN (qv 1) qe_non rfl) (qss_one (qs_ret (qe_cmp ops_isN (qv 0) qe_non rfl))) qss_nil) (qss_cons (qs_if (qb_val (qe_isTy rfl Z.n_isinstance bt_isinstance rfl Z.n_bool bt_bool (qv 1))) (qss_one (qs_ret (qe_and (qe_isTy rfl Z.n_isinstance bt_isinstance rfl Z.n_bool bt_bool (qv 0)) (qe_one (qe_cmp (ops_eq hr.units) (qv 0) (qv 1) rfl))))) qss_nil) (qss_cons (qs_if (qb_val (qe_isTy rfl Z.n_isinstance bt_isinstance rfl Z.n_int bt_int (qv 1))) (qss_one (qs_ret (qe_and (qe_isTy rfl Z.n_isinstance bt_isinstance rfl Z.n_int bt_int (qv 0)) (qe_and (qe_not (qe_isTy rfl Z.n_isinstance bt_isinstance rfl Z.n_bool bt_bool (qv 0))) (qe_one (qe_cmp (ops_eq hr.units) (qv 0) (qv 1) rfl)))))) qss_nil) (qss_cons (qs_if (qb_val (qe_isTy rfl Z.n_isinstance bt_isinstance rfl Z.n_str bt_str (qv 1))) (qss_one (qs_ret (qe_and (qe_isTy rfl Z.n_isinstance bt_isinstance rfl Z.n_str bt_str (qv 0)) (qe_one (qe_cmp (ops_eq hr.units) (qv 0) (qv 1) rfl))))) qss_nil) (qss_one (qs_ret (qe_cmp (ops_eq hr.units) (qv 0) (qv 1) rfl))))))))
theorem d__law_cells {w : World} {K : Frg} {mg : Str → Option Value} {base : Heap} (Z : Facts K mg base)  : DefOk PR w K mg base (TBs K) (2 + 1) 0 "_law_cells" ["bowl", "wide"] f__law_cells :=
  defOk_of (R := (fun _ => True)) Z.g__law_cells Z.u__law_cells sc__law_cells (fun _ _ _ _ _ _ us hl => match us, hl with | [_, _], _ => rfl) fun cdv hR A outer s H E hr =>
    (qss_one (qs_ret (qe_tuplec rfl Z.n_tuple (qe_lc (own := [("k", 2)]) rfl sc__law_cells.nd (qi_range1 rfl Z.n_range (qa_cons (qe_cal (d__law_of Z) (hr.mono (by omega)) takes_d (qar_cons (qv 0) (qar_cons (qe_tup (qa_cons qe_int (qa_cons qe_int (qa_cons qe_int (qa_cons qe_int (qa_cons qe_int qa_nil)))))) qar_nil))) qa_nil)) (blkOk_by rfl) (fun s H C cl fp => (qx_name (i := 2) sc__law_cells.nd rfl (by first | exact .inl rfl | exact .inr rfl))) (fun s H C cl fp => qts_nil) (fun s H C cl fp => (qe_op ops_add qe_int (qe_cal (d__law_draw Z) (hr.mono (by omega)) takes_n (qar_cons (qv 0) (qar_cons (qv 1) qar_nil)))))))))
theorem d__law_print {w : World} {K : Frg} {mg : Str → Option Value} {base : Heap} (Z : Facts K mg base)  : DefOk PR w K mg base (TBs K) (2 + 1) 0 "_law_print" ["bowl", "letters"] f__law_print :=
  defOk_of (R := (fun _ => True)) Z.g__law_print Z.u__law_print sc__law_print (fun _ _ _ _ _ _ us hl => match us, hl with | [_, _], _ => rfl) fun cdv hR A outer s H E hr =>
    (qss_cons (qs_set (i := 2) sc__law_print.nd rfl (by first | exact .inl rfl | exact .inr rfl) (qe_str (l := []))) (qss_cons (qs_for owns_d rfl (qi_range1 rfl Z.n_range (qa_cons (qe_cal (d__law_of Z) (hr.mono (by omega)) takes_d (qar_cons (qv 0) (qar_cons (qe_tup (qa_cons qe_int (qa_cons qe_int (qa_cons qe_int (qa_cons qe_int qa_nil))))) qar_nil))) qa_nil)) (qg_name (i := 3) sc__law_print.nd rfl (by first | exact .inl rfl | exact .inr rfl)) (qss_one (qs_set (i := 2) sc__law_print.nd rfl (by first | exact .inl rfl | exact .inr rfl) (qe_op ops_add (qv 2) (qe_cal (d__law_of Z) (hr.mono (by omega)) takes_d (qar_cons (qv 0) (qar_cons (qv 1) qar_nil))))))) (qss_one (qs_ret (qv 2)))))
theorem d__law_letters {w : World} {K : Frg} {mg : Str → Option Value} {base : Heap} (Z : Facts K mg base)  : DefOk PR w K mg base (TBs K) (1 + 1) 0 "_law_letters" ["bowl", "most"] f__law_letters :=
  defOk_of (R := (fun _ => True)) Z.g__law_letters Z.u__law_letters sc__law_letters (fun _ _ _ _ _ _ us hl => match us, hl with | [_, _], _ => rfl) fun cdv hR A outer s H E hr =>
    (qss_cons (qs_trim (qs_par2 (i := 2) (j := 3) rfl sc__law_letters.nd rfl rfl (by decide) rfl rfl (qa_cons (qe_listc rfl Z.n_list (qe_str (l := [97, 98, 99, 100, 101, 102, 103, 104, 105, 106, 107, 108, 109, 110, 111, 112, 113, 114, 115, 116, 117, 118, 119, 120, 121, 122]))) (qa_cons (qe_lst qa_nil) qa_nil)))) (qss_cons (qs_if (qb_cmp ops_gtI (qe_cal (d__law_draw Z) (hr.mono (by omega)) takes_d (qar_cons (qv 0) (qar_cons qe_int qar_nil))) qe_int rfl) (qss_one (qs_trim (qs_set (i := 2) sc__law_letters.nd rfl (by first | exact .inl rfl | exact .inr rfl) (qe_listc rfl Z.n_list (qe_str (l := [97, 98, 99, 100])))))) qss_nil) (qss_cons (qs_for owns_d rfl (qi_range1 rfl Z.n_range (qa_cons (qe_op ops_add qe_int (qe_cal (d__law_draw Z) (hr.mono (by omega)) takes_d (qar_cons (qv 0) (qar_cons (qv 1) qar_nil)))) qa_nil)) (qg_name (i := 4) sc__law_letters.nd rfl (by first | exact .inl rfl | exact .inr rfl)) (qss_one (qs_expr (qe_append (qv 3) (qe_popAt (qv 2) (qe_cal (d__law_draw Z) (hr.mono (by omega)) takes_d (qar_cons (qv 0) (qar_cons (qe_len Z.n_len (qv 2)) qar_nil)))))))) (qss_one (qs_ret (qe_join (qe_str (l := [])) (qe_sorted hr.units Z.n_sorted (qv 3))))))))
theorem d__law_book {w : World} {K : Frg} {mg : Str → Option Value} {base : Heap} (Z : Facts K mg base)  : DefOk PR w K mg base (TBs K) (3 + 1) 0 "_law_book" ["bowl", "most", "more"] f__law_book :=
  defOk_of (R := (fun _ => True)) Z.g__law_book Z.u__law_book sc__law_book (fun _ _ _ _ _ _ us hl => match us, hl with | [_, _, _], _ => rfl) fun cdv hR A outer s H E hr =>
    (qss_cons (qs_trim (qs_asg (qe_tup (qa_cons (qe_cal (d__law_letters Z) (hr.mono (by omega)) takes_d (qar_cons (qv 0) (qar_cons (qv 1) qar_nil))) (qa_cons (qe_cal (d__law_of Z) (hr.mono (by omega)) takes_d (qar_cons (qv 0) (qar_cons (qe_tup (qa_cons qe_int (qa_cons qe_int (qa_cons qe_int (qa_cons qe_int qa_nil))))) qar_nil))) (qa_cons (qe_lst qa_nil) (qa_cons (qe_lst qa_nil) qa_nil))))) (qg_tup rfl (qgs_cons (qg_name (i := 3) sc__law_book.nd rfl (by first | exact .inl rfl | exact .inr rfl)) (qgs_cons (qg_name (i := 4) sc__law_book.nd rfl (by first | exact .inl rfl | exact .inr rfl)) (qgs_cons (qg_name (i := 5) sc__law_book.nd rfl (by first | exact .inl rfl | exact .inr rfl)) (qgs_cons (qg_name (i := 6) sc__law_book.nd rfl (by first | exact .inl rfl | exact .inr rfl)) qgs_nil))))))) (qss_cons (qs_for owns_d rfl (qi_any (qv 3)) (qg_name (i := 7) sc__law_book.nd rfl (by first | exact .inl rfl | exact .inr rfl)) (qss_cons (qs_expr (qe_append (qv 5) (qe_tup (qa_cons (qv 7) (qa_cons (qe_str (l := [97, 110, 121])) (qa_cons (qe_cal (d__law_cells Z) (hr.mono (by omega)) takes_d (qar_cons (qv 0) (qar_cons (qv 4) qar_nil))) qa_nil)))))) (qss_one (qs_expr (qe_append (qv 6) (qe_tup (qa_cons (qv 7) (qa_cons (qe_str (l := [97, 110, 121])) qa_nil)))))))) (qss_cons (qs_for owns_d rfl (qi_range1 rfl Z.n_range (qa_cons (qe_cal (d__law_draw Z) (hr.mono (by omega)) takes_d (qar_cons (qv 0) (qar_cons (qe_op ops_add (qv 2) qe_int) qar_nil))) qa_nil)) (qg_name (i := 8) sc__law_book.nd rfl (by first | exact .inl rfl | exact .inr rfl)) (qss_cons (qs_set (i := 9) sc__law_book.nd rfl (by first | exact .inl rfl | exact .inr rfl) (qe_tup (qa_cons (qe_cal (d__law_print Z) (hr.mono (by omega)) takes_d (qar_cons (qv 0) (qar_cons (qv 3) qar_nil))) (qa_cons (qe_cal (d__law_of Z) (hr.mono (by omega)) takes_d (qar_cons (qv 0) (qar_cons (qe_tup (qa_cons (qe_str (l := [97, 110, 121])) (qa_cons (qe_str (l := [97, 110, 121])) (qa_cons (qe_str (l := [98, 101, 103, 105, 110])) (qa_cons (qe_str (l := [101, 110, 100])) (qa_cons (qe_str (l := [109, 105, 100, 100, 108, 101])) (qa_cons (qe_str (l := [119, 104, 111, 108, 101])) qa_nil))))))) qar_nil))) qa_nil)))) (qss_one (qs_if (qb_bool (qw_and (qb_cmp (ops_notIn hr.units) (qv 9) (qv 6) rfl) (qw_and1 (qb_cmp (ops_lt hr.units) (qe_len Z.n_len (qv 5)) qe_int rfl)))) (qss_cons (qs_expr (qe_append (qv 5) (qe_op ops_add (qv 9) (qe_tup (qa_cons (qe_cal (d__law_cells Z) (hr.mono (by omega)) takes_d (qar_cons (qv 0) (qar_cons (qv 4) qar_nil))) qa_nil))))) (qss_one (qs_expr (qe_append (qv 6) (qv 9))))) qss_nil)))) (qss_one (qs_ret (qe_tup (qa_cons (qe_cal (d__law_draw Z) (hr.mono (by omega)) takes_d (qar_cons (qv 0) (qar_cons qe_int qar_nil))) (qa_cons (qe_op ops_add qe_int (qe_cal (d__law_draw Z) (hr.mono (by omega)) takes_d (qar_cons (qv 0) (qar_cons qe_int qar_nil)))) (qa_cons (qv 3) (qa_cons (qe_tuplec rfl Z.n_tuple (qe_sorted hr.units Z.n_sorted (qv 5))) qa_nil))))))))))
theorem d__law_made {w : World} {K : Frg} {mg : Str → Option Value} {base : Heap} (Z : Facts K mg base)  : DefOk PR w K mg base (TBs K) (12 + 1) 0 "_law_made" ["book"] f__law_made :=
  defOk_of (R := (fun _ => True)) Z.g__law_made Z.u__law_made sc__law_made (fun _ _ _ _ _ _ us hl => match us, hl with | [_], _ => rfl) fun cdv hR A outer s H E hr =>
    (qss_one (qs_ret (qe_mk Z.mk_Book (d_Book___init__ Z) (hr.mono (by omega)) Z.q_Book takes_d (qa_cons (qe_ix ixs_seq (qv 0) qe_int (fun _ _ => rfl)) (qa_cons (qe_ix ixs_seq (qv 0) qe_int (fun _ _ => rfl)) (qa_cons (qe_ix ixs_seq (qv 0) qe_int (fun _ _ => rfl)) (qa_cons (qe_ix ixs_seq (qv 0) qe_int (fun _ _ => rfl)) qa_nil)))))))
theorem kw_Book_0_rules_letters_width_edition {K : Frg} {mg : Str → Option Value} {base : Heap} (Z : Facts K mg base) : KwM K (He.ma K (He.ga K "Book") "__init__") ["self", "edition", "width", "letters", "rules"] ["rules", "letters", "width", "edition"] 1 [0, 4, 3, 2, 1] :=
  kwM_of (R := fun _ => True) (y := "__init__") (qual := "Book.__init__") (st := s_Book___init__) Z.u_Book___init__ fun _ _ _ _ _ _ us ws hl hl2 => match us, hl, ws, hl2 with | [_], _, [_, _, _, _], _ => rfl
theorem d__law_right {w : World} {K : Frg} {mg : Str → Option Value} {base : Heap} (Z : Facts K mg base)  : DefOk PR w K mg base (TBs K) (13 + 1) 0 "_law_right" ["bowl"] f__law_right :=
  defOk_of (R := (fun _ => True)) Z.g__law_right Z.u__law_right sc__law_right (fun _ _ _ _ _ _ us hl => match us, hl with | [_], _ => rfl) fun cdv hR A outer s H E hr =>
    (qss_cons (qs_for owns_d rfl (qi_range1 rfl Z.n_range (qa_cons qe_int qa_nil)) (qg_name (i := 1) sc__law_right.nd rfl (by first | exact .inl rfl | exact .inr rfl)) (qss_cons (qs_par2 (i := 2) (j := 3) rfl sc__law_right.nd rfl rfl (by decide) rfl rfl (qa_cons (qe_cal (d__law_book Z) (hr.mono (by omega)) takes_d (qar_cons (qv 0) (qar_cons qe_int (qar_cons qe_int qar_nil)))) (qa_cons (qe_cal (d__law_book Z) (hr.mono (by omega)) takes_d (qar_cons (qv 0) (qar_cons qe_int (qar_cons qe_int qar_nil)))) qa_nil))) (qss_cons (qs_set (i := 4) sc__law_right.nd rfl (by first | exact .inl rfl | exact .inr rfl) (qe_mkK0 (ix := [3, 2, 1, 0]) (ks := ["rules", "letters", "width", "edition"]) Z.mk_Book (d_Book___init__ Z) (hr.mono (by omega)) Z.q_Book (kw_Book_0_rules_letters_width_edition Z) takes_d (qk_cons (qe_ix ixs_seq (qv 2) qe_int (fun _ _ => rfl)) (qk_cons (qe_ix ixs_seq (qv 2) qe_int (fun _ _ => rfl)) (qk_cons (qe_ix ixs_seq (qv 2) qe_int (fun _ _ => rfl)) (qk_cons (qe_ix ixs_seq (qv 2) qe_int (fun _ _ => rfl)) qk_nil)))))) (qss_cons (qs_if (qb_not (qb_val (qe_cal (d__law_same Z 9) (hr.mono (by omega)) takes_d (qar_cons (qe_tup (qa_cons (qe_attr (j := 2) (hr.mono (by omega)) (by decide +kernel) (allCons (accP Z.q_Book Z.cl_Book Z.p_Book_edition (d_Book_edition Z)) allNil) (qv 4)) (qa_cons (qe_attr (j := 2) (hr.mono (by omega)) (by decide +kernel) (allCons (accP Z.q_Book Z.cl_Book Z.p_Book_width (d_Book_width Z)) allNil) (qv 4)) (qa_cons (qe_attr (j := 2) (hr.mono (by omega)) (by decide +kernel) (allCons (accP Z.q_Book Z.cl_Book Z.p_Book_letters (d_Book_letters Z)) allNil) (qv 4)) (qa_cons (qe_attr (j := 2) (hr.mono (by omega)) (by decide +kernel) (allCons (accP Z.q_Book Z.cl_Book Z.p_Book_rules (d_Book_rules Z)) allNil) (qv 4)) (qa_cons (qe_attr (j := 2) (hr.mono (by omega)) (by decide +kernel) (allCons (accP Z.q_Book Z.cl_Book Z.p_Book_parts (d_Book_parts Z)) allNil) (qv 4)) qa_nil)))))) (qar_cons (qe_op ops_add (qv 2) (qe_tup (qa_cons (qv 2) qa_nil))) qar_nil))))) (qss_one (qs_ret qe_bl)) qss_nil) (qss_cons (qs_if (qb_not (qb_val (qe_cal (d__law_same Z 9) (hr.mono (by omega)) takes_d (qar_cons (qe_tup (qa_cons (qe_cmp ((ops_eq hr.units).or (ops_eqI (j := 4) (hr.mono (by omega)) (allCons (eqOk_of Z.q_Book Z.m_Book___eq__ (d_Book___eq__ Z) Z.nb_Book (allCons ⟨_, Z.q_Book, Z.nf_Book_Book⟩ allNil)) allNil))) (qv 4) (qe_cal (d__law_made Z) (hr.mono (by omega)) takes_d (qar_cons (qv 2) qar_nil)) rfl) (qa_cons (qe_cmp ((ops_eq hr.units).or (ops_eqI (j := 4) (hr.mono (by omega)) (allCons (eqOk_of Z.q_Book Z.m_Book___eq__ (d_Book___eq__ Z) Z.nb_Book (allCons ⟨_, Z.q_Book, Z.nf_Book_Book⟩ allNil)) allNil))) (qv 4) (qe_cal (d__law_made Z) (hr.mono (by omega)) takes_d (qar_cons (qv 3) qar_nil)) rfl) (qa_cons (qe_cmp ((ops_eq hr.units).or (ops_eqI (j := 4) (hr.mono (by omega)) (allCons (eqOk_of Z.q_Book Z.m_Book___eq__ (d_Book___eq__ Z) Z.nb_Book (allCons ⟨_, Z.q_Book, Z.nf_Book_Book⟩ allNil)) allNil))) (qv 4) (qv 2) rfl) (qa_cons (qe_cmp ((ops_ne hr.units).or (ops_neI (j := 4) (hr.mono (by omega)) (allCons (eqOk_of Z.q_Book Z.m_Book___eq__ (d_Book___eq__ Z) Z.nb_Book (allCons ⟨_, Z.q_Book, Z.nf_Book_Book⟩ allNil)) allNil) (allCons (ne_ok Z.ne_Book Z.q_Book) allNil))) (qv 4) (qe_cal (d__law_made Z) (hr.mono (by omega)) takes_d (qar_cons (qv 2) qar_nil)) rfl) qa_nil))))) (qar_cons (qe_tup (qa_cons qe_bl (qa_cons (qe_cmp ((ops_eq hr.units).or (ops_eqI (j := 4) (hr.mono (by omega)) (allCons (eqOk_of Z.q_Book Z.m_Book___eq__ (d_Book___eq__ Z) Z.nb_Book (allCons ⟨_, Z.q_Book, Z.nf_Book_Book⟩ allNil)) allNil))) (qv 2) (qv 3) rfl) (qa_cons qe_bl (qa_cons qe_bl qa_nil))))) qar_nil))))) (qss_one (qs_ret qe_bl)) qss_nil) (qss_one (qs_if (qb_bool (qw_or (qb_cmp ((ops_eq hr.units).or (ops_eqI (j := 4) (hr.mono (by omega)) (allCons (eqOk_of Z.q_Book Z.m_Book___eq__ (d_Book___eq__ Z) Z.nb_Book (allCons ⟨_, Z.q_Book, Z.nf_Book_Book⟩ allNil)) allNil))) (qv 4) (qe_mk Z.mk_Book (d_Book___init__ Z) (hr.mono (by omega)) Z.q_Book takes_d (qa_cons (qe_if (qb_cmp (ops_lt hr.units) (qe_ix ixs_seq (qv 2) qe_int (fun _ _ => rfl)) qe_int rfl) (qe_op ops_add (qe_ix ixs_seq (qv 2) qe_int (fun _ _ => rfl)) qe_int) qe_int) (qa_cons (qe_ix ixs_seq (qv 2) qe_int (fun _ _ => rfl)) (qa_cons (qe_ix ixs_seq (qv 2) qe_int (fun _ _ => rfl)) (qa_cons (qe_ix ixs_seq (qv 2) qe_int (fun _ _ => rfl)) qa_nil))))) rfl) (qw_or1 (qb_cmp ((ops_eq hr.units).or (ops_eqI (j := 4) (hr.mono (by omega)) (allCons (eqOk_of Z.q_Book Z.m_Book___eq__ (d_Book___eq__ Z) Z.nb_Book (allCons ⟨_, Z.q_Book, Z.nf_Book_Book⟩ allNil)) allNil))) (qv 4) (qe_mk Z.mk_Book (d_Book___init__ Z) (hr.mono (by omega)) Z.q_Book takes_d (qa_cons (qe_ix ixs_seq (qv 2) qe_int (fun _ _ => rfl)) (qa_cons (qe_if (qb_cmp (ops_lt hr.units) (qe_ix ixs_seq (qv 2) qe_int (fun _ _ => rfl)) qe_int rfl) (qe_op ops_add (qe_ix ixs_seq (qv 2) qe_int (fun _ _ => rfl)) qe_int) qe_int) (qa_cons (qe_ix ixs_seq (qv 2) qe_int (fun _ _ => rfl)) (qa_cons (qe_ix ixs_seq (qv 2) qe_int (fun _ _ => rfl)) qa_nil))))) rfl)))) (qss_one (qs_ret qe_bl)) qss_nil))))))) (qss_one (qs_ret qe_bl)))
theorem d_law {w : World} {K : Frg} {mg : Str → Option Value} {base : Heap} (Z : Facts K mg base)  : DefOk PR w K mg base (TBs K) (14 + 1) 0 "law" ["script"] f_law :=
  defOk_of (R := (fun _ => True)) Z.g_law Z.u_law sc_law (fun _ _ _ _ _ _ us hl => match us, hl with | [_], _ => rfl) fun cdv hR A outer s H E hr =>
    (qss_one (qs_ret (qe_all rfl Z.n_all (qe_lc (own := [("lap", 1)]) rfl sc_law.nd (qi_range1 rfl Z.n_range (qa_cons (qe_max2 rfl Z.n_max qe_int (qe_min2 rfl Z.n_min (qe_len Z.n_len (qv 0)) qe_int)) qa_nil)) (blkOk_by rfl) (fun s H C cl fp => (qx_name (i := 1) sc_law.nd rfl (by first | exact .inl rfl | exact .inr rfl))) (fun s H C cl fp => qts_nil) (fun s H C cl fp => (qe_cal (d__law_right Z) (hr.mono (by omega)) takes_n (qar_cons (qe_cal (d__law_bowl Z) (hr.mono (by omega)) takes_n (qar_cons (qv 0) (qar_cons (qv 1) qar_nil))) qar_nil)))))))
end K01
/-! The head (printed by gen.py). -/
namespace K01
open TP
open PySem PySem.Spec PyProof.Rows L2 LamX
def loose0 : List Str := ["LETTERS", "is_whole", "is_between", "is_up_to", "is_one_of", "is_tuple_of", "wrong_in", "are_all", "are_below", "MOST_EDITION", "LEAST_WIDTH", "MOST_WIDTH", "MOST_LETTERS", "MOST_RULES", "MOST_PRINT", "MOST_RULE_CELLS", "TRIPLE", "BLANK", "JOINT", "ANY", "BEGIN", "END", "MIDDLE", "WHOLE", "WHERES", "are_letters", "is_print", "is_rule_cell", "is_rule", "is_behind"]
def loose1 : List Str := ["wrong_in_rules", "TouchError", "InvalidNumber", "InvalidWord", "InvalidRules", "Book", "_law_bowl", "_law_draw", "_law_of", "_law_same", "_law_cells", "_law_print", "_law_letters", "_law_book", "_law_made", "_law_right"]
def loose : List Str := loose0 ++ loose1
abbrev R : PySem.W.OpenRow := PySem.W.OpenLaw.row PySem.Challenge.rw_touchpress_k01_whole_books
abbrev hk : PySem.W.Hook := hookP 6 ds tf ex
def ob (s : PySem.W.SharedT) : AlP := obsP 6 ds tf ex (HandSHeadRun.getT s)
theorem ob_eq (s : PySem.W.SharedT) : ob s = hk.obs s.abs := obsP_eq (HandSHeadRun.getT_eq s)
theorem run (w : World) : HandSHeadRun.RunEq R (PySem.W.view R.prog [51]) hk ob 4000 loose w := by
  intro os
  kernel_rfl
end K01
namespace K01
open TP
open PySem PySem.Spec PyProof.Rows L2 LamX
end K01
namespace K01
open TP
open PySem PySem.Spec PyProof.Rows L2 LamX
theorem defname : (HandSHeadRun.topDef (PySem.W.OpenLaw.row PySem.Challenge.rw_touchpress_k01_whole_books).prog 51).name = ("law" : PySem.Str) := by kernel_rfl
theorem hlaw (K : Frg) (mg : Str → Option Value) (h : Heap) (X : K.In h) (G : h.Ns mainGlobals mg) (c : ex K = true) : mg ("law" : PySem.Str) = some (.ref (He.ga K "law")) :=
  He.glo_ok X G (exAt c 54)
end K01
open PySem PySem.W PySem.Calls PyProof.Rows
theorem PySem.Challenge.cw_touchpress_k01_whole_books_holds : PySem.Challenge.rw_touchpress_k01_whole_books.Holds := by
  w_on; o_law
  refine HandSHeadRun.head_any (r := OpenLaw.row PySem.Challenge.rw_touchpress_k01_whole_books) (q := view (OpenLaw.row PySem.Challenge.rw_touchpress_k01_whole_books).prog [51]) (H := K01.hk) (ob := K01.ob) (M := 4000) (loose := K01.loose) (d := HandSHeadRun.topDef (OpenLaw.row PySem.Challenge.rw_touchpress_k01_whole_books).prog 51) (kwd := []) K01.ob_eq
    (by kernel_rfl) (fun s => by kernel_rfl) K01.run (by kernel_rfl) (by kernel_rfl) (by kernel_rfl) (by rfl) (by first | assumption | decide +kernel) (by decide +kernel) ⟨rfl, rfl, rfl, rfl, rfl, by decide +kernel⟩ ?hw ?hc
  case hw => w_witness2
  case hc =>
    refine TP.walk_P (l := PySem.Challenge.rw_touchpress_k01_whole_books) (n := 63) (k := 14 + 1) (kc := 0) (ds := K01.ds) (tf := K01.tf) (ex := K01.ex) (x := "script") (F := K01.f_law) (dl := ⟨fun K => He.ga K "law", "law", "law", K01.s_law⟩) (il := 31) rfl (by decide) (by kernel_rfl) ⟨rfl, by decide, by decide⟩ rfl
      (fun K mg h X G c => by rw [K01.defname]; exact K01.hlaw K mg h X G c) (fun _ _ _ _ _ _ us hl => match us, hl with | [_], _ => rfl)
      (fun w mg base K h h' X G c KB GB tb => by rw [K01.defname]; exact K01.d_law (K01.facts_of X G c tb)) ?math
    exact K01.math
