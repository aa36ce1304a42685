import PyProof.Rows.All
import Wide.All
import OpenK.AllK
import Wide.FinOn
import HandS.ForMost
import HandS.Deep
import HandS.IsInst
import KE.GoesMore
import KE.DataMinMax
import KE.SortData
import KE.OsSort
import HandS.Conv
import HandS.More
import HandS.SetFor
import HandS.Zip
import HandS.TupSets
import HandS.TupAny
import PyProof.Transfer
import HandS.ForExc
import HandS.ExcInit
import HandS.ExcIs
import HandS.ExcField
import HandS.ExcValue
import HandS.ClsMeth
import KE.KExcIs
import PyProof.EqKinds
import HandS.WordsExc
import HandS.HotCalls
import PySem.Challenge.RW_mailslots_k13_texts_refused
set_option Elab.async false
set_option linter.all false
/-! the layer of data over the hand layer: what a slot holds as PyData, who owns the lists, what a reading does to it -/
namespace Dl
open PySem L2

/-! ### data without lists -/
mutual
def imm : PyData → Bool
  | .list _ => false
  | .dict _ => false
  | .tuple xs => immA xs
  | _ => true
def immA : List PyData → Bool
  | [] => true
  | x :: r => imm x && immA r
end
theorem immA_all : ∀ ds : List PyData, immA ds = ds.all imm
  | [] => by simp [immA]
  | d :: r => by simp [immA, immA_all r]

/-! ### keys -/
def keyD : Key → PyData
  | .inl i => .int i
  | .inr s => .str s
def keyT (k : List Key) : PyData := .tuple (k.map keyD)

/-! ### who owns what: every list and dict below v is at an address of f, no two at one -/
section
variable (K : PySem.W.Frag) (H : Hp)
mutual
inductive Own : V → PyData → List Addr → Prop
  | non : Own .non .none []
  | bl (b : Bool) : Own (.bl b) (.bool b) []
  | int (i : Int) : Own (.int i) (.int i) []
  | str (x : Str) : Own (.str x) (.str x) []
  | lst {a : Addr} {xs : List V} {ds : List PyData} {f : List Addr} : H a = some (.lst xs) → OwnA xs ds f → a ∉ f → Own (.ref a) (.list ds) (a :: f)
  | tup {a : Addr} {xs : List V} {ds : List PyData} {f : List Addr} : H a = some (.tup xs) → OwnA xs ds f → Own (.ref a) (.tuple ds) f
  | dk {a : Addr} {kvs : List (Key × V)} {cs : List (PyData × PyData)} {f : List Addr} : H a = some (.dK kvs) → cs.map (·.1) = kvs.map (fun p => keyD p.1) → OwnA (kvs.map (·.2)) (cs.map (·.2)) f → a ∉ f → Own (.ref a) (.dict cs) (a :: f)
  | dt {a : Addr} {kvs : List (List Key × V)} {cs : List (PyData × PyData)} {f : List Addr} : H a = some (.dT kvs) → cs.map (·.1) = kvs.map (fun p => keyT p.1) → OwnA (kvs.map (·.2)) (cs.map (·.2)) f → a ∉ f → Own (.ref a) (.dict ((.bool true, .none) :: cs)) (a :: f)
  | ins {a C dx : Addr} {nm : Str} {fs : List (Str × V)} {cs : List (PyData × PyData)} {f : List Addr} : PySem.W.nsIn K mainGlobals nm = some (some (.ref C)) → H a = some (.ins C dx fs) → cs.map (·.1) = fs.map (fun p => PyData.str p.1) → OwnA (fs.map (·.2)) (cs.map (·.2)) f → a ∉ f → Own (.ref a) (.dict ((.none, .str nm) :: cs)) (a :: f)
inductive OwnA : List V → List PyData → List Addr → Prop
  | nil : OwnA [] [] []
  | cons {v : V} {vs : List V} {d : PyData} {ds : List PyData} {f g : List Addr} : Own v d f → OwnA vs ds g → (∀ a ∈ f, a ∉ g) → OwnA (v :: vs) (d :: ds) (f ++ g)
end
-- read: every list below v is at an address of φ
mutual
inductive Wk (φ : Addr → Prop) : V → PyData → Prop
  | non : Wk φ .non .none
  | bl (b : Bool) : Wk φ (.bl b) (.bool b)
  | int (i : Int) : Wk φ (.int i) (.int i)
  | str (x : Str) : Wk φ (.str x) (.str x)
  | lst {a : Addr} {xs : List V} {ds : List PyData} : H a = some (.lst xs) → φ a → WkA φ xs ds → Wk φ (.ref a) (.list ds)
  | tup {a : Addr} {xs : List V} {ds : List PyData} : H a = some (.tup xs) → WkA φ xs ds → Wk φ (.ref a) (.tuple ds)
  | dk {a : Addr} {kvs : List (Key × V)} {cs : List (PyData × PyData)} : H a = some (.dK kvs) → cs.map (·.1) = kvs.map (fun p => keyD p.1) → φ a → WkA φ (kvs.map (·.2)) (cs.map (·.2)) → Wk φ (.ref a) (.dict cs)
  | dt {a : Addr} {kvs : List (List Key × V)} {cs : List (PyData × PyData)} : H a = some (.dT kvs) → cs.map (·.1) = kvs.map (fun p => keyT p.1) → φ a → WkA φ (kvs.map (·.2)) (cs.map (·.2)) → Wk φ (.ref a) (.dict ((.bool true, .none) :: cs))
  | ins {a C dx : Addr} {nm : Str} {fs : List (Str × V)} {cs : List (PyData × PyData)} : PySem.W.nsIn K mainGlobals nm = some (some (.ref C)) → H a = some (.ins C dx fs) → cs.map (·.1) = fs.map (fun p => PyData.str p.1) → φ a → WkA φ (fs.map (·.2)) (cs.map (·.2)) → Wk φ (.ref a) (.dict ((.none, .str nm) :: cs))
inductive WkA (φ : Addr → Prop) : List V → List PyData → Prop
  | nil : WkA φ [] []
  | cons {v : V} {vs : List V} {d : PyData} {ds : List PyData} : Wk φ v d → WkA φ vs ds → WkA φ (v :: vs) (d :: ds)
end
end

/-! ### steps of the heap: all but what is owned stands -/
structure Step (fp : Addr → Prop) (H : Hp) (fp' : Addr → Prop) (H' : Hp) : Prop where
  stay : ∀ p u, H p = some u → (¬ fp p ∨ ¬ Mut (some u)) → H' p = some u
  new : ∀ p, fp' p → fp p ∨ H p = none
  live : ∀ p u, H p = some u → ∃ u', H' p = some u'
theorem Step.refl (fp : Addr → Prop) (H : Hp) : Step fp H fp H := ⟨fun _ _ e _ => e, fun _ h => .inl h, fun _ u e => ⟨u, e⟩⟩
theorem Step.trans {f f1 f2 : Addr → Prop} {H H1 H2 : Hp} (a : Step f H f1 H1) (b : Step f1 H1 f2 H2) : Step f H f2 H2 where
  stay := fun p u e h => b.stay p u (a.stay p u e h) (by
    rcases h with h | h
    · refine .inl fun z => ?_
      rcases a.new p z with z | z
      · exact h z
      · rw [e] at z; cases z
    · exact .inr h)
  new := fun p h => by
    rcases b.new p h with z | z
    · exact a.new p z
    · by_cases hf : f p
      · exact .inl hf
      · cases e : H p with
        | none => exact .inr rfl
        | some u => rw [a.stay p u e (.inl hf)] at z; cases z
  live := fun p u e => let ⟨u', q⟩ := a.live p u e; b.live p u' q
theorem Step.sub {f f1 f2 : Addr → Prop} {H H1 : Hp} (a : Step f H f1 H1) (h : ∀ p, f2 p → f1 p) : Step f H f2 H1 := ⟨a.stay, fun p z => a.new p (h p z), a.live⟩
/-- nothing owned is touched: all stands -/
theorem Step.of_same {f f1 : Addr → Prop} {H H1 : Hp} (s : Same H H1) (h : ∀ p, f1 p → f p ∨ H p = none) : Step f H f1 H1 := ⟨fun p u e _ => s p u e, h, fun p u e => ⟨u, s p u e⟩⟩
theorem Step.keepT {f f1 : Addr → Prop} {H H1 : Hp} {K : PySem.W.Frag} {a : Addr} {xs : List V} (s : Step f H f1 H1) (h : SqT K H a xs) : SqT K H1 a xs := by
  rcases h with (h | ⟨o, h⟩) | h
  · exact .inl (.inl (s.stay a _ h (.inr fun z => z)))
  · exact .inl (.inr ⟨o, s.stay a _ h (.inr fun z => z)⟩)
  · exact .inr h

section
variable {K : PySem.W.Frag} {H H' : Hp} {fp fp' φ ψ : Addr → Prop}
mutual
theorem Own.step (s : Step fp H fp' H') : ∀ {v : V} {d : PyData} {f : List Addr}, Own K H v d f → (∀ a ∈ f, ¬ fp a) → Own K H' v d f
  | _, _, _, .non, _ => .non
  | _, _, _, .bl b, _ => .bl b
  | _, _, _, .int i, _ => .int i
  | _, _, _, .str x, _ => .str x
  | _, _, _, .lst h a n, hf => .lst (s.stay _ _ h (.inl (hf _ List.mem_cons_self))) (OwnA.step s a fun b hb => hf b (List.mem_cons_of_mem _ hb)) n
  | _, _, _, .tup h a, hf => .tup (s.stay _ _ h (.inr fun z => z)) (OwnA.step s a hf)
  | _, _, _, .dk h e a n, hf => .dk (s.stay _ _ h (.inl (hf _ List.mem_cons_self))) e (OwnA.step s a fun b hb => hf b (List.mem_cons_of_mem _ hb)) n
  | _, _, _, .dt h e a n, hf => .dt (s.stay _ _ h (.inl (hf _ List.mem_cons_self))) e (OwnA.step s a fun b hb => hf b (List.mem_cons_of_mem _ hb)) n
  | _, _, _, .ins c h e a n, hf => .ins c (s.stay _ _ h (.inl (hf _ List.mem_cons_self))) e (OwnA.step s a fun b hb => hf b (List.mem_cons_of_mem _ hb)) n
theorem OwnA.step (s : Step fp H fp' H') : ∀ {vs : List V} {ds : List PyData} {f : List Addr}, OwnA K H vs ds f → (∀ a ∈ f, ¬ fp a) → OwnA K H' vs ds f
  | _, _, _, .nil, _ => .nil
  | _, _, _, .cons a b n, hf => .cons (Own.step s a fun c hc => hf c (List.mem_append_left _ hc)) (OwnA.step s b fun c hc => hf c (List.mem_append_right _ hc)) n
end
mutual
theorem Wk.step (s : Step fp H fp' H') (hf : ∀ a, φ a → ¬ fp a) : ∀ {v : V} {d : PyData}, Wk K H φ v d → Wk K H' φ v d
  | _, _, .non => .non
  | _, _, .bl b => .bl b
  | _, _, .int i => .int i
  | _, _, .str x => .str x
  | _, _, .lst h n a => .lst (s.stay _ _ h (.inl (hf _ n))) n (WkA.step s hf a)
  | _, _, .tup h a => .tup (s.stay _ _ h (.inr fun z => z)) (WkA.step s hf a)
  | _, _, .dk h e n a => .dk (s.stay _ _ h (.inl (hf _ n))) e n (WkA.step s hf a)
  | _, _, .dt h e n a => .dt (s.stay _ _ h (.inl (hf _ n))) e n (WkA.step s hf a)
  | _, _, .ins c h e n a => .ins c (s.stay _ _ h (.inl (hf _ n))) e n (WkA.step s hf a)
theorem WkA.step (s : Step fp H fp' H') (hf : ∀ a, φ a → ¬ fp a) : ∀ {vs : List V} {ds : List PyData}, WkA K H φ vs ds → WkA K H' φ vs ds
  | _, _, .nil => .nil
  | _, _, .cons a b => .cons (Wk.step s hf a) (WkA.step s hf b)
end
mutual
theorem Own.wk : ∀ {v : V} {d : PyData} {f : List Addr}, Own K H v d f → (∀ a ∈ f, φ a) → Wk K H φ v d
  | _, _, _, .non, _ => .non
  | _, _, _, .bl b, _ => .bl b
  | _, _, _, .int i, _ => .int i
  | _, _, _, .str x, _ => .str x
  | _, _, _, .lst h a n, hf => .lst h (hf _ List.mem_cons_self) (OwnA.wk a fun b hb => hf b (List.mem_cons_of_mem _ hb))
  | _, _, _, .tup h a, hf => .tup h (OwnA.wk a hf)
  | _, _, _, .dk h e a n, hf => .dk h e (hf _ List.mem_cons_self) (OwnA.wk a fun b hb => hf b (List.mem_cons_of_mem _ hb))
  | _, _, _, .dt h e a n, hf => .dt h e (hf _ List.mem_cons_self) (OwnA.wk a fun b hb => hf b (List.mem_cons_of_mem _ hb))
  | _, _, _, .ins c h e a n, hf => .ins c h e (hf _ List.mem_cons_self) (OwnA.wk a fun b hb => hf b (List.mem_cons_of_mem _ hb))
theorem OwnA.wk : ∀ {vs : List V} {ds : List PyData} {f : List Addr}, OwnA K H vs ds f → (∀ a ∈ f, φ a) → WkA K H φ vs ds
  | _, _, _, .nil, _ => .nil
  | _, _, _, .cons a b n, hf => .cons (Own.wk a fun c hc => hf c (List.mem_append_left _ hc)) (OwnA.wk b fun c hc => hf c (List.mem_append_right _ hc))
end
mutual
theorem Wk.mono (h : ∀ a, φ a → ψ a) : ∀ {v : V} {d : PyData}, Wk K H φ v d → Wk K H ψ v d
  | _, _, .non => .non
  | _, _, .bl b => .bl b
  | _, _, .int i => .int i
  | _, _, .str x => .str x
  | _, _, .lst r n a => .lst r (h _ n) (WkA.mono h a)
  | _, _, .tup r a => .tup r (WkA.mono h a)
  | _, _, .dk r e n a => .dk r e (h _ n) (WkA.mono h a)
  | _, _, .dt r e n a => .dt r e (h _ n) (WkA.mono h a)
  | _, _, .ins c r e n a => .ins c r e (h _ n) (WkA.mono h a)
theorem WkA.mono (h : ∀ a, φ a → ψ a) : ∀ {vs : List V} {ds : List PyData}, WkA K H φ vs ds → WkA K H ψ vs ds
  | _, _, .nil => .nil
  | _, _, .cons a b => .cons (Wk.mono h a) (WkA.mono h b)
end
mutual
theorem Wk.dp : ∀ {v : V} {d : PyData}, Wk K H φ v d → d.canLay0 = true → Dp K H v d
  | _, _, .non, _ => .non
  | _, _, .bl b, _ => .bl b
  | _, _, .int i, _ => .int i
  | _, _, .str x, _ => .str x
  | _, _, .lst r _ a, h => .lst (SqL.of r) (WkA.dp a (by simpa [PyData.canLay0] using h))
  | _, _, .tup r a, h => .tup (SqT.of r) (WkA.dp a (by simpa [PyData.canLay0] using h))
  | _, _, .dk _ _ _ _, h => by simp [PyData.canLay0] at h
  | _, _, .dt _ _ _ _, h => by simp [PyData.canLay0] at h
  | _, _, .ins _ _ _ _ _, h => by simp [PyData.canLay0] at h
theorem WkA.dp : ∀ {vs : List V} {ds : List PyData}, WkA K H φ vs ds → PyData.canLayAll0 ds = true → DpAll K H vs ds
  | _, _, .nil, _ => .nil
  | _, _, .cons a b, h => by
    simp only [PyData.canLayAll0, Bool.and_eq_true] at h
    exact .cons (Wk.dp a h.1) (WkA.dp b h.2)
end
theorem lay_of_shaped {d : PyData} (h : SeqAt.shaped d = true) : d.canLay0 = true := by
  unfold SeqAt.shaped at h
  simp only [Bool.and_eq_true] at h
  exact h.1
theorem layA_of_shaped {ds : List PyData} (h : SeqAt.shaped (.list ds) = true) : PyData.canLayAll0 ds = true := by
  have := lay_of_shaped h
  simpa [PyData.canLay0] using this
-- what holds no list is owned by whoever reads it
mutual
theorem Wk.own : ∀ {v : V} {d : PyData}, Wk K H φ v d → imm d = true → Own K H v d []
  | _, _, .non, _ => .non
  | _, _, .bl b, _ => .bl b
  | _, _, .int i, _ => .int i
  | _, _, .str x, _ => .str x
  | _, _, .lst _ _ _, h => by simp [imm] at h
  | _, _, .tup r a, h => .tup r (WkA.own a (by simpa [imm] using h))
  | _, _, .dk _ _ _ _, h => by simp [imm] at h
  | _, _, .dt _ _ _ _, h => by simp [imm] at h
  | _, _, .ins _ _ _ _ _, h => by simp [imm] at h
theorem WkA.own : ∀ {vs : List V} {ds : List PyData}, WkA K H φ vs ds → immA ds = true → OwnA K H vs ds []
  | _, _, .nil, _ => .nil
  | _, _, .cons a b, h => by
    simp only [immA, Bool.and_eq_true] at h
    exact OwnA.cons (f := []) (g := []) (Wk.own a h.1) (WkA.own b h.2) (by simp)
end
theorem Own.nils {v : V} {d : PyData} {f : List Addr} (h : Own K H v d f) (hi : imm d = true) : Own K H v d [] := (h.wk (φ := fun _ => True) (fun _ _ => trivial)).own hi
abbrev W0 (K : PySem.W.Frag) (H : Hp) : V → PyData → Prop := Wk K H fun _ => True
abbrev W0A (K : PySem.W.Frag) (H : Hp) : List V → List PyData → Prop := WkA K H fun _ => True
theorem Own.w0 {v : V} {d : PyData} {f : List Addr} (h : Own K H v d f) : W0 K H v d := h.wk fun _ _ => trivial
theorem Wk.w0 {v : V} {d : PyData} (h : Wk K H φ v d) : W0 K H v d := h.mono fun _ _ => trivial

theorem WkA.length {vs : List V} {ds : List PyData} (h : WkA K H φ vs ds) : vs.length = ds.length := by
  induction ds generalizing vs with
  | nil => cases h; rfl
  | cons d r ih => cases h with | cons a b => simp [ih b]
theorem OwnA.length {vs : List V} {ds : List PyData} {f : List Addr} (h : OwnA K H vs ds f) : vs.length = ds.length :=
  (h.wk (φ := fun _ => True) (fun _ _ => trivial)).length
theorem WkA.get {vs : List V} {ds : List PyData} {i : Nat} {d : PyData} (h : WkA K H φ vs ds) (e : ds[i]? = some d) : ∃ v, vs[i]? = some v ∧ Wk K H φ v d := by
  induction ds generalizing vs i with
  | nil => simp at e
  | cons c r ih =>
    cases h with
    | cons a b =>
      cases i with
      | zero => simp at e; subst e; exact ⟨_, rfl, a⟩
      | succ i => simpa using ih (i := i) b (by simpa using e)
theorem WkA.append {vs ws : List V} {ds es : List PyData} (h : WkA K H φ vs ds) (h' : WkA K H φ ws es) : WkA K H φ (vs ++ ws) (ds ++ es) := by
  induction ds generalizing vs with
  | nil => cases h; exact h'
  | cons c r ih => cases h with | cons a b => exact .cons a (ih b)
theorem WkA.take {vs : List V} {ds : List PyData} (n : Nat) (h : WkA K H φ vs ds) : WkA K H φ (vs.take n) (ds.take n) := by
  induction ds generalizing vs n with
  | nil => cases h; simp; exact .nil
  | cons c r ih =>
    cases h with
    | cons a b =>
      cases n with
      | zero => simp; exact .nil
      | succ n => simp; exact .cons a (ih n b)
theorem WkA.drop {vs : List V} {ds : List PyData} (n : Nat) (h : WkA K H φ vs ds) : WkA K H φ (vs.drop n) (ds.drop n) := by
  induction ds generalizing vs n with
  | nil => cases h; simp; exact .nil
  | cons c r ih =>
    cases h with
    | cons a b =>
      cases n with
      | zero => simp; exact .cons a b
      | succ n => simp; exact ih n b
theorem OwnA.append {vs ws : List V} {ds es : List PyData} {f g : List Addr} (h : OwnA K H vs ds f) (h' : OwnA K H ws es g) (dj : ∀ a ∈ f, a ∉ g) : OwnA K H (vs ++ ws) (ds ++ es) (f ++ g) := by
  induction ds generalizing vs f with
  | nil => cases h; exact h'
  | cons c r ih =>
    cases h with
    | @cons v vs' _ _ f1 f2 a b n =>
      have q := ih b fun x hx => dj x (List.mem_append_right _ hx)
      rw [List.append_assoc]
      refine OwnA.cons a q fun x hx z => ?_
      rcases List.mem_append.mp z with z | z
      · exact n x hx z
      · exact dj x (List.mem_append_left _ hx) z
/-- the parts of a tuple, of a list -/
theorem Wk.tupI {v : V} {ds : List PyData} (h : Wk K H φ v (.tuple ds)) : ∃ a xs, v = .ref a ∧ SqT K H a xs ∧ WkA K H φ xs ds := by
  cases h with | tup r a => exact ⟨_, _, rfl, SqT.of r, a⟩
theorem Wk.tupJ {v : V} {ds : List PyData} (h : Wk K H φ v (.tuple ds)) : ∃ a xs, v = .ref a ∧ H a = some (.tup xs) ∧ WkA K H φ xs ds := by
  cases h with | tup r a => exact ⟨_, _, rfl, r, a⟩
theorem Wk.lstI {v : V} {ds : List PyData} (h : Wk K H φ v (.list ds)) : ∃ a xs, v = .ref a ∧ H a = some (.lst xs) ∧ WkA K H φ xs ds := by
  cases h with | lst r _ a => exact ⟨_, _, rfl, r, a⟩
theorem Wk.intI {v : V} {i : Int} (h : Wk K H φ v (.int i)) : v = .int i := by cases h; rfl
theorem Wk.blI {v : V} {i : Bool} (h : Wk K H φ v (.bool i)) : v = .bl i := by cases h; rfl
theorem Wk.strI {v : V} {i : Str} (h : Wk K H φ v (.str i)) : v = .str i := by cases h; rfl
theorem Wk.nonI {v : V} (h : Wk K H φ v .none) : v = .non := by cases h; rfl
end
end Dl
/-! the environment of a def as data; the state that it speaks of -/
namespace Dl
open PySem L2

/-- a slot: nothing known; data that the slot owns; data that is read alone; the k-th object that was lent -/
inductive Sl where
  | no | dat (d : PyData) | wk (d : PyData) | bor (k : Nat)
/-- the slots, the lent objects' contents -/
structure Env where
  sl : List Sl
  bo : List PyData
def Env.look (e : Dl.Env) (i : Nat) : Option PyData := match e.sl[i]? with
  | some (.dat d) => some d
  | some (.wk d) => some d
  | some (.bor k) => e.bo[k]?
  | _ => none
def Env.set (e : Dl.Env) (i : Nat) (x : Sl) : Env := ⟨e.sl.set i x, e.bo⟩
abbrev Ix := Sum Nat Nat
/-- who owns what stands in a slot -/
def Env.ix (e : Dl.Env) (i : Nat) : Option Ix := match e.sl[i]? with
  | some (.dat _) => some (.inl i)
  | some (.bor k) => some (.inr k)
  | _ => none
def Env.own (e : Dl.Env) : Ix → Option PyData
  | .inl i => match e.sl[i]? with | some (.dat d) => some d | _ => none
  | .inr k => e.bo[k]?
/-- the content of an owned or lent object is exchanged -/
def Env.put (e : Dl.Env) : Ix → PyData → Dl.Env
  | .inl i, d => ⟨e.sl.set i (.dat d), e.bo⟩
  | .inr k, d => ⟨e.sl, e.bo.set k d⟩
def adr (σ : St) (bv : List V) : Ix → Option V
  | .inl i => match σ[i]? with | some (some v) => some v | _ => none
  | .inr k => bv[k]?

/-- the state is as the environment says: F what each owner owns, fo what is read alone, al all that isn't others' -/
structure RF (K : PySem.W.Frag) (bv : List V) (e : Dl.Env) (fp al : Addr → Prop) (σ : St) (H : Hp) (fo : Addr → Prop) (F : Ix → List Addr) : Prop where
  len : e.sl.length = σ.length
  own : ∀ x d, e.own x = some d → ∃ v, adr σ bv x = some v ∧ Own K H v d (F x)
  dis : ∀ x y, x ≠ y → ∀ a ∈ F x, a ∉ F y
  sub : ∀ x, ∀ a ∈ F x, fp a
  sup : ∀ a, fp a → al a
  wk : ∀ (i : Nat) (d : PyData), e.sl[i]? = some (.wk d) → ∃ v, σ[i]? = some (some v) ∧ Wk K H fo v d
  bor : ∀ (i k : Nat), e.sl[i]? = some (.bor k) → ∃ v, σ[i]? = some (some v) ∧ bv[k]? = some v
  fof : ∀ a, fo a → ¬ al a ∧ ∃ u, H a = some u
  alv : ∀ a, fp a → ∃ u, H a = some u
def RR (K : PySem.W.Frag) (bv : List V) (e : Dl.Env) (fp al : Addr → Prop) (σ : St) (H : Hp) : Prop := ∃ fo F, RF K bv e fp al σ H fo F

section
variable {K : PySem.W.Frag} {bv : List V} {e : Dl.Env} {fp fp' al al' fo g g' : Addr → Prop} {σ : St} {H H' : Hp} {F : Ix → List Addr}
mutual
theorem Own.alive : ∀ {v : V} {d : PyData} {f : List Addr}, Own K H v d f → ∀ a ∈ f, ∃ u, H a = some u
  | _, _, _, .non, _, h => by cases h
  | _, _, _, .bl _, _, h => by cases h
  | _, _, _, .int _, _, h => by cases h
  | _, _, _, .str _, _, h => by cases h
  | _, _, _, .lst q a n, b, h => by
    rcases List.mem_cons.mp h with rfl | h
    · exact ⟨_, q⟩
    · exact OwnA.alive a b h
  | _, _, _, .tup q a, b, h => OwnA.alive a b h
  | _, _, _, .dk q e a n, b, h => by
    rcases List.mem_cons.mp h with rfl | h
    · exact ⟨_, q⟩
    · exact OwnA.alive a b h
  | _, _, _, .dt q e a n, b, h => by
    rcases List.mem_cons.mp h with rfl | h
    · exact ⟨_, q⟩
    · exact OwnA.alive a b h
  | _, _, _, .ins c q e a n, b, h => by
    rcases List.mem_cons.mp h with rfl | h
    · exact ⟨_, q⟩
    · exact OwnA.alive a b h
theorem OwnA.alive : ∀ {vs : List V} {ds : List PyData} {f : List Addr}, OwnA K H vs ds f → ∀ a ∈ f, ∃ u, H a = some u
  | _, _, _, .nil, _, h => by cases h
  | _, _, _, .cons q r n, b, h => by
    rcases List.mem_append.mp h with h | h
    · exact Own.alive q b h
    · exact OwnA.alive r b h
end
theorem adr_inl {i : Nat} {v : V} (h : adr σ bv (.inl i) = some v) : σ[i]? = some (some v) := by
  unfold adr at h
  dsimp only at h
  split at h
  · rename_i w q; cases h; exact q
  · cases h
theorem adr_of {i : Nat} {v : V} (h : σ[i]? = some (some v)) : adr σ bv (.inl i) = some v := by
  unfold adr
  try dsimp only
  rw [h]
theorem Env.own_of {i : Nat} {d : PyData} (h : e.sl[i]? = some (.dat d)) : e.own (.inl i) = some d := by
  unfold Env.own
  try dsimp only
  rw [h]
theorem Env.own_inl {i : Nat} {d : PyData} (h : e.own (.inl i) = some d) : e.sl[i]? = some (.dat d) := by
  unfold Env.own at h
  dsimp only at h
  split at h
  · rename_i c q; cases h; exact q
  · cases h
/-- what a name's slot holds: an owner's, or read alone -/
theorem Env.look_cases {i : Nat} {d : PyData} (h : e.look i = some d) : (e.sl[i]? = some (.wk d)) ∨ (∃ x, e.ix i = some x ∧ e.own x = some d) := by
  unfold Env.look at h
  split at h
  · rename_i c q
    cases h
    exact .inr ⟨.inl i, by unfold Env.ix; rw [q], Env.own_of q⟩
  · rename_i c q
    cases h
    exact .inl q
  · rename_i k q
    exact .inr ⟨.inr k, by unfold Env.ix; rw [q], h⟩
  · cases h
theorem Env.look_ix {i : Nat} {x : Ix} (h : e.ix i = some x) : e.look i = e.own x := by
  unfold Env.ix at h
  split at h
  · rename_i c q; cases h; unfold Env.look Env.own; simp only [q]
  · rename_i k q; cases h; unfold Env.look Env.own; simp only [q]
  · cases h
/-- the owner's value stands in the slot -/
theorem RF.at_ix (r : RF K bv e fp al σ H fo F) {i : Nat} {x : Ix} {d : PyData} (hx : e.ix i = some x) (h : e.own x = some d) : ∃ v, σ[i]? = some (some v) ∧ adr σ bv x = some v ∧ Own K H v d (F x) := by
  obtain ⟨v, a, o⟩ := r.own x d h
  unfold Env.ix at hx
  split at hx
  · cases hx
    exact ⟨v, adr_inl a, a, o⟩
  · rename_i k q
    cases hx
    obtain ⟨w, b, c⟩ := r.bor i k q
    have e2 : w = v := by
      have e3 : adr σ bv (.inr k) = bv[k]? := rfl
      rw [e3, c] at a
      exact Option.some.inj a
    subst e2
    exact ⟨w, b, a, o⟩
  · cases hx
theorem RF.look (r : RF K bv e fp al σ H fo F) {i : Nat} {d : PyData} (h : e.look i = some d) : ∃ v, σ[i]? = some (some v) ∧ W0 K H v d := by
  rcases Env.look_cases h with q | ⟨x, q, o⟩
  · obtain ⟨v, a, o⟩ := r.wk i d q
    exact ⟨v, a, o.w0⟩
  · obtain ⟨v, a, _, o⟩ := r.at_ix q o
    exact ⟨v, a, o.w0⟩
theorem RR.look (r : RR K bv e fp al σ H) {i : Nat} {d : PyData} (h : e.look i = some d) : ∃ v, σ[i]? = some (some v) ∧ W0 K H v d :=
  let ⟨_, _, q⟩ := r; q.look h
theorem RR.val (r : RR K bv e fp al σ H) {i : Nat} {d : PyData} {v : V} (h : e.look i = some d) (hv : σ[i]? = some (some v)) : W0 K H v d := by
  obtain ⟨w, q, o⟩ := r.look h
  rw [hv] at q; cases q
  exact o
/-- a step that touches nothing of ours -/
theorem RF.step (r : RF K bv e fp al σ H fo F) (s : Step g H g' H') (h1 : ∀ a, fp a → ¬ g a) (h2 : ∀ a, fo a → ¬ g a) : RF K bv e fp al σ H' fo F where
  len := r.len
  own := fun x d h => by
    obtain ⟨v, a, o⟩ := r.own x d h
    exact ⟨v, a, o.step s fun b hb => h1 b (r.sub x b hb)⟩
  dis := r.dis
  sub := r.sub
  sup := r.sup
  wk := fun i d h => by
    obtain ⟨v, a, o⟩ := r.wk i d h
    exact ⟨v, a, o.step s h2⟩
  bor := r.bor
  fof := fun a h => ⟨(r.fof a h).1, let ⟨u, q⟩ := (r.fof a h).2; ⟨u, s.stay a u q (.inl (h2 a h))⟩⟩
  alv := fun a h => let ⟨u, q⟩ := r.alv a h; ⟨u, s.stay a u q (.inl (h1 a h))⟩
theorem RR.pure (r : RR K bv e fp al σ H) (s : Same H H') : RR K bv e fp al σ H' := by
  obtain ⟨fo, F, q⟩ := r
  exact ⟨fo, F, q.step (g := fun _ => False) (g' := fun _ => False) (.of_same s fun _ z => z.elim) (fun _ _ z => z) fun _ _ z => z⟩
/-- an object of a temporary's is changed -/
theorem RR.away (r : RR K bv e fp al σ H) {a : Addr} {o u : HO} (h1 : ¬ fp a) (h2 : al a) (h3 : H a = some u) (h4 : Mut (some u)) : RR K bv e fp al σ (upd H a o) := by
  obtain ⟨fo, F, q⟩ := r
  refine ⟨fo, F, q.step (g := fun b => b = a) (g' := fun b => b = a) ⟨fun p w e h => ?_, fun p h => .inl h, fun p w e => ?_⟩ (fun b hb z => h1 (z ▸ hb)) fun b hb z => (q.fof b hb).1 (z ▸ h2)⟩
  by_cases hp : p = a
  · subst hp
    rw [h3] at e; cases e
    rcases h with h | h
    · exact absurd rfl h
    · exact absurd h4 h
  · rw [upd_ne hp]; exact e
  by_cases hp : p = a
  · subst hp; exact ⟨_, upd_same⟩
  · exact ⟨w, by rw [upd_ne hp]; exact e⟩
theorem RR.new (r : RR K bv e fp al σ H) {a : Addr} {o : HO} (h : H a = none) : RR K bv e fp al σ (upd H a o) := r.pure fun b u q => by
  rw [upd_ne (ne_of_none q h)]; exact q
/-- fewer things are said to be ours -/
theorem RR.less (r : RR K bv e fp al σ H) (h : ∀ a, al' a → al a) (h' : ∀ a, fp a → al' a) : RR K bv e fp al' σ H := by
  obtain ⟨fo, F, r⟩ := r
  exact ⟨fo, F, r.len, r.own, r.dis, r.sub, h', r.wk, r.bor, fun a q => ⟨fun z => (r.fof a q).1 (h a z), (r.fof a q).2⟩, r.alv⟩
/-- a new address is ours -/
theorem RR.more (r : RR K bv e fp al σ H) (h : ∀ a, al' a → al a ∨ H a = none) (h' : ∀ a, al a → al' a) : RR K bv e fp al' σ H := by
  obtain ⟨fo, F, r⟩ := r
  refine ⟨fo, F, r.len, r.own, r.dis, r.sub, fun a q => h' a (r.sup a q), r.wk, r.bor, fun a q => ⟨fun z => ?_, (r.fof a q).2⟩, r.alv⟩
  rcases h a z with z | z
  · exact (r.fof a q).1 z
  · obtain ⟨u, w⟩ := (r.fof a q).2
    rw [z] at w; cases w
/-- slots are changed one at a time -/
theorem set_get {i j : Nat} {x y : Sl} (h : (e.sl.set i x)[j]? = some y) : (j = i ∧ y = x) ∨ (j ≠ i ∧ e.sl[j]? = some y) := by
  by_cases hj : i = j
  · subst hj
    rw [List.getElem?_set] at h
    simp only [if_true] at h
    split at h
    · cases h; exact .inl ⟨rfl, rfl⟩
    · cases h
  · rw [List.getElem?_set_ne hj] at h
    exact .inr ⟨fun z => hj z.symm, h⟩
theorem RR.kill (r : RR K bv e fp al σ H) (i : Nat) : RR K bv (e.set i .no) fp al σ H := by
  obtain ⟨fo, F, r⟩ := r
  have nd : ∀ {j : Nat} {x : Sl}, (e.sl.set i .no)[j]? = some x → x ≠ .no → e.sl[j]? = some x := fun {j x} h hx => by
    rcases set_get h with ⟨_, z⟩ | ⟨_, z⟩
    · exact absurd z hx
    · exact z
  refine ⟨fo, F, by simpa [Env.set] using r.len, fun x d h => ?_, r.dis, r.sub, r.sup, fun j d h => r.wk j d (nd h (by simp)), fun j k h => r.bor j k (nd h (by simp)), r.fof, r.alv⟩
  cases x with
  | inl j => exact r.own (.inl j) d (Env.own_of (nd (Env.own_inl h) (by simp)))
  | inr k => exact r.own (.inr k) d h
/-- .. and its value is another one then -/
theorem RR.killσ (r : RR K bv e fp al σ H) (i : Nat) (w : Option V) : RR K bv (e.set i .no) fp al (σ.set i w) H := by
  obtain ⟨fo, F, r⟩ := r.kill i
  have nd : ∀ {j : Nat} {x : Sl}, (e.sl.set i .no)[j]? = some x → x ≠ .no → j ≠ i := fun {j x} h hx => by
    rcases set_get h with ⟨_, z⟩ | ⟨z, _⟩
    · exact absurd z hx
    · exact z
  have σe : ∀ {j : Nat}, j ≠ i → (σ.set i w)[j]? = σ[j]? := fun {j} h => List.getElem?_set_ne (Ne.symm h)
  refine ⟨fo, F, by simpa using r.len, fun x d h => ?_, r.dis, r.sub, r.sup, fun j d h => ?_, fun j k h => ?_, r.fof, r.alv⟩
  · cases x with
    | inl j =>
      obtain ⟨v, a, o⟩ := r.own (.inl j) d h
      have hj := nd (Env.own_inl h) (by simp)
      exact ⟨v, adr_of (by rw [σe hj]; exact adr_inl a), o⟩
    | inr k => exact r.own (.inr k) d h
  · obtain ⟨v, a, o⟩ := r.wk j d h
    exact ⟨v, by rw [σe (nd h (by simp))]; exact a, o⟩
  · obtain ⟨v, a, o⟩ := r.bor j k h
    exact ⟨v, by rw [σe (nd h (by simp))]; exact a, o⟩
theorem Env.set_set (i : Nat) (x y : Sl) : (e.set i x).set i y = e.set i y := by
  unfold Env.set
  simp
/-- a slot that held nothing gets data of its own -/
theorem RR.fill {i : Nat} {v : V} (r : RR K bv (e.set i .no) fp al (σ.set i (some v)) H) {d : PyData} {f : List Addr} (o : Own K H v d f) (n : ∀ a ∈ f, ¬ fp a ∧ al a) (hi : i < e.sl.length) :
    RR K bv (e.set i (.dat d)) (fun a => fp a ∨ a ∈ f) al (σ.set i (some v)) H := by
  obtain ⟨fo, F, r⟩ := r
  have hl : i < σ.length := by have := r.len; simp [Env.set] at this; omega
  have old : ∀ {j : Nat} {x : Sl}, j ≠ i → (e.sl.set i (.dat d))[j]? = some x → (e.sl.set i .no)[j]? = some x := fun {j x} hj h => by
    rcases set_get h with ⟨z, _⟩ | ⟨_, z⟩
    · exact absurd z hj
    · rw [List.getElem?_set_ne (Ne.symm hj)]; exact z
  have me : ∀ {x : Sl}, (e.set i (.dat d)).sl[i]? = some x → x = .dat d := fun {x} h => by
    rw [show (e.set i (.dat d)).sl = e.sl.set i (.dat d) from rfl, List.getElem?_set_self hi] at h
    exact (Option.some.inj h).symm
  refine ⟨fo, fun x => if x = .inl i then f else F x, by simpa [Env.set] using r.len, fun x c h => ?_, fun x y hxy a ha => ?_, fun x a ha => ?_, fun a ha => ?_, fun j c h => ?_, fun j k h => ?_, r.fof, fun a ha => ha.elim (r.alv a) (o.alive a)⟩
  · by_cases hx : x = .inl i
    · subst hx
      have q := me (Env.own_inl h)
      cases q
      exact ⟨v, adr_of (by rw [List.getElem?_set_self hl]), by simpa using o⟩
    · try dsimp only
      rw [if_neg hx]
      cases x with
      | inl j => exact r.own (.inl j) c (Env.own_of (old (fun z => hx (by rw [z])) (Env.own_inl h)))
      | inr k => exact r.own (.inr k) c h
  · try dsimp only at ha ⊢
    by_cases hx : x = .inl i
    · subst hx
      rw [if_pos rfl] at ha
      rw [if_neg (Ne.symm hxy)]
      exact fun z => (n a ha).1 (r.sub y a z)
    · rw [if_neg hx] at ha
      by_cases hy : y = .inl i
      · rw [if_pos hy]
        exact fun z => (n a z).1 (r.sub x a ha)
      · rw [if_neg hy]
        exact r.dis x y hxy a ha
  · try dsimp only at ha
    by_cases hx : x = .inl i
    · rw [if_pos hx] at ha; exact .inr ha
    · rw [if_neg hx] at ha; exact .inl (r.sub x a ha)
  · rcases ha with ha | ha
    · exact r.sup a ha
    · exact (n a ha).2
  · by_cases hj : j = i
    · subst hj; have q := me h; cases q
    · exact r.wk j c (old hj h)
  · by_cases hj : j = i
    · subst hj; have q := me h; cases q
    · exact r.bor j k (old hj h)
/-- .. or data that is read alone from then on -/
theorem RR.fillW {i : Nat} {v : V} (r : RR K bv (e.set i .no) fp al (σ.set i (some v)) H) {d : PyData} {f : List Addr} (o : Own K H v d f) (n : ∀ a ∈ f, ¬ fp a ∧ al a) (hi : i < e.sl.length) :
    RR K bv (e.set i (.wk d)) fp (fun a => al a ∧ a ∉ f) (σ.set i (some v)) H := by
  obtain ⟨fo, F, r⟩ := r
  have hl : i < σ.length := by have := r.len; simp [Env.set] at this; omega
  have old : ∀ {j : Nat} {x : Sl}, j ≠ i → (e.sl.set i (.wk d))[j]? = some x → (e.sl.set i .no)[j]? = some x := fun {j x} hj h => by
    rcases set_get h with ⟨z, _⟩ | ⟨_, z⟩
    · exact absurd z hj
    · rw [List.getElem?_set_ne (Ne.symm hj)]; exact z
  have me : ∀ {x : Sl}, (e.set i (.wk d)).sl[i]? = some x → x = .wk d := fun {x} h => by
    rw [show (e.set i (.wk d)).sl = e.sl.set i (.wk d) from rfl, List.getElem?_set_self hi] at h
    exact (Option.some.inj h).symm
  refine ⟨fun a => fo a ∨ a ∈ f, F, by simpa [Env.set] using r.len, fun x c h => ?_, r.dis, r.sub, fun a z => ⟨r.sup a z, fun y => (n a y).1 z⟩, fun j c h => ?_, fun j k h => ?_, fun a h => ?_, r.alv⟩
  · cases x with
    | inl j =>
      by_cases hj : j = i
      · subst hj; have q := me (Env.own_inl h); cases q
      · exact r.own (.inl j) c (Env.own_of (old hj (Env.own_inl h)))
    | inr k => exact r.own (.inr k) c h
  · by_cases hj : j = i
    · subst hj
      have q := me h
      cases q
      exact ⟨v, by rw [List.getElem?_set_self hl], o.wk fun a z => .inr z⟩
    · obtain ⟨w, a, b⟩ := r.wk j c (old hj h)
      exact ⟨w, a, b.mono fun _ z => .inl z⟩
  · by_cases hj : j = i
    · subst hj; have q := me h; cases q
    · exact r.bor j k (old hj h)
  · rcases h with h | h
    · exact ⟨fun z => (r.fof a h).1 z.1, (r.fof a h).2⟩
    · exact ⟨fun z => z.2 h, o.alive a h⟩
/-- an owner gives its data away -/
theorem RR.take (r : RR K bv e fp al σ H) {i : Nat} {d : PyData} (h : e.sl[i]? = some (.dat d)) : ∃ v f, σ[i]? = some (some v) ∧ Own K H v d f ∧ (∀ a ∈ f, fp a) ∧ RR K bv (e.set i .no) (fun a => fp a ∧ a ∉ f) al σ H := by
  obtain ⟨fo, F, r⟩ := r
  obtain ⟨v, a, o⟩ := r.own (.inl i) d (Env.own_of h)
  have nd : ∀ {j : Nat} {x : Sl}, (e.sl.set i .no)[j]? = some x → x ≠ .no → j ≠ i ∧ e.sl[j]? = some x := fun {j x} h hx => by
    rcases set_get h with ⟨_, z⟩ | ⟨z, w⟩
    · exact absurd z hx
    · exact ⟨z, w⟩
  refine ⟨v, F (.inl i), adr_inl a, o, r.sub _, fo, fun x => if x = .inl i then [] else F x, by simpa [Env.set] using r.len, fun x c h => ?_, fun x y hxy a ha => ?_, fun x a ha => ?_, fun a z => r.sup a z.1, fun j c h => r.wk j c (nd h (by simp)).2, fun j k h => r.bor j k (nd h (by simp)).2, r.fof, fun a z => r.alv a z.1⟩
  · cases x with
    | inl j =>
      obtain ⟨q1, q2⟩ := nd (Env.own_inl h) (by simp)
      obtain ⟨w, b, c⟩ := r.own (.inl j) c (Env.own_of q2)
      refine ⟨w, b, ?_⟩
      try dsimp only
      rw [if_neg (by simpa using q1)]
      exact c
    | inr k =>
      obtain ⟨w, b, c⟩ := r.own (.inr k) c h
      exact ⟨w, b, by simpa using c⟩
  · try dsimp only at ha ⊢
    split at ha
    · cases ha
    · split
      · simp
      · exact r.dis x y hxy a ha
  · try dsimp only at ha
    split at ha
    · cases ha
    · rename_i hx
      exact ⟨r.sub x a ha, r.dis x _ hx a ha⟩
/-- an owned object is changed: what stands at v is d' then -/
theorem RR.focus (r : RR K bv e fp al σ H) {i : Nat} {x : Ix} {d : PyData} (hx : e.ix i = some x) (h : e.own x = some d) :
    ∃ v f, σ[i]? = some (some v) ∧ adr σ bv x = some v ∧ Own K H v d f ∧ (∀ a ∈ f, fp a) ∧ (∀ (H' : Hp) (d' : PyData) (f' : List Addr) (al' : Addr → Prop), Step (· ∈ f) H (· ∈ f) H' → Own K H' v d' f' → (∀ a ∈ f', a ∈ f ∨ (¬ fp a ∧ al' a)) → (∀ a, al a → al' a) → (∀ a, al' a → al a ∨ H a = none) →
      RR K bv (e.put x d') (fun a => (fp a ∧ a ∉ f) ∨ a ∈ f') al' σ H') ∧
      ∀ (j : Nat) (c : PyData), e.look j = some c → e.ix j ≠ some x → ∃ w, σ[j]? = some (some w) ∧ Wk K H (· ∉ f) w c := by
  obtain ⟨fo, F, r⟩ := r
  obtain ⟨v, a, b, o⟩ := r.at_ix hx h
  refine ⟨v, F x, a, b, o, r.sub x, fun H' d' f' al' s o' hf' hal hal2 => ?_, fun j c hc hj => ?_⟩
  rotate_left
  · rcases Env.look_cases hc with q | ⟨y, q, oy⟩
    · obtain ⟨w, q1, q2⟩ := r.wk j c q
      exact ⟨w, q1, q2.mono fun a z z' => (r.fof a z).1 (r.sup a (r.sub x a z'))⟩
    · obtain ⟨w, q1, _, q2⟩ := r.at_ix q oy
      have hy : y ≠ x := fun z => hj (by rw [q, z])
      exact ⟨w, q1, q2.wk fun a z => r.dis y x hy a z⟩
  have nfo : ∀ a, fo a → ¬ al' a := fun a q z => by
    rcases hal2 a z with z | z
    · exact (r.fof a q).1 z
    · obtain ⟨u, w⟩ := (r.fof a q).2
      rw [z] at w; cases w
  have keep : ∀ y c w, y ≠ x → e.own y = some c → adr σ bv y = some w → ∃ v, adr σ bv y = some v ∧ Own K H' v c (F y) := fun y c w hy q1 q2 => by
    obtain ⟨v, a, o⟩ := r.own y c q1
    exact ⟨v, a, o.step s fun b hb => r.dis y x hy b hb⟩
  refine ⟨fo, fun y => if y = x then f' else F y, ?_, fun y c h => ?_, fun y z hyz a ha => ?_, fun y a ha => ?_, fun a z => ?_, fun j c h => ?_, fun j k h => ?_, fun a q => ⟨nfo a q, let ⟨u, w⟩ := (r.fof a q).2; ⟨u, s.stay a u w (.inl fun z => (r.fof a q).1 (r.sup a (r.sub x a z)))⟩⟩, fun a z => z.elim (fun z => let ⟨u, w⟩ := r.alv a z.1; ⟨u, s.stay a u w (.inl z.2)⟩) (o'.alive a)⟩
  · cases x <;> simp [Env.put, r.len]
  · try dsimp only
    by_cases hy : y = x
    · subst hy
      rw [if_pos rfl]
      have e2 : (e.put y d').own y = some d' := by
        cases y with
        | inl j =>
          have q := Env.own_inl h
          have hj : j < e.sl.length := by
            have := (List.getElem?_eq_some_iff.mp q).1
            simpa [Env.put] using this
          exact Env.own_of (by show (e.sl.set j (.dat d'))[j]? = _; rw [List.getElem?_set_self hj])
        | inr k =>
          have q : (e.bo.set k d')[k]? = some c := h
          have hk : k < e.bo.length := by
            have := (List.getElem?_eq_some_iff.mp q).1
            simpa using this
          show (e.bo.set k d')[k]? = _
          rw [List.getElem?_set_self hk]
      rw [e2] at h; cases h
      exact ⟨v, b, o'⟩
    · rw [if_neg hy]
      have e2 : e.own y = some c := by
        cases y with
        | inl j =>
          have q := Env.own_inl h
          cases x with
          | inl i' =>
            have q' : (e.sl.set i' (.dat d'))[j]? = some (.dat c) := q
            rcases set_get q' with ⟨z, _⟩ | ⟨_, z⟩
            · exact absurd (by rw [z]) hy
            · exact Env.own_of z
          | inr k => exact Env.own_of q
        | inr k =>
          cases x with
          | inl i' => exact h
          | inr k' =>
            have q' : (e.bo.set k' d')[k]? = some c := h
            rw [List.getElem?_set_ne (fun z => hy (by rw [z]))] at q'
            exact q'
      obtain ⟨w, q1, q2⟩ := r.own y c e2
      exact keep y c w hy e2 q1
  · try dsimp only at ha ⊢
    by_cases hy : y = x
    · rw [if_pos hy] at ha
      rw [if_neg (fun w => hyz (hy.trans w.symm))]
      intro w
      rcases hf' a ha with q | q
      · exact r.dis x z (fun w => hyz (hy.trans w)) a q w
      · exact q.1 (r.sub z a w)
    · rw [if_neg hy] at ha
      by_cases hz : z = x
      · rw [if_pos hz]
        intro w
        rcases hf' a w with q | q
        · exact r.dis y x hy a ha q
        · exact q.1 (r.sub y a ha)
      · rw [if_neg hz]
        exact r.dis y z hyz a ha
  · try dsimp only at ha
    by_cases hy : y = x
    · rw [if_pos hy] at ha; exact .inr ha
    · rw [if_neg hy] at ha; exact .inl ⟨r.sub y a ha, r.dis y x hy a ha⟩
  · rcases z with z | z
    · exact hal a (r.sup a z.1)
    · rcases hf' a z with q | q
      · exact hal a (r.sup a (r.sub x a q))
      · exact q.2
  · have h0 : e.sl[j]? = some (.wk c) := by
      cases x with
      | inl i' =>
        have q' : (e.sl.set i' (.dat d'))[j]? = some (.wk c) := h
        rcases set_get q' with ⟨_, z⟩ | ⟨_, z⟩
        · cases z
        · exact z
      | inr k => exact h
    obtain ⟨w, q1, q2⟩ := r.wk j c h0
    exact ⟨w, q1, q2.step s fun a q z => (r.fof a q).1 (r.sup a (r.sub x a z))⟩
  · have h0 : e.sl[j]? = some (.bor k) := by
      cases x with
      | inl i' =>
        have q' : (e.sl.set i' (.dat d'))[j]? = some (.bor k) := h
        rcases set_get q' with ⟨_, z⟩ | ⟨_, z⟩
        · cases z
        · exact z
      | inr k => exact h
    exact r.bor j k h0
/-- what a state says less of -/
theorem RR.weak {σ' : St} (r : RR K bv e fp al σ' H) (hl : σ'.length = σ.length) (h : ∀ (i : Nat) v, σ'[i]? = some (some v) → σ[i]? = some (some v)) : RR K bv e fp al σ H := by
  obtain ⟨fo, F, r⟩ := r
  refine ⟨fo, F, r.len.trans hl, fun x d q => ?_, r.dis, r.sub, r.sup, fun i d q => let ⟨v, a, b⟩ := r.wk i d q; ⟨v, h i v a, b⟩, fun i k q => let ⟨v, a, b⟩ := r.bor i k q; ⟨v, h i v a, b⟩, r.fof, r.alv⟩
  obtain ⟨v, a, o⟩ := r.own x d q
  cases x with
  | inl i => exact ⟨v, adr_of (h i v (adr_inl a)), o⟩
  | inr k => exact ⟨v, a, o⟩
end
end Dl
/-! judgements: what a reading does, told by a function of the environment -/
namespace Dl
open PySem L2

abbrev ME := Dl.Env → Option (PyData × Dl.Env)
/-- an operand: data, or a name whose data is looked up when all operands stand -/
inductive Opd where
  | val (d : PyData) | var (i : Nat)
def Opd.look : Opd → Dl.Env → Option PyData
  | .val d, _ => some d
  | .var i, e => e.look i
abbrev MO := Dl.Env → Option (Opd × Dl.Env)
abbrev MA := Dl.Env → Option (List Opd × Dl.Env)
abbrev MT := Dl.Env → Option (Bool × Dl.Env)

/-- from (fp, al, H) to (fp', al', H') with the temporaries at T -/
structure To (K : PySem.W.Frag) (bv : List V) (σ : St) (fp al : Addr → Prop) (H : Hp) (e' : Dl.Env) (T fp' al' : Addr → Prop) (H' : Hp) : Prop where
  rr : RR K bv e' fp' al' σ H'
  mono : ∀ a, al a → (∃ u, H a = some u) → al' a
  step : Step fp H (fun a => fp' a ∨ T a) H'
  tmp : ∀ a, T a → ¬ fp' a ∧ al' a ∧ ∃ u, H' a = some u
section
variable {K : PySem.W.Frag} {bv : List V} {e e' e1 e2 : Dl.Env} {fp fp' fp1 fp2 al al' al1 al2 T T1 T2 : Addr → Prop} {σ : St} {H H' H1 H2 : Hp}
theorem To.refl (r : RR K bv e fp al σ H) : To K bv σ fp al H e (fun _ => False) fp al H :=
  ⟨r, fun _ z _ => z, (Step.refl fp H).sub fun _ z => z.elim id fun z => z.elim, fun _ z => z.elim⟩
theorem To.keep (b : To K bv σ fp1 al1 H1 e2 T2 fp2 al2 H2) {p : Addr} (h : ¬ fp1 p) (h' : ∃ u, H1 p = some u) : ¬ fp2 p ∧ ∃ u, H2 p = some u := by
  obtain ⟨u, q⟩ := h'
  refine ⟨fun z => ?_, u, b.step.stay p u q (.inl h)⟩
  rcases b.step.new p (.inl z) with z | z
  · exact h z
  · rw [q] at z; cases z
theorem To.trans (a : To K bv σ fp al H e1 T1 fp1 al1 H1) (b : To K bv σ fp1 al1 H1 e2 T2 fp2 al2 H2) : To K bv σ fp al H e2 (fun a => T1 a ∨ T2 a) fp2 al2 H2 where
  rr := b.rr
  mono := fun x h q => b.mono x (a.mono x h q) (let ⟨u, z⟩ := q; a.step.live x u z)
  step := by
    have b' : Step (fun x => fp1 x ∨ T1 x) H1 (fun x => fp2 x ∨ T1 x ∨ T2 x) H2 := by
      refine ⟨fun p u q h => b.step.stay p u q ?_, fun p h => ?_, b.step.live⟩
      · rcases h with h | h
        · exact .inl fun z => h (.inl z)
        · exact .inr h
      · rcases h with h | h | h
        · rcases b.step.new p (.inl h) with z | z
          · exact .inl (.inl z)
          · exact .inr z
        · exact .inl (.inr h)
        · rcases b.step.new p (.inr h) with z | z
          · exact .inl (.inl z)
          · exact .inr z
    exact a.step.trans b'
  tmp := fun p h => by
    rcases h with h | h
    · obtain ⟨q1, q2, q3⟩ := a.tmp p h
      obtain ⟨z1, z2⟩ := b.keep q1 q3
      exact ⟨z1, b.mono p q2 q3, z2⟩
    · exact b.tmp p h
theorem To.less (a : To K bv σ fp al H e' T fp' al' H') (h : ∀ p, T1 p → T p) : To K bv σ fp al H e' T1 fp' al' H' :=
  ⟨a.rr, a.mono, a.step.sub fun p z => z.elim .inl fun z => .inr (h p z), fun p z => a.tmp p (h p z)⟩
/-- new objects are made; temporaries may be dropped -/
theorem To.fresh (a : To K bv σ fp al H e' T fp' al' H1) (s : Same H1 H') (h : ∀ p, T1 p → T p ∨ (H1 p = none ∧ ∃ u, H' p = some u)) : To K bv σ fp al H e' T1 fp' (fun x => al' x ∨ T1 x) H' := by
  have r : RR K bv e' fp' (fun x => al' x ∨ T1 x) σ H1 := by
    refine a.rr.more (fun p q => ?_) fun p q => .inl q
    rcases q with q | q
    · exact .inl q
    · rcases h p q with z | z
      · exact .inl (a.tmp p z).2.1
      · exact .inr z.1
  refine ⟨r.pure s, fun p q z => .inl (a.mono p q z), ?_, fun p q => ?_⟩
  · refine a.step.trans (.of_same s fun p q => ?_)
    rcases q with q | q
    · exact .inl (.inl q)
    · rcases h p q with z | z
      · exact .inl (.inr z)
      · exact .inr z.1
  · refine ⟨fun z => ?_, .inr q, ?_⟩
    · rcases h p q with w | ⟨w, u, hu⟩
      · exact (a.tmp p w).1 z
      · obtain ⟨fo, F, r0⟩ := a.rr
        obtain ⟨u', hu'⟩ := r0.alv p z
        rw [w] at hu'; cases hu'
    · rcases h p q with w | ⟨w, u, hu⟩
      · obtain ⟨u, hu⟩ := (a.tmp p w).2.2
        exact ⟨u, s p u hu⟩
      · exact ⟨u, hu⟩
end

/-! ### expressions, operands, arguments, tests -/
def RE (K : PySem.W.Frag) (t : TE) (m : ME) : Prop := ∀ (e : Dl.Env) (d : PyData) (e' : Dl.Env), m e = some (d, e') → ∀ (bv : List V) (fp al : Addr → Prop) (σ : St) (H : Hp) (Q : VK), RR K bv e fp al σ H →
  (∀ (v : V) (H' : Hp) (fp' al' : Addr → Prop) (fv : List Addr), To K bv σ fp al H e' (· ∈ fv) fp' al' H' → Own K H' v d fv → Q v H') → t σ H Q
def OpdAt (K : PySem.W.Frag) (σ : St) (H : Hp) : Opd → V → List Addr → Prop
  | .val d, v, f => Own K H v d f
  | .var i, v, f => σ[i]? = some (some v) ∧ f = []
def RO (K : PySem.W.Frag) (t : TE) (m : MO) : Prop := ∀ (e : Dl.Env) (o : Opd) (e' : Dl.Env), m e = some (o, e') → ∀ (bv : List V) (fp al : Addr → Prop) (σ : St) (H : Hp) (Q : VK), RR K bv e fp al σ H →
  (∀ (v : V) (H' : Hp) (fp' al' : Addr → Prop) (fv : List Addr), To K bv σ fp al H e' (· ∈ fv) fp' al' H' → OpdAt K σ H' o v fv → Q v H') → t σ H Q
inductive OpdsAt (K : PySem.W.Frag) (σ : St) (H : Hp) : List Opd → List V → List Addr → Prop
  | nil : OpdsAt K σ H [] [] []
  | cons {o : Opd} {os : List Opd} {v : V} {vs : List V} {f g : List Addr} : OpdAt K σ H o v f → OpdsAt K σ H os vs g → (∀ a ∈ f, a ∉ g) → OpdsAt K σ H (o :: os) (v :: vs) (f ++ g)
def RA (K : PySem.W.Frag) (t : TA) (m : MA) : Prop := ∀ (e : Dl.Env) (os : List Opd) (e' : Dl.Env), m e = some (os, e') → ∀ (bv : List V) (fp al : Addr → Prop) (σ : St) (H : Hp) (Q : List V → Hp → Prop), RR K bv e fp al σ H →
  (∀ (vs : List V) (H' : Hp) (fp' al' : Addr → Prop) (fv : List Addr), To K bv σ fp al H e' (· ∈ fv) fp' al' H' → OpdsAt K σ H' os vs fv → Q vs H') → t σ H Q
def RT (K : PySem.W.Frag) (t : TT) (m : MT) : Prop := ∀ (e : Dl.Env) (b : Bool) (e' : Dl.Env), m e = some (b, e') → ∀ (bv : List V) (fp al : Addr → Prop) (σ : St) (H : Hp) (Q : Bool → Hp → Prop), RR K bv e fp al σ H →
  (∀ (H' : Hp) (fp' al' : Addr → Prop), To K bv σ fp al H e' (fun _ => False) fp' al' H' → Q b H') → t σ H Q

section
variable {K : PySem.W.Frag} {bv : List V} {e e' e1 e2 : Dl.Env} {fp fp' fp1 fp2 al al' al1 al2 T T1 T2 : Addr → Prop} {σ : St} {H H' H1 H2 : Hp}
theorem OpdAt.step {o : Opd} {v : V} {f : List Addr} (h : OpdAt K σ H o v f) (s : Step fp H fp' H') (n : ∀ a ∈ f, ¬ fp a) : OpdAt K σ H' o v f := by
  cases o with
  | val d => exact Own.step s h n
  | var i => exact h
theorem OpdAt.w0 {o : Opd} {v : V} {f : List Addr} {d : PyData} (h : OpdAt K σ H o v f) (r : RR K bv e fp al σ H) (l : o.look e = some d) : W0 K H v d := by
  cases o with
  | val c => cases l; exact Own.w0 h
  | var i => exact r.val l h.1
def oVar (i : Nat) : MO := fun e => (e.look i).bind fun _ => some (.var i, e)
def oVal (m : ME) : MO := fun e => (m e).bind fun p => some (.val p.1, p.2)
theorem ro_var {i : Nat} : RO K (tVar i) (oVar i) := by
  intro e o e' q bv fp al σ H Q r k
  obtain ⟨d, h1, h2⟩ := Option.bind_eq_some_iff.mp q
  cases h2
  obtain ⟨v, hv, _⟩ := r.look h1
  exact ⟨v, hv, k v H fp al [] ((To.refl r).less fun p z => by cases z) ⟨hv, rfl⟩⟩
theorem ro_val {t : TE} {m : ME} (h : RE K t m) : RO K t (oVal m) := by
  intro e o e' q bv fp al σ H Q r k
  obtain ⟨⟨d, e1⟩, h1, h2⟩ := Option.bind_eq_some_iff.mp q
  cases h2
  exact h e d e1 h1 bv fp al σ H Q r fun v H' fp' al' fv to o => k v H' fp' al' fv to o

/-! ### names and constants -/
def mC (d : PyData) : ME := fun e => some (d, e)
theorem re_const {v : V} {d : PyData} (o : ∀ H : Hp, Own K H v d []) : RE K (tC v) (mC d) := by
  intro e d' e' q bv fp al σ H Q r k
  cases q
  exact k v H fp al [] ((To.refl r).less fun p z => by cases z) (o H)
theorem re_int {i : Int} : RE K (tC (.int i)) (mC (.int i)) := re_const fun _ => .int i
theorem re_bl {i : Bool} : RE K (tC (.bl i)) (mC (.bool i)) := re_const fun _ => .bl i
theorem re_str {i : Str} : RE K (tC (.str i)) (mC (.str i)) := re_const fun _ => .str i
theorem re_non : RE K (tC .non) (mC .none) := re_const fun _ => .non
/-- a name whose data holds no list -/
def mCopy (i : Nat) : ME := fun e => (e.look i).bind fun d => if imm d then some (d, e) else none
theorem re_copy {i : Nat} : RE K (tVar i) (mCopy i) := by
  intro e d e' q bv fp al σ H Q r k
  obtain ⟨c, h1, h2⟩ := Option.bind_eq_some_iff.mp q
  split at h2
  · rename_i hi
    cases h2
    obtain ⟨v, hv, w⟩ := r.look h1
    exact ⟨v, hv, k v H fp al [] ((To.refl r).less fun p z => by cases z) (w.own hi)⟩
  · cases h2
/-- a name gives what it owns -/
def mMove (i : Nat) : ME := fun e => match e.sl[i]? with
  | some (.dat d) => some (d, e.set i .no)
  | _ => none
theorem re_move {i : Nat} : RE K (tVar i) (mMove i) := by
  intro e d e' q bv fp al σ H Q r k
  unfold mMove at q
  split at q
  · rename_i c h1
    cases q
    obtain ⟨v, f, hv, o, hs, r'⟩ := r.take h1
    have r0 := r
    obtain ⟨fo, F, rf⟩ := r
    refine ⟨v, hv, k v H _ al f ⟨r', fun _ z _ => z, ⟨fun p u q _ => q, fun p z => ?_, fun p u q => ⟨u, q⟩⟩, fun a z => ⟨fun w => w.2 z, rf.sup a (hs a z), o.alive a z⟩⟩ o⟩
    rcases z with z | z
    · exact .inl z.1
    · exact .inl (hs p z)
  · cases q

/-! ### operations: what is asked of a rule's reading -/
def Fr1 (K : PySem.W.Frag) (r : V → Hp → VK → Prop) (f : PyData → Option PyData) : Prop := ∀ (d c : PyData), f d = some c → ∀ (x : V) (H : Hp) (Q : VK), W0 K H x d →
  (∀ (v : V) (H' : Hp) (fv : List Addr), Same H H' → Own K H' v c fv → (∀ a ∈ fv, H a = none) → Q v H') → r x H Q
def Fr2 (K : PySem.W.Frag) (r : R2) (f : PyData → PyData → Option PyData) : Prop := ∀ (d d' c : PyData), f d d' = some c → ∀ (x y : V) (H : Hp) (Q : VK), W0 K H x d → W0 K H y d' →
  (∀ (v : V) (H' : Hp) (fv : List Addr), Same H H' → Own K H' v c fv → (∀ a ∈ fv, H a = none) → Q v H') → r x y H Q
def FrN (K : PySem.W.Frag) (r : List V → Hp → VK → Prop) (f : List PyData → Option PyData) : Prop := ∀ (ds : List PyData) (c : PyData), f ds = some c → ∀ (xs : List V) (H : Hp) (Q : VK), W0A K H xs ds →
  (∀ (v : V) (H' : Hp) (fv : List Addr), Same H H' → Own K H' v c fv → (∀ a ∈ fv, H a = none) → Q v H') → r xs H Q
theorem To.newv {v : V} {d : PyData} {fv : List Addr} (a : To K bv σ fp al H e' T fp' al' H1) (s : Same H1 H') (o : Own K H' v d fv) (n : ∀ a ∈ fv, H1 a = none) : To K bv σ fp al H e' (· ∈ fv) fp' (fun x => al' x ∨ x ∈ fv) H' :=
  a.fresh s fun p z => .inr ⟨n p z, o.alive p z⟩
def mOp1 (f : PyData → Option PyData) (a : MO) : ME := fun e => (a e).bind fun p => (p.1.look p.2).bind fun x => (f x).bind fun c => some (c, p.2)
theorem re_op1 {r : V → Hp → VK → Prop} {f : PyData → Option PyData} {ta : TE} {ma : MO} (hr : Fr1 K r f) (ha : RO K ta ma) : RE K (tUn r ta) (mOp1 f ma) := by
  intro e d e' q bv fp al σ H Q rr k
  obtain ⟨⟨o, e1⟩, h1, q⟩ := Option.bind_eq_some_iff.mp q
  obtain ⟨x, h2, q⟩ := Option.bind_eq_some_iff.mp q
  obtain ⟨c, h3, q⟩ := Option.bind_eq_some_iff.mp q
  cases q
  refine ha e o e1 h1 bv fp al σ H _ rr fun v H1 fp1 al1 f1 to o1 => ?_
  exact hr x _ h3 v H1 Q (o1.w0 to.rr h2) fun w H2 f2 s ow n => k w H2 _ _ f2 (to.newv s ow n) ow
def mOp2 (f : PyData → PyData → Option PyData) (a b : MO) : ME := fun e => (a e).bind fun p => (b p.2).bind fun q => (p.1.look q.2).bind fun x => (q.1.look q.2).bind fun y => (f x y).bind fun c => some (c, q.2)
/-- two operands in a row -/
theorem two {ta tb : TE} {ma mb : MO} {o o' : Opd} {e e1 e2 : Dl.Env} (ha : RO K ta ma) (hb : RO K tb mb) (h1 : ma e = some (o, e1)) (h2 : mb e1 = some (o', e2)) {k : V → V → Hp → Prop} (rr : RR K bv e fp al σ H)
    (h : ∀ (v w : V) (H' : Hp) (fp' al' : Addr → Prop) (f g : List Addr), To K bv σ fp al H e2 (fun a => a ∈ f ∨ a ∈ g) fp' al' H' → OpdAt K σ H' o v f → OpdAt K σ H' o' w g → (∀ a ∈ f, a ∉ g) → k v w H') :
    ta σ H fun x H1 => tb σ H1 fun y H2 => k x y H2 := by
  refine ha e o e1 h1 bv fp al σ H _ rr fun v H1 fp1 al1 f1 to1 o1 => ?_
  refine hb e1 o' e2 h2 bv fp1 al1 σ H1 _ to1.rr fun w H2 fp2 al2 f2 to2 o2 => ?_
  refine h v w H2 fp2 al2 f1 f2 (to1.trans to2) (o1.step to2.step fun a z => (to1.tmp a z).1) o2 fun a z z' => ?_
  rcases to2.step.new a (.inr z') with y | y
  · exact (to1.tmp a z).1 y
  · obtain ⟨u, hu⟩ := (to1.tmp a z).2.2
    rw [y] at hu; cases hu
theorem re_op2 {r : R2} {f : PyData → PyData → Option PyData} {ta tb : TE} {ma mb : MO} (hr : Fr2 K r f) (ha : RO K ta ma) (hb : RO K tb mb) : RE K (tOp r ta tb) (mOp2 f ma mb) := by
  intro e d e' q bv fp al σ H Q rr k
  obtain ⟨⟨o, e1⟩, h1, q⟩ := Option.bind_eq_some_iff.mp q
  obtain ⟨⟨o', e2⟩, h2, q⟩ := Option.bind_eq_some_iff.mp q
  obtain ⟨x, h3, q⟩ := Option.bind_eq_some_iff.mp q
  obtain ⟨y, h4, q⟩ := Option.bind_eq_some_iff.mp q
  obtain ⟨c, h5, q⟩ := Option.bind_eq_some_iff.mp q
  cases q
  refine two ha hb h1 h2 (k := fun x y H => r x y H Q) rr fun v w H2 fp2 al2 f1 f2 to o1 o2 _ => ?_
  exact hr x y _ h5 v w H2 Q (o1.w0 to.rr h3) (o2.w0 to.rr h4) fun z H3 f3 s ow n => k z H3 _ _ f3 (to.newv s ow n) ow

/-! ### arguments -/
def aNil : MA := fun e => some ([], e)
def aCons (a : MO) (r : MA) : MA := fun e => (a e).bind fun p => (r p.2).bind fun q => some (p.1 :: q.1, q.2)
theorem OpdsAt.step {os : List Opd} {vs : List V} {f : List Addr} (h : OpdsAt K σ H os vs f) (s : Step fp H fp' H') (n : ∀ a ∈ f, ¬ fp a) : OpdsAt K σ H' os vs f := by
  induction h with
  | nil => exact .nil
  | cons a b dj ih => exact .cons (a.step s fun x z => n x (List.mem_append_left _ z)) (ih fun x z => n x (List.mem_append_right _ z)) dj
theorem ra_nil : RA K tNil aNil := by
  intro e os e' q bv fp al σ H Q rr k
  cases q
  exact k [] H fp al [] ((To.refl rr).less fun p z => by cases z) .nil
theorem ra_cons {ta : TE} {tr : TA} {ma : MO} {mr : MA} (ha : RO K ta ma) (hr : RA K tr mr) : RA K (tCons ta tr) (aCons ma mr) := by
  intro e os e' q bv fp al σ H Q rr k
  obtain ⟨⟨o, e1⟩, h1, q⟩ := Option.bind_eq_some_iff.mp q
  obtain ⟨⟨os', e2⟩, h2, q⟩ := Option.bind_eq_some_iff.mp q
  cases q
  refine ha e o e1 h1 bv fp al σ H _ rr fun v H1 fp1 al1 f1 to1 o1 => ?_
  refine hr e1 os' e2 h2 bv fp1 al1 σ H1 _ to1.rr fun vs H2 fp2 al2 f2 to2 o2 => ?_
  refine k (v :: vs) H2 fp2 al2 (f1 ++ f2) ((to1.trans to2).less fun p z => List.mem_append.mp z) (.cons (o1.step to2.step fun a z => (to1.tmp a z).1) o2 fun a z z' => ?_)
  rcases to2.step.new a (.inr z') with y | y
  · exact (to1.tmp a z).1 y
  · obtain ⟨u, hu⟩ := (to1.tmp a z).2.2
    rw [y] at hu; cases hu
def looks (e : Dl.Env) : List Opd → Option (List PyData)
  | [] => some []
  | o :: r => (o.look e).bind fun d => (looks e r).bind fun ds => some (d :: ds)
theorem OpdsAt.w0 {os : List Opd} {vs : List V} {f : List Addr} {ds : List PyData} (h : OpdsAt K σ H os vs f) (r : RR K bv e fp al σ H) (l : looks e os = some ds) : W0A K H vs ds := by
  induction h generalizing ds with
  | nil => cases l; exact .nil
  | cons a b dj ih =>
    obtain ⟨d, h1, l⟩ := Option.bind_eq_some_iff.mp l
    obtain ⟨ds', h2, l⟩ := Option.bind_eq_some_iff.mp l
    cases l
    exact .cons (a.w0 r h1) (ih h2)
/-- .. that hold no list, or are given away -/
def opdV (e : Dl.Env) : Opd → Option PyData
  | .val d => some d
  | .var i => (e.look i).bind fun d => if imm d then some d else none
def opdsV (e : Dl.Env) : List Opd → Option (List PyData)
  | [] => some []
  | o :: r => (opdV e o).bind fun d => (opdsV e r).bind fun ds => some (d :: ds)
theorem OpdsAt.own {os : List Opd} {vs : List V} {f : List Addr} {ds : List PyData} (h : OpdsAt K σ H os vs f) (r : RR K bv e fp al σ H) (l : opdsV e os = some ds) : ∃ g, OwnA K H vs ds g ∧ ∀ a ∈ g, a ∈ f := by
  induction h generalizing ds with
  | nil => cases l; exact ⟨[], .nil, fun _ z => z⟩
  | @cons o os v vs f1 f2 a b dj ih =>
    obtain ⟨d, h1, l⟩ := Option.bind_eq_some_iff.mp l
    obtain ⟨ds', h2, l⟩ := Option.bind_eq_some_iff.mp l
    cases l
    obtain ⟨g2, o2, s2⟩ := ih h2
    have one : ∃ g1, Own K H v d g1 ∧ ∀ a ∈ g1, a ∈ f1 := by
      cases o with
      | val c => cases h1; exact ⟨f1, a, fun _ z => z⟩
      | var i =>
        obtain ⟨c, h3, h4⟩ := Option.bind_eq_some_iff.mp h1
        split at h4
        · rename_i hi
          cases h4
          exact ⟨[], (r.val h3 a.1).own hi, fun _ z => by cases z⟩
        · cases h4
    obtain ⟨g1, o1, s1⟩ := one
    refine ⟨g1 ++ g2, .cons o1 o2 fun x z z' => dj x (s1 x z) (s2 x z'), fun x z => ?_⟩
    rcases List.mem_append.mp z with z | z
    · exact List.mem_append_left _ (s1 x z)
    · exact List.mem_append_right _ (s2 x z)
/-- displays -/
def mTup (a : MA) : ME := fun e => (a e).bind fun p => (opdsV p.2 p.1).bind fun ds => if ds.length ≤ 16777216 then some (.tuple ds, p.2) else none
def mLst (a : MA) : ME := fun e => (a e).bind fun p => (opdsV p.2 p.1).bind fun ds => if ds.length ≤ 16777216 then some (.list ds, p.2) else none
theorem same_upd {H : Hp} {p : Addr} {o : HO} (h : H p = none) : Same H (upd H p o) := fun b u q => by
  rw [upd_ne (ne_of_none q h)]; exact q
theorem re_tup {t : TA} {m : MA} (h : RA K t m) : RE K (tTup t) (mTup m) := by
  intro e d e' q bv fp al σ H Q rr k
  obtain ⟨⟨os, e1⟩, h1, q⟩ := Option.bind_eq_some_iff.mp q
  obtain ⟨ds, h2, q⟩ := Option.bind_eq_some_iff.mp q
  split at q
  · rename_i hz
    cases q
    refine h e os e1 h1 bv fp al σ H _ rr fun vs H1 fp1 al1 f1 to o1 => ?_
    obtain ⟨g, og, sg⟩ := o1.own to.rr h2
    refine ⟨by rw [og.length, sizeLine_eq]; exact hz, fun p hp => ?_⟩
    have s : Same H1 (upd H1 p (.tup vs)) := same_upd hp
    have st : Step (fun _ => False) H1 (fun _ => False) (upd H1 p (.tup vs)) := .of_same s fun _ z => z.elim
    refine k _ _ _ _ g (to.fresh s fun a z => .inl (sg a z)) (.tup upd_same (og.step st fun _ _ z => z))
  · cases q
theorem re_lst {t : TA} {m : MA} (h : RA K t m) : RE K (tLst t) (mLst m) := by
  intro e d e' q bv fp al σ H Q rr k
  obtain ⟨⟨os, e1⟩, h1, q⟩ := Option.bind_eq_some_iff.mp q
  obtain ⟨ds, h2, q⟩ := Option.bind_eq_some_iff.mp q
  split at q
  · rename_i hz
    cases q
    refine h e os e1 h1 bv fp al σ H _ rr fun vs H1 fp1 al1 f1 to o1 => ?_
    obtain ⟨g, og, sg⟩ := o1.own to.rr h2
    refine ⟨by rw [og.length, sizeLine_eq]; exact hz, fun p hp => ?_⟩
    have s : Same H1 (upd H1 p (.lst vs)) := same_upd hp
    have st : Step (fun _ => False) H1 (fun _ => False) (upd H1 p (.lst vs)) := .of_same s fun _ z => z.elim
    have np : p ∉ g := fun z => by
      obtain ⟨u, hu⟩ := og.alive p z
      rw [hp] at hu; cases hu
    refine k _ _ _ _ (p :: g) (to.fresh s fun a z => ?_) (.lst upd_same (og.step st fun _ _ z => z) np)
    rcases List.mem_cons.mp z with rfl | z
    · exact .inr ⟨hp, _, upd_same⟩
    · exact .inl (sg a z)
  · cases q

/-! ### calls -/
def mCall (f : List PyData → Option PyData) (a : MA) : ME := fun e => (a e).bind fun p => (looks p.2 p.1).bind fun ds => (f ds).bind fun c => some (c, p.2)
theorem re_fr {r : List V → Hp → VK → Prop} {f : List PyData → Option PyData} {t : TA} {m : MA} (hr : FrN K r f) (h : RA K t m) : RE K (fun σ H Q => t σ H fun vs H1 => r vs H1 Q) (mCall f m) := by
  intro e d e' q bv fp al σ H Q rr k
  obtain ⟨⟨os, e1⟩, h1, q⟩ := Option.bind_eq_some_iff.mp q
  obtain ⟨ds, h2, q⟩ := Option.bind_eq_some_iff.mp q
  obtain ⟨c, h3, q⟩ := Option.bind_eq_some_iff.mp q
  cases q
  refine h e os e1 h1 bv fp al σ H _ rr fun vs H1 fp1 al1 f1 to o1 => ?_
  exact hr ds _ h3 vs H1 Q (o1.w0 to.rr h2) fun w H2 f2 s ow n => k w H2 _ _ f2 (to.newv s ow n) ow
theorem re_callB {r : List V → Hp → VK → Prop} {f : List PyData → Option PyData} {t : TA} {m : MA} (hr : FrN K r f) (h : RA K t m) : RE K (tCB r t) (mCall f m) := re_fr hr h
/-- the promise of a def that changes nothing -/
def spP (K : PySem.W.Frag) (n : Nat) (f : List PyData → Option PyData) : Sp := fun vs H Q _ => ∃ ds c, f ds = some c ∧ ds.length = n ∧ W0A K H vs ds ∧
  ∀ (v : V) (H' : Hp) (fv : List Addr), Same H H' → Own K H' v c fv → (∀ a ∈ fv, H a = none) → Q v H'
theorem spP_len {K : PySem.W.Frag} {n : Nat} {f : List PyData → Option PyData} : ∀ vs H Q E, spP K n f vs H Q E → vs.length = n := by
  intro vs H Q E h
  obtain ⟨ds, c, _, hn, w, _⟩ := h
  rw [w.length, hn]
def mFn (n : Nat) (f : List PyData → Option PyData) : List PyData → Option PyData := fun ds => if ds.length = n then f ds else none
theorem re_call {n : Nat} {f : List PyData → Option PyData} {t : TA} {m : MA} {E : XK} (h : RA K t m) : RE K (tCall (spP K n f) [] E t) (mCall (mFn n f) m) := by
  refine re_fr (r := fun vs H Q => spP K n f (vs ++ []) H Q E) (fun ds c hf xs H Q w k => ?_) h
  unfold mFn at hf
  split at hf
  · rename_i hn
    rw [List.append_nil]
    exact ⟨ds, c, hf, hn, w, k⟩
  · cases hf
/-- the promise of a def that changes the object that its first parameter is -/
def spB (K : PySem.W.Frag) (n : Nat) (f : PyData → List PyData → Option (PyData × PyData)) : Sp := fun vs H Q _ => ∃ vb vs' fb b ds c b', vs = vb :: vs' ∧ f b ds = some (c, b') ∧ ds.length = n ∧ Own K H vb b fb ∧ WkA K H (· ∉ fb) vs' ds ∧
  ∀ (v : V) (H' : Hp) (fb' fv : List Addr), Own K H' vb b' fb' → Own K H' v c fv → (∀ a ∈ fv, a ∉ fb') → Step (· ∈ fb) H (fun a => a ∈ fb' ∨ a ∈ fv) H' → Q v H'
theorem spB_len {K : PySem.W.Frag} {n : Nat} {f : PyData → List PyData → Option (PyData × PyData)} : ∀ vs H Q E, spB K n f vs H Q E → vs.length = n + 1 := by
  intro vs H Q E h
  obtain ⟨vb, vs', fb, b, ds, c, b', rfl, _, hn, _, w, _⟩ := h
  rw [List.length_cons, w.length, hn]
/-- two places that differ -/
def nix : Option Ix → Option Ix → Bool
  | none, none => false
  | some (.inl a), some (.inl b) => !(a == b)
  | some (.inr a), some (.inr b) => !(a == b)
  | _, _ => true
theorem nix_ne {x y : Option Ix} (h : nix x y = true) : x ≠ y := by
  rintro rfl
  rcases x with _ | ⟨a | a⟩ <;> simp [nix] at h
theorem nix_n (x : Ix) : nix none (some x) = true := by cases x <;> rfl
/-- arguments beside the object that is lent -/
def okArg (e : Dl.Env) (i : Nat) : Opd → Bool
  | .val _ => true
  | .var j => match e.look j with
    | some d => imm d || nix (e.ix j) (e.ix i)
    | none => false
def mCallB (n : Nat) (f : PyData → List PyData → Option (PyData × PyData)) (i : Nat) (a : MA) : ME := fun e => (e.look i).bind fun _ => (a e).bind fun p => (looks p.2 p.1).bind fun ds => (p.2.ix i).bind fun x => (p.2.own x).bind fun b =>
  if (p.1.all (okArg p.2 i)) = true ∧ ds.length = n then (f b ds).bind fun q => some (q.1, p.2.put x q.2) else none
theorem re_callBor {n : Nat} {f : PyData → List PyData → Option (PyData × PyData)} {i : Nat} {t : TA} {m : MA} {E : XK} (h : RA K t m) : RE K (tCall (spB K n f) [] E (tCons (tVar i) t)) (mCallB n f i m) := by
  intro e d e' q bv fp al σ H Q rr k
  obtain ⟨d0, h0, q⟩ := Option.bind_eq_some_iff.mp q
  obtain ⟨⟨os, e1⟩, h1, q⟩ := Option.bind_eq_some_iff.mp q
  obtain ⟨ds, h2, q⟩ := Option.bind_eq_some_iff.mp q
  obtain ⟨x, h3, q⟩ := Option.bind_eq_some_iff.mp q
  obtain ⟨b, h4, q⟩ := Option.bind_eq_some_iff.mp q
  split at q
  · rename_i hok
    obtain ⟨⟨c, b'⟩, h5, q⟩ := Option.bind_eq_some_iff.mp q
    cases q
    obtain ⟨vb, hvb, _⟩ := rr.look h0
    refine ⟨vb, hvb, h e os e1 h1 bv fp al σ H _ rr fun vs H1 fp1 al1 f1 to o1 => ?_⟩
    obtain ⟨vb', fb, hv2, _, ob, hsub, upd', oth⟩ := to.rr.focus h3 h4
    rw [hvb] at hv2; cases hv2
    have wk : WkA K H1 (· ∉ fb) vs ds := by
      have all : ∀ {os : List Opd} {vs : List V} {f : List Addr} {ds : List PyData}, OpdsAt K σ H1 os vs f → looks e1 os = some ds → os.all (okArg e1 i) = true → (∀ a ∈ f, ¬ fp1 a) → WkA K H1 (· ∉ fb) vs ds := by
        intro os vs f ds ha
        induction ha generalizing ds with
        | nil => intro l _ _; cases l; exact .nil
        | @cons o os v vs f1 f2 a b dj ih =>
          intro l hk hn
          obtain ⟨d, l1, l⟩ := Option.bind_eq_some_iff.mp l
          obtain ⟨ds', l2, l⟩ := Option.bind_eq_some_iff.mp l
          cases l
          rw [List.all_cons, Bool.and_eq_true] at hk
          refine .cons ?_ (ih l2 hk.2 fun x z => hn x (List.mem_append_right _ z))
          cases o with
          | val c => cases l1; exact Own.wk a fun x z z' => hn x (List.mem_append_left _ z) (hsub x z')
          | var j =>
            have l1' : e1.look j = some d := l1
            have hk1 := hk.1
            unfold okArg at hk1
            simp only [l1', Bool.or_eq_true, decide_eq_true_eq] at hk1
            rcases hk1 with hk1 | hk1
            · exact ((to.rr.val l1' a.1).own hk1).wk fun x z => by cases z
            · obtain ⟨w, q1, q2⟩ := oth j d l1' (nix_ne (by rw [h3] at hk1; exact hk1))
              rw [a.1] at q1; cases q1
              exact q2
      exact all o1 h2 hok.1 fun a z => (to.tmp a z).1
    have hrr := to.rr
    obtain ⟨fo, F, rf⟩ := hrr
    refine ⟨vb, vs ++ [], fb, b, ds, _, b', rfl, h5, hok.2, ob, by rw [List.append_nil]; exact wk, fun v H' fb' fv ob' ov dj st => ?_⟩
    have st1 : Step (· ∈ fb) H1 (· ∈ fb) H' := ⟨st.stay, fun _ z => .inl z, st.live⟩
    have fresh : ∀ a, a ∈ fv ∨ a ∈ fb' → a ∈ fb ∨ H1 a = none := fun a z => st.new a z.symm
    have inl : ∀ a, a ∈ fb' → a ∈ fb ∨ (¬ fp1 a ∧ (al1 a ∨ a ∈ fb' ∨ a ∈ fv)) := fun a z => by
      rcases fresh a (.inr z) with y | y
      · exact .inl y
      · refine .inr ⟨fun w => ?_, .inr (.inl z)⟩
        obtain ⟨u, hu⟩ := rf.alv a w
        rw [y] at hu; cases hu
    have r2 := upd' H' b' fb' (fun a => al1 a ∨ a ∈ fb' ∨ a ∈ fv) st1 ob' inl (fun a z => .inl z) (fun a z => by
      rcases z with z | z
      · exact .inl z
      · rcases fresh a z.symm with y | y
        · exact .inl (rf.sup a (hsub a y))
        · exact .inr y)
    refine k v H' _ _ fv ⟨r2, fun a z y => .inl (to.mono a z y), ?_, fun a z => ⟨?_, .inr (.inr z), ov.alive a z⟩⟩ ov
    · have s2 : Step (fun a => fp1 a ∨ a ∈ f1) H1 (fun a => ((fp1 a ∧ a ∉ fb) ∨ a ∈ fb') ∨ a ∈ fv) H' := by
        refine ⟨fun p u hu hp => st.stay p u hu ?_, fun p hp => ?_, st.live⟩
        · rcases hp with hp | hp
          · exact .inl fun z => hp (.inl (hsub p z))
          · exact .inr hp
        · rcases hp with (hp | hp) | hp
          · exact .inl (.inl hp.1)
          · rcases fresh p (.inr hp) with y | y
            · exact .inl (.inl (hsub p y))
            · exact .inr y
          · rcases fresh p (.inl hp) with y | y
            · exact .inl (.inl (hsub p y))
            · exact .inr y
      exact to.step.trans s2
    · intro w
      rcases w with w | w
      · rcases fresh a (.inl z) with y | y
        · exact w.2 y
        · obtain ⟨u, hu⟩ := rf.alv a w.1
          rw [y] at hu; cases hu
      · exact dj a z w
  · cases q

/-! ### tests, either .. or -/
def tBool (m : ME) : MT := fun e => (m e).bind fun p => match p.1 with
  | .bool b => some (b, p.2)
  | _ => none
theorem tBool_some {m : ME} {e e' : Dl.Env} {b : Bool} (h : tBool m e = some (b, e')) : m e = some (.bool b, e') := by
  obtain ⟨⟨d, e1⟩, h1, q⟩ := Option.bind_eq_some_iff.mp h
  dsimp only at q
  split at q
  · cases q; exact h1
  · cases q
theorem rt_test {t : TE} {m : ME} (h : RE K t m) : RT K (tTest t) (tBool m) := by
  intro e b e' q bv fp al σ H Q rr k
  refine h e _ e' (tBool_some q) bv fp al σ H _ rr fun v H' fp' al' fv to o => ⟨b, o.w0.blI, k H' fp' al' (to.less fun _ z => z.elim)⟩
theorem rt_tB {t : TE} {m : ME} (h : RE K t m) : RT K (tB t) (tBool m) := rt_test h
def tAndM (a b : MT) : MT := fun e => (a e).bind fun p => if p.1 = true then b p.2 else some (false, p.2)
def tOrM (a b : MT) : MT := fun e => (a e).bind fun p => if p.1 = true then some (true, p.2) else b p.2
def tNotM (a : MT) : MT := fun e => (a e).bind fun p => some (!p.1, p.2)
theorem To.thn (a : To K bv σ fp al H e1 (fun _ => False) fp1 al1 H1) (b : To K bv σ fp1 al1 H1 e2 T2 fp2 al2 H2) : To K bv σ fp al H e2 T2 fp2 al2 H2 := (a.trans b).less fun _ z => .inr z
theorem rt_and {t u : TT} {a b : MT} (ha : RT K t a) (hb : RT K u b) : RT K (tAnd t u) (tAndM a b) := by
  intro e c e' q bv fp al σ H Q rr k
  obtain ⟨⟨d, e1⟩, h1, q⟩ := Option.bind_eq_some_iff.mp q
  refine ha e d e1 h1 bv fp al σ H _ rr fun H1 fp1 al1 to1 => ?_
  cases d with
  | true => exact hb e1 c e' q bv fp1 al1 σ H1 Q to1.rr fun H2 fp2 al2 to2 => k H2 fp2 al2 (to1.thn to2)
  | false => cases q; exact k H1 fp1 al1 to1
theorem rt_or {t u : TT} {a b : MT} (ha : RT K t a) (hb : RT K u b) : RT K (tOr t u) (tOrM a b) := by
  intro e c e' q bv fp al σ H Q rr k
  obtain ⟨⟨d, e1⟩, h1, q⟩ := Option.bind_eq_some_iff.mp q
  refine ha e d e1 h1 bv fp al σ H _ rr fun H1 fp1 al1 to1 => ?_
  cases d with
  | false => exact hb e1 c e' q bv fp1 al1 σ H1 Q to1.rr fun H2 fp2 al2 to2 => k H2 fp2 al2 (to1.thn to2)
  | true => cases q; exact k H1 fp1 al1 to1
theorem rt_not {t : TT} {a : MT} (ha : RT K t a) : RT K (tNot t) (tNotM a) := by
  intro e c e' q bv fp al σ H Q rr k
  obtain ⟨⟨d, e1⟩, h1, q⟩ := Option.bind_eq_some_iff.mp q
  cases q
  exact ha e d e1 h1 bv fp al σ H _ rr fun H1 fp1 al1 to1 => k H1 fp1 al1 to1
def tTrue : MT := fun e => some (true, e)
theorem rt_yes : RT K tYes tTrue := by
  intro e c e' q bv fp al σ H Q rr k
  cases q
  exact k H fp al (To.refl rr)
/-- .. as values -/
def mAndV (a b : ME) : ME := fun e => (tBool a e).bind fun p => if p.1 = true then b p.2 else some (.bool false, p.2)
def mOrV (a b : ME) : ME := fun e => (tBool a e).bind fun p => if p.1 = true then some (.bool true, p.2) else b p.2
def mNotV (a : ME) : ME := fun e => (tBool a e).bind fun p => some (.bool !p.1, p.2)
theorem re_andV {t u : TE} {a b : ME} (ha : RE K t a) (hb : RE K u b) : RE K (tAndV t u) (mAndV a b) := by
  intro e c e' q bv fp al σ H Q rr k
  obtain ⟨⟨d, e1⟩, h1, q⟩ := Option.bind_eq_some_iff.mp q
  refine ha e _ e1 (tBool_some h1) bv fp al σ H _ rr fun v H1 fp1 al1 fv to1 o1 => ⟨d, o1.w0.blI, ?_⟩
  have to1' := to1.less (T1 := fun _ => False) fun _ z => z.elim
  cases d with
  | true => exact hb e1 c e' q bv fp1 al1 σ H1 Q to1.rr fun w H2 fp2 al2 f2 to2 o2 => k w H2 fp2 al2 f2 (to1'.thn to2) o2
  | false => cases q; exact k _ H1 fp1 al1 [] (to1'.less fun _ z => by cases z) (.bl false)
theorem re_orV {t u : TE} {a b : ME} (ha : RE K t a) (hb : RE K u b) : RE K (tOrV t u) (mOrV a b) := by
  intro e c e' q bv fp al σ H Q rr k
  obtain ⟨⟨d, e1⟩, h1, q⟩ := Option.bind_eq_some_iff.mp q
  refine ha e _ e1 (tBool_some h1) bv fp al σ H _ rr fun v H1 fp1 al1 fv to1 o1 => ⟨d, o1.w0.blI, ?_⟩
  have to1' := to1.less (T1 := fun _ => False) fun _ z => z.elim
  cases d with
  | false => exact hb e1 c e' q bv fp1 al1 σ H1 Q to1.rr fun w H2 fp2 al2 f2 to2 o2 => k w H2 fp2 al2 f2 (to1'.thn to2) o2
  | true => cases q; exact k _ H1 fp1 al1 [] (to1'.less fun _ z => by cases z) (.bl true)
theorem re_notV {t : TE} {a : ME} (ha : RE K t a) : RE K (tNotV t) (mNotV a) := by
  intro e c e' q bv fp al σ H Q rr k
  obtain ⟨⟨d, e1⟩, h1, q⟩ := Option.bind_eq_some_iff.mp q
  cases q
  refine ha e _ e1 (tBool_some h1) bv fp al σ H _ rr fun v H1 fp1 al1 fv to1 o1 => ⟨d, o1.w0.blI, ?_⟩
  exact k _ H1 fp1 al1 [] (to1.less fun _ z => by cases z) (.bl _)
def mIf (t : MT) (a b : ME) : ME := fun e => (t e).bind fun p => if p.1 = true then a p.2 else b p.2
theorem re_if {t : TT} {ta tb : TE} {m : MT} {a b : ME} (ht : RT K t m) (ha : RE K ta a) (hb : RE K tb b) : RE K (tIf t ta tb) (mIf m a b) := by
  intro e c e' q bv fp al σ H Q rr k
  obtain ⟨⟨d, e1⟩, h1, q⟩ := Option.bind_eq_some_iff.mp q
  refine ht e d e1 h1 bv fp al σ H _ rr fun H1 fp1 al1 to1 => ?_
  cases d with
  | true => exact ha e1 c e' q bv fp1 al1 σ H1 Q to1.rr fun w H2 fp2 al2 f2 to2 o2 => k w H2 fp2 al2 f2 (to1.thn to2) o2
  | false => exact hb e1 c e' q bv fp1 al1 σ H1 Q to1.rr fun w H2 fp2 al2 f2 to2 o2 => k w H2 fp2 al2 f2 (to1.thn to2) o2
/-- a op b op' c of ints: each by its own rule -/
def opInt : Opd → Dl.Env → Option Int
  | .val (.int i), _ => some i
  | .var j, e => match e.look j with | some (.int i) => some i | _ => none
  | _, _ => none
def mChain (p p' : Int → Int → Bool) (a b c : MO) : ME := fun e => (a e).bind fun x => (b x.2).bind fun y => (opInt x.1 y.2).bind fun i => (opInt y.1 y.2).bind fun j =>
  if p i j = true then (c y.2).bind fun z => (opInt z.1 z.2).bind fun l => some (.bool (p' j l), z.2) else some (.bool false, y.2)
theorem opInt_look {o : Opd} {e : Dl.Env} {i : Int} (h : opInt o e = some i) : o.look e = some (.int i) := by
  unfold opInt at h
  split at h
  · cases h; rfl
  · split at h
    · cases h; assumption
    · cases h
  · cases h
theorem re_chain {p p' : Int → Int → Bool} {ta tb tc : TE} {a b c : MO} (ha : RO K ta a) (hb : RO K tb b) (hc : RO K tc c) : RE K (tChain (rI0 fun i j => .bl (p i j)) (rI0 fun i j => .bl (p' i j)) ta tb tc) (mChain p p' a b c) := by
  intro e d e' q bv fp al σ H Q rr k
  obtain ⟨⟨x, e1⟩, h1, q⟩ := Option.bind_eq_some_iff.mp q
  obtain ⟨⟨y, e2⟩, h2, q⟩ := Option.bind_eq_some_iff.mp q
  obtain ⟨i, h3, q⟩ := Option.bind_eq_some_iff.mp q
  obtain ⟨j, h4, q⟩ := Option.bind_eq_some_iff.mp q
  refine two ha hb h1 h2 rr fun v w H2 fp2 al2 f1 f2 to o1 o2 dj => ?_
  have e1' := (o1.w0 to.rr (opInt_look h3)).intI
  have e2' := (o2.w0 to.rr (opInt_look h4)).intI
  subst e1' e2'
  refine ⟨i, j, rfl, rfl, p i j, rfl, ?_⟩
  have to' := to.less (T1 := fun _ => False) fun _ z => z.elim
  split at q
  · rename_i hp
    rw [if_pos hp]
    obtain ⟨⟨z, e3⟩, h5, q⟩ := Option.bind_eq_some_iff.mp q
    obtain ⟨l, h6, q⟩ := Option.bind_eq_some_iff.mp q
    cases q
    refine hc e2 z e3 h5 bv fp2 al2 σ H2 _ to.rr fun u H3 fp3 al3 f3 to3 o3 => ?_
    have e3' := (o3.w0 to3.rr (opInt_look h6)).intI
    subst e3'
    exact ⟨j, l, rfl, rfl, k _ H3 fp3 al3 [] ((to'.thn to3).less fun _ z => by cases z) (.bl _)⟩
  · rename_i hp
    rw [if_neg hp]
    cases q
    exact k _ H2 fp2 al2 [] (to'.less fun _ z => by cases z) (.bl _)
end
end Dl
/-! statements, targets, loops, comprehensions, defs -/
namespace Dl
open PySem L2

inductive Out where
  | nx (e : Dl.Env) | ret (d : PyData) (bo : List PyData) | bk (e : Dl.Env) | ct (e : Dl.Env)
abbrev MS := Dl.Env → Option Out
/-- what was lent, at a return -/
def RB (K : PySem.W.Frag) (bv : List V) (bo : List PyData) (fb : Addr → Prop) (H : Hp) : Prop := ∃ F : Nat → List Addr, (∀ (k : Nat) (d : PyData), bo[k]? = some d → ∃ v, bv[k]? = some v ∧ Own K H v d (F k)) ∧ (∀ k, ∀ a ∈ F k, fb a) ∧ ∀ j k, j ≠ k → ∀ a ∈ F j, a ∉ F k
/-- what is wanted behind a statement that ends so -/
def Ends' (K : PySem.W.Frag) (bv : List V) (fp : Addr → Prop) (H : Hp) (D : Ends) : Out → Prop
  | .nx e' => ∀ (σ' : St) (H' : Hp) (fp' : Addr → Prop), RR K bv e' fp' fp' σ' H' → Step fp H fp' H' → D.nx σ' H'
  | .bk e' => ∀ (σ' : St) (H' : Hp) (fp' : Addr → Prop), RR K bv e' fp' fp' σ' H' → Step fp H fp' H' → D.bk σ' H'
  | .ct e' => ∀ (σ' : St) (H' : Hp) (fp' : Addr → Prop), RR K bv e' fp' fp' σ' H' → Step fp H fp' H' → D.ct σ' H'
  | .ret d bo => ∀ (v : V) (H' : Hp) (fb : Addr → Prop) (fv : List Addr), RB K bv bo fb H' → Own K H' v d fv → (∀ a ∈ fv, ¬ fb a) → Step fp H (fun a => fb a ∨ a ∈ fv) H' → D.rt v H'
def RS (K : PySem.W.Frag) (t : TS) (m : MS) : Prop := ∀ (e : Dl.Env) (o : Out), m e = some o → ∀ (bv : List V) (fp : Addr → Prop) (σ : St) (H : Hp) (D : Ends), RR K bv e fp fp σ H → Ends' K bv fp H D o → t D σ H

section
variable {K : PySem.W.Frag} {bv : List V} {e e' e1 e2 : Dl.Env} {fp fp' fp1 fp2 al al' al1 al2 T T1 T2 : Addr → Prop} {σ : St} {H H' H1 H2 : Hp} {D : Ends}
theorem Ends'.step {o : Out} (h : Ends' K bv fp H D o) (s : Step fp H fp1 H1) : Ends' K bv fp1 H1 D o := by
  cases o with
  | nx e => exact fun σ' H' fp' r s' => h σ' H' fp' r (s.trans s')
  | bk e => exact fun σ' H' fp' r s' => h σ' H' fp' r (s.trans s')
  | ct e => exact fun σ' H' fp' r s' => h σ' H' fp' r (s.trans s')
  | ret d bo => exact fun v H' fb fv r o n s' => h v H' fb fv r o n (s.trans s')
theorem RF.rb {fo : Addr → Prop} {F : Ix → List Addr} (r : RF K bv e fp al σ H fo F) : RB K bv e.bo fp H :=
  ⟨fun k => F (.inr k), fun k d h => r.own (.inr k) d h, fun k => r.sub _, fun j k h => r.dis _ _ (by simpa using h)⟩
def sNil : MS := fun e => some (.nx e)
def sSeq (a b : MS) : MS := fun e => (a e).bind fun o => match o with
  | .nx e' => b e'
  | .ret d bo => some (.ret d bo)
  | .bk e' => some (.bk e')
  | .ct e' => some (.ct e')
theorem rs_nil : RS K tNext sNil := by
  intro e o q bv fp σ H D rr k
  cases q
  exact k σ H fp rr (Step.refl _ _)
theorem rs_seq {t u : TS} {a b : MS} (ha : RS K t a) (hb : RS K u b) : RS K (tSeq t u) (sSeq a b) := by
  intro e o q bv fp σ H D rr k
  obtain ⟨x, h1, q⟩ := Option.bind_eq_some_iff.mp q
  refine ha e x h1 bv fp σ H { D with nx := u D } rr ?_
  cases x with
  | nx e1 => exact fun σ' H' fp' r s => hb e1 o q bv fp' σ' H' D r (k.step s)
  | ret d bo => cases q; exact k
  | bk e1 => cases q; exact k
  | ct e1 => cases q; exact k
theorem rs_never {t : TS} : RS K t (fun _ => none) := by
  intro e o q
  cases q
def sBrk : MS := fun e => some (.bk e)
def sCnt : MS := fun e => some (.ct e)
theorem rs_brk : RS K tBreak sBrk := by
  intro e o q bv fp σ H D rr k
  cases q
  exact k σ H fp rr (Step.refl _ _)
theorem rs_cnt : RS K tCont sCnt := by
  intro e o q bv fp σ H D rr k
  cases q
  exact k σ H fp rr (Step.refl _ _)
def sDrop (m : ME) : MS := fun e => (m e).bind fun p => some (.nx p.2)
theorem To.end_ {T : Addr → Prop} (to : To K bv σ fp al H e' T fp' al' H') : RR K bv e' fp' fp' σ H' ∧ Step fp H fp' H' := by
  have r := to.rr
  obtain ⟨fo, F, rf⟩ := to.rr
  exact ⟨r.less (fun a z => rf.sup a z) fun _ z => z, to.step.sub fun _ z => .inl z⟩
theorem rs_drop {t : TE} {m : ME} (h : RE K t m) : RS K (tDrop t) (sDrop m) := by
  intro e o q bv fp σ H D rr k
  obtain ⟨⟨d, e1⟩, h1, q⟩ := Option.bind_eq_some_iff.mp q
  cases q
  exact h e d e1 h1 bv fp fp σ H _ rr fun v H' fp' al' fv to o => k σ H' fp' to.end_.1 to.end_.2
def sRet (m : ME) : MS := fun e => (m e).bind fun p => some (.ret p.1 p.2.bo)
theorem rs_ret {t : TE} {m : ME} (h : RE K t m) : RS K (tRet t) (sRet m) := by
  intro e o q bv fp σ H D rr k
  obtain ⟨⟨d, e1⟩, h1, q⟩ := Option.bind_eq_some_iff.mp q
  cases q
  refine h e d e1 h1 bv fp fp σ H _ rr fun v H' fp' al' fv to o => ?_
  obtain ⟨fo, F, rf⟩ := to.rr
  exact k v H' fp' fv rf.rb o (fun a z => (to.tmp a z).1) to.step
def sRetN : MS := fun e => some (.ret .none e.bo)
theorem rs_retN : RS K tRetN sRetN := by
  intro e o q bv fp σ H D rr k
  cases q
  obtain ⟨fo, F, rf⟩ := rr
  exact k .non H fp [] rf.rb .non (fun a z => by cases z) ⟨fun p u q _ => q, fun p z => z.elim .inl (fun z => by cases z), fun p u q => ⟨u, q⟩⟩
def sIf (t : MT) (a b : MS) : MS := fun e => (t e).bind fun p => if p.1 = true then a p.2 else b p.2
theorem rs_if {t : TT} {ta tb : TS} {m : MT} {a b : MS} (ht : RT K t m) (ha : RS K ta a) (hb : RS K tb b) : RS K (tIfS t ta tb) (sIf m a b) := by
  intro e o q bv fp σ H D rr k
  obtain ⟨⟨d, e1⟩, h1, q⟩ := Option.bind_eq_some_iff.mp q
  refine ht e d e1 h1 bv fp fp σ H _ rr fun H1 fp1 al1 to1 => ?_
  cases d with
  | true => exact ha e1 o q bv fp1 σ H1 D to1.end_.1 (k.step to1.end_.2)
  | false => exact hb e1 o q bv fp1 σ H1 D to1.end_.1 (k.step to1.end_.2)
/-- slots that nobody asks any more are forgotten -/
def Env.kills (e : Dl.Env) : List Nat → Dl.Env
  | [] => e
  | i :: r => (e.kills r).set i .no
theorem RR.kills (r : RR K bv e fp al σ H) : ∀ is : List Nat, RR K bv (e.kills is) fp al σ H
  | [] => r
  | i :: is => (RR.kills r is).kill i
def Out.kills (is : List Nat) : Out → Out
  | .nx e => .nx (e.kills is)
  | o => o
def sKill (is : List Nat) (m : MS) : MS := fun e => (m e).bind fun o => some (o.kills is)
theorem rs_kill {is : List Nat} {t : TS} {m : MS} (h : RS K t m) : RS K t (sKill is m) := by
  intro e o q bv fp σ H D rr k
  obtain ⟨x, h1, q⟩ := Option.bind_eq_some_iff.mp q
  cases q
  refine h e x h1 bv fp σ H D rr ?_
  cases x with
  | nx e1 => exact fun σ' H' fp' r s => k σ' H' fp' (r.kills is) s
  | ret d bo => exact k
  | bk e1 => exact k
  | ct e1 => exact k

/-! ### targets -/
/-- the value goes to the slots of is alone -/
def RG (K : PySem.W.Frag) (is : List Nat) (g : TG) (b : PyData → Dl.Env → Option Dl.Env) : Prop := ∀ (d : PyData) (e e' : Dl.Env), b d e = some e' → ∀ (bv : List V) (fp al : Addr → Prop) (σ : St) (H : Hp) (v : V) (fv : List Addr) (Q : St → Hp → Prop), RR K bv e fp al σ H → Own K H v d fv → (∀ a ∈ fv, ¬ fp a ∧ al a) →
  (∀ (σ' : St) (fp' al' : Addr → Prop), RR K bv e' fp' al' σ' H → (∀ a, fp' a → fp a ∨ a ∈ fv) → (∀ a, al a → a ∉ fv → al' a) → σ'.length = σ.length → (∀ j, j ∉ is → σ'[j]? = σ[j]?) → Q σ' H) → g v σ H Q
def RGs (K : PySem.W.Frag) (is : List Nat) (g : TGs) (b : List PyData → Dl.Env → Option Dl.Env) : Prop := ∀ (ds : List PyData) (e e' : Dl.Env), b ds e = some e' → ∀ (bv : List V) (fp al : Addr → Prop) (σ : St) (H : Hp) (vs : List V) (fv : List Addr) (Q : St → Hp → Prop), RR K bv e fp al σ H → OwnA K H vs ds fv → (∀ a ∈ fv, ¬ fp a ∧ al a) →
  (∀ (σ' : St) (fp' al' : Addr → Prop), RR K bv e' fp' al' σ' H → (∀ a, fp' a → fp a ∨ a ∈ fv) → (∀ a, al a → a ∉ fv → al' a) → σ'.length = σ.length → (∀ j, j ∉ is → σ'[j]? = σ[j]?) → Q σ' H) → g vs σ H Q
def bName (i : Nat) : PyData → Dl.Env → Option Dl.Env := fun d e => if i < e.sl.length then some (e.set i (.dat d)) else none
def bNameW (i : Nat) : PyData → Dl.Env → Option Dl.Env := fun d e => if i < e.sl.length then some (e.set i (.wk d)) else none
theorem set_other {i j : Nat} {w : Option V} (h : j ∉ [i]) : (σ.set i w)[j]? = σ[j]? := List.getElem?_set_ne (fun z => h (by simp [z]))
theorem rg_name {i : Nat} : RG K [i] (gName i) (bName i) := by
  intro d e e' q bv fp al σ H v fv Q rr o n k
  unfold bName at q
  split at q
  · rename_i hi
    cases q
    refine k _ _ al ((rr.killσ i (some v)).fill o n hi) (fun a z => z) (fun a z _ => z) (by simp) fun j hj => set_other hj
  · cases q
theorem rg_nameW {i : Nat} : RG K [i] (gName i) (bNameW i) := by
  intro d e e' q bv fp al σ H v fv Q rr o n k
  unfold bNameW at q
  split at q
  · rename_i hi
    cases q
    refine k _ _ _ ((rr.killσ i (some v)).fillW o n hi) (fun a z => .inl z) (fun a z y => ⟨z, y⟩) (by simp) fun j hj => set_other hj
  · cases q
def bsNil : List PyData → Dl.Env → Option Dl.Env
  | [], e => some e
  | _, _ => none
def bsCons (b : PyData → Dl.Env → Option Dl.Env) (r : List PyData → Dl.Env → Option Dl.Env) : List PyData → Dl.Env → Option Dl.Env
  | d :: ds, e => (b d e).bind fun e1 => r ds e1
  | [], _ => none
theorem rgs_nil : RGs K [] gNil bsNil := by
  intro ds e e' q bv fp al σ H vs fv Q rr o n k
  cases ds with
  | nil =>
    cases q
    cases o
    exact ⟨rfl, k σ fp al rr (fun a z => .inl z) (fun a z _ => z) rfl fun _ _ => rfl⟩
  | cons d r => cases q
theorem rgs_cons {is js : List Nat} {g : TG} {r : TGs} {b : PyData → Dl.Env → Option Dl.Env} {c : List PyData → Dl.Env → Option Dl.Env} (h1 : RG K is g b) (h2 : RGs K js r c) : RGs K (is ++ js) (gCons g r) (bsCons b c) := by
  intro ds e e' q bv fp al σ H vs fv Q rr o n k
  cases ds with
  | nil => cases q
  | cons d ds =>
    obtain ⟨e1, q1, q2⟩ := Option.bind_eq_some_iff.mp q
    cases o with
    | @cons v vs' _ _ f1 f2 o1 o2 dj =>
      refine ⟨v, vs', rfl, ?_⟩
      refine h1 d e e1 q1 bv fp al σ H v f1 _ rr o1 (fun a z => n a (List.mem_append_left _ z)) fun σ1 fp1 al1 r1 s1 m1 l1 j1 => ?_
      refine h2 ds e1 e' q2 bv fp1 al1 σ1 H vs' f2 Q r1 o2 (fun a z => ⟨fun y => ?_, m1 a (n a (List.mem_append_right _ z)).2 fun y => dj a y z⟩) fun σ2 fp2 al2 r2 s2 m2 l2 j2 => ?_
      · rcases s1 a y with y | y
        · exact (n a (List.mem_append_right _ z)).1 y
        · exact dj a y z
      · refine k σ2 fp2 al2 r2 (fun a z => ?_) (fun a z y => m2 a (m1 a z fun w => y (List.mem_append_left _ w)) fun w => y (List.mem_append_right _ w)) (l2.trans l1) fun j hj => ?_
        · rcases s2 a z with z | z
          · rcases s1 a z with z | z
            · exact .inl z
            · exact .inr (List.mem_append_left _ z)
          · exact .inr (List.mem_append_right _ z)
        · rw [j2 j fun z => hj (List.mem_append_right _ z), j1 j fun z => hj (List.mem_append_left _ z)]
def bTup (n : Nat) (b : List PyData → Dl.Env → Option Dl.Env) : PyData → Dl.Env → Option Dl.Env
  | .tuple ds, e => if ds.length = n then b ds e else none
  | _, _ => none
theorem rg_tup {is : List Nat} {n : Nat} {g : TGs} {b : List PyData → Dl.Env → Option Dl.Env} (h : RGs K is g b) : RG K is (gTup K n g) (bTup n b) := by
  intro d e e' q bv fp al σ H v fv Q rr o nn k
  unfold bTup at q
  split at q
  · split at q
    · rename_i ds hn
      cases o with
      | tup hs ho => exact ⟨_, _, rfl, SqT.of hs, by rw [ho.length, hn], h ds e e' q bv fp al σ H _ fv Q rr ho nn k⟩
    · cases q
  · cases q
def sAsg (m : ME) (b : PyData → Dl.Env → Option Dl.Env) : MS := fun e => (m e).bind fun p => (b p.1 p.2).bind fun e2 => some (.nx e2)
theorem rs_asg {is : List Nat} {t : TE} {g : TG} {m : ME} {b : PyData → Dl.Env → Option Dl.Env} (h : RE K t m) (hg : RG K is g b) : RS K (tAsg t g) (sAsg m b) := by
  intro e o q bv fp σ H D rr k
  obtain ⟨⟨d, e1⟩, h1, q⟩ := Option.bind_eq_some_iff.mp q
  obtain ⟨e2, h2, q⟩ := Option.bind_eq_some_iff.mp q
  cases q
  refine h e d e1 h1 bv fp fp σ H _ rr fun v H' fp' al' fv to o => ?_
  refine hg d e1 e2 h2 bv fp' al' σ H' v fv _ to.rr o (fun a z => ⟨(to.tmp a z).1, (to.tmp a z).2.1⟩) fun σ2 fp2 al2 r2 s2 _ _ _ => ?_
  have r2' := r2
  obtain ⟨fo, F, rf⟩ := r2'
  exact k σ2 H' fp2 (r2.less (fun a z => rf.sup a z) fun _ z => z) (to.step.sub fun a z => s2 a z)
/-- a, b = x, y -/
def sPar (i j : Nat) (a : MA) : MS := fun e => (a e).bind fun p => match opdsV p.2 p.1 with
  | some [x, y] => if i < p.2.sl.length ∧ j < p.2.sl.length ∧ i ≠ j then some (.nx ((p.2.set i (.dat x)).set j (.dat y))) else none
  | _ => none
theorem rs_par {i j : Nat} {t : TA} {m : MA} (h : RA K t m) : RS K (tPar i j t) (sPar i j m) := by
  intro e o q bv fp σ H D rr k
  obtain ⟨⟨os, e1⟩, h1, q⟩ := Option.bind_eq_some_iff.mp q
  dsimp only at q
  split at q
  · rename_i x y hxy
    split at q
    · rename_i hij
      cases q
      refine h e os e1 h1 bv fp fp σ H _ rr fun vs H' fp' al' fv to o => ?_
      obtain ⟨g, og, sg⟩ := o.own to.rr hxy
      cases og with
      | @cons v vs' _ _ f1 f2 o1 o2 dj =>
        cases o2 with
        | @cons w vs'' _ _ f3 f4 o3 o4 dj2 =>
          cases o4
          refine ⟨v, w, rfl, ?_⟩
          have t1 := fun a z => to.tmp a (sg a (List.mem_append_left _ z))
          have t3 := fun a z => to.tmp a (sg a (List.mem_append_right f1 (List.mem_append_left _ z)))
          have r1 := (to.rr.killσ i (some v)).fill o1 (fun a z => ⟨(t1 a z).1, (t1 a z).2.1⟩) hij.1
          have r2 := (r1.killσ j (some w)).fill o3 (fun a z => ⟨fun y => y.elim (fun y => (t3 a z).1 y) fun y => dj a y (List.mem_append_left _ z), (t3 a z).2.1⟩) (by simpa [Env.set] using hij.2.1)
          have r2' := r2
          obtain ⟨fo, F, rf⟩ := r2'
          refine k _ H' _ (r2.less (fun a z => rf.sup a z) fun _ z => z) (to.step.sub fun a z => ?_)
          rcases z with (z | z) | z
          · exact .inl z
          · exact .inr (sg a (List.mem_append_left _ z))
          · exact .inr (sg a (List.mem_append_right _ (List.mem_append_left _ z)))
    · cases q
  · cases q
end
end Dl
/-! loops, comprehensions, defs -/
namespace Dl
open PySem L2

/-- what is walked: ds, while what stands at Z stands -/
structure Walk (K : PySem.W.Frag) (J : It) (ds : List PyData) (Z : Addr → Prop) (Tok : Hp → Prop) : Prop where
  keep : ∀ (g g' : Addr → Prop) (Ha Hb : Hp), Tok Ha → Step g Ha g' Hb → (∀ a, Z a → ¬ g a) → Tok Hb
  item : ∀ (i : Nat) (d : PyData) (H : Hp), Tok H → ds[i]? = some d → J.go i H ∧ ∀ x H1, J.yld i H x H1 → Same H H1 ∧ ∃ f, Own K H1 x d f ∧ ∀ a ∈ f, H a = none
  stop : ∀ (i : Nat) (H : Hp), Tok H → ds.length ≤ i → J.stop i H
abbrev MI := Dl.Env → Option (List PyData × Dl.Env)
def RI (K : PySem.W.Frag) (wi : TI) (m : MI) : Prop := ∀ (e : Dl.Env) (ds : List PyData) (e' : Dl.Env), m e = some (ds, e') → ∀ (bv : List V) (fp al : Addr → Prop) (σ : St) (H : Hp) (Rq : It → Hp → Prop), RR K bv e fp al σ H →
  (∀ (J : It) (H' : Hp) (fp' al' Z : Addr → Prop) (Tok : Hp → Prop), To K bv σ fp al H e' (fun _ => False) fp' al' H' → Tok H' → Walk K J ds Z Tok → (∀ a, Z a → ¬ fp' a ∧ ∃ u, H' a = some u) → Rq J H') → wi σ H Rq

section
variable {K : PySem.W.Frag} {bv : List V} {e e' e1 e2 : Dl.Env} {fp fp' fp1 fp2 al al' al1 al2 T T1 T2 : Addr → Prop} {σ : St} {H H' H1 H2 : Hp} {D : Ends}
/-! ### for -/
def forL (b : PyData → Dl.Env → Option Dl.Env) (body : MS) : List PyData → MS
  | [], e => some (.nx e)
  | d :: r, e => (b d e).bind fun e1 => (body e1).bind fun o => match o with
    | .nx e2 => forL b body r e2
    | .ct e2 => forL b body r e2
    | .bk e2 => some (.nx e2)
    | .ret d bo => some (.ret d bo)
def sFor (mi : MI) (b : PyData → Dl.Env → Option Dl.Env) (body : MS) : MS := fun e => (mi e).bind fun p => forL b body p.1 p.2
theorem Zkeep {Z : Addr → Prop} (s : Step fp H fp' H') (z : ∀ a, Z a → ¬ fp a ∧ ∃ u, H a = some u) : ∀ a, Z a → ¬ fp' a ∧ ∃ u, H' a = some u := fun a h => by
  obtain ⟨n, u, hu⟩ := z a h
  refine ⟨fun y => ?_, u, s.stay a u hu (.inl n)⟩
  rcases s.new a y with y | y
  · exact n y
  · rw [hu] at y; cases y
theorem rs_for {is : List Nat} {wi : TI} {g : TG} {tb : TS} {mi : MI} {b : PyData → Dl.Env → Option Dl.Env} {body : MS} (hi : RI K wi mi) (hg : RG K is g b) (hb : RS K tb body) : RS K (tFor wi g tb) (sFor mi b body) := by
  intro e o q bv fp σ H D rr k
  obtain ⟨⟨ds, e0⟩, h1, q⟩ := Option.bind_eq_some_iff.mp q
  refine hi e ds e0 h1 bv fp fp σ H _ rr fun J H0 fp0 al0 Z Tok to tok wk hz => ?_
  have k0 : Ends' K bv fp0 H0 D o := k.step to.end_.2
  refine ⟨fun i m σ H => m = ds.length - i ∧ i ≤ ds.length ∧ ∃ (ei : Dl.Env) (fpi : Addr → Prop), forL b body (ds.drop i) ei = some o ∧ RR K bv ei fpi fpi σ H ∧ Step fp0 H0 fpi H ∧ Tok H,
    ⟨ds.length, rfl, Nat.zero_le _, e0, fp0, by simpa using q, to.end_.1, Step.refl _ _, tok⟩, ?_⟩
  rintro i m σ1 H1 ⟨rfl, hil, ei, fpi, hf, r1, s1, tk⟩
  have hz1 := Zkeep s1 hz
  by_cases hlt : i < ds.length
  · right
    have hd : ds[i]? = some ds[i] := List.getElem?_eq_getElem hlt
    rw [List.drop_eq_getElem_cons hlt] at hf
    obtain ⟨e2, b1, hf⟩ := Option.bind_eq_some_iff.mp hf
    obtain ⟨x, b2, hf⟩ := Option.bind_eq_some_iff.mp hf
    obtain ⟨go, yl⟩ := wk.item i _ H1 tk hd
    refine ⟨go, fun σ' H' => ∃ (e3 : Dl.Env) (fp3 : Addr → Prop), forL b body (ds.drop (i + 1)) e3 = some o ∧ RR K bv e3 fp3 fp3 σ' H' ∧ Step fp0 H0 fp3 H' ∧ Tok H', fun σ' H' ⟨e3, fp3, q1, q2, q3, q4⟩ => ⟨ds.length - (i + 1), by omega, rfl, hlt, e3, fp3, q1, q2, q3, q4⟩, fun v H2 hy => ?_⟩
    obtain ⟨sm, f, ow, nf⟩ := yl v H2 hy
    have r2 := r1.pure sm
    have r1' := r1
    obtain ⟨fo, F, rf⟩ := r1'
    have nfp : ∀ a ∈ f, ¬ fpi a := fun a z y => by
      obtain ⟨u, hu⟩ := rf.alv a y
      rw [nf a z] at hu; cases hu
    have r3 : RR K bv ei fpi (fun a => fpi a ∨ a ∈ f) σ1 H2 := (r1.more (al' := fun a => fpi a ∨ a ∈ f) (fun a z => z.elim .inl fun z => .inr (nf a z)) fun a z => .inl z).pure sm
    refine hg ds[i] ei e2 b1 bv fpi _ σ1 H2 v f _ r3 ow (fun a z => ⟨nfp a z, .inr z⟩) fun σ3 fp3 al3 r4 sb _ _ _ => ?_
    have r4' := r4
    obtain ⟨fo3, F3, rf3⟩ := r4'
    have r5 : RR K bv e2 fp3 fp3 σ3 H2 := r4.less (fun a z => rf3.sup a z) fun _ z => z
    have s3 : Step fpi H1 fp3 H2 := .of_same sm fun a z => (sb a z).elim .inl fun z => .inr (nf a z)
    have s03 : Step fp0 H0 fp3 H2 := s1.trans s3
    have tk2 : Tok H2 := wk.keep fpi fp3 H1 H2 tk s3 fun a z => (hz1 a z).1
    have hz2 := Zkeep s3 hz1
    refine hb e2 x b2 bv fp3 σ3 H2 _ r5 ?_
    have nxt : ∀ (e3 : Dl.Env), forL b body (ds.drop (i + 1)) e3 = some o → ∀ (σ' : St) (H' : Hp) (fp' : Addr → Prop), RR K bv e3 fp' fp' σ' H' → Step fp3 H2 fp' H' → ∃ (e3 : Dl.Env) (fp3 : Addr → Prop), forL b body (ds.drop (i + 1)) e3 = some o ∧ RR K bv e3 fp3 fp3 σ' H' ∧ Step fp0 H0 fp3 H' ∧ Tok H' :=
      fun e3 he σ' H' fp' r s => ⟨e3, fp', he, r, s03.trans s, wk.keep fp3 fp' H2 H' tk2 s fun a z => (hz2 a z).1⟩
    cases x with
    | nx e3 => exact nxt e3 hf
    | ct e3 => exact nxt e3 hf
    | bk e3 =>
      cases hf
      exact fun σ' H' fp' r s => k0 σ' H' fp' r (s03.trans s)
    | ret d bo =>
      cases hf
      exact fun v H' fb fv r o n s => k0 v H' fb fv r o n (s03.trans s)
  · left
    have hi' : i = ds.length := by omega
    refine ⟨wk.stop i H1 tk (by omega), ?_⟩
    rw [List.drop_of_length_le (by omega)] at hf
    cases hf
    exact k0 σ1 H1 fpi r1 s1
/-! ### while -/
def whL (t : MT) (body : MS) : Nat → MS
  | 0, _ => none
  | n + 1, e => (t e).bind fun p => if p.1 = true then (body p.2).bind fun o => match o with
    | .nx e2 => whL t body n e2
    | .ct e2 => whL t body n e2
    | .bk e2 => some (.nx e2)
    | .ret d bo => some (.ret d bo)
    else some (.nx p.2)
theorem rs_while {n : Nat} {c : TT} {tb : TS} {t : MT} {body : MS} (hc : RT K c t) (hb : RS K tb body) : RS K (tWhile c tb) (whL t body n) := by
  intro e o q bv fp σ H D rr k
  refine ⟨fun m σ H => ∃ (ei : Dl.Env) (fpi : Addr → Prop), whL t body m ei = some o ∧ RR K bv ei fpi fpi σ H ∧ Ends' K bv fpi H D o, ⟨n, e, fp, q, rr, k⟩, ?_⟩
  rintro m σ1 H1 ⟨ei, fpi, hf, r1, k1⟩
  cases m with
  | zero => cases hf
  | succ m =>
    obtain ⟨⟨b, e2⟩, h1, hf⟩ := Option.bind_eq_some_iff.mp hf
    refine hc ei b e2 h1 bv fpi fpi σ1 H1 _ r1 fun H2 fp2 al2 to => ?_
    have r2 := to.end_.1
    have k2 := k1.step to.end_.2
    cases b with
    | false =>
      rw [if_neg Bool.false_ne_true]
      cases hf
      exact k2 σ1 H2 fp2 r2 (Step.refl _ _)
    | true =>
      rw [if_pos rfl]
      rw [if_pos rfl] at hf
      obtain ⟨x, h2, hf⟩ := Option.bind_eq_some_iff.mp hf
      refine ⟨fun σ' H' => ∃ (ei : Dl.Env) (fpi : Addr → Prop), whL t body m ei = some o ∧ RR K bv ei fpi fpi σ' H' ∧ Ends' K bv fpi H' D o, fun σ' H' q => ⟨m, Nat.lt_succ_self _, q⟩, ?_⟩
      refine hb e2 x h2 bv fp2 σ1 H2 _ r2 ?_
      cases x with
      | nx e3 => exact fun σ' H' fp' r s => ⟨e3, fp', hf, r, k2.step s⟩
      | ct e3 => exact fun σ' H' fp' r s => ⟨e3, fp', hf, r, k2.step s⟩
      | bk e3 => cases hf; exact k2
      | ret d bo => cases hf; exact k2

/-! ### [elt for target in iter if ..] -/
def lcL (b : PyData → Dl.Env → Option Dl.Env) (vs : List Nat) (t : MT) (me : ME) : List PyData → Dl.Env → Option (List PyData × Dl.Env)
  | [], e => some ([], e)
  | d :: r, e => (b d e).bind fun e1 => (t e1).bind fun p => if p.1 = true then (me p.2).bind fun q => (lcL b vs t me r (q.2.kills vs)).bind fun z => some (q.1 :: z.1, z.2)
    else lcL b vs t me r (p.2.kills vs)
def mLc (mi : MI) (b : PyData → Dl.Env → Option Dl.Env) (vs : List Nat) (t : MT) (me : ME) : ME := fun e => (mi e).bind fun p => if p.1.length ≤ 16777216 then (lcL b vs t me p.1 (p.2.kills vs)).bind fun q => some (.list q.1, q.2) else none
theorem wipe_get (σ : St) : ∀ (vs : List Nat) (j : Nat), (wipe σ vs)[j]? = if j ∈ vs ∧ j < σ.length then some none else σ[j]?
  | [], j => by simp [wipe]
  | v :: vs, j => by
    unfold wipe
    by_cases hj : v = j
    · subst hj
      by_cases hl : v < σ.length
      · rw [List.getElem?_set_self (by rw [wipe_length]; exact hl), if_pos ⟨by simp, hl⟩]
      · rw [List.getElem?_eq_none (by simp [wipe_length]; omega), if_neg (by simp [hl]), List.getElem?_eq_none (by omega)]
    · rw [List.getElem?_set_ne hj, wipe_get σ vs j]
      have : (j ∈ v :: vs) ↔ j ∈ vs := by simp [Ne.symm hj]
      simp [this]
theorem wipe_eq {σ σ2 : St} {vs is : List Nat} (hl : σ2.length = (wipe σ vs).length) (hj : ∀ j, j ∉ is → σ2[j]? = (wipe σ vs)[j]?) (his : ∀ j ∈ is, j ∈ vs) : wipe σ2 vs = wipe σ vs := by
  apply List.ext_getElem?
  intro j
  rw [wipe_length] at hl
  rw [wipe_get, wipe_get, hl]
  by_cases h : j ∈ vs
  · by_cases h2 : j < σ.length
    · rw [if_pos ⟨h, h2⟩, if_pos ⟨h, h2⟩]
    · rw [if_neg (by simp [h2]), if_neg (by simp [h2]), List.getElem?_eq_none (by omega), List.getElem?_eq_none (by omega)]
  · rw [if_neg (by simp [h]), if_neg (by simp [h]), hj j fun z => h (his j z), wipe_get, if_neg (by simp [h])]
theorem RR.wiped (r : RR K bv e fp al σ H) : ∀ vs : List Nat, RR K bv (e.kills vs) fp al (wipe σ vs) H
  | [] => r
  | v :: vs => (RR.wiped r vs).killσ v none
theorem RR.unwipe {vs : List Nat} (r : RR K bv e fp al (wipe σ vs) H) : RR K bv e fp al σ H := r.weak (wipe_length σ vs) fun i v q => (wipe_some q).1
theorem re_lc_at {is vs : List Nat} {wi : TI} {g : TG} {tt : TT} {te : TE} {b : PyData → Dl.Env → Option Dl.Env} {t : MT} {me : ME} {ds out : List PyData} {e0 ez : Dl.Env} {Q : VK}
    (hi : ∀ Rq : It → Hp → Prop, (∀ (J : It) (H' : Hp) (fp' al' Z : Addr → Prop) (Tok : Hp → Prop), To K bv σ fp al H e0 (fun _ => False) fp' al' H' → Tok H' → Walk K J ds Z Tok → (∀ a, Z a → ¬ fp' a ∧ ∃ u, H' a = some u) → Rq J H') → wi σ H Rq)
    (hg : RG K is g b) (ht : RT K tt t) (he : RE K te me) (his : ∀ j ∈ is, j ∈ vs) (hsz : ds.length ≤ 16777216) (hl : lcL b vs t me ds (e0.kills vs) = some (out, ez))
    (k : ∀ (v : V) (H' : Hp) (fp' al' : Addr → Prop) (fv : List Addr), To K bv σ fp al H ez (· ∈ fv) fp' al' H' → Own K H' v (.list out) fv → Q v H') : tLc wi g tt te vs σ H Q := by
  refine hi _ fun J H0 fp0 al0 Z Tok to tok wk hz D hD => ?_
  have sD : Same H0 (upd H0 D (.lst [])) := same_upd hD
  refine ⟨fun i m H1 => m = ds.length - i ∧ i ≤ ds.length ∧ ∃ (ei : Dl.Env) (fpi ali : Addr → Prop) (acc rest : List PyData) (avs : List V) (fa : List Addr), lcL b vs t me (ds.drop i) ei = some (rest, ez) ∧ out = acc ++ rest ∧ acc.length ≤ i ∧ RR K bv ei fpi ali (wipe σ vs) H1 ∧
      (∀ a, al0 a → (∃ u, H0 a = some u) → ali a) ∧ Step fp0 H0 (fun a => fpi a ∨ a ∈ D :: fa) H1 ∧ Tok H1 ∧ (∀ a, Z a → ¬ fpi a ∧ ∃ u, H1 a = some u) ∧ H1 D = some (.lst avs) ∧ OwnA K H1 avs acc fa ∧ D ∉ fa ∧ ¬ fpi D ∧ ali D ∧ (∀ a ∈ fa, ¬ fpi a ∧ ali a) ∧ (¬ Z D),
    ⟨ds.length, rfl, Nat.zero_le _, e0.kills vs, fp0, fun a => al0 a ∨ a = D, [], out, [], [], by simpa using hl, rfl, Nat.le_refl _, ?_, fun a z _ => .inl z, ?_, ?_, ?_, upd_same, .nil, by simp, ?_, .inr rfl, by simp, ?_⟩, ?_⟩
  · refine ((to.rr.more (al' := fun a => al0 a ∨ a = D) (fun a z => z.elim .inl fun z => .inr (z ▸ hD)) fun a z => .inl z).pure sD).wiped vs
  · refine .of_same sD fun a z => ?_
    rcases z with z | z
    · exact .inl z
    · have : a = D := by simpa using z
      exact .inr (this ▸ hD)
  · exact wk.keep (fun _ => False) (fun _ => False) _ _ tok (.of_same sD fun _ z => z.elim) fun _ _ z => z
  · exact fun a z => ⟨(hz a z).1, let ⟨u, hu⟩ := (hz a z).2; ⟨u, sD a u hu⟩⟩
  · intro z
    obtain ⟨fo, F, rf⟩ := to.rr
    obtain ⟨u, hu⟩ := rf.alv D z
    rw [hD] at hu; cases hu
  · intro z
    obtain ⟨u, hu⟩ := (hz D z).2
    rw [hD] at hu; cases hu
  rintro i m H1 ⟨rfl, hil, ei, fpi, ali, acc, rest, avs, fa, hf, ho, hal, r1, m1, s1, tk, hz1, h1D, oA, nD, nfD, aD, nfa, nZ⟩
  by_cases hlt : i < ds.length
  · right
    have hd : ds[i]? = some ds[i] := List.getElem?_eq_getElem hlt
    rw [List.drop_eq_getElem_cons hlt] at hf
    obtain ⟨e2, b1, hf⟩ := Option.bind_eq_some_iff.mp hf
    obtain ⟨⟨tb, e3⟩, b2, hf⟩ := Option.bind_eq_some_iff.mp hf
    obtain ⟨go, yl⟩ := wk.item i _ H1 tk hd
    refine ⟨go, fun H' => ∃ (ej : Dl.Env) (fpi ali : Addr → Prop) (acc rest : List PyData) (avs : List V) (fa : List Addr), lcL b vs t me (ds.drop (i + 1)) ej = some (rest, ez) ∧ out = acc ++ rest ∧ acc.length ≤ i + 1 ∧ RR K bv ej fpi ali (wipe σ vs) H' ∧
      (∀ a, al0 a → (∃ u, H0 a = some u) → ali a) ∧ Step fp0 H0 (fun a => fpi a ∨ a ∈ D :: fa) H' ∧ Tok H' ∧ (∀ a, Z a → ¬ fpi a ∧ ∃ u, H' a = some u) ∧ H' D = some (.lst avs) ∧ OwnA K H' avs acc fa ∧ D ∉ fa ∧ ¬ fpi D ∧ ali D ∧ (∀ a ∈ fa, ¬ fpi a ∧ ali a) ∧ (¬ Z D), fun H' q => ⟨ds.length - (i + 1), by omega, rfl, hlt, q⟩, fun v H2 hy => ?_⟩
    obtain ⟨sm, f, ow, nf⟩ := yl v H2 hy
    have r1' := r1
    obtain ⟨fo, F, rf⟩ := r1'
    have nfp : ∀ a ∈ f, ¬ fpi a := fun a z y => by
      obtain ⟨u, hu⟩ := rf.alv a y
      rw [nf a z] at hu; cases hu
    have r3 : RR K bv ei fpi (fun a => ali a ∨ a ∈ f) (wipe σ vs) H2 := (r1.more (al' := fun a => ali a ∨ a ∈ f) (fun a z => z.elim .inl fun z => .inr (nf a z)) fun a z => .inl z).pure sm
    refine hg ds[i] ei e2 b1 bv fpi _ (wipe σ vs) H2 v f _ r3 ow (fun a z => ⟨nfp a z, .inr z⟩) fun σ3 fp3 al3 r4 sb m4 l4 j4 => ⟨wipe_eq l4 j4 his, ?_⟩
    have s3 : Step fpi H1 fp3 H2 := .of_same sm fun a z => (sb a z).elim .inl fun z => .inr (nf a z)
    refine ht e2 tb e3 b2 bv fp3 al3 σ3 H2 _ r4 fun H3 fp4 al4 to4 => ?_
    -- what is kept through steps of the turn
    have alive1 : ∀ a ∈ D :: fa, ∃ u, H1 a = some u := fun a z => by
      rcases List.mem_cons.mp z with rfl | z
      · exact ⟨_, h1D⟩
      · exact oA.alive a z
    have nfpi : ∀ a ∈ D :: fa, ¬ fpi a := fun a z => by
      rcases List.mem_cons.mp z with rfl | z
      · exact nfD
      · exact (nfa a z).1
    have ali1 : ∀ a ∈ D :: fa, ali a := fun a z => by
      rcases List.mem_cons.mp z with rfl | z
      · exact aD
      · exact (nfa a z).2
    have al3' : ∀ a ∈ D :: fa, al3 a := fun a z => m4 a (.inl (ali1 a z)) fun y => by
      obtain ⟨u, hu⟩ := alive1 a z
      rw [nf a y] at hu; cases hu
    have s4 : Step fpi H1 fp4 H3 := s3.trans (to4.step.sub fun _ z => .inl z)
    have live01 : ∀ a u, H0 a = some u → ∃ u', H1 a = some u' := s1.live
    have al0' : ∀ a, al0 a → (∃ u, H0 a = some u) → al4 a := fun a z y => by
      obtain ⟨u, hu⟩ := y
      obtain ⟨u1, hu1⟩ := live01 a u hu
      refine to4.mono a (m4 a (.inl (m1 a z ⟨u, hu⟩)) fun w => ?_) ⟨u1, sm a u1 hu1⟩
      rw [nf a w] at hu1; cases hu1
    -- what the list so far owns stands through a step from (fpi, H1) to (fpx, Hx)
    have stand : ∀ {fpx : Addr → Prop} {Hx : Hp}, Step fpi H1 fpx Hx → (∀ a ∈ D :: fa, ¬ fpx a) ∧ Hx D = some (.lst avs) ∧ OwnA K Hx avs acc fa ∧ Tok Hx ∧ (∀ a, Z a → ¬ fpx a ∧ ∃ u, Hx a = some u) := fun {fpx Hx} s => by
      refine ⟨fun a z y => ?_, s.stay D _ h1D (.inl nfD), oA.step s fun a z => (nfa a z).1, wk.keep fpi fpx H1 Hx tk s fun a z => (hz1 a z).1, Zkeep s hz1⟩
      obtain ⟨u, hu⟩ := alive1 a z
      rcases s.new a y with w | w
      · exact nfpi a z w
      · rw [hu] at w; cases w
    have big : ∀ {fpx : Addr → Prop} {Hx : Hp} {g : List Addr}, Step fpi H1 (fun a => fpx a ∨ a ∈ g) Hx → Step fp0 H0 (fun a => fpx a ∨ a ∈ D :: (fa ++ g)) Hx := fun {fpx Hx g} s => by
      have s' : Step (fun a => fpi a ∨ a ∈ D :: fa) H1 (fun a => fpx a ∨ a ∈ D :: (fa ++ g)) Hx := by
        refine ⟨fun p u hu hp => s.stay p u hu ?_, fun p hp => ?_, s.live⟩
        · rcases hp with hp | hp
          · exact .inl fun z => hp (.inl z)
          · exact .inr hp
        · rcases hp with hp | hp
          · rcases s.new p (.inl hp) with w | w
            · exact .inl (.inl w)
            · exact .inr w
          · rcases List.mem_cons.mp hp with rfl | hp
            · exact .inl (.inr List.mem_cons_self)
            · rcases List.mem_append.mp hp with hp | hp
              · exact .inl (.inr (List.mem_cons_of_mem _ hp))
              · rcases s.new p (.inr hp) with w | w
                · exact .inl (.inl w)
                · exact .inr w
      exact s1.trans s'
    cases tb with
    | false =>
      rw [if_neg Bool.false_ne_true]
      rw [if_neg Bool.false_ne_true] at hf
      obtain ⟨q1, q2, q3, q4, q5⟩ := stand s4
      have r5 : RR K bv (e3.kills vs) fp4 al4 (wipe σ3 vs) H3 := to4.rr.wiped vs
      rw [wipe_eq l4 j4 his] at r5
      refine ⟨e3.kills vs, fp4, al4, acc, rest, avs, fa, hf, ho, Nat.le_succ_of_le hal, r5, al0', ?_, q4, q5, q2, q3, nD, q1 D List.mem_cons_self, to4.mono D (al3' D List.mem_cons_self) ⟨_, sm D _ h1D⟩, fun a z => ⟨q1 a (List.mem_cons_of_mem _ z), to4.mono a (al3' a (List.mem_cons_of_mem _ z)) ?_⟩, nZ⟩
      · have := big (g := []) (s4.sub fun a z => z.elim id fun z => by cases z)
        simpa using this
      · obtain ⟨u, hu⟩ := oA.alive a z
        exact ⟨u, sm a u hu⟩
    | true =>
      rw [if_pos rfl]
      rw [if_pos rfl] at hf
      obtain ⟨⟨d, e4⟩, b3, hf⟩ := Option.bind_eq_some_iff.mp hf
      obtain ⟨⟨rest', ez'⟩, b4, hf⟩ := Option.bind_eq_some_iff.mp hf
      cases hf
      refine he e3 d e4 b3 bv fp4 al4 σ3 H3 _ to4.rr fun y H5 fp5 al5 f5 to5 o5 => ?_
      have s5 : Step fpi H1 (fun a => fp5 a ∨ a ∈ f5) H5 := s4.trans to5.step
      obtain ⟨q1, q2, q3, q4, q5⟩ := stand (s5.sub fun _ z => .inl z)
      have q1' : ∀ a ∈ D :: fa, a ∉ f5 := fun a z y => by
        obtain ⟨u, hu⟩ := alive1 a z
        rcases s5.new a (.inr y) with w | w
        · exact nfpi a z w
        · rw [hu] at w; cases w
      have r5 : RR K bv (e4.kills vs) fp5 al5 (wipe σ3 vs) H5 := to5.rr.wiped vs
      rw [wipe_eq l4 j4 his] at r5
      have aliveHx : ∀ a ∈ D :: fa, ∃ u, H3 a = some u := fun a z => by
        obtain ⟨u, hu⟩ := alive1 a z
        exact s4.live a u hu
      have al5D : ∀ a ∈ D :: fa, al5 a := fun a z => to5.mono a (to4.mono a (al3' a z) (by
        obtain ⟨u, hu⟩ := alive1 a z
        exact ⟨u, sm a u hu⟩)) (aliveHx a z)
      have accl : acc.length < sizeLine := by rw [sizeLine_eq]; omega
      have hav : avs.length = acc.length := oA.length
      refine ⟨avs, q2, by rw [hav]; exact accl, ?_⟩
      have nDf5 : D ∉ f5 := q1' D List.mem_cons_self
      have sW : Step (fun a => a = D) H5 (fun a => a = D) (upd H5 D (.lst (avs ++ [y]))) := by
        refine ⟨fun p u hu hp => ?_, fun p h => .inl h, fun p u hu => ?_⟩
        · by_cases h : p = D
          · subst h
            rw [q2] at hu; cases hu
            rcases hp with hp | hp
            · exact absurd rfl hp
            · exact absurd trivial hp
          · rw [upd_ne h]; exact hu
        · by_cases h : p = D
          · subst h; exact ⟨_, upd_same⟩
          · exact ⟨u, by rw [upd_ne h]; exact hu⟩
      have r6 := r5.away (o := .lst (avs ++ [y])) (q1 D List.mem_cons_self) (al5D D List.mem_cons_self) q2 trivial
      refine ⟨e4.kills vs, fp5, al5, acc ++ [d], rest', avs ++ [y], fa ++ f5, b4, by rw [ho]; simp, by simp; omega, r6, fun a z w => to5.mono a (al0' a z w) (by
        obtain ⟨u, hu⟩ := w
        obtain ⟨u1, hu1⟩ := live01 a u hu
        exact s4.live a u1 hu1), ?_, ?_, ?_, upd_same, ?_, ?_, q1 D List.mem_cons_self, al5D D List.mem_cons_self, fun a z => ?_, nZ⟩
      · refine (big s5).trans ⟨fun p u hu hp => sW.stay p u hu ?_, fun p h => .inl h, sW.live⟩
        rcases hp with hp | hp
        · exact .inl fun z => hp (.inr (by rw [z]; exact List.mem_cons_self))
        · exact .inr hp
      · exact wk.keep _ _ _ _ q4 sW fun a z w => nZ (w ▸ z)
      · intro a z
        obtain ⟨u, hu⟩ := (q5 a z).2
        exact ⟨(q5 a z).1, sW.live a u hu⟩
      · have oA5 : OwnA K (upd H5 D (.lst (avs ++ [y]))) avs acc fa := q3.step sW fun a z w => nD (w ▸ z)
        have o5' : Own K (upd H5 D (.lst (avs ++ [y]))) y d f5 := o5.step sW fun a z w => nDf5 (w ▸ z)
        refine oA5.append (g := f5) (by simpa using OwnA.cons (g := []) o5' .nil (by simp)) fun a z w => q1' a (List.mem_cons_of_mem _ z) w
      · intro z
        rcases List.mem_append.mp z with z | z
        · exact nD z
        · exact nDf5 z
      · rcases List.mem_append.mp z with z | z
        · exact ⟨q1 a (List.mem_cons_of_mem _ z), al5D a (List.mem_cons_of_mem _ z)⟩
        · exact ⟨(to5.tmp a z).1, (to5.tmp a z).2.1⟩
  · left
    refine ⟨wk.stop i H1 tk (by omega), ?_⟩
    rw [List.drop_of_length_le (by omega)] at hf
    cases hf
    rw [List.append_nil] at ho
    subst ho
    refine k (.ref D) H1 fpi ali (D :: fa) ⟨r1.unwipe, fun a z y => m1 a (to.mono a z y) (let ⟨u, w⟩ := y; to.step.live a u w), ?_, fun a z => ?_⟩ (.lst h1D oA nD)
    · exact (to.step.sub fun _ z => .inl z).trans s1
    · rcases List.mem_cons.mp z with rfl | z
      · exact ⟨nfD, aD, _, h1D⟩
      · exact ⟨(nfa a z).1, (nfa a z).2, oA.alive a z⟩

theorem re_lc {is vs : List Nat} {wi : TI} {g : TG} {tt : TT} {te : TE} {mi : MI} {b : PyData → Dl.Env → Option Dl.Env} {t : MT} {me : ME} (hi : RI K wi mi) (hg : RG K is g b) (ht : RT K tt t) (he : RE K te me) (his : ∀ j ∈ is, j ∈ vs := by decide) : RE K (tLc wi g tt te vs) (mLc mi b vs t me) := by
  intro e c e' q bv fp al σ H Q rr k
  obtain ⟨⟨ds, e0⟩, h1, q⟩ := Option.bind_eq_some_iff.mp q
  split at q
  rotate_left
  · cases q
  rename_i hsz0
  have hsz : ds.length ≤ 16777216 := hsz0
  obtain ⟨⟨out, ez⟩, hl, q⟩ := Option.bind_eq_some_iff.mp q
  cases q
  exact re_lc_at (fun Rq => hi e ds e0 h1 bv fp al σ H Rq rr) hg ht he his hsz hl k
/-! ### what is walked -/
def immL (ds : List PyData) : Option (List PyData) := if immA ds = true then some ds else none
theorem immL_some {ds es : List PyData} (h : immL ds = some es) : es = ds ∧ immA ds = true := by
  unfold immL at h
  split at h
  · cases h; exact ⟨rfl, by assumption⟩
  · cases h
theorem immA_get {ds : List PyData} {i : Nat} {d : PyData} (h : immA ds = true) (e : ds[i]? = some d) : imm d = true := by
  rw [immA_all, List.all_eq_true] at h
  exact h d (List.mem_of_getElem? e)
/-- items of a list or a tuple -/
def itD : PyData → Option (List PyData)
  | .list ds => immL ds
  | .tuple ds => immL ds
  | _ => none
/-- a list or a tuple that is walked -/
def iSeq (K : PySem.W.Frag) (tl : TE) : TI := fun σ H R => iList K tl σ H R ∨ iTup K tl σ H R
def mIt (a : MO) : MI := fun e => (a e).bind fun p => match p.1 with
  | .val d => (itD d).bind fun ds => some (ds, p.2)
  | .var i => match p.2.sl[i]? with
    | some (.wk d) => (itD d).bind fun ds => some (ds, p.2)
    | some (.dat (.tuple ds)) => (immL ds).bind fun ds => some (ds, p.2)
    | _ => none
theorem pi_seq {X : Cx} {tg l : Expr} {tl : TE} (hl : PE X l tl) : PI X tg l (iSeq X.K tl) :=
  ⟨fun pins s σ H R I h => h.elim ((pi_list hl).run pins s σ H R I) ((pi_tup hl).run pins s σ H R I)⟩
theorem own_get {xs : List V} {ds : List PyData} {i : Nat} {d : PyData} (h : OwnA K H xs ds []) (hi : immA ds = true) (e : ds[i]? = some d) : ∃ x, xs[i]? = some x ∧ Own K H x d [] := by
  obtain ⟨x, h1, h2⟩ := (h.wk (φ := fun _ => True) fun _ _ => trivial).get e
  exact ⟨x, h1, h2.own (immA_get hi e)⟩
theorem walk_tup {a : Addr} {xs : List V} {ds : List PyData} (hi : immA ds = true) : Walk K (Itt K a) ds (fun _ => False) (fun H' => SqT K H' a xs ∧ OwnA K H' xs ds []) where
  keep := fun g g' Ha Hb t s _ => ⟨s.keepT t.1, t.2.step s fun a z => by cases z⟩
  item := fun i d H t e => by
    obtain ⟨x, h1, h2⟩ := own_get t.2 hi e
    refine ⟨⟨xs, x, t.1, h1⟩, fun y H1 hy => ?_⟩
    obtain ⟨rfl, hy⟩ := hy
    have := hy xs t.1
    rw [h1] at this; cases this
    exact ⟨Same.refl _, [], h2, fun a z => by cases z⟩
  stop := fun i H t h => ⟨xs, t.1, by rw [t.2.length]; exact h⟩
theorem walk_lst {a : Addr} {xs : List V} {ds : List PyData} (hi : immA ds = true) : Walk K (Itl K a) ds (fun b => b = a) (fun H' => H' a = some (.lst xs) ∧ OwnA K H' xs ds []) where
  keep := fun g g' Ha Hb t s n => ⟨s.stay a _ t.1 (.inl (n a rfl)), t.2.step s fun a z => by cases z⟩
  item := fun i d H t e => by
    obtain ⟨x, h1, h2⟩ := own_get t.2 hi e
    refine ⟨⟨xs, x, SqL.of t.1, h1⟩, fun y H1 hy => ?_⟩
    obtain ⟨rfl, hy⟩ := hy
    have := hy xs (SqL.of t.1)
    rw [h1] at this; cases this
    exact ⟨Same.refl _, [], h2, fun a z => by cases z⟩
  stop := fun i H t h => ⟨xs, SqL.of t.1, by rw [t.2.length]; exact h⟩
theorem ri_seq {tl : TE} {ma : MO} (ha : RO K tl ma) : RI K (iSeq K tl) (mIt ma) := by
  intro e ds e' q bv fp al σ H Rq rr k
  obtain ⟨⟨o, e1⟩, h1, q⟩ := Option.bind_eq_some_iff.mp q
  have doT : ∀ (c : List PyData), immA c = true → c = ds → e1 = e' → (∀ (v : V) (H' : Hp) (fp' al' : Addr → Prop) (fv : List Addr), To K bv σ fp al H e1 (· ∈ fv) fp' al' H' → OpdAt K σ H' o v fv → W0 K H' v (.tuple c)) → iSeq K tl σ H Rq := by
    intro c hi ec ee hw
    subst ec ee
    refine .inr (ha e o e1 h1 bv fp al σ H _ rr fun v H' fp' al' fv to oo => ?_)
    obtain ⟨a, xs, rfl, hs, w⟩ := (hw v H' fp' al' fv to oo).tupI
    exact ⟨a, rfl, ⟨xs, hs⟩, k (Itt K a) H' fp' al' (fun _ => False) _ (to.less fun _ z => False.elim z) ⟨hs, w.own hi⟩ (walk_tup hi) fun _ z => False.elim z⟩
  dsimp only at q
  split at q
  · rename_i d
    obtain ⟨c, h2, q⟩ := Option.bind_eq_some_iff.mp q
    cases q
    unfold itD at h2
    split at h2
    · rename_i cs
      obtain ⟨rfl, hi⟩ := immL_some h2
      refine .inl (ha e _ _ h1 bv fp al σ H _ rr fun v H' fp' al' fv to oo => ?_)
      have ow : Own K H' v (.list ds) fv := oo
      cases ow with
      | @lst a xs _ f hl oA n =>
        exact ⟨a, rfl, ⟨xs, SqL.of hl⟩, k (Itl K a) H' fp' al' (fun b => b = a) _ (to.less fun _ z => False.elim z) ⟨hl, (oA.wk (φ := fun _ => True) fun _ _ => trivial).own hi⟩ (walk_lst hi) fun b hb => hb ▸ ⟨(to.tmp a List.mem_cons_self).1, _, hl⟩⟩
    · rename_i cs
      obtain ⟨rfl, hi⟩ := immL_some h2
      exact doT _ hi rfl rfl fun v H' fp' al' fv to oo => Own.w0 oo
    · cases h2
  · rename_i i
    split at q
    · rename_i d hsl
      obtain ⟨c, h2, q⟩ := Option.bind_eq_some_iff.mp q
      have hlook : e1.look i = some d := by unfold Env.look; rw [hsl]
      cases q
      unfold itD at h2
      split at h2
      · rename_i cs
        obtain ⟨rfl, hi⟩ := immL_some h2
        refine .inl (ha e _ _ h1 bv fp al σ H _ rr fun v H' fp' al' fv to oo => ?_)
        obtain ⟨fo, F, rf⟩ := to.rr
        obtain ⟨w, hw, wk⟩ := rf.wk i _ hsl
        rw [oo.1] at hw; cases hw
        cases wk with
        | @lst a xs _ hr hfo wA =>
          refine ⟨a, rfl, ⟨xs, SqL.of hr⟩, k (Itl K a) H' fp' al' (fun b => b = a) _ (to.less fun _ z => False.elim z) ⟨hr, wA.own hi⟩ (walk_lst hi) fun b hb => hb ▸ ⟨fun z => (rf.fof a hfo).1 (rf.sup a z), (rf.fof a hfo).2⟩⟩
      · rename_i cs
        obtain ⟨rfl, hi⟩ := immL_some h2
        exact doT _ hi rfl rfl fun v H' fp' al' fv to oo => to.rr.val hlook oo.1
      · cases h2
    · rename_i cs hsl
      obtain ⟨c, h2, q⟩ := Option.bind_eq_some_iff.mp q
      cases q
      obtain ⟨rfl, hi⟩ := immL_some h2
      exact doT _ hi rfl rfl fun v H' fp' al' fv to oo => to.rr.val (by unfold Env.look; rw [hsl]) oo.1
    · cases q
/-- ranges -/
def rngD (i : Int) (n : Nat) : List PyData := (List.range n).map fun (k : Nat) => .int (i + (k : Int))
theorem walk_rng {lo : Int} {n : Nat} : Walk K (Itr lo n) (rngD lo n) (fun _ => False) (fun _ => True) where
  keep := fun _ _ _ _ _ _ _ => trivial
  item := fun i d H _ e => by
    unfold rngD at e
    rw [List.getElem?_map] at e
    by_cases h : i < n
    · rw [List.getElem?_range h] at e
      cases e
      refine ⟨h, fun x H1 hy => ?_⟩
      obtain ⟨rfl, rfl⟩ := hy
      exact ⟨Same.refl _, [], .int _, fun a z => by cases z⟩
    · rw [List.getElem?_eq_none (by simpa using h)] at e
      cases e
  stop := fun i H _ h => by
    have : (rngD lo n).length = n := by simp [rngD]
    rw [this] at h
    exact h
def mRng1 (a : MA) : MI := fun e => (a e).bind fun p => match looks p.2 p.1 with
  | some [.int j] => if -4611686018427387904 ≤ j ∧ j < 4611686018427387904 then some (rngD 0 j.toNat, p.2) else none
  | _ => none
def mRng2 (a : MA) : MI := fun e => (a e).bind fun p => match looks p.2 p.1 with
  | some [.int i, .int j] => if -4611686018427387904 ≤ i ∧ i < 4611686018427387904 ∧ -4611686018427387904 ≤ j ∧ j < 4611686018427387904 then some (rngD i (j - i).toNat, p.2) else none
  | _ => none
theorem W0A.one {vs : List V} {d : PyData} (h : W0A K H vs [d]) : ∃ v, vs = [v] ∧ W0 K H v d := by
  cases h with | cons a b => cases b; exact ⟨_, rfl, a⟩
theorem W0A.two {vs : List V} {d c : PyData} (h : W0A K H vs [d, c]) : ∃ v w, vs = [v, w] ∧ W0 K H v d ∧ W0 K H w c := by
  cases h with | cons a b => cases b with | cons b c => cases c; exact ⟨_, _, rfl, a, b⟩
theorem ri_rng1 {t : TA} {m : MA} (h : RA K t m) : RI K (iRng1 t) (mRng1 m) := by
  intro e ds e' q bv fp al σ H Rq rr k
  obtain ⟨⟨os, e1⟩, h1, q⟩ := Option.bind_eq_some_iff.mp q
  dsimp only at q
  split at q
  · rename_i j hj
    split at q
    · rename_i hb
      cases q
      refine h e os _ h1 bv fp al σ H _ rr fun vs H' fp' al' fv to oo => ?_
      obtain ⟨v, rfl, w⟩ := W0A.one (oo.w0 to.rr hj)
      cases w.intI
      exact ⟨j, rfl, hb.1, hb.2, k _ H' fp' al' (fun _ => False) (fun _ => True) (to.less fun _ z => False.elim z) trivial walk_rng fun _ z => False.elim z⟩
    · cases q
  · cases q
theorem ri_rng2 {t : TA} {m : MA} (h : RA K t m) : RI K (iRng2 t) (mRng2 m) := by
  intro e ds e' q bv fp al σ H Rq rr k
  obtain ⟨⟨os, e1⟩, h1, q⟩ := Option.bind_eq_some_iff.mp q
  dsimp only at q
  split at q
  · rename_i i j hj
    split at q
    · rename_i hb
      cases q
      refine h e os _ h1 bv fp al σ H _ rr fun vs H' fp' al' fv to oo => ?_
      obtain ⟨v, w, rfl, w1, w2⟩ := W0A.two (oo.w0 to.rr hj)
      cases w1.intI
      cases w2.intI
      exact ⟨i, j, rfl, hb, k _ H' fp' al' (fun _ => False) (fun _ => True) (to.less fun _ z => False.elim z) trivial walk_rng fun _ z => False.elim z⟩
    · cases q
  · cases q

/-! ### defs -/
def envP (N : Nat) (ds : List PyData) : Dl.Env := ⟨ds.map .wk ++ List.replicate (N - ds.length) .no, []⟩
def outP : Out → Option PyData
  | .ret d _ => some d
  | .nx _ => some .none
  | _ => none
/-- a def that changes nothing: its mirror from its body's -/
def mDef (N : Nat) (m : MS) (ds : List PyData) : Option PyData := (m (envP N ds)).bind outP
theorem start_get {N : List Str} {vs : List V} {i : Nat} {v : V} (h : vs[i]? = some v) : (L2.start N vs)[i]? = some (some v) := by
  unfold L2.start
  rw [List.getElem?_append_left (by simpa using (List.getElem?_eq_some_iff.mp h).1), List.getElem?_map, h]
  rfl
theorem start_len {N : List Str} {vs : List V} (h : vs.length ≤ N.length) : (L2.start N vs).length = N.length := by
  unfold L2.start
  simp
  omega
theorem rr_envP {N : List Str} {vs : List V} {ds : List PyData} (w : W0A K H vs ds) (hl : vs.length ≤ N.length) : RR K [] (envP N.length ds) (fun _ => False) (fun _ => False) (L2.start N vs) H := by
  have wl := w.length
  have al : ∀ {v : V} {d : PyData}, W0 K H v d → Wk K H (fun a => ∃ u, H a = some u) v d := by
    have one : (∀ (v : V) (d : PyData), W0 K H v d → Wk K H (fun a => ∃ u, H a = some u) v d) := by
      intro v d h
      induction h using Wk.rec (motive_2 := fun vs ds _ => WkA K H (fun a => ∃ u, H a = some u) vs ds) with
      | non => exact .non
      | bl b => exact .bl b
      | int i => exact .int i
      | str x => exact .str x
      | lst r t a ih =>
        exact .lst r ⟨_, r⟩ ih
      | tup r a ih => exact .tup r ih
      | dk r e t a ih => exact .dk r e ⟨_, r⟩ ih
      | dt r e t a ih => exact .dt r e ⟨_, r⟩ ih
      | ins c r e t a ih => exact .ins c r e ⟨_, r⟩ ih
      | nil => exact .nil
      | cons a b ih1 ih2 => exact .cons ih1 ih2
    exact fun {_ _} h => one _ _ h
  have get : ∀ {i : Nat} {x : Sl}, (envP N.length ds).sl[i]? = some x → x = .no ∨ ∃ d, x = .wk d ∧ ds[i]? = some d := fun {i x} h => by
    unfold envP at h
    by_cases hi : i < ds.length
    · rw [List.getElem?_append_left (by simpa using hi), List.getElem?_map, List.getElem?_eq_getElem hi] at h
      cases h
      exact .inr ⟨_, rfl, List.getElem?_eq_getElem hi⟩
    · rw [List.getElem?_append_right (by simpa using hi), List.getElem?_replicate] at h
      split at h
      · cases h; exact .inl rfl
      · cases h
  refine ⟨fun a => ∃ u, H a = some u, fun _ => [], ?_, fun x d h => ?_, fun _ _ _ a z => (by cases z), fun _ a z => (by cases z), fun _ z => z, fun i d h => ?_, fun i k h => ?_, fun a h => ⟨fun z => z, h⟩, fun _ z => False.elim z⟩
  · rw [start_len hl]
    simp [envP]
    omega
  · cases x with
    | inl i =>
      rcases get (Env.own_inl h) with z | ⟨c, z, _⟩ <;> cases z
    | inr k => exact absurd (show (none : Option PyData) = some d from h) (by simp)
  · rcases get h with z | ⟨c, z, e⟩
    · cases z
    · cases z
      obtain ⟨v, h1, h2⟩ := w.get e
      exact ⟨v, start_get h1, al h2⟩
  · rcases get h with z | ⟨c, z, _⟩ <;> cases z
/-- the body's reading, at the entry -/
theorem body_P {N : List Str} {t : TS} {m : MS} {n : Nat} {vs : List V} {Q : VK} {E : XK} (h : RS K t m) (hn : n ≤ N.length) (sp : spP K n (mDef N.length m) vs H Q E) : t { nx := fun _ H' => Q .non H', rt := Q } (L2.start N vs) H := by
  obtain ⟨ds, c, hc, hl, w, k⟩ := sp
  unfold mDef at hc
  have wl := w.length
  have r := rr_envP (N := N) w (by omega)
  have fin : ∀ {fb : Addr → Prop} {fv : List Addr} {H' : Hp}, Step (fun _ => False) H (fun a => fb a ∨ a ∈ fv) H' → Same H H' ∧ ∀ a ∈ fv, H a = none := fun {fb fv H'} s =>
    ⟨fun b o e => s.stay b o e (.inl fun z => z), fun a z => (s.new a (.inr z)).elim (fun z => False.elim z) id⟩
  cases ho : m (envP N.length ds) with
  | none => rw [ho] at hc; cases hc
  | some o =>
    rw [ho] at hc
    refine h _ o ho [] _ _ H _ r ?_
    cases o with
    | ret d bo =>
      cases hc
      exact fun v H' fb fv _ o n s => k v H' fv (fin s).1 o (fin s).2
    | nx e1 =>
      cases hc
      exact fun σ' H' fp' _ s => k .non H' [] (fun b o e => s.stay b o e (.inl fun z => z)) .non fun a z => by cases z
    | bk e1 => cases hc
    | ct e1 => cases hc
def envB (N : Nat) (b : PyData) (ds : List PyData) : Dl.Env := ⟨.bor 0 :: (ds.map .wk ++ List.replicate (N - 1 - ds.length) .no), [b]⟩
def outB : Out → Option (PyData × PyData)
  | .ret d [b] => some (d, b)
  | .nx ⟨_, [b]⟩ => some (.none, b)
  | _ => none
/-- a def that changes its first argument -/
def mDefB (N : Nat) (m : MS) (b : PyData) (ds : List PyData) : Option (PyData × PyData) := (m (envB N b ds)).bind outB
theorem start_cons {N : List Str} {v : V} {vs : List V} (h : vs.length + 1 ≤ N.length) : ∃ r, L2.start N (v :: vs) = some v :: r ∧ r.length + 1 = N.length ∧ ∀ (i : Nat) w, vs[i]? = some w → r[i]? = some (some w) := by
  refine ⟨vs.map some ++ List.replicate (N.length - (vs.length + 1)) none, by simp [L2.start], by simp; omega, fun i w hw => ?_⟩
  rw [List.getElem?_append_left (by simpa using (List.getElem?_eq_some_iff.mp hw).1), List.getElem?_map, hw]
  rfl
theorem rr_envB {N : List Str} {vb : V} {vs : List V} {b : PyData} {fb : List Addr} {ds : List PyData} (ob : Own K H vb b fb) (w : WkA K H (· ∉ fb) vs ds) (hl : vs.length + 1 ≤ N.length) : RR K [vb] (envB N.length b ds) (· ∈ fb) (· ∈ fb) (L2.start N (vb :: vs)) H := by
  have wl := w.length
  obtain ⟨r, er, hr1, hr2⟩ := start_cons (N := N) (v := vb) hl
  have al : ∀ {v : V} {d : PyData}, Wk K H (· ∉ fb) v d → Wk K H (fun a => a ∉ fb ∧ ∃ u, H a = some u) v d := by
    have one : (∀ (v : V) (d : PyData), Wk K H (· ∉ fb) v d → Wk K H (fun a => a ∉ fb ∧ ∃ u, H a = some u) v d) := by
      intro v d h
      induction h using Wk.rec (motive_2 := fun vs ds _ => WkA K H (fun a => a ∉ fb ∧ ∃ u, H a = some u) vs ds) with
      | non => exact .non
      | bl b => exact .bl b
      | int i => exact .int i
      | str x => exact .str x
      | lst r t a ih =>
        exact .lst r ⟨t, _, r⟩ ih
      | tup r a ih => exact .tup r ih
      | dk r e t a ih => exact .dk r e ⟨t, _, r⟩ ih
      | dt r e t a ih => exact .dt r e ⟨t, _, r⟩ ih
      | ins c r e t a ih => exact .ins c r e ⟨t, _, r⟩ ih
      | nil => exact .nil
      | cons a b ih1 ih2 => exact .cons ih1 ih2
    exact fun {_ _} h => one _ _ h
  have get : ∀ {i : Nat} {x : Sl}, (envB N.length b ds).sl[i]? = some x → x = .no ∨ (i = 0 ∧ x = .bor 0) ∨ ∃ d j, i = j + 1 ∧ x = .wk d ∧ ds[j]? = some d := fun {i x} h => by
    unfold envB at h
    cases i with
    | zero => simp at h; exact .inr (.inl ⟨rfl, h.symm⟩)
    | succ i =>
      rw [List.getElem?_cons_succ] at h
      by_cases hi : i < ds.length
      · rw [List.getElem?_append_left (by simpa using hi), List.getElem?_map, List.getElem?_eq_getElem hi] at h
        cases h
        exact .inr (.inr ⟨_, i, rfl, rfl, List.getElem?_eq_getElem hi⟩)
      · rw [List.getElem?_append_right (by simpa using hi), List.getElem?_replicate] at h
        split at h
        · cases h; exact .inl rfl
        · cases h
  refine ⟨fun a => a ∉ fb ∧ ∃ u, H a = some u, fun x => if x = .inr 0 then fb else [], ?_, fun x d h => ?_, fun x y hxy a z => ?_, fun x a z => ?_, fun _ z => z, fun i d h => ?_, fun i k h => ?_, fun a h => h, ob.alive⟩
  · rw [er]
    simp [envB]
    omega
  · cases x with
    | inl i =>
      rcases get (Env.own_inl h) with z | ⟨_, z⟩ | ⟨_, _, _, z, _⟩ <;> cases z
    | inr k =>
      have h' : ([b] : List PyData)[k]? = some d := h
      cases k with
      | zero =>
        simp at h'
        subst h'
        exact ⟨vb, rfl, by simpa using ob⟩
      | succ k => simp at h'
  · try dsimp only at z ⊢
    split at z
    · rw [if_neg (by rename_i hx; exact fun w => hxy (hx.trans w.symm))]
      simp
    · cases z
  · try dsimp only at z
    split at z
    · exact z
    · cases z
  · rcases get h with z | ⟨_, z⟩ | ⟨c, j, rfl, z, e⟩
    · cases z
    · cases z
    · cases z
      obtain ⟨v, h1, h2⟩ := w.get e
      exact ⟨v, by rw [er, List.getElem?_cons_succ]; exact hr2 j v h1, al h2⟩
  · rcases get h with z | ⟨rfl, z⟩ | ⟨_, _, _, z, _⟩
    · cases z
    · cases z
      exact ⟨vb, by rw [er]; rfl, rfl⟩
    · cases z
theorem body_B {N : List Str} {t : TS} {m : MS} {n : Nat} {vs : List V} {Q : VK} {E : XK} (h : RS K t m) (hn : n + 1 ≤ N.length) (sp : spB K n (mDefB N.length m) vs H Q E) : t { nx := fun _ H' => Q .non H', rt := Q } (L2.start N vs) H := by
  obtain ⟨vb, vs, fb, b, ds, c, b', rfl, hc, hl, ob, w, k⟩ := sp
  unfold mDefB at hc
  have wl := w.length
  have r := rr_envB (N := N) ob w (by omega)
  cases ho : m (envB N.length b ds) with
  | none => rw [ho] at hc; cases hc
  | some o =>
    rw [ho] at hc
    refine h _ o ho [vb] _ _ H _ r ?_
    cases o with
    | ret d bo =>
      have hc : outB (.ret d bo) = some (c, b') := hc
      unfold outB at hc
      split at hc
      · rename_i d' b2 heq
        cases heq
        cases hc
        intro v H' fq fv hb o n s
        obtain ⟨F, h1, h2, _⟩ := hb
        obtain ⟨vb2, e1, o1⟩ := h1 0 _ rfl
        cases e1
        refine k v H' (F 0) fv o1 o (fun a z y => n a z (h2 0 a y)) ⟨s.stay, fun p z => s.new p ?_, s.live⟩
        exact z.elim (fun z => .inl (h2 0 p z)) .inr
      · rename_i heq; cases heq
      · cases hc
    | nx e1 =>
      have hc : outB (.nx e1) = some (c, b') := hc
      unfold outB at hc
      split at hc
      · rename_i heq; cases heq
      · rename_i sl b2 heq
        cases heq
        cases hc
        intro σ' H' fp' hr s
        obtain ⟨fo, F, rf⟩ := hr
        obtain ⟨vb2, e1, o1⟩ := rf.own (.inr 0) _ rfl
        have e1' : ([vb] : List V)[0]? = some vb2 := e1
        cases e1'
        refine k .non H' (F (.inr 0)) [] o1 .non (fun a z => by cases z) ⟨s.stay, fun p z => s.new p ?_, s.live⟩
        exact z.elim (rf.sub _ p) fun z => by cases z
      · cases hc
    | bk e1 => cases hc
    | ct e1 => cases hc
end
end Dl
/-! operations over data -/
namespace Dl
open PySem L2

section
variable {X : Cx}
theorem opOr {f : Value → Value → Sem Value} {r r' : R2} (h : OpR X f r) (h' : OpR X f r') : OpR X f (fun x y H Q => r x y H Q ∨ r' x y H Q) := by
  intro pins s σ H x y v u Q I rx ry q
  rcases q with q | q
  · exact h pins s σ H x y v u Q I rx ry q
  · exact h' pins s σ H x y v u Q I rx ry q
def rAddS : R2 := fun x y H Q => ∃ i j, x = .str i ∧ y = .str j ∧ i.length + j.length ≤ sizeLine ∧ Q (.str (i ++ j)) H
def rPlus (K : PySem.W.Frag) : R2 := fun x y H Q => (rI0 fun i j => .int (i + j)) x y H Q ∨ (rCat x y H Q ∨ (rCatA K x y H Q ∨ rAddS x y H Q))
theorem op_plus : OpR X (binaryOp .Add) (rPlus X.K) := opOr op_add (opOr op_cat (opOr op_catA op_add_str))
end
section
variable {K : PySem.W.Frag} {bv : List V} {e e' e1 e2 : Dl.Env} {fp fp' fp1 fp2 al al' al1 al2 T T1 T2 φ : Addr → Prop} {σ : St} {H H' H1 H2 : Hp}
theorem W0A.owns {vs : List V} {ds : List PyData} (h : WkA K H φ vs ds) (hi : immA ds = true) : OwnA K H vs ds [] := h.own hi
theorem OwnA.same {vs : List V} {ds : List PyData} (h : OwnA K H vs ds []) (s : Same H H') : OwnA K H' vs ds [] :=
  h.step (fp := fun _ => False) (fp' := fun _ => False) (.of_same s fun _ z => False.elim z) fun _ z => by cases z
theorem Own.same {v : V} {d : PyData} {f : List Addr} (h : Own K H v d f) (s : Same H H') : Own K H' v d f :=
  h.step (fp := fun _ => False) (fp' := fun _ => False) (.of_same s fun _ z => False.elim z) fun _ _ z => z
/-- a new list, a new tuple of what holds no list -/
theorem new_lst {vs : List V} {ds : List PyData} {p : Addr} (h : OwnA K H vs ds []) (hp : H p = none) : Same H (upd H p (.lst vs)) ∧ Own K (upd H p (.lst vs)) (.ref p) (.list ds) [p] ∧ ∀ a ∈ [p], H a = none :=
  ⟨same_upd hp, .lst upd_same (h.same (same_upd hp)) (by simp), fun a z => by rw [List.mem_singleton.mp z]; exact hp⟩
theorem new_tup {vs : List V} {ds : List PyData} {p : Addr} (h : OwnA K H vs ds []) (hp : H p = none) : Same H (upd H p (.tup vs)) ∧ Own K (upd H p (.tup vs)) (.ref p) (.tuple ds) [] ∧ ∀ a ∈ ([] : List Addr), H a = none :=
  ⟨same_upd hp, .tup upd_same (h.same (same_upd hp)), fun a z => by cases z⟩
theorem noneIn {p : Addr} : ∀ a ∈ ([] : List Addr), H a = none := fun a z => by cases z

/-! ### numbers -/
def dSub : PyData → PyData → Option PyData
  | .int a, .int b => some (.int (a - b))
  | _, _ => none
def mulOk (a b : Int) : Bool := (decide (-18446744073709551616 < a) && decide (a < 18446744073709551616)) || (decide (-18446744073709551616 < b) && decide (b < 18446744073709551616))
def dMul : PyData → PyData → Option PyData
  | .int a, .int b => if mulOk a b = true then some (.int (a * b)) else none
  | _, _ => none
def dDiv : PyData → PyData → Option PyData
  | .int a, .int b => if 0 < b ∧ b < 1073741824 then some (.int (a / b)) else none
  | _, _ => none
def dMod : PyData → PyData → Option PyData
  | .int a, .int b => if 0 < b then some (.int (a % b)) else none
  | _, _ => none
def dPow : PyData → PyData → Option PyData
  | .int a, .int b => if 0 ≤ b ∧ b ≤ 1000000 ∧ a.natAbs < 18446744073709551616 then some (.int (a ^ b.toNat)) else none
  | _, _ => none
def dAdd : PyData → PyData → Option PyData
  | .int a, .int b => some (.int (a + b))
  | .list a, .list b => if immA a = true ∧ immA b = true ∧ a.length + b.length ≤ 16777216 then some (.list (a ++ b)) else none
  | .tuple a, .tuple b => if immA a = true ∧ immA b = true ∧ a.length + b.length ≤ 16777216 then some (.tuple (a ++ b)) else none
  | .str a, .str b => if a.length + b.length ≤ 16777216 then some (.str (a ++ b)) else none
  | _, _ => none
def dNeg : PyData → Option PyData
  | .int a => some (.int (-a))
  | _ => none
def dLt : PyData → PyData → Option PyData
  | .int a, .int b => some (.bool (decide (a < b)))
  | _, _ => none
def dLe : PyData → PyData → Option PyData
  | .int a, .int b => some (.bool (decide (a ≤ b)))
  | _, _ => none
def dGt : PyData → PyData → Option PyData
  | .int a, .int b => some (.bool (decide (b < a)))
  | _, _ => none
def dGe : PyData → PyData → Option PyData
  | .int a, .int b => some (.bool (decide (b ≤ a)))
  | _, _ => none
theorem fr_i0 {g : Int → Int → V} {f : PyData → PyData → Option PyData} {h : Int → Int → PyData} (hf : ∀ d d' c, f d d' = some c → ∃ i j, d = .int i ∧ d' = .int j ∧ c = h i j) (ho : ∀ i j (H : Hp), Own K H (g i j) (h i j) []) : Fr2 K (rI0 g) f := by
  intro d d' c q x y H Q wx wy k
  obtain ⟨i, j, rfl, rfl, rfl⟩ := hf d d' c q
  exact ⟨i, j, wx.intI, wy.intI, k _ H [] (Same.refl _) (ho i j H) fun a z => by cases z⟩
theorem fr_sub : Fr2 K (rI0 fun i j => .int (i - j)) dSub := fr_i0 (h := fun i j => .int (i - j)) (fun d d' c q => by cases d <;> cases d' <;> simp [dSub] at q; exact ⟨_, _, rfl, rfl, q.symm⟩) fun _ _ _ => .int _
theorem fr_lt : Fr2 K (rI0 fun i j => .bl (decide (i < j))) dLt := fr_i0 (h := fun i j => .bool (decide (i < j))) (fun d d' c q => by cases d <;> cases d' <;> simp [dLt] at q; exact ⟨_, _, rfl, rfl, q.symm⟩) fun _ _ _ => .bl _
theorem fr_le : Fr2 K (rI0 fun i j => .bl (decide (i ≤ j))) dLe := fr_i0 (h := fun i j => .bool (decide (i ≤ j))) (fun d d' c q => by cases d <;> cases d' <;> simp [dLe] at q; exact ⟨_, _, rfl, rfl, q.symm⟩) fun _ _ _ => .bl _
theorem fr_gt : Fr2 K (rI0 fun i j => .bl (decide (j < i))) dGt := fr_i0 (h := fun i j => .bool (decide (j < i))) (fun d d' c q => by cases d <;> cases d' <;> simp [dGt] at q; exact ⟨_, _, rfl, rfl, q.symm⟩) fun _ _ _ => .bl _
theorem fr_ge : Fr2 K (rI0 fun i j => .bl (decide (j ≤ i))) dGe := fr_i0 (h := fun i j => .bool (decide (j ≤ i))) (fun d d' c q => by cases d <;> cases d' <;> simp [dGe] at q; exact ⟨_, _, rfl, rfl, q.symm⟩) fun _ _ _ => .bl _
theorem fr_iC {C : Int → Int → Prop} {g : Int → Int → Int} {f : PyData → PyData → Option PyData} (hf : ∀ d d' c, f d d' = some c → ∃ i j, d = .int i ∧ d' = .int j ∧ C i j ∧ c = .int (g i j)) : Fr2 K (rI C fun i j => .int (g i j)) f := by
  intro d d' c q x y H Q wx wy k
  obtain ⟨i, j, rfl, rfl, hc, rfl⟩ := hf d d' c q
  exact ⟨i, j, wx.intI, wy.intI, hc, k _ H [] (Same.refl _) (.int _) fun a z => by cases z⟩
theorem fr_mul : Fr2 K (rI CMul fun i j => .int (i * j)) dMul := fr_iC fun d d' c q => by
  cases d <;> cases d' <;> simp only [dMul] at q <;> try cases q
  split at q
  · rename_i i j h
    cases q
    refine ⟨i, j, rfl, rfl, ?_, rfl⟩
    simp only [mulOk, Bool.or_eq_true, Bool.and_eq_true, decide_eq_true_eq] at h
    unfold CMul
    exact h
  · cases q
theorem fr_div : Fr2 K (rI CDiv fun i j => .int (i / j)) dDiv := fr_iC fun d d' c q => by
  cases d <;> cases d' <;> simp only [dDiv] at q <;> try cases q
  split at q
  · cases q; exact ⟨_, _, rfl, rfl, by assumption, rfl⟩
  · cases q
theorem fr_mod : Fr2 K (rI (fun _ j => 0 < j) fun i j => .int (i % j)) dMod := fr_iC fun d d' c q => by
  cases d <;> cases d' <;> simp only [dMod] at q <;> try cases q
  split at q
  · cases q; exact ⟨_, _, rfl, rfl, by assumption, rfl⟩
  · cases q
theorem fr_pow : Fr2 K (rI CPow fun i j => .int (i ^ j.toNat)) dPow := fr_iC fun d d' c q => by
  cases d <;> cases d' <;> simp only [dPow] at q <;> try cases q
  split at q
  · rename_i h; cases q; exact ⟨_, _, rfl, rfl, h, rfl⟩
  · cases q
theorem fr_neg : Fr1 K (rU fun i => .int (-i)) dNeg := by
  intro d c q x H Q w k
  cases d <;> simp only [dNeg] at q <;> cases q
  exact ⟨_, w.intI, k _ H [] (Same.refl _) (.int _) fun a z => by cases z⟩
theorem fr_plus : Fr2 K (rPlus K) dAdd := by
  intro d d' c q x y H Q wx wy k
  cases d <;> cases d' <;> simp only [dAdd] at q <;> try cases q
  · exact .inl ⟨_, _, wx.intI, wy.intI, k _ H [] (Same.refl _) (.int _) fun a z => by cases z⟩
  · split at q
    · rename_i h
      cases q
      cases wx.strI
      cases wy.strI
      exact .inr (.inr (.inr ⟨_, _, rfl, rfl, by rw [sizeLine_eq]; exact h, k _ H [] (Same.refl _) (.str _) fun a z => by cases z⟩))
    · cases q
  · split at q
    · rename_i h
      cases q
      obtain ⟨l, xs, rfl, hl, wxs⟩ := wx.lstI
      obtain ⟨b, ys, rfl, hb, wys⟩ := wy.lstI
      refine .inr (.inl ⟨l, b, xs, ys, rfl, rfl, hl, hb, by rw [sizeLine_eq, wxs.length, wys.length]; exact h.2.2, fun p hp => ?_⟩)
      obtain ⟨s, o, n⟩ := new_lst (((wxs.own h.1).append (wys.own h.2.1) (by simp)) : OwnA K H _ _ []) hp
      exact k _ _ [p] s o n
    · cases q
  · split at q
    · rename_i h
      cases q
      obtain ⟨l, xs, rfl, hl, wxs⟩ := wx.tupJ
      obtain ⟨b, ys, rfl, hb, wys⟩ := wy.tupJ
      have lx := wxs.length
      have ly := wys.length
      refine .inr (.inr (.inl ⟨l, b, xs, ys, rfl, rfl, SqT.of hl, SqT.of hb, by rw [sizeLine_eq, lx, ly]; exact h.2.2, fun hx => ?_, fun _ hy => ?_, fun _ _ p hp => ?_⟩))
      · subst hx
        cases wxs
        rw [List.nil_append] at k
        exact k _ H [] (Same.refl _) (.tup hb (wys.own h.2.1)) fun a z => by cases z
      · subst hy
        cases wys
        rw [List.append_nil] at k
        exact k _ H [] (Same.refl _) (.tup hl (wxs.own h.1)) fun a z => by cases z
      · obtain ⟨s, o, n⟩ := new_tup (((wxs.own h.1).append (wys.own h.2.1) (by simp)) : OwnA K H _ _ []) hp
        exact k _ _ [] s o n
    · cases q
/-! ### equal, within -/
def dEq (d e : PyData) : Option PyData := if SeqAt.shaped d = true ∧ SeqAt.shaped e = true then some (.bool (PyData.eqv d e)) else none
def dNe (d e : PyData) : Option PyData := if SeqAt.shaped d = true ∧ SeqAt.shaped e = true then some (.bool (!PyData.eqv d e)) else none
theorem fr_eq : Fr2 K (rEqD K) dEq := by
  intro d d' c q x y H Q wx wy k
  unfold dEq at q
  split at q
  · rename_i h
    cases q
    exact ⟨d, d', wx.dp (lay_of_shaped h.1), wy.dp (lay_of_shaped h.2), h.1, h.2, k _ H [] (Same.refl _) (.bl _) fun a z => by cases z⟩
  · cases q
theorem fr_ne : Fr2 K (rNeD K) dNe := by
  intro d d' c q x y H Q wx wy k
  unfold dNe at q
  split at q
  · rename_i h
    cases q
    exact ⟨d, d', wx.dp (lay_of_shaped h.1), wy.dp (lay_of_shaped h.2), h.1, h.2, k _ H [] (Same.refl _) (.bl _) fun a z => by cases z⟩
  · cases q
def dIn : PyData → PyData → Option PyData
  | d, .list ds => if SeqAt.shaped d = true ∧ SeqAt.shaped (.list ds) = true then some (.bool (ds.any fun z => PyData.eqv z d)) else none
  | _, _ => none
def dNotIn : PyData → PyData → Option PyData
  | d, .list ds => if SeqAt.shaped d = true ∧ SeqAt.shaped (.list ds) = true then some (.bool (!ds.any fun z => PyData.eqv z d)) else none
  | _, _ => none
theorem fr_in : Fr2 K (rInD K) dIn := by
  intro d d' c q x y H Q wx wy k
  cases d' with
  | list ds =>
    simp only [dIn] at q
    split at q
    · rename_i h
      cases q
      exact ⟨d, ds, wx.dp (lay_of_shaped h.1), wy.dp (lay_of_shaped h.2), h.1, h.2, k _ H [] (Same.refl _) (.bl _) fun a z => by cases z⟩
    · cases q
  | _ => cases q
theorem fr_notIn : Fr2 K (rNotInD K) dNotIn := by
  intro d d' c q x y H Q wx wy k
  cases d' with
  | list ds =>
    simp only [dNotIn] at q
    split at q
    · rename_i h
      cases q
      exact ⟨d, ds, wx.dp (lay_of_shaped h.1), wy.dp (lay_of_shaped h.2), h.1, h.2, k _ H [] (Same.refl _) (.bl _) fun a z => by cases z⟩
    · cases q
  | _ => cases q
def isNone : PyData → Bool
  | .none => true
  | _ => false
def dIsN : PyData → PyData → Option PyData
  | d, .none => some (.bool (isNone d))
  | _, _ => none
def dNotN : PyData → PyData → Option PyData
  | d, .none => some (.bool (!isNone d))
  | _, _ => none
theorem isNone_w {v : V} {d : PyData} (w : W0 K H v d) : decide (v = .non) = isNone d := by
  cases w <;> simp [isNone]
theorem fr_isN : Fr2 K (fun x y H Q => y = .non ∧ Q (.bl (decide (x = .non))) H) dIsN := by
  intro d d' c q x y H Q wx wy k
  cases d' with
  | none =>
    cases q
    refine ⟨wy.nonI, k _ H [] (Same.refl _) ?_ fun a z => by cases z⟩
    rw [isNone_w wx]
    exact .bl _
  | _ => cases q
theorem fr_notN : Fr2 K (fun x y H Q => y = .non ∧ Q (.bl (!decide (x = .non))) H) dNotN := by
  intro d d' c q x y H Q wx wy k
  cases d' with
  | none =>
    cases q
    refine ⟨wy.nonI, k _ H [] (Same.refl _) ?_ fun a z => by cases z⟩
    rw [isNone_w wx]
    exact .bl _
  | _ => cases q

/-! ### items, slices -/
def dIx : PyData → PyData → Option PyData
  | .list ds, .int i => (atI ds i).bind fun d => if imm d = true then some d else none
  | .tuple ds, .int i => (atI ds i).bind fun d => if imm d = true then some d else none
  | .str z, .int i => if z.length ≤ 16777216 then (atI z.cps.toList i).bind fun c => some (.str ⟨#[c]⟩) else none
  | _, _ => none
theorem atI_w {xs : List V} {ds : List PyData} {i : Int} {d : PyData} (w : WkA K H φ xs ds) (h : atI ds i = some d) : ∃ v, atI xs i = some v ∧ Wk K H φ v d := by
  unfold atI at h ⊢
  rw [w.length]
  obtain ⟨j, h1, h2⟩ := Option.bind_eq_some_iff.mp h
  obtain ⟨v, h3, h4⟩ := w.get h2
  exact ⟨v, by rw [h1]; exact h3, h4⟩
theorem fr_ix : Fr2 K (rIx K) dIx := by
  intro d d' c q x y H Q wx wy k
  cases d' with
  | int i =>
    cases wy.intI
    cases d with
    | list ds =>
      simp only [dIx] at q
      obtain ⟨d, h1, q⟩ := Option.bind_eq_some_iff.mp q
      split at q
      · rename_i hi
        cases q
        obtain ⟨p, xs, rfl, hp, w⟩ := wx.lstI
        obtain ⟨v, hv, wv⟩ := atI_w w h1
        exact .inl ⟨p, xs, i, v, rfl, rfl, SqL.of hp, hv, k _ H [] (Same.refl _) (wv.own hi) fun a z => by cases z⟩
      · cases q
    | tuple ds =>
      simp only [dIx] at q
      obtain ⟨d, h1, q⟩ := Option.bind_eq_some_iff.mp q
      split at q
      · rename_i hi
        cases q
        obtain ⟨p, xs, rfl, hp, w⟩ := wx.tupI
        obtain ⟨v, hv, wv⟩ := atI_w w h1
        exact .inr (.inl ⟨p, xs, i, v, rfl, rfl, hp, hv, k _ H [] (Same.refl _) (wv.own hi) fun a z => by cases z⟩)
      · cases q
    | str z =>
      simp only [dIx] at q
      split at q
      · rename_i hz
        obtain ⟨ch, h1, q⟩ := Option.bind_eq_some_iff.mp q
        cases q
        cases wx.strI
        exact .inr (.inr ⟨z, i, ch, rfl, rfl, by rw [sizeLine_eq]; exact hz, h1, k _ H [] (Same.refl _) (.str _) fun a z => by cases z⟩)
      · cases q
    | _ => cases q
  | _ => cases d <;> cases q
abbrev MP := Dl.Env → Option (Option Int × Dl.Env)
def RP (K : PySem.W.Frag) (t : TO) (m : MP) : Prop := ∀ (e : Dl.Env) (b : Option Int) (e' : Dl.Env), m e = some (b, e') → ∀ (bv : List V) (fp al : Addr → Prop) (σ : St) (H : Hp) (Q : Option Int → Hp → Prop), RR K bv e fp al σ H →
  (∀ (H' : Hp) (fp' al' : Addr → Prop), To K bv σ fp al H e' (fun _ => False) fp' al' H' → Q b H') → t σ H Q
def pNo : MP := fun e => some (none, e)
def pInt (a : MO) : MP := fun e => (a e).bind fun p => (opInt p.1 p.2).bind fun i => some (some i, p.2)
theorem rp_no : RP K tNoPart pNo := by
  intro e b e' q bv fp al σ H Q rr k
  cases q
  exact k H fp al (To.refl rr)
theorem rp_int {t : TE} {m : MO} (h : RO K t m) : RP K (tPart t) (pInt m) := by
  intro e b e' q bv fp al σ H Q rr k
  obtain ⟨⟨o, e1⟩, h1, q⟩ := Option.bind_eq_some_iff.mp q
  obtain ⟨i, h2, q⟩ := Option.bind_eq_some_iff.mp q
  cases q
  refine h e o _ h1 bv fp al σ H _ rr fun v H' fp' al' fv to oo => ⟨i, (oo.w0 to.rr (opInt_look h2)).intI, k H' fp' al' (to.less fun _ z => False.elim z)⟩
def cutD (ds : List PyData) (lo hi : Option Int) : List PyData := (ds.drop (HT.sIx ds.length 0 lo)).take (HT.sIx ds.length ds.length hi - HT.sIx ds.length 0 lo)
def dSl (d : PyData) (lo hi : Option Int) : Option PyData := match d with
  | .list ds => if immA ds = true then some (.list (cutD ds lo hi)) else none
  | .tuple ds => if immA ds = true then some (.tuple (cutD ds lo hi)) else none
  | .str z => if z.length ≤ 16777216 then some (.str (cutS z lo hi)) else none
  | _ => none
theorem cutD_whole {ds : List PyData} {lo hi : Option Int} (h : HT.sIx ds.length 0 lo = 0 ∧ HT.sIx ds.length ds.length hi = ds.length) : cutD ds lo hi = ds := by
  unfold cutD
  rw [h.1, h.2]
  simp
def mSl (a : MO) (l h : MP) : ME := fun e => (a e).bind fun p => (l p.2).bind fun x => (h x.2).bind fun y => (p.1.look y.2).bind fun d => (dSl d x.1 y.1).bind fun c => some (c, y.2)
def rSl (K : PySem.W.Frag) : V → Option Int → Option Int → Hp → VK → Prop := fun x lo hi H Q => rSlL K x lo hi H Q ∨ (rSlA K x lo hi H Q ∨ rSlS x lo hi H Q)
theorem sl_seq {X : Cx} : SlR X (rSl X.K) := sl_list.or (sl_tupA.or sl_str)
theorem cut_own {xs : List V} {ds : List PyData} {lo hi : Option Int} (w : WkA K H φ xs ds) (h : immA ds = true) : OwnA K H (cutV xs lo hi) (cutD ds lo hi) [] := by
  unfold cutV cutD
  rw [w.length]
  refine ((w.drop _).take _).own ?_
  rw [immA_all, List.all_eq_true] at h ⊢
  exact fun d hd => h d (List.mem_of_mem_drop (List.mem_of_mem_take hd))
theorem re_slice {t : TE} {tl th : TO} {a : MO} {l h : MP} (ha : RO K t a) (hl : RP K tl l) (hh : RP K th h) : RE K (tSl (rSl K) t tl th) (mSl a l h) := by
  intro e c e' q bv fp al σ H Q rr k
  obtain ⟨⟨o, e1⟩, h1, q⟩ := Option.bind_eq_some_iff.mp q
  obtain ⟨⟨lo, e2⟩, h2, q⟩ := Option.bind_eq_some_iff.mp q
  obtain ⟨⟨hi, e3⟩, h3, q⟩ := Option.bind_eq_some_iff.mp q
  obtain ⟨d, h4, q⟩ := Option.bind_eq_some_iff.mp q
  obtain ⟨c', h5, q⟩ := Option.bind_eq_some_iff.mp q
  cases q
  refine ha e o e1 h1 bv fp al σ H _ rr fun v H1 fp1 al1 f1 to1 o1 => ?_
  refine hl e1 lo e2 h2 bv fp1 al1 σ H1 _ to1.rr fun H2 fp2 al2 to2 => ?_
  refine hh e2 hi e3 h3 bv fp2 al2 σ H2 _ to2.rr fun H3 fp3 al3 to3 => ?_
  have to23 := to2.thn to3
  have o3 : OpdAt K σ H3 o v f1 := o1.step to23.step fun a z => (to1.tmp a z).1
  have w := o3.w0 to3.rr h4
  have to := (to1.trans to23).less (T1 := fun _ => False) fun _ z => False.elim z
  unfold dSl at h5
  split at h5
  · split at h5
    · rename_i hi'
      cases h5
      obtain ⟨p, xs, rfl, hp, wA⟩ := w.lstI
      refine .inl ⟨p, xs, rfl, SqL.of hp, fun b hb => ?_⟩
      obtain ⟨s, ow, n⟩ := new_lst (cut_own (lo := lo) (hi := hi) wA hi') hb
      exact k _ _ _ _ _ (to.newv s ow n) ow
    · cases h5
  · split at h5
    · rename_i hi'
      cases h5
      obtain ⟨p, xs, rfl, hp, wA⟩ := w.tupJ
      have lx := wA.length
      refine .inr (.inl ⟨p, xs, rfl, SqT.of hp, fun hw => ?_, fun hw b hb => ?_⟩)
      · rw [lx] at hw
        rw [cutD_whole hw] at k
        exact k _ _ _ _ [] (to.less fun _ z => by cases z) (.tup hp (wA.own hi'))
      · obtain ⟨s, ow, n⟩ := new_tup (cut_own (lo := lo) (hi := hi) wA hi') hb
        exact k _ _ _ _ _ (to.newv s ow n) ow
    · cases h5
  · split at h5
    · rename_i hz
      cases h5
      cases w.strI
      exact .inr (.inr ⟨_, rfl, by rw [sizeLine_eq]; exact hz, k _ _ _ _ [] (to.less fun _ z => by cases z) (.str _)⟩)
    · cases h5
  · cases h5

/-! ### built-in calls -/
def cLen : List PyData → Option PyData
  | [.list ds] => some (.int ds.length)
  | [.tuple ds] => some (.int ds.length)
  | [.str z] => if z.length ≤ 16777216 then some (.int z.length) else none
  | _ => none
theorem fr_len : FrN K (fun xs H Q => ∃ x n, xs = [x] ∧ LenV K x H n ∧ Q (.int n) H) cLen := by
  intro ds c q xs H Q ww k
  unfold cLen at q
  split at q
  · cases q
    obtain ⟨v, rfl, w⟩ := W0A.one ww
    obtain ⟨p, ys, rfl, hp, wA⟩ := w.lstI
    rw [← wA.length] at k
    exact ⟨_, _, rfl, .inl ⟨ys, SqL.of hp, rfl⟩, k _ H [] (Same.refl _) (.int _) fun a z => by cases z⟩
  · cases q
    obtain ⟨v, rfl, w⟩ := W0A.one ww
    obtain ⟨p, ys, rfl, hp, wA⟩ := w.tupI
    rw [← wA.length] at k
    exact ⟨_, _, rfl, .inr ⟨ys, hp, rfl⟩, k _ H [] (Same.refl _) (.int _) fun a z => by cases z⟩
  · split at q
    · rename_i hz
      cases q
      obtain ⟨v, rfl, w⟩ := W0A.one ww
      cases w.strI
      exact ⟨_, _, rfl, ⟨by rw [sizeLine_eq]; exact hz, rfl⟩, k _ H [] (Same.refl _) (.int _) fun a z => by cases z⟩
    · cases q
  · cases q
def cList : List PyData → Option PyData
  | [.list ds] => if immA ds = true then some (.list ds) else none
  | [.tuple ds] => if immA ds = true then some (.list ds) else none
  | _ => none
theorem fr_list : FrN K (fun xs H Q => ∃ p ys, xs = [.ref p] ∧ (SqL K H p ys ∨ SqT K H p ys) ∧ ∀ l, H l = none → Q (.ref l) (upd H l (.lst ys))) cList := by
  intro ds c q xs H Q ww k
  unfold cList at q
  split at q
  · split at q
    · rename_i hi
      cases q
      obtain ⟨v, rfl, w⟩ := W0A.one ww
      obtain ⟨p, ys, rfl, hp, wA⟩ := w.lstI
      refine ⟨p, ys, rfl, .inl (SqL.of hp), fun l hl => ?_⟩
      obtain ⟨s, ow, n⟩ := new_lst (wA.own hi) hl
      exact k _ _ _ s ow n
    · cases q
  · split at q
    · rename_i hi
      cases q
      obtain ⟨v, rfl, w⟩ := W0A.one ww
      obtain ⟨p, ys, rfl, hp, wA⟩ := w.tupI
      refine ⟨p, ys, rfl, .inr hp, fun l hl => ?_⟩
      obtain ⟨s, ow, n⟩ := new_lst (wA.own hi) hl
      exact k _ _ _ s ow n
    · cases q
  · cases q
def cTuple : List PyData → Option PyData
  | [.list ds] => if immA ds = true then some (.tuple ds) else none
  | [.tuple ds] => if immA ds = true then some (.tuple ds) else none
  | _ => none
theorem fr_tuple : FrN K (fun xs H Q => ∃ p ys, xs = [.ref p] ∧ ((SqL K H p ys ∧ ∀ l, H l = none → Q (.ref l) (upd H l (.tup ys))) ∨ (SqT K H p ys ∧ Q (.ref p) H))) cTuple := by
  intro ds c q xs H Q ww k
  unfold cTuple at q
  split at q
  · split at q
    · rename_i hi
      cases q
      obtain ⟨v, rfl, w⟩ := W0A.one ww
      obtain ⟨p, ys, rfl, hp, wA⟩ := w.lstI
      refine ⟨p, ys, rfl, .inl ⟨SqL.of hp, fun l hl => ?_⟩⟩
      obtain ⟨s, ow, n⟩ := new_tup (wA.own hi) hl
      exact k _ _ _ s ow n
    · cases q
  · split at q
    · rename_i hi
      cases q
      obtain ⟨v, rfl, w⟩ := W0A.one ww
      obtain ⟨p, ys, rfl, hp, wA⟩ := w.tupJ
      exact ⟨p, ys, rfl, .inr ⟨SqT.of hp, k _ H [] (Same.refl _) (.tup hp (wA.own hi)) fun a z => by cases z⟩⟩
    · cases q
  · cases q
def cInt : List PyData → Option PyData
  | [.int i] => some (.int i)
  | [.bool b] => some (.int (if b = true then 1 else 0))
  | _ => none
theorem fr_int1 : FrN K (fun xs H Q => (∃ i, xs = [.int i] ∧ Q (.int i) H) ∨ ∃ k, xs = [.bl k] ∧ Q (.int (if k then 1 else 0)) H) cInt := by
  intro ds c q xs H Q ww k
  unfold cInt at q
  split at q
  · cases q
    obtain ⟨v, rfl, w⟩ := W0A.one ww
    cases w.intI
    exact .inl ⟨_, rfl, k _ H [] (Same.refl _) (.int _) fun a z => by cases z⟩
  · cases q
    obtain ⟨v, rfl, w⟩ := W0A.one ww
    cases w.blI
    exact .inr ⟨_, rfl, k _ H [] (Same.refl _) (.int _) fun a z => by cases z⟩
  · cases q
def cMax : List PyData → Option PyData
  | [.int i, .int j] => some (.int (if j > i then j else i))
  | _ => none
def cMin : List PyData → Option PyData
  | [.int i, .int j] => some (.int (if j < i then j else i))
  | _ => none
theorem fr_max2 : FrN K (fun xs H Q => ∃ i j, xs = [.int i, .int j] ∧ Q (.int (if j > i then j else i)) H) cMax := by
  intro ds c q xs H Q ww k
  unfold cMax at q
  split at q
  · cases q
    obtain ⟨v, u, rfl, w1, w2⟩ := W0A.two ww
    cases w1.intI
    cases w2.intI
    exact ⟨_, _, rfl, k _ H [] (Same.refl _) (.int _) fun a z => by cases z⟩
  · cases q
theorem fr_min2 : FrN K (fun xs H Q => ∃ i j, xs = [.int i, .int j] ∧ Q (.int (if j < i then j else i)) H) cMin := by
  intro ds c q xs H Q ww k
  unfold cMin at q
  split at q
  · cases q
    obtain ⟨v, u, rfl, w1, w2⟩ := W0A.two ww
    cases w1.intI
    cases w2.intI
    exact ⟨_, _, rfl, k _ H [] (Same.refl _) (.int _) fun a z => by cases z⟩
  · cases q
end
end Dl
/-! lists that change: append, pop, a store, extend -/
namespace Dl
open PySem L2
section
variable {K : PySem.W.Frag} {bv : List V} {e e' e1 e2 : Dl.Env} {fp fp' fp1 fp2 al al' al1 al2 T T1 T2 φ : Addr → Prop} {σ : St} {H H' H1 H2 : Hp}
/-- the parts of an owned list -/
theorem Own.lstI {v : V} {ds : List PyData} {f : List Addr} (h : Own K H v (.list ds) f) : ∃ a xs g, v = .ref a ∧ f = a :: g ∧ H a = some (.lst xs) ∧ OwnA K H xs ds g ∧ a ∉ g := by
  cases h with | lst r a n => exact ⟨_, _, _, rfl, rfl, r, a, n⟩
mutual
theorem Own.imm_nil : ∀ {v : V} {d : PyData} {f : List Addr}, Own K H v d f → imm d = true → f = []
  | _, _, _, .non, _ => rfl
  | _, _, _, .bl _, _ => rfl
  | _, _, _, .int _, _ => rfl
  | _, _, _, .str _, _ => rfl
  | _, _, _, .lst _ _ _, h => by simp [imm] at h
  | _, _, _, .tup _ a, h => OwnA.imm_nil a (by simpa [imm] using h)
  | _, _, _, .dk _ _ _ _, h => by simp [imm] at h
  | _, _, _, .dt _ _ _ _, h => by simp [imm] at h
  | _, _, _, .ins _ _ _ _ _, h => by simp [imm] at h
theorem OwnA.imm_nil : ∀ {vs : List V} {ds : List PyData} {f : List Addr}, OwnA K H vs ds f → immA ds = true → f = []
  | _, _, _, .nil, _ => rfl
  | _, _, _, .cons a b _, h => by
    simp only [immA, Bool.and_eq_true] at h
    rw [Own.imm_nil a h.1, OwnA.imm_nil b h.2]
    rfl
end
/-- one of them is exchanged -/
theorem OwnA.set {vs : List V} {ds : List PyData} {f g : List Addr} {v : V} {d : PyData} (h : OwnA K H vs ds f) (o : Own K H v d g) (dj : ∀ a ∈ g, a ∉ f) (k : Nat) : ∃ f', OwnA K H (vs.set k v) (ds.set k d) f' ∧ ∀ a ∈ f', a ∈ f ∨ a ∈ g := by
  induction ds generalizing vs f k with
  | nil => cases h; exact ⟨[], .nil, fun a z => by cases z⟩
  | cons c r ih =>
    cases h with
    | @cons w ws _ _ f1 f2 a b n =>
      cases k with
      | zero =>
        refine ⟨g ++ f2, .cons o b fun x z z' => dj x z (List.mem_append_right _ z'), fun x z => ?_⟩
        rcases List.mem_append.mp z with z | z
        · exact .inr z
        · exact .inl (List.mem_append_right _ z)
      | succ k =>
        obtain ⟨f', o', s'⟩ := ih b (fun x z z' => dj x z (List.mem_append_right _ z')) k
        refine ⟨f1 ++ f', .cons a o' fun x z z' => ?_, fun x z => ?_⟩
        · rcases s' x z' with y | y
          · exact n x z y
          · exact dj x y (List.mem_append_left _ z)
        · rcases List.mem_append.mp z with z | z
          · exact .inl (List.mem_append_left _ z)
          · rcases s' x z with y | y
            · exact .inl (List.mem_append_right _ y)
            · exact .inr y
/-- one of them is taken out -/
theorem OwnA.erase {vs : List V} {ds : List PyData} {f : List Addr} {k : Nat} {d : PyData} (h : OwnA K H vs ds f) (hk : ds[k]? = some d) : ∃ v g f', vs[k]? = some v ∧ Own K H v d g ∧ OwnA K H (vs.eraseIdx k) (ds.eraseIdx k) f' ∧ (∀ a ∈ f', a ∈ f) ∧ (∀ a ∈ g, a ∈ f) ∧ ∀ a ∈ g, a ∉ f' := by
  induction ds generalizing vs f k with
  | nil => simp at hk
  | cons c r ih =>
    cases h with
    | @cons w ws _ _ f1 f2 a b n =>
      cases k with
      | zero =>
        simp at hk
        subst hk
        exact ⟨w, f1, f2, rfl, a, b, fun x z => List.mem_append_right _ z, fun x z => List.mem_append_left _ z, n⟩
      | succ k =>
        obtain ⟨v, g, f', h1, h2, h3, h4, h5, h6⟩ := ih b (k := k) (by simpa using hk)
        refine ⟨v, g, f1 ++ f', by simpa using h1, h2, .cons a h3 fun x z z' => n x z (h4 x z'), fun x z => ?_, fun x z => List.mem_append_right _ (h5 x z), fun x z z' => ?_⟩
        · rcases List.mem_append.mp z with z | z
          · exact List.mem_append_left _ z
          · exact List.mem_append_right _ (h4 x z)
        · rcases List.mem_append.mp z' with y | y
          · exact n x y (h5 x z)
          · exact h6 x z y
theorem tyV_lst {a : Addr} {xs : List V} (h : H a = some (.lst xs)) : tyV K "list" (.ref a) H := Or.inl ⟨rfl, _, SqL.of h⟩
/-- an owned list that stands at a: one store to it -/
theorem store1 {a : Addr} {xs ys : List V} (h : H a = some (.lst xs)) (f : List Addr) (ha : a ∈ f) (f' : List Addr) (hf : ∀ p ∈ f', p ∈ f) : Step (· ∈ f) H (· ∈ f') (upd H a (.lst ys)) := by
  refine ⟨fun p u hu hp => ?_, fun p z => .inl (hf p z), fun p u hu => ?_⟩
  · by_cases hpa : p = a
    · subst hpa
      rw [h] at hu; cases hu
      rcases hp with hp | hp
      · exact absurd ha hp
      · exact absurd trivial hp
    · rw [upd_ne hpa]; exact hu
  · by_cases hpa : p = a
    · subst hpa; exact ⟨_, upd_same⟩
    · exact ⟨u, by rw [upd_ne hpa]; exact hu⟩
/-- .. and what else stands -/
theorem OwnA.upd_ {vs : List V} {ds : List PyData} {f : List Addr} {a : Addr} {o : HO} {u : HO} (h : OwnA K H vs ds f) (ha : H a = some u) (m : Mut (some u)) (n : a ∉ f) : OwnA K (upd H a o) vs ds f := by
  refine h.step (fp := fun p => p = a) (fp' := fun p => p = a) ⟨fun p w hw hp => ?_, fun p z => .inl z, fun p w hw => ?_⟩ fun p z y => n (y ▸ z)
  · by_cases hpa : p = a
    · subst hpa
      rw [ha] at hw; cases hw
      rcases hp with hp | hp
      · exact absurd rfl hp
      · exact absurd m hp
    · rw [upd_ne hpa]; exact hw
  · by_cases hpa : p = a
    · subst hpa; exact ⟨_, upd_same⟩
    · exact ⟨w, by rw [upd_ne hpa]; exact hw⟩
theorem Own.upd_ {v : V} {d : PyData} {f : List Addr} {a : Addr} {o : HO} {u : HO} (h : Own K H v d f) (ha : H a = some u) (m : Mut (some u)) (n : a ∉ f) : Own K (upd H a o) v d f := by
  have q : OwnA K H [v] [d] (f ++ []) := .cons h .nil (by simp)
  rw [List.append_nil] at q
  refine h.step (fp := fun p => p = a) (fp' := fun p => p = a) ⟨fun p w hw hp => ?_, fun p z => .inl z, fun p w hw => ?_⟩ fun p z y => n (y ▸ z)
  · by_cases hpa : p = a
    · subst hpa
      rw [ha] at hw; cases hw
      rcases hp with hp | hp
      · exact absurd rfl hp
      · exact absurd m hp
    · rw [upd_ne hpa]; exact hw
  · by_cases hpa : p = a
    · subst hpa; exact ⟨_, upd_same⟩
    · exact ⟨w, by rw [upd_ne hpa]; exact hw⟩
/-- an owned or lent object changes, with the temporaries at hand; a part of it may come out -/
theorem To.mut {fv : List Addr} (to : To K bv σ fp al H e1 (· ∈ fv) fp1 al1 H1) {i : Nat} {x : Ix} {d : PyData} (hx : e1.ix i = some x) (h : e1.own x = some d) :
    ∃ v f, σ[i]? = some (some v) ∧ Own K H1 v d f ∧ (∀ a ∈ f, a ∉ fv) ∧ ∀ (H' : Hp) (d' : PyData) (f' rv : List Addr), Step (· ∈ f) H1 (· ∈ f) H' → Own K H' v d' f' → (∀ a ∈ f', a ∈ f ∨ a ∈ fv) → (∀ a ∈ rv, (a ∈ f ∨ a ∈ fv) ∧ a ∉ f') →
      To K bv σ fp al H (e1.put x d') (· ∈ rv) (fun a => (fp1 a ∧ a ∉ f) ∨ a ∈ f') al1 H' := by
  obtain ⟨v, f, hv, _, o, hsub, upd', _⟩ := to.rr.focus hx h
  have r0 := to.rr
  obtain ⟨fo, F, rf⟩ := r0
  refine ⟨v, f, hv, o, fun a z y => (to.tmp a y).1 (hsub a z), fun H' d' f' rv st o' hf' hr => ⟨upd' H' d' f' al1 st o' (fun a z => (hf' a z).elim .inl fun y => .inr ⟨(to.tmp a y).1, (to.tmp a y).2.1⟩) (fun _ z => z) fun _ z => .inl z, to.mono, ?_, fun a z => ?_⟩⟩
  · refine to.step.trans ⟨fun p u hu hp => st.stay p u hu ?_, fun p hp => ?_, st.live⟩
    · rcases hp with hp | hp
      · exact .inl fun z => hp (.inl (hsub p z))
      · exact .inr hp
    · rcases hp with (hp | hp) | hp
      · exact .inl (.inl hp.1)
      · rcases hf' p hp with y | y
        · exact .inl (.inl (hsub p y))
        · exact .inl (.inr y)
      · rcases (hr p hp).1 with y | y
        · exact .inl (.inl (hsub p y))
        · exact .inl (.inr y)
  · obtain ⟨h1, h2⟩ := hr a z
    refine ⟨fun w => ?_, ?_, ?_⟩
    · rcases w with w | w
      · rcases h1 with y | y
        · exact w.2 y
        · exact (to.tmp a y).1 w.1
      · exact h2 w
    · rcases h1 with y | y
      · exact rf.sup a (hsub a y)
      · exact (to.tmp a y).2.1
    · rcases h1 with y | y
      · obtain ⟨u, hu⟩ := o.alive a y
        exact st.live a u hu
      · obtain ⟨u, hu⟩ := (to.tmp a y).2.2
        exact st.live a u hu

def isLst : PyData → Bool
  | .list _ => true
  | _ => false
/-- the list that slot i owns, or that was lent -/
def theL (i : Nat) (e : Dl.Env) : Option (Ix × List PyData) := (e.ix i).bind fun x => match e.own x with
  | some (.list ds) => some (x, ds)
  | _ => none
theorem theL_some {i : Nat} {e : Dl.Env} {x : Ix} {ds : List PyData} (h : theL i e = some (x, ds)) : e.ix i = some x ∧ e.own x = some (.list ds) := by
  obtain ⟨y, h1, h2⟩ := Option.bind_eq_some_iff.mp h
  split at h2
  · cases h2; exact ⟨h1, by assumption⟩
  · cases h2
/-- .. its object, for a store to it -/
theorem To.mutL {fv : List Addr} (to : To K bv σ fp al H e1 (· ∈ fv) fp1 al1 H1) {i : Nat} {x : Ix} {ds : List PyData} (h : theL i e1 = some (x, ds)) :
    ∃ a xs g, σ[i]? = some (some (.ref a)) ∧ H1 a = some (.lst xs) ∧ OwnA K H1 xs ds g ∧ a ∉ g ∧ a ∉ fv ∧ (∀ b ∈ g, b ∉ fv) ∧ ∀ (ys : List V) (ds' : List PyData) (g' rv : List Addr), OwnA K (upd H1 a (.lst ys)) ys ds' g' → (∀ b ∈ g', b ∈ g ∨ b ∈ fv) → (∀ b ∈ rv, (b ∈ g ∨ b ∈ fv) ∧ b ∉ g') →
      To K bv σ fp al H (e1.put x (.list ds')) (· ∈ rv) (fun b => (fp1 b ∧ b ∉ a :: g) ∨ b ∈ a :: g') al1 (upd H1 a (.lst ys)) := by
  obtain ⟨hx, ho⟩ := theL_some h
  obtain ⟨v, f, hv, o, dj, upd'⟩ := to.mut hx ho
  obtain ⟨a, xs, g, rfl, rfl, ha, oA, na⟩ := o.lstI
  refine ⟨a, xs, g, hv, ha, oA, na, dj a List.mem_cons_self, fun b z => dj b (List.mem_cons_of_mem _ z), fun ys ds' g' rv oN hg hr => ?_⟩
  have nfv := dj a List.mem_cons_self
  have na' : a ∉ g' := fun z => (hg a z).elim na nfv
  refine upd' (upd H1 a (.lst ys)) (.list ds') (a :: g') rv (store1 ha _ List.mem_cons_self _ fun _ z => z) (.lst upd_same oN na') (fun b z => ?_) fun b z => ⟨(hr b z).1.elim (fun y => .inl (List.mem_cons_of_mem _ y)) .inr, fun y => ?_⟩
  · rcases List.mem_cons.mp z with rfl | z
    · exact .inl List.mem_cons_self
    · exact (hg b z).elim (fun y => .inl (List.mem_cons_of_mem _ y)) .inr
  · rcases List.mem_cons.mp y with rfl | y
    · exact (hr _ z).1.elim na nfv
    · exact (hr b z).2 y
/-- x.append(e) -/
def sApp (i : Nat) (m : ME) : MS := fun e => (e.look i).bind fun d0 => if isLst d0 = true then (m e).bind fun p => (theL i p.2).bind fun q => if q.2.length < 16777216 then some (.nx (p.2.put q.1 (.list (q.2 ++ [p.1])))) else none else none
theorem rs_app {i : Nat} {te : TE} {m : ME} (h : RE K te m) : RS K (tDrop (tBM K "list" rAppend (tVar i) (tCons te tNil))) (sApp i m) := by
  intro e o q bv fp σ H D rr k
  obtain ⟨d0, h0, q⟩ := Option.bind_eq_some_iff.mp q
  split at q
  rotate_left
  · cases q
  rename_i hl0
  obtain ⟨⟨d, e1⟩, h1, q⟩ := Option.bind_eq_some_iff.mp q
  obtain ⟨⟨x, ds⟩, h2, q⟩ := Option.bind_eq_some_iff.mp q
  split at q
  rotate_left
  · cases q
  rename_i hz
  cases q
  obtain ⟨v0, hv0, w0⟩ := rr.look h0
  refine ⟨v0, hv0, ?_, ?_⟩
  · cases d0 with
    | list _ => obtain ⟨a, xs, rfl, ha, _⟩ := w0.lstI; exact tyV_lst ha
    | _ => cases hl0
  refine h e d e1 h1 bv fp fp σ H _ rr fun v H1 fp1 al1 fv to ov => ?_
  obtain ⟨a, xs, g, hv2, ha, oA, na, nfv, dj, fin⟩ := to.mutL h2
  rw [hv0] at hv2; cases hv2
  refine ⟨a, xs, v, rfl, rfl, ha, by rw [oA.length, sizeLine_eq]; exact hz, ?_⟩
  have oN : OwnA K (upd H1 a (.lst (xs ++ [v]))) (xs ++ [v]) (ds ++ [d]) (g ++ fv) := (oA.upd_ ha trivial na).append (g := fv) (by simpa using OwnA.cons (g := []) (ov.upd_ ha trivial nfv) .nil (by simp)) dj
  have to' := fin (xs ++ [v]) (ds ++ [d]) (g ++ fv) [] oN (fun b z => List.mem_append.mp z) fun b z => by cases z
  exact k σ _ _ to'.end_.1 to'.end_.2
/-- x.pop(i) -/
def mPop (i : Nat) (m : MO) : ME := fun e => (e.look i).bind fun d0 => if isLst d0 = true then (m e).bind fun p => (opInt p.1 p.2).bind fun j => (theL i p.2).bind fun q =>
  if -9223372036854775808 ≤ j ∧ j < 9223372036854775808 then (seqIndex? j q.2.length).bind fun k => (q.2[k]?).bind fun d => some (d, p.2.put q.1 (.list (q.2.eraseIdx k))) else none else none
theorem re_pop {i : Nat} {te : TE} {m : MO} (h : RO K te m) : RE K (tBM K "list" rPopAt (tVar i) (tCons te tNil)) (mPop i m) := by
  intro e c e' q bv fp al σ H Q rr k
  obtain ⟨d0, h0, q⟩ := Option.bind_eq_some_iff.mp q
  split at q
  rotate_left
  · cases q
  rename_i hl0
  obtain ⟨⟨o, e1⟩, h1, q⟩ := Option.bind_eq_some_iff.mp q
  obtain ⟨j, h2, q⟩ := Option.bind_eq_some_iff.mp q
  obtain ⟨⟨x, ds⟩, h3, q⟩ := Option.bind_eq_some_iff.mp q
  split at q
  rotate_left
  · cases q
  rename_i hj
  obtain ⟨n, h4, q⟩ := Option.bind_eq_some_iff.mp q
  obtain ⟨d, h5, q⟩ := Option.bind_eq_some_iff.mp q
  cases q
  obtain ⟨v0, hv0, w0⟩ := rr.look h0
  refine ⟨v0, hv0, ?_, ?_⟩
  · cases d0 with
    | list _ => obtain ⟨a, xs, rfl, ha, _⟩ := w0.lstI; exact tyV_lst ha
    | _ => cases hl0
  refine h e o e1 h1 bv fp al σ H _ rr fun v H1 fp1 al1 fv to ov => ?_
  have ev := (ov.w0 to.rr (opInt_look h2)).intI
  subst ev
  have to0 : To K bv σ fp al H e1 (· ∈ ([] : List Addr)) fp1 al1 H1 := to.less fun _ z => by cases z
  obtain ⟨a, xs, g, hv2, ha, oA, na, nfv, dj, fin⟩ := to0.mutL h3
  rw [hv0] at hv2; cases hv2
  obtain ⟨y, gy, g', hy, oy, oE, s1, s2, s3⟩ := (oA.upd_ (o := .lst (xs.eraseIdx n)) ha trivial na).erase h5
  refine ⟨a, xs, j, n, y, rfl, rfl, ha, hj.1, hj.2, by rw [oA.length]; exact h4, hy, ?_⟩
  exact k y _ _ _ gy (fin (xs.eraseIdx n) (ds.eraseIdx n) g' gy oE (fun b z => .inl (s1 b z)) fun b z => ⟨.inl (s2 b z), s3 b z⟩) oy
/-- x[i] = e -/
def sStore (i : Nat) (m : ME) (ix : MO) : MS := fun e => (m e).bind fun p => (p.2.look i).bind fun _ => (ix p.2).bind fun r => (opInt r.1 r.2).bind fun j => (theL i r.2).bind fun q => (ixN q.2.length j).bind fun k => some (.nx (r.2.put q.1 (.list (q.2.set k p.1))))
theorem rs_store {i : Nat} {te ti : TE} {m : ME} {ix : MO} (h : RE K te m) (hi : RO K ti ix) : RS K (tAsg te (gSub (tVar i) ti rSetL)) (sStore i m ix) := by
  intro e o q bv fp σ H D rr k
  obtain ⟨⟨d, e1⟩, h1, q⟩ := Option.bind_eq_some_iff.mp q
  obtain ⟨d0, h0, q⟩ := Option.bind_eq_some_iff.mp q
  obtain ⟨⟨oi, e2⟩, h2, q⟩ := Option.bind_eq_some_iff.mp q
  obtain ⟨j, h3, q⟩ := Option.bind_eq_some_iff.mp q
  obtain ⟨⟨x, ds⟩, h4, q⟩ := Option.bind_eq_some_iff.mp q
  obtain ⟨n, h5, q⟩ := Option.bind_eq_some_iff.mp q
  cases q
  refine h e d e1 h1 bv fp fp σ H _ rr fun v H1 fp1 al1 fv to ov => ?_
  obtain ⟨v0, hv0, w0⟩ := to.rr.look h0
  refine ⟨v0, hv0, hi e1 oi e2 h2 bv fp1 al1 σ H1 _ to.rr fun vi H2 fp2 al2 fi to2 oi2 => ?_⟩
  have ei := (oi2.w0 to2.rr (opInt_look h3)).intI
  subst ei
  have to' : To K bv σ fp fp H e2 (· ∈ fv) fp2 al2 H2 := (to.trans to2).less fun _ z => .inl z
  have ov2 : Own K H2 v d fv := ov.step to2.step fun a z => (to.tmp a z).1
  obtain ⟨a, xs, g, hv2, ha, oA, na, nfv, dj, fin⟩ := to'.mutL h4
  rw [hv0] at hv2; cases hv2
  refine ⟨a, xs, j, n, rfl, rfl, ha, by rw [oA.length]; exact h5, ?_⟩
  obtain ⟨g', oN, sN⟩ := (oA.upd_ (o := .lst (xs.set n v)) ha trivial na).set (ov2.upd_ (o := .lst (xs.set n v)) ha trivial nfv) (fun b z z' => dj b z' z) n
  have to3 := fin (xs.set n v) (ds.set n d) g' [] oN sN fun b z => by cases z
  exact k σ _ _ to3.end_.1 to3.end_.2
/-- x.extend(e), e a list of its own -/
def sExt (i : Nat) (m : ME) : MS := fun e => (e.look i).bind fun d0 => if isLst d0 = true then (m e).bind fun p => match p.1 with
  | .list es => (theL i p.2).bind fun q => if q.2.length + es.length ≤ 16777216 then some (.nx (p.2.put q.1 (.list (q.2 ++ es)))) else none
  | _ => none
  else none
theorem rs_ext {i : Nat} {te : TE} {m : ME} (h : RE K te m) : RS K (tDrop (tBM K "list" rExtend (tVar i) (tCons te tNil))) (sExt i m) := by
  intro e o q bv fp σ H D rr k
  obtain ⟨d0, h0, q⟩ := Option.bind_eq_some_iff.mp q
  split at q
  rotate_left
  · cases q
  rename_i hl0
  obtain ⟨⟨d, e1⟩, h1, q⟩ := Option.bind_eq_some_iff.mp q
  dsimp only at q
  split at q
  rotate_left
  · cases q
  rename_i es
  obtain ⟨⟨x, ds⟩, h2, q⟩ := Option.bind_eq_some_iff.mp q
  split at q
  rotate_left
  · cases q
  rename_i hz
  cases q
  obtain ⟨v0, hv0, w0⟩ := rr.look h0
  refine ⟨v0, hv0, ?_, ?_⟩
  · cases d0 with
    | list _ => obtain ⟨a, xs, rfl, ha, _⟩ := w0.lstI; exact tyV_lst ha
    | _ => cases hl0
  refine h e _ _ h1 bv fp fp σ H _ rr fun v H1 fp1 al1 fv to ov => ?_
  obtain ⟨a, xs, g, hv2, ha, oA, na, nfv, dj, fin⟩ := to.mutL h2
  rw [hv0] at hv2; cases hv2
  obtain ⟨b, ys, gy, rfl, rfl, hb, oB, nb⟩ := ov.lstI
  have nab : a ∉ gy := fun z => nfv (List.mem_cons_of_mem _ z)
  refine ⟨a, b, xs, ys, rfl, rfl, ha, hb, by rw [oA.length, oB.length, sizeLine_eq]; exact hz, ?_⟩
  have oN : OwnA K (upd H1 a (.lst (xs ++ ys))) (xs ++ ys) (ds ++ es) (g ++ gy) := (oA.upd_ ha trivial na).append (oB.upd_ ha trivial nab) fun c z y => dj c z (List.mem_cons_of_mem _ y)
  have to' := fin (xs ++ ys) (ds ++ es) (g ++ gy) [] oN (fun c z => (List.mem_append.mp z).elim .inl fun z => .inr (List.mem_cons_of_mem _ z)) fun c z => by cases z
  exact k σ _ _ to'.end_.1 to'.end_.2
end
end Dl
/-! enumerate(t), t a tuple -/
namespace Dl
open PySem L2 PyProof.Rows
open AutoSeq1 (wpAny_loadPart')
set_option maxHeartbeats 1000000 in
theorem new_enumT (l : Addr) (its : Array Value) (n : Nat) (dct : Option Addr) (sl : Array (Option Value)) :
    Meets (Builtin.«enumerate.__new__» ⟨[.type "enumerate", .ref l], []⟩) (fun _ R s => s.heap.get? l = some { cls := .type "tuple", dict := dct, data := .seq its n, slots := sl } ∧
      R (.ok (.ret (.ref (s.heap.push { cls := .type "tuple_iterator", data := .fields #[.ref l, .int 0 0] }).objs.size)))
        { s with heap := (s.heap.push { cls := .type "tuple_iterator", data := .fields #[.ref l, .int 0 0] }).push { cls := .type "enumerate", data := .fields #[.none, .bool false, .ref s.heap.objs.size, rawInt 0, .none, .none] } }) :=
  .of_wp fun prog w A R s h => by
    obtain ⟨hp, g, d, tk, os⟩ := s
    obtain ⟨hl, h⟩ := h
    have h1 := sub_enumerate
    have hT : Heap.IsTuple (Shared.heap ⟨hp, g, d, tk, os⟩) l its := ⟨_, hl, rfl, n, rfl⟩
    wp_walk using wpAny_loadPart' hl
    refine wpAny_stack_any fun st => wpAny_pure ?_
    split
    · rename_i c _ _ _ _ _
      cases (c == Value.type "enumerate")
      · wp_walk using wpAny_loadPart' hl, wpAny_pyIter_tuple hT
        exact ⟨_, rfl, h⟩
      · wp_walk using wpAny_loadPart' hl, wpAny_pyIter_tuple hT
        exact ⟨_, rfl, h⟩
    · wp_walk using wpAny_loadPart' hl, wpAny_pyIter_tuple hT
      exact ⟨_, rfl, h⟩
section
variable {prog : Program} {w : World} {A : Around} {E : Value → Shared → Prop} {s : Shared}
theorem call_enumT {l : Addr} {its : Array Value} {Q : Value → Shared → Prop} (hL : s.heap.IsTuple l its)
    (h : ∀ h', IsEnum h' (s.heap.objs.size + 1) s.heap.objs.size 0 .none → h'.IsTupleIter s.heap.objs.size l 0 → (∀ b o, s.heap.get? b = some o → h'.get? b = some o) → Q (.ref (s.heap.objs.size + 1)) { s with heap := h' }) :
    wpAny (model prog w) A (call (.type "enumerate") [.ref l]) Q E s := by
  obtain ⟨⟨c, dct, dt, sl⟩, hl, hc, n, hd⟩ := hL
  have hc' : c = .type "tuple" := hc
  have hd' : dt = .seq its n := hd
  subst hc' hd'
  have hz : (s.heap.push { cls := .type "tuple_iterator", data := .fields #[.ref l, .int 0 0] }).objs.size = s.heap.objs.size + 1 := Heap.size_push ..
  have he : IsEnum ((s.heap.push { cls := .type "tuple_iterator", data := .fields #[.ref l, .int 0 0] }).push
      { cls := .type "enumerate", data := .fields #[.none, .bool false, .ref s.heap.objs.size, rawInt 0, .none, .none] }) (s.heap.objs.size + 1) s.heap.objs.size 0 .none := by
    rw [← hz]
    exact Heap.get?_push_size _ rfl
  refine callType_new F.called_enumerate (by decide) (F.typeCall_enumerate_1 _) (F.newCall_enumerate_1 _) (fun ob => F.args_object_init_2 ob _) F.entry_enumerate_new (new_enumT l its n dct sl) ⟨hl, ?_⟩
  show _ ∧ _
  rw [hz]
  exact ⟨⟨_, he, rfl⟩, h _ he ⟨_, Heap.get?_push_of_some _ (Heap.get?_push_size _ rfl), rfl, rfl⟩ fun b o x => Heap.get?_push_of_some _ (Heap.get?_push_of_some _ x)⟩
end
/-- the pairs of a tuple's items and their numbers -/
def IteT (K : PySem.W.Frag) (a : Addr) (xs : List V) : It :=
  ⟨fun i H => ∃ x : V, SqT K H a xs ∧ xs[i]? = some x, fun i H v H' => ∃ T x, v = .ref T ∧ H T = none ∧ H' = upd H T (.tup [.int (i : Nat), x]) ∧ xs[i]? = some x, fun i H => SqT K H a xs ∧ xs.length ≤ i⟩
theorem turn_enumT {P : Program} {w : World} {K : PySem.W.Frag} {elts : List Expr} {kk : Nat} {tpos : Pos} (a e it : Addr) (xs : List V) :
    Turn P w K (.Tuple elts kk tpos) (IteT K a xs) [e, it] e (fun i h => (∃ old, IsEnum h e it ((i : Nat) : Int) old) ∧ h.IsTupleIter it a i ∧ e ≠ it ∧ a ≠ e ∧ a ≠ it ∧ i ≤ xs.length) where
  mem := List.mem_cons_self
  obj := fun i h st b hb => by
    obtain ⟨⟨old, he⟩, ⟨o, ho, hc, hd⟩, _⟩ := st
    rcases List.mem_cons.mp hb with z | z
    · rw [z]; exact ⟨_, he, fun v q => nomatch q⟩
    · rw [List.mem_singleton.mp z]; exact ⟨o, ho, fun v q => by rw [hd] at q; cases q⟩
  keep := fun i h h' st k => ⟨let ⟨old, he⟩ := st.1; ⟨old, k e List.mem_cons_self _ he⟩, st.2.1.at fun o q => k it (by simp) o q, st.2.2⟩
  item := by
    intro X hP hw hK hc i pins s σ H E I hf st hg
    subst hP hw hK
    obtain ⟨⟨old, he⟩, hit, hne, hae, hai, hil2⟩ := st
    obtain ⟨x, hq, hx⟩ := hg
    obtain ⟨its, rv, p, hz⟩ := I.tuple hq
    obtain ⟨u, hu, ru⟩ := rv.get hx
    have hel : e < s.heap.objs.size := Heap.lt_size he
    have hil : it < s.heap.objs.size := by obtain ⟨_, q, _⟩ := hit; exact Heap.lt_size q
    have hi : i < its.toArray.size := by
      have := (List.getElem?_eq_some_iff.mp hu).1
      simpa using this
    have hh : X.A.in1.handled = none := I.ok.hd hc
    have D := Draws.tuple (prog := X.prog) (w := X.w) (A := X.A.in1) hh it a hai its.toArray
    refine wpAny_pyNext_enum_itemD D he ⟨hit, p⟩ hi hne (by simp [hne, Ne.symm hae]) fun y h' tk hy ho hst hT hsz hk => ?_
    have ey : y = u := by
      have : its[i]? = some y := by simpa using hy
      rw [hu] at this
      exact (Option.some.inj this).symm
    subst ey
    refine ⟨_, rfl, wpAny_letOwnedTupleGo_enum (s := { s with heap := h', toks := tk + 1 }) ho fun h'' he' sb => ?_⟩
    have hT2 : h''.get? s.heap.objs.size = some { cls := .type "tuple", data := .seq #[.int i tk, y] } := (sb.2 _ (Nat.ne_of_gt hel)).trans hT
    have new : ObjOk X.prog X.w (upd H s.heap.objs.size (.tup [.int (i : Nat), x])) h'' s.heap.objs.size (.tup [.int (i : Nat), x]) :=
      ⟨by show 2 ≤ sizeLine; decide, [.int i tk, y], .cons ⟨_, rfl⟩ (.cons ru .nil), _, hT2, rfl, _, rfl⟩
    have I1 : Inv X pins σ (upd H s.heap.objs.size (.tup [.int (i : Nat), x])) { s with heap := h'', toks := tk + 1 } :=
      I.turnedNew (ch := [e, it]) (fun b ob hb q => by
        have h1 : b ≠ e := fun z => hb (by simp [z])
        have h2 : b ≠ it := fun z => hb (by simp [z])
        exact (sb.2 b h1).trans (hk b ob h1 h2 q)) hf (Nat.le_refl _) new
    refine ⟨.ref s.heap.objs.size, _, I1, rfl, ⟨_, x, rfl, I.hok.fresh (Nat.le_refl _), rfl, hx⟩, ⟨⟨y, ?_⟩, hst.1.at fun o q => (sb.2 it (Ne.symm hne)).trans q, hne, hae, hai, (List.getElem?_eq_some_iff.mp hx).1⟩, fun b hb => ?_⟩
    · have e1 : ((i + 1 : Nat) : Int) = (i : Int) + 1 := by omega
      rw [e1]; exact he'
    · have hb' : b < s.heap.objs.size := by
        rcases List.mem_cons.mp hb with z | z
        · rw [z]; exact hel
        · rw [List.mem_singleton.mp z]; exact hil
      rw [upd_ne (Nat.ne_of_lt hb')]
      exact (hf b hb).1
  done := by
    intro X hP hw hK hc i pins s σ H E I hf st hg
    subst hP hw hK
    obtain ⟨⟨old, he⟩, hit, hne, hae, hai, hil2⟩ := st
    obtain ⟨hq, hx⟩ := hg
    obtain ⟨its, rv, p, hz⟩ := I.tuple hq
    obtain ⟨f0, f1, f2, f3, f4, f5⟩ := hf it (by simp)
    have hh : X.A.in1.handled = none := I.ok.hd hc
    have D := Draws.tuple (prog := X.prog) (w := X.w) (A := X.A.in1) hh it a hai its.toArray
    have hn : i = its.toArray.size := by
      have := rv.length
      simp only [List.size_toArray]
      omega
    subst hn
    exact wpAny_pyNext_enum_endD D he ⟨hit, p⟩ fun h' eb => ⟨rfl, I.turned (t' := s.toks) (fun b o hb q => eb b o hb q) f0 f1 f3 f4 f5⟩
  self := fun A i s Q E st h => let ⟨⟨_, he⟩, _⟩ := st; wpAny_pyIter_enum he h
def iEnumT (K : PySem.W.Frag) (ta : TA) : TI := fun σ H R => ta σ H fun vs H1 => ∃ a xs, vs = [.ref a] ∧ SqT K H1 a xs ∧ R (IteT K a xs) H1
theorem pi_enumT {X : Cx} {e : Expr} {ta : TA} {p pos tpos : Pos} {elts : List Expr} {kk : Nat} (hg : Gl X "enumerate") (hm : X.mg "enumerate" = none) (ha : PA X [e] ta) (hs : starEach [e] X.env = [(false, eval e X.env)] := by rfl) :
    PI X (.Tuple elts kk tpos) (.Call (.Name "enumerate" p) [e] [] pos) (iEnumT X.K ta) := by
  refine ⟨fun pins s σ H R I h => ?_⟩
  refine Call_ (ld_blt I hg hm boot_enumerate (callWith_type1 (thn (ha.run pos pins s σ H _ I h) fun us s1 hv => ?_) hs rfl))
  obtain ⟨vs, H1, I1, r1, a, xs, ex, hq, q⟩ := hv
  subst ex
  cases r1 with
  | cons r rr =>
    cases rr
    cases r
    obtain ⟨its, rv, p', hz⟩ := I1.tuple hq
    have hal : a < s1.heap.objs.size := p'.lt
    refine call_enumT p' fun h' he hit hk => wpAny_pyIter_enum he ?_
    have I2 : Inv X pins σ H1 { s1 with heap := h' } := I1.kept (t' := s1.toks) hk
    refine ⟨s1.heap.objs.size + 1, [s1.heap.objs.size + 1, s1.heap.objs.size], _, _, H1, rfl, I2, turn_enumT a (s1.heap.objs.size + 1) s1.heap.objs.size xs, ⟨⟨.none, he⟩, hit, Nat.succ_ne_self _, Nat.ne_of_lt (Nat.lt_succ_of_lt hal), Nat.ne_of_lt hal, Nat.zero_le _⟩, fun b hb => ?_, q⟩
    have hle : s1.heap.objs.size ≤ b := by
      rcases List.mem_cons.mp hb with z | z
      · rw [z]; exact Nat.le_succ _
      · rw [List.mem_singleton.mp z]; exact Nat.le_refl _
    exact I1.fpOk hle (I1.hok.fresh hle)
end Dl
/-! enumerate, zip, chains of three, calls of defs -/
namespace Dl
open PySem L2
section
variable {K : PySem.W.Frag} {bv : List V} {e e' e1 e2 : Dl.Env} {fp fp' fp1 fp2 al al' al1 al2 T T1 T2 φ : Addr → Prop} {σ : St} {H H' H1 H2 : Hp}
/-! ### enumerate(t), zip(xs, ys) -/
def numD : Nat → List PyData → List PyData
  | _, [] => []
  | i, d :: r => .tuple [.int (i : Nat), d] :: numD (i + 1) r
theorem numD_get : ∀ (ds : List PyData) (k i : Nat) (c : PyData), (numD k ds)[i]? = some c → ∃ d, ds[i]? = some d ∧ c = .tuple [.int ((k + i : Nat) : Int), d]
  | [], k, i, c, h => by simp [numD] at h
  | d :: r, k, 0, c, h => by
    simp only [numD, List.getElem?_cons_zero, Option.some.injEq] at h
    exact ⟨d, rfl, by rw [← h, Nat.add_zero]⟩
  | d :: r, k, i + 1, c, h => by
    simp only [numD, List.getElem?_cons_succ] at h
    obtain ⟨d', h1, h2⟩ := numD_get r (k + 1) i c h
    exact ⟨d', by simpa using h1, by rw [h2, show k + 1 + i = k + (i + 1) by omega]⟩
theorem numD_len : ∀ (ds : List PyData) (k : Nat), (numD k ds).length = ds.length
  | [], _ => rfl
  | d :: r, k => by simp [numD, numD_len r]
theorem pair_new {x y : V} {d c : PyData} {T : Addr} (o1 : Own K H x d []) (o2 : Own K H y c []) (hT : H T = none) : Same H (upd H T (.tup [x, y])) ∧ Own K (upd H T (.tup [x, y])) (.ref T) (.tuple [d, c]) [] := by
  have oA : OwnA K H [x, y] [d, c] [] := OwnA.cons (f := []) (g := []) o1 (OwnA.cons (f := []) (g := []) o2 .nil (by simp)) (by simp)
  obtain ⟨s, o, _⟩ := new_tup oA hT
  exact ⟨s, o⟩
theorem walk_enumT {a : Addr} {xs : List V} {ds : List PyData} (hi : immA ds = true) : Walk K (IteT K a xs) (numD 0 ds) (fun _ => False) (fun H' => SqT K H' a xs ∧ OwnA K H' xs ds []) where
  keep := fun g g' Ha Hb t s _ => ⟨s.keepT t.1, t.2.step s fun a z => by cases z⟩
  item := fun i d H t e => by
    obtain ⟨c, h1, h2⟩ := numD_get ds 0 i d e
    rw [Nat.zero_add] at h2
    obtain ⟨x, hx, ox⟩ := own_get t.2 hi h1
    refine ⟨⟨x, t.1, hx⟩, fun y H1 hy => ?_⟩
    obtain ⟨T, x', rfl, hT, rfl, hx'⟩ := hy
    rw [hx] at hx'; cases hx'
    obtain ⟨s, o⟩ := pair_new (.int _) ox hT
    subst h2
    exact ⟨s, [], o, fun a z => by cases z⟩
  stop := fun i H t h => ⟨t.1, by rw [t.2.length]; rwa [numD_len] at h⟩
def mEnumT (a : MA) : MI := fun e => (a e).bind fun p => match looks p.2 p.1 with
  | some [.tuple ds] => (immL ds).bind fun ds => some (numD 0 ds, p.2)
  | _ => none
theorem ri_enumT {t : TA} {m : MA} (h : RA K t m) : RI K (iEnumT K t) (mEnumT m) := by
  intro e ds e' q bv fp al σ H Rq rr k
  obtain ⟨⟨os, e1⟩, h1, q⟩ := Option.bind_eq_some_iff.mp q
  dsimp only at q
  split at q
  · rename_i cs hl
    obtain ⟨c, h2, q⟩ := Option.bind_eq_some_iff.mp q
    cases q
    obtain ⟨rfl, hi⟩ := immL_some h2
    refine h e os _ h1 bv fp al σ H _ rr fun vs H' fp' al' fv to oo => ?_
    obtain ⟨v, rfl, w⟩ := W0A.one (oo.w0 to.rr hl)
    obtain ⟨a, xs, rfl, hs, wA⟩ := w.tupI
    exact ⟨a, xs, rfl, hs, k _ H' fp' al' (fun _ => False) _ (to.less fun _ z => False.elim z) ⟨hs, wA.own hi⟩ (walk_enumT hi) fun _ z => False.elim z⟩
  · cases q
def zipD : List PyData → List PyData → List PyData
  | d :: r, c :: s => .tuple [d, c] :: zipD r s
  | _, _ => []
theorem zipD_get : ∀ (ds cs : List PyData) (i : Nat) (c : PyData), (zipD ds cs)[i]? = some c → ∃ x y, ds[i]? = some x ∧ cs[i]? = some y ∧ c = .tuple [x, y]
  | d :: r, c :: s, 0, z, h => by
    simp only [zipD, List.getElem?_cons_zero, Option.some.injEq] at h
    exact ⟨d, c, rfl, rfl, h.symm⟩
  | d :: r, c :: s, i + 1, z, h => by
    simp only [zipD, List.getElem?_cons_succ] at h
    obtain ⟨x, y, h1, h2, h3⟩ := zipD_get r s i z h
    exact ⟨x, y, by simpa using h1, by simpa using h2, h3⟩
  | [], cs, i, z, h => by simp [zipD] at h
  | d :: r, [], i, z, h => by simp [zipD] at h
theorem zipD_len : ∀ ds cs : List PyData, (zipD ds cs).length = min ds.length cs.length
  | d :: r, c :: s => by simp [zipD, zipD_len r s]
  | [], cs => by simp [zipD]
  | d :: r, [] => by simp [zipD]
theorem walk_zip {a b : Addr} {xs ys : List V} {ds cs : List PyData} (hi : immA ds = true) (hc : immA cs = true) : Walk K (Itz K a b) (zipD ds cs) (fun p => p = a ∨ p = b) (fun H' => H' a = some (.lst xs) ∧ OwnA K H' xs ds [] ∧ H' b = some (.lst ys) ∧ OwnA K H' ys cs []) where
  keep := fun g g' Ha Hb t s n => ⟨s.stay a _ t.1 (.inl (n a (.inl rfl))), t.2.1.step s fun a z => (by cases z), s.stay b _ t.2.2.1 (.inl (n b (.inr rfl))), t.2.2.2.step s fun a z => by cases z⟩
  item := fun i d H t e => by
    obtain ⟨x, y, h1, h2, rfl⟩ := zipD_get ds cs i d e
    obtain ⟨vx, hx, ox⟩ := own_get t.2.1 hi h1
    obtain ⟨vy, hy, oy⟩ := own_get t.2.2.2 hc h2
    refine ⟨⟨xs, ys, vx, vy, SqL.of t.1, SqL.of t.2.2.1, hx, hy⟩, fun z H1 hz => ?_⟩
    obtain ⟨T, x', y', rfl, hT, rfl, g1, g2⟩ := hz
    have e1 := g1 xs (SqL.of t.1)
    have e2 := g2 ys (SqL.of t.2.2.1)
    rw [hx] at e1; cases e1
    rw [hy] at e2; cases e2
    obtain ⟨s, o⟩ := pair_new ox oy hT
    exact ⟨s, [], o, fun a z => by cases z⟩
  stop := fun i H t h => ⟨xs, ys, SqL.of t.1, SqL.of t.2.2.1, by
    rw [zipD_len] at h
    rw [t.2.1.length, t.2.2.2.length]
    omega⟩
/-- both lists are names that are read alone -/
def mZip (i j : Nat) : MI := fun e => match e.sl[i]?, e.sl[j]? with
  | some (.wk (.list ds)), some (.wk (.list cs)) => (immL ds).bind fun ds => (immL cs).bind fun cs => some (zipD ds cs, e)
  | _, _ => none
theorem ri_zip {i j : Nat} : RI K (iZip K (tCons (tVar i) (tCons (tVar j) tNil))) (mZip i j) := by
  intro e ds e' q bv fp al σ H Rq rr k
  unfold mZip at q
  split at q
  · rename_i ds' cs' h1 h2
    obtain ⟨c1, q1, q⟩ := Option.bind_eq_some_iff.mp q
    obtain ⟨c2, q2, q⟩ := Option.bind_eq_some_iff.mp q
    cases q
    obtain ⟨rfl, hi⟩ := immL_some q1
    obtain ⟨rfl, hc⟩ := immL_some q2
    have r0 := rr
    obtain ⟨fo, F, rf⟩ := r0
    obtain ⟨v, hv, w1⟩ := rf.wk i _ h1
    obtain ⟨u, hu, w2⟩ := rf.wk j _ h2
    cases w1 with
    | @lst a xs _ ha fa wa =>
      cases w2 with
      | @lst b ys _ hb fb wb =>
        refine ⟨_, hv, _, hu, a, b, xs, ys, rfl, SqL.of ha, SqL.of hb, k _ H fp al (fun p => p = a ∨ p = b) _ (To.refl rr) ⟨ha, wa.own hi, hb, wb.own hc⟩ (walk_zip hi hc) fun p hp => ?_⟩
        rcases hp with rfl | rfl
        · exact ⟨fun z => (rf.fof _ fa).1 (rf.sup _ z), _, ha⟩
        · exact ⟨fun z => (rf.fof _ fb).1 (rf.sup _ z), _, hb⟩
  · cases q

/-! ### a op b op' c op'' d, of ints -/
def tChain3 (r r' r'' : R2) (ta tb tc td : TE) : TE := fun σ H Q => ta σ H fun x H1 => tb σ H1 fun y H2 => r x y H2 fun z H3 => ∃ k, z = .bl k ∧
  (if k = true then tc σ H3 fun y' H4 => r' y y' H4 fun z' H5 => ∃ k', z' = .bl k' ∧ (if k' = true then td σ H5 fun w' H6 => r'' y' w' H6 Q else Q (.bl false) H5) else Q (.bl false) H3)
def mChain3 (p p' p'' : Int → Int → Bool) (a b c d : MO) : ME := fun e => (a e).bind fun x => (b x.2).bind fun y => (opInt x.1 y.2).bind fun i => (opInt y.1 y.2).bind fun j =>
  if p i j = true then (c y.2).bind fun z => (opInt z.1 z.2).bind fun l => if p' j l = true then (d z.2).bind fun u => (opInt u.1 u.2).bind fun n => some (.bool (p'' l n), u.2) else some (.bool false, z.2)
  else some (.bool false, y.2)
theorem re_chain3 {p p' p'' : Int → Int → Bool} {ta tb tc td : TE} {a b c d : MO} (ha : RO K ta a) (hb : RO K tb b) (hc : RO K tc c) (hd : RO K td d) : RE K (tChain3 (rI0 fun i j => .bl (p i j)) (rI0 fun i j => .bl (p' i j)) (rI0 fun i j => .bl (p'' i j)) ta tb tc td) (mChain3 p p' p'' a b c d) := by
  intro e dd e' q bv fp al σ H Q rr k
  obtain ⟨⟨x, e1⟩, h1, q⟩ := Option.bind_eq_some_iff.mp q
  obtain ⟨⟨y, e2⟩, h2, q⟩ := Option.bind_eq_some_iff.mp q
  obtain ⟨i, h3, q⟩ := Option.bind_eq_some_iff.mp q
  obtain ⟨j, h4, q⟩ := Option.bind_eq_some_iff.mp q
  refine two ha hb h1 h2 rr fun v w H2 fp2 al2 f1 f2 to o1 o2 dj => ?_
  have e1' := (o1.w0 to.rr (opInt_look h3)).intI
  have e2' := (o2.w0 to.rr (opInt_look h4)).intI
  subst e1' e2'
  refine ⟨i, j, rfl, rfl, p i j, rfl, ?_⟩
  have to' := to.less (T1 := fun _ => False) fun _ z => False.elim z
  split at q
  · rename_i hp
    rw [if_pos hp]
    obtain ⟨⟨z, e3⟩, h5, q⟩ := Option.bind_eq_some_iff.mp q
    obtain ⟨l, h6, q⟩ := Option.bind_eq_some_iff.mp q
    refine hc e2 z e3 h5 bv fp2 al2 σ H2 _ to.rr fun u H3 fp3 al3 f3 to3 o3 => ?_
    have e3' := (o3.w0 to3.rr (opInt_look h6)).intI
    subst e3'
    refine ⟨j, l, rfl, rfl, p' j l, rfl, ?_⟩
    have to3' := (to'.thn to3).less (T1 := fun _ => False) fun _ z => False.elim z
    split at q
    · rename_i hp'
      rw [if_pos hp']
      obtain ⟨⟨u, e4⟩, h7, q⟩ := Option.bind_eq_some_iff.mp q
      obtain ⟨n, h8, q⟩ := Option.bind_eq_some_iff.mp q
      cases q
      refine hd e3 u e4 h7 bv fp3 al3 σ H3 _ to3.rr fun t H4 fp4 al4 f4 to4 o4 => ?_
      have e4' := (o4.w0 to4.rr (opInt_look h8)).intI
      subst e4'
      exact ⟨l, n, rfl, rfl, k _ H4 fp4 al4 [] ((to3'.thn to4).less fun _ z => by cases z) (.bl _)⟩
    · rename_i hp'
      rw [if_neg hp']
      cases q
      exact k _ H3 fp3 al3 [] (to3'.less fun _ z => by cases z) (.bl _)
  · rename_i hp
    rw [if_neg hp]
    cases q
    exact k _ H2 fp2 al2 [] (to'.less fun _ z => by cases z) (.bl _)
end
section
variable {X : Cx} {a b c d : Expr} {ta tb tc td : TE} {pos : Pos}
theorem pe_chain3 {op op' op'' : CmpOp} {r r' r'' : R2} (ho : OpR X (compareOp op) r) (ho' : OpR X (compareOp op') r') (ho'' : OpR X (compareOp op'') r'') (ha : PE X a ta) (hb : PE X b tb) (hc : PE X c tc) (hd : PE X d td)
    (hm : lastMarks [op, op', op''] [b, c, d] = false := by with_unfolding_all rfl) : PE X (.Compare a [op, op', op''] [b, c, d] pos) (tChain3 r r' r'' ta tb tc td) := by
  refine ⟨fun pins s σ H Q I h => ?_⟩
  refine PyProof.Rows.Compare_chain (thn (ha.run pins s σ H _ I h) fun v s1 ⟨x, H1, I1, r1, q1⟩ => PyProof.Rows.chain_link (thn (hb.run pins s1 σ H1 _ I1 q1) fun u s2 ⟨y, H2, I2, r2, q2⟩ =>
    thn (ho pins s2 σ H2 x y v u _ I2 r1 r2 q2) fun t s3 ⟨z, H3, I3, r3, k, e, q3⟩ => ?_)) hm
  subst e
  cases r3
  refine wpAny_truthy_bool ?_
  cases k with
  | false => exact PyProof.Rows.ite_ff ⟨.bl false, H3, I3, rfl, q3⟩
  | true =>
    refine PyProof.Rows.ite_tt (PyProof.Rows.chain_link (thn (hc.run pins s3 σ H3 _ I3 q3) fun u' s4 ⟨y', H4, I4, r4, q4⟩ => thn (ho' pins s4 σ H4 y y' u u' _ I4 r2 r4 q4) fun t' s5 ⟨z', H5, I5, r5, k', e', q5⟩ => ?_))
    subst e'
    cases r5
    refine wpAny_truthy_bool ?_
    cases k' with
    | false => exact PyProof.Rows.ite_ff ⟨.bl false, H5, I5, rfl, q5⟩
    | true => exact PyProof.Rows.ite_tt (PyProof.Rows.chain_last (thn (hd.run pins s5 σ H5 _ I5 q5) fun w' s6 ⟨z'', H6, I6, r6, q6⟩ => ho'' pins s6 σ H6 y' z'' u' w' Q I6 r4 r6 q6))
end

/-! ### defs of the text, for their callers -/
def Callee (P : Program) (w : World) (K : PySem.W.Frag) (mg : Str → Option Value) (base : Heap) (x : Str) (k : Nat) (ps : List Str) (sp : Sp) : Prop :=
  ∃ f fd, FnOk P w K mg base CX0 k f fd ps sp ∧ mg x = some (.ref f) ∧ PySem.W.keepIn K (.ref f) = true ∧ Binds K fd ps []
theorem pe_callC {X : Cx} {x : Str} {k j : Nat} {ps : List Str} {sp : Sp} {e : Expr} {es : List Expr} {t : TA} {p pos : Pos} (C : Callee X.prog X.w X.K X.mg X.base x j ps sp) (hr : Room k X.A) (hj : j ≤ k) (hg : Gl X x) (ha : PA X (e :: es) t)
    (hdb : (x == ("__debug__" : Str)) = false := by decide) (he : starEach (e :: es) X.env = (false, eval e X.env) :: starEach es X.env := by rfl) (hpl : (backTo pos (starEach es X.env)).any (·.1) = false := by rfl) :
    PE X (.Call (.Name x p) (e :: es) [] pos) (tCall sp [] E0 t) := by
  obtain ⟨f, fd, F, hm, hk, hb⟩ := C
  exact pe_call F (hr.mono hj) hg hm hk hb .nil pass0 ha hdb he hpl
theorem pe_globI {X : Cx} {x : Str} {i : Int} {pos : Pos} (hm : ∃ t, X.mg x = some (.int i t)) (hg : Gl X x) (hd : (x == ("__debug__" : Str)) = false := by decide) : PE X (.Name x pos) (tC (.int i)) := by
  obtain ⟨t, h⟩ := hm
  exact pe_glob hg h ⟨t, rfl⟩ hd
theorem pe_globS {X : Cx} {x z : Str} {pos : Pos} (hm : ∃ t, X.mg x = some (.str z t)) (hg : Gl X x) (hd : (x == ("__debug__" : Str)) = false := by decide) : PE X (.Name x pos) (tC (.str z)) := by
  obtain ⟨t, h⟩ := hm
  exact pe_glob hg h ⟨t, rfl⟩ hd
theorem hu65 {k : Nat} {A : Around} (r : Room k A) : A.units + 65 < cLine := by have := r.un; omega

/-! ### the same with K said (for a comprehension's block) -/
section
variable {X : Cx} {K : PySem.W.Frag}
theorem pg_tupK (hK : X.K = K) (hc : X.calm = true) {es : List Expr} {k : Nat} {t : TGs} {n : Nat} {pos : Pos} (h : PGs X es t) (hn : (assignEach es X.env).length = n := by rfl) (hst : (assignEach es X.env).findIdx? (·.1) = none := by rfl) : PG X (.Tuple es k pos) (gTup K n t) := by
  subst hK
  exact pg_tup hc h hn hst
theorem pi_seqK (hK : X.K = K) {tg l : Expr} {tl : TE} (hl : PE X l tl) : PI X tg l (iSeq K tl) := by
  subst hK
  exact pi_seq hl
def rLen (K : PySem.W.Frag) : List V → Hp → VK → Prop := fun xs H Q => ∃ x n, xs = [x] ∧ LenV K x H n ∧ Q (.int n) H
def rList (K : PySem.W.Frag) : List V → Hp → VK → Prop := fun xs H Q => ∃ p ys, xs = [.ref p] ∧ (SqL K H p ys ∨ SqT K H p ys) ∧ ∀ l, H l = none → Q (.ref l) (upd H l (.lst ys))
def rTuple (K : PySem.W.Frag) : List V → Hp → VK → Prop := fun xs H Q => ∃ p ys, xs = [.ref p] ∧ ((SqL K H p ys ∧ ∀ l, H l = none → Q (.ref l) (upd H l (.tup ys))) ∨ (SqT K H p ys ∧ Q (.ref p) H))
end
end Dl
/-! data of one shape: no list, depth, equal -/
namespace Dl
open PySem L2

/-! ### the depth of data -/
theorem depthA_le {n : Nat} : ∀ {ds : List PyData}, (∀ d ∈ ds, d.depth ≤ n) → PyData.depthAll ds ≤ n
  | [], _ => by simp [PyData.depthAll]
  | d :: r, h => by
    have h1 := h d List.mem_cons_self
    have h2 := depthA_le (ds := r) fun x z => h x (List.mem_cons_of_mem _ z)
    simp only [PyData.depthAll]
    omega
theorem layA {ds : List PyData} : PyData.canLayAll0 ds = ds.all PyData.canLay0 := by
  induction ds with
  | nil => simp [PyData.canLayAll0]
  | cons d r ih => simp [PyData.canLayAll0, ih]
/-- data of depth n that == reads -/
def shp (n : Nat) (d : PyData) : Prop := d.canLay0 = true ∧ d.depth ≤ n
theorem shp.shaped {n : Nat} {d : PyData} (h : shp n d) (hn : n ≤ 64) : SeqAt.shaped d = true := by
  unfold SeqAt.shaped
  rw [h.1, Bool.true_and, decide_eq_true_iff]
  exact Nat.le_trans h.2 hn
theorem shp_int (i : Int) : shp 1 (.int i) := ⟨by simp [PyData.canLay0], by simp [PyData.depth]⟩
theorem shp_bool (i : Bool) : shp 1 (.bool i) := ⟨by simp [PyData.canLay0], by simp [PyData.depth]⟩
theorem shp_none : shp 1 .none := ⟨by simp [PyData.canLay0], by simp [PyData.depth]⟩
theorem shp_list {n : Nat} {ds : List PyData} (h : ∀ d ∈ ds, shp n d) : shp (n + 1) (.list ds) := by
  refine ⟨?_, ?_⟩
  · simp only [PyData.canLay0, layA, List.all_eq_true]
    exact fun d hd => (h d hd).1
  · have := depthA_le fun d hd => (h d hd).2
    simp only [PyData.depth]
    omega
theorem shp_tup {n : Nat} {ds : List PyData} (h : ∀ d ∈ ds, shp n d) : shp (n + 1) (.tuple ds) := by
  refine ⟨?_, ?_⟩
  · simp only [PyData.canLay0, layA, List.all_eq_true]
    exact fun d hd => (h d hd).1
  · have := depthA_le fun d hd => (h d hd).2
    simp only [PyData.depth]
    omega
theorem shp.mono {n m : Nat} {d : PyData} (h : shp n d) (hm : n ≤ m) : shp m d := ⟨h.1, Nat.le_trans h.2 hm⟩

/-! ### isinstance(x, T), T a built-in class -/
def isiB (T : String) : PyData → Option Bool
  | .none => if T = "bool" ∨ T = "int" ∨ T = "str" ∨ T = "list" ∨ T = "tuple" then some false else none
  | .bool _ => if T = "bool" ∨ T = "int" then some true else if T = "str" ∨ T = "list" ∨ T = "tuple" then some false else none
  | .int _ => if T = "int" then some true else if T = "bool" ∨ T = "str" ∨ T = "list" ∨ T = "tuple" then some false else none
  | .str _ => if T = "str" then some true else if T = "bool" ∨ T = "int" ∨ T = "list" ∨ T = "tuple" then some false else none
  | .list _ => if T = "list" then some true else if T = "bool" ∨ T = "int" ∨ T = "str" ∨ T = "tuple" then some false else none
  | .tuple _ => if T = "tuple" then some true else if T = "bool" ∨ T = "int" ∨ T = "str" ∨ T = "list" then some false else none
  | .dict _ => none
def tyD : PyData → String
  | .none => "NoneType"
  | .bool _ => "bool"
  | .int _ => "int"
  | .str _ => "str"
  | .list _ => "list"
  | .tuple _ => "tuple"
  | .dict _ => "dict"
theorem tyX_w {K : PySem.W.Frag} {H : Hp} {v : V} {d : PyData} (w : W0 K H v d) (hd : ∀ cs, d ≠ .dict cs) : TyX K H v (.type (tyD d)) := by
  cases w with
  | non => exact .base .non
  | bl b => exact .base (.bl b)
  | int i => exact .base (.int i)
  | str x => exact .base (.str x)
  | lst h _ _ => exact .base (.lst h)
  | tup h _ => exact .base (.tup h)
  | dk _ _ _ _ => exact absurd rfl (hd _)
  | dt _ _ _ _ => exact absurd rfl (hd _)
  | ins _ _ _ _ _ => exact absurd rfl (hd _)
theorem kit_isi {K : PySem.W.Frag} {T : String} {d : PyData} {b : Bool} (h : isiB T d = some b) : PySem.W.kitOne K (.type (tyD d)) (.type T) = some b := by
  refine kit_ty ?_
  cases d with
  | none =>
    simp only [isiB] at h
    split at h
    · rename_i hT
      cases h
      rcases hT with rfl | rfl | rfl | rfl | rfl <;> (simp only [tyD]; decide +kernel)
    · cases h
  | bool x =>
    simp only [isiB] at h
    split at h
    · rename_i hT
      cases h
      rcases hT with rfl | rfl <;> (simp only [tyD]; decide +kernel)
    · split at h
      · rename_i hT
        cases h
        rcases hT with rfl | rfl | rfl <;> (simp only [tyD]; decide +kernel)
      · cases h
  | int x =>
    simp only [isiB] at h
    split at h
    · rename_i hT
      cases h
      subst hT
      simp only [tyD]; decide +kernel
    · split at h
      · rename_i hT
        cases h
        rcases hT with rfl | rfl | rfl | rfl <;> (simp only [tyD]; decide +kernel)
      · cases h
  | str x =>
    simp only [isiB] at h
    split at h
    · rename_i hT
      cases h
      subst hT
      simp only [tyD]; decide +kernel
    · split at h
      · rename_i hT
        cases h
        rcases hT with rfl | rfl | rfl | rfl <;> (simp only [tyD]; decide +kernel)
      · cases h
  | list x =>
    simp only [isiB] at h
    split at h
    · rename_i hT
      cases h
      subst hT
      simp only [tyD]; decide +kernel
    · split at h
      · rename_i hT
        cases h
        rcases hT with rfl | rfl | rfl | rfl <;> (simp only [tyD]; decide +kernel)
      · cases h
  | tuple x =>
    simp only [isiB] at h
    split at h
    · rename_i hT
      cases h
      subst hT
      simp only [tyD]; decide +kernel
    · split at h
      · rename_i hT
        cases h
        rcases hT with rfl | rfl | rfl | rfl <;> (simp only [tyD]; decide +kernel)
      · cases h
  | dict x => cases h
def mIsi (T : String) (a : MO) : ME := fun e => (a e).bind fun p => (p.1.look p.2).bind fun d => (isiB T d).bind fun b => some (.bool b, p.2)
theorem re_isi {K : PySem.W.Frag} {T : String} {t : TE} {a : MO} (h : RO K t a) : RE K (tCB (rIsi K) (tCons t (tCons (tC (.ty T)) tNil))) (mIsi T a) := by
  intro e c e' q bv fp al σ H Q rr k
  obtain ⟨⟨o, e1⟩, h1, q⟩ := Option.bind_eq_some_iff.mp q
  obtain ⟨d, h2, q⟩ := Option.bind_eq_some_iff.mp q
  obtain ⟨b, h3, q⟩ := Option.bind_eq_some_iff.mp q
  cases q
  refine h e o e1 h1 bv fp al σ H _ rr fun v H' fp' al' fv to oo => ?_
  exact ⟨v, .ty T, _, _, b, rfl, .ty T, tyX_w (oo.w0 to.rr h2) (fun cs z => by subst z; cases h3), kit_isi h3, k _ H' fp' al' [] (to.less fun _ z => by cases z) (.bl b)⟩

/-! ### a law's own body, behind its first statement -/
theorem rr_empty {K : PySem.W.Frag} {H : Hp} {σ : St} {n : Nat} (hn : σ.length = n) {al : Addr → Prop} : RR K [] ⟨List.replicate n .no, []⟩ (fun _ => False) al σ H := by
  have no : ∀ {i : Nat} {x : Sl}, (List.replicate n Sl.no)[i]? = some x → x = .no := fun {i x} h => by
    rw [List.getElem?_replicate] at h
    split at h
    · exact (Option.some.inj h).symm
    · cases h
  refine ⟨fun _ => False, fun _ => [], by simpa using hn.symm, fun x d h => ?_, fun _ _ _ a z => (by cases z), fun _ a z => (by cases z), fun _ z => False.elim z, fun i d h => ?_, fun i k h => ?_, fun _ z => False.elim z, fun _ z => False.elim z⟩
  · cases x with
    | inl i => have := no (Env.own_inl h); cases this
    | inr k => exact absurd (show (none : Option PyData) = some d from h) (by simp)
  · have := no h; cases this
  · have := no h; cases this
theorem body_L {K : PySem.W.Frag} {H1 : Hp} {σ : St} {t : TS} {m : MS} {n : Nat} {v : V} {d : PyData} {fv : List Addr} {Q : VK} (h : RS K t m) (ow : Own K H1 v d fv) (hm : (m ⟨(List.replicate n .no).set 1 (.dat d), []⟩).bind outP = some (.bool true)) (q : ∀ H', Q (.bl true) H') (hn : σ.length = n := by rfl) (h1 : 1 < n := by decide) :
    t { nx := fun _ H' => Q .non H', rt := Q } (σ.set 1 (some v)) H1 := by
  have r0 : RR K [] (Env.set ⟨List.replicate n .no, []⟩ 1 .no) (fun _ => False) (· ∈ fv) (σ.set 1 (some v)) H1 := by
    have : (Env.set ⟨List.replicate n .no, []⟩ 1 .no) = (⟨List.replicate n .no, []⟩ : Dl.Env) := by
      unfold Env.set
      congr 1
      exact List.ext_getElem? fun j => by
        by_cases hj : 1 = j
        · subst hj
          rw [List.getElem?_set_self (by simpa using h1), List.getElem?_replicate, if_pos h1]
        · rw [List.getElem?_set_ne hj]
    rw [this]
    exact rr_empty (by simpa using hn)
  have r1 := r0.fill ow (fun a z => ⟨fun y => y, z⟩) (by simpa using h1)
  have r1' := r1
  obtain ⟨fo, F, rf⟩ := r1'
  have r2 := r1.less (al' := fun a => False ∨ a ∈ fv) (fun a z => z.elim (fun y => False.elim y) id) fun _ z => z
  cases ho : m ⟨(List.replicate n .no).set 1 (.dat d), []⟩ with
  | none => rw [ho] at hm; cases hm
  | some o =>
    refine h _ o ho [] _ _ H1 _ r2 ?_
    rw [ho] at hm
    cases o with
    | ret c bo =>
      cases hm
      exact fun u H' fb fu _ o _ _ => by
        have := o.w0.blI
        subst this
        exact q H'
    | nx e1 => cases hm
    | bk e1 => cases hm
    | ct e1 => cases hm
end Dl
/-! plain reasoning about mirrors -/
namespace Dl
open PySem L2
/-- x is there, and such -/
def Ev {α : Type} (x : Option α) (Q : α → Prop) : Prop := ∃ a, x = some a ∧ Q a
theorem Ev.ret {α : Type} {a : α} {Q : α → Prop} (h : Q a) : Ev (some a) Q := ⟨a, rfl, h⟩
theorem Ev.bind {α β : Type} {x : Option α} {f : α → Option β} {R : α → Prop} {Q : β → Prop} (h : Ev x R) (k : ∀ a, R a → Ev (f a) Q) : Ev (x.bind f) Q := by
  obtain ⟨a, rfl, r⟩ := h
  exact k a r
theorem Ev.of {α β : Type} {x : Option α} {a : α} {f : α → Option β} {Q : β → Prop} (h : x = some a) (k : Ev (f a) Q) : Ev (x.bind f) Q := by
  rw [h]; exact k
theorem Ev.mono {α : Type} {x : Option α} {Q Q' : α → Prop} (h : Ev x Q) (k : ∀ a, Q a → Q' a) : Ev x Q' := let ⟨a, e, q⟩ := h; ⟨a, e, k a q⟩
theorem Ev.eq {α : Type} {x : Option α} {a : α} (h : Ev x (· = a)) : x = some a := by
  obtain ⟨b, e, rfl⟩ := h
  exact e
theorem Ev.ite {α : Type} {c : Prop} [Decidable c] {x y : Option α} {Q : α → Prop} (h1 : c → Ev x Q) (h2 : ¬ c → Ev y Q) : Ev (if c then x else y) Q := by
  split
  · exact h1 (by assumption)
  · exact h2 (by assumption)
theorem Ev.guard {α β : Type} {c : Prop} [Decidable c] {x : α} {f : α → Option β} {Q : β → Prop} (h : c) (k : Ev (f x) Q) : Ev ((if c then some x else none).bind f) Q := by
  rw [if_pos h]; exact k
theorem Ev.guard1 {α : Type} {c : Prop} [Decidable c] {x : Option α} {Q : α → Prop} (h : c) (k : Ev x Q) : Ev (if c then x else none) Q := by
  rw [if_pos h]; exact k
theorem Ev.guardB {α β : Type} {c : Prop} [Decidable c] {x : Option α} {f : α → Option β} {Q : β → Prop} (h : c) (k : Ev (x.bind f) Q) : Ev ((if c then x else none).bind f) Q := by
  rw [if_pos h]; exact k
theorem ob {α β : Type} (a : α) (f : α → Option β) : (some a).bind f = f a := (Eq.refl _).trans (Eq.refl _)
theorem ite_andV {p : Prop} [Decidable p] {x : Bool} {e : Dl.Env} : (if p then some (PyData.bool x, e) else some (PyData.bool false, e)) = some (PyData.bool (decide p && x), e) := by
  by_cases h : p <;> simp [h]
theorem ite_orV {p : Prop} [Decidable p] {x : Bool} {e : Dl.Env} : (if p then some (PyData.bool true, e) else some (PyData.bool x, e)) = some (PyData.bool (decide p || x), e) := by
  by_cases h : p <;> simp [h]
theorem ite_andB {p : Prop} [Decidable p] {x : Bool} {e : Dl.Env} : (if p then some (x, e) else some (false, e)) = some (decide p && x, e) := by
  by_cases h : p <;> simp [h]
theorem ite_orB {p : Prop} [Decidable p] {x : Bool} {e : Dl.Env} : (if p then some (true, e) else some (x, e)) = some (decide p || x, e) := by
  by_cases h : p <;> simp [h]
/-- loops by an invariant -/
def OutI (I : Dl.Env → Prop) (Q : Out → Prop) : Out → Prop
  | .nx e => I e
  | .ct e => I e
  | .bk e => Q (.nx e)
  | .ret d bo => Q (.ret d bo)
theorem Ev.nx {I : Dl.Env → Prop} {Q : Out → Prop} {e : Dl.Env} (h : I e) : Ev (some (Out.nx e)) (OutI I Q) := ⟨_, rfl, h⟩
theorem Ev.rt {I : Dl.Env → Prop} {Q : Out → Prop} {d : PyData} {bo : List PyData} (h : Q (.ret d bo)) : Ev (some (Out.ret d bo)) (OutI I Q) := ⟨_, rfl, h⟩
theorem Ev.forL {b : PyData → Dl.Env → Option Dl.Env} {body : MS} {Q : Out → Prop} : ∀ (ds : List PyData) (I : Nat → Dl.Env → Prop) (e : Dl.Env), I 0 e → (∀ (i : Nat) (d : PyData) (e : Dl.Env), ds[i]? = some d → I i e → Ev ((b d e).bind body) (OutI (I (i + 1)) Q)) → (∀ e, I ds.length e → Q (.nx e)) → Ev (forL b body ds e) Q
  | [], I, e, h0, _, hd => ⟨_, rfl, hd e h0⟩
  | d :: r, I, e, h0, hs, hd => by
    obtain ⟨o, h1, h2⟩ := hs 0 d e rfl h0
    obtain ⟨e1, h3, h4⟩ := Option.bind_eq_some_iff.mp h1
    show Ev ((b d e).bind fun e1 => (body e1).bind fun o => _) Q
    rw [h3]
    show Ev ((body e1).bind fun o => _) Q
    rw [h4]
    cases o with
    | nx e2 => exact Ev.forL r (fun i => I (i + 1)) e2 h2 (fun i c e hc hi => hs (i + 1) c e (by simpa using hc) hi) hd
    | ct e2 => exact Ev.forL r (fun i => I (i + 1)) e2 h2 (fun i c e hc hi => hs (i + 1) c e (by simpa using hc) hi) hd
    | bk e2 => exact ⟨_, rfl, h2⟩
    | ret d bo => exact ⟨_, rfl, h2⟩
/-- a fold of the state -/
theorem forL_fold {α S : Type} {b : PyData → Dl.Env → Option Dl.Env} {body : MS} (enc : α → PyData) (st : S → Dl.Env) (step : S → α → S) : ∀ (xs : List α) (s : S), (∀ x ∈ xs, ∀ s, (b (enc x) (st s)).bind body = some (.nx (st (step s x)))) → forL b body (xs.map enc) (st s) = some (.nx (st (xs.foldl step s)))
  | [], s, _ => rfl
  | x :: r, s, h => by
    obtain ⟨e1, h3, h4⟩ := Option.bind_eq_some_iff.mp (h x List.mem_cons_self s)
    show ((b (enc x) (st s)).bind fun e1 => (body e1).bind fun o => _) = _
    rw [h3]
    show ((body e1).bind fun o => _) = _
    rw [h4]
    exact forL_fold enc st step r _ fun y hy => h y (List.mem_cons_of_mem _ hy)
/-- comprehensions whose elements and tests change nothing -/
theorem lcL_pure {α : Type} {b : PyData → Dl.Env → Option Dl.Env} {vs : List Nat} {t : MT} {me : ME} (enc : α → PyData) (p : α → Bool) (f : α → PyData) {e0 : Dl.Env} : ∀ (xs : List α), (∀ x ∈ xs, ∃ e1 e2, b (enc x) e0 = some e1 ∧ t e1 = some (p x, e2) ∧ e2.kills vs = e0 ∧ (p x = true → ∃ e3, me e2 = some (f x, e3) ∧ e3.kills vs = e0)) →
    lcL b vs t me (xs.map enc) e0 = some ((xs.filter p).map f, e0)
  | [], _ => rfl
  | x :: r, h => by
    obtain ⟨e1, e2, h1, h2, h3, h4⟩ := h x List.mem_cons_self
    have ih := lcL_pure (b := b) (vs := vs) (t := t) (me := me) enc p f (e0 := e0) r fun y hy => h y (List.mem_cons_of_mem _ hy)
    show ((b (enc x) e0).bind fun e1 => _) = _
    rw [h1]
    show ((t e1).bind fun p => _) = _
    rw [h2]
    cases hp : p x with
    | false =>
      show lcL b vs t me (r.map enc) (e2.kills vs) = _
      rw [h3, ih, List.filter_cons_of_neg (by simp [hp])]
    | true =>
      obtain ⟨e3, h5, h6⟩ := h4 hp
      show ((me e2).bind fun q => _) = _
      rw [h5]
      show ((lcL b vs t me (r.map enc) (e3.kills vs)).bind fun z => _) = _
      rw [h6, ih, List.filter_cons_of_pos hp]
      rfl
/-- .. or change the state, within what I says -/
theorem Ev.lcL {b : PyData → Dl.Env → Option Dl.Env} {vs : List Nat} {t : MT} {me : ME} {Q : List PyData × Dl.Env → Prop} : ∀ (ds : List PyData) (I : Nat → List PyData → Dl.Env → Prop) (acc : List PyData) (e : Dl.Env), I 0 acc e →
    (∀ (i : Nat) (d : PyData) (acc : List PyData) (e : Dl.Env), ds[i]? = some d → I i acc e → Ev ((b d e).bind t) (fun p => (p.1 = true → Ev (me p.2) fun q => I (i + 1) (acc ++ [q.1]) (q.2.kills vs)) ∧ (p.1 = false → I (i + 1) acc (p.2.kills vs)))) →
    (∀ out e, I ds.length (acc ++ out) e → Q (out, e)) → Ev (lcL b vs t me ds e) Q
  | [], I, acc, e, h0, _, hd => ⟨_, rfl, hd [] e (by simpa using h0)⟩
  | d :: r, I, acc, e, h0, hs, hd => by
    obtain ⟨⟨c, e2⟩, h1, h2, h2'⟩ := hs 0 d acc e rfl h0
    obtain ⟨e1, h3, h4⟩ := Option.bind_eq_some_iff.mp h1
    show Ev ((b d e).bind fun e1 => _) Q
    rw [h3]
    show Ev ((t e1).bind fun p => _) Q
    rw [h4]
    cases c with
    | false => exact Ev.lcL r (fun i => I (i + 1)) acc _ (h2' rfl) (fun i c acc e hc hi => hs (i + 1) c acc e (by simpa using hc) hi) hd
    | true =>
      obtain ⟨⟨y, e3⟩, h5, h6⟩ := h2 rfl
      show Ev ((me e2).bind fun q => _) Q
      rw [h5]
      have := Ev.lcL (Q := fun z => I (r.length + 1) (acc ++ y :: z.1) z.2) r (fun i => I (i + 1)) (acc ++ [y]) (e3.kills vs) h6 (fun i c acc e hc hi => hs (i + 1) c acc e (by simpa using hc) hi) fun out e h => by simpa using h
      obtain ⟨⟨out, ez⟩, h7, h8⟩ := this
      show Ev ((Dl.lcL b vs t me r (e3.kills vs)).bind fun z => _) Q
      rw [h7]
      exact ⟨_, rfl, hd _ _ h8⟩
theorem lcL_none {b : PyData → Dl.Env → Option Dl.Env} {vs : List Nat} {t : MT} {me : ME} {e0 : Dl.Env} : ∀ (ds : List PyData), (∀ d ∈ ds, Ev ((b d e0).bind t) fun q => q.1 = false ∧ q.2.kills vs = e0) → lcL b vs t me ds e0 = some ([], e0)
  | [], _ => rfl
  | d :: r, h => by
    obtain ⟨⟨c, e2⟩, h1, h2, h3⟩ := h d List.mem_cons_self
    obtain ⟨e1, h4, h5⟩ := Option.bind_eq_some_iff.mp h1
    have h2' : c = false := h2
    subst h2'
    have ih := lcL_none (b := b) (vs := vs) (t := t) (me := me) (e0 := e0) r fun y hy => h y (List.mem_cons_of_mem _ hy)
    show ((b d e0).bind fun e1 => _) = _
    rw [h4]
    show ((t e1).bind fun p => _) = _
    rw [h5]
    show lcL b vs t me r (e2.kills vs) = _
    rw [show e2.kills vs = e0 from h3, ih]
theorem lcL_eq {α : Type} {b : PyData → Dl.Env → Option Dl.Env} {vs : List Nat} {t : MT} {me : ME} (enc : α → PyData) (p : α → Bool) (f : α → PyData) {e0 : Dl.Env} (xs : List α) (h : ∀ x ∈ xs, Ev ((b (enc x) e0).bind t) fun q => q.1 = p x ∧ q.2.kills vs = e0 ∧ (p x = true → Ev (me q.2) fun z => z.1 = f x ∧ z.2.kills vs = e0)) :
    lcL b vs t me (xs.map enc) e0 = some ((xs.filter p).map f, e0) := lcL_pure enc p f xs fun x hx => by
  obtain ⟨⟨c, e2⟩, h1, h2, h3, h4⟩ := h x hx
  obtain ⟨e1, h5, h6⟩ := Option.bind_eq_some_iff.mp h1
  refine ⟨e1, e2, h5, by rw [h6, ← h2], h3, fun hp => ?_⟩
  obtain ⟨⟨y, e3⟩, h7, h8, h9⟩ := h4 hp
  exact ⟨e3, by rw [h7]; exact congrArg (fun z => some (z, e3)) h8, h9⟩
theorem lcL_map {α : Type} {b : PyData → Dl.Env → Option Dl.Env} {vs : List Nat} {me : ME} (enc : α → PyData) (f : α → PyData) {e0 : Dl.Env} (xs : List α) (h : ∀ x ∈ xs, Ev ((b (enc x) e0).bind me) fun z => z.1 = f x ∧ z.2.kills vs = e0) :
    lcL b vs tTrue me (xs.map enc) e0 = some (xs.map f, e0) := by
  induction xs with
  | nil => rfl
  | cons x r ih =>
    obtain ⟨⟨y, e3⟩, h1, h2, h3⟩ := h x List.mem_cons_self
    obtain ⟨e1, h4, h5⟩ := Option.bind_eq_some_iff.mp h1
    have h2' : y = f x := h2
    subst h2'
    show ((b (enc x) e0).bind fun e1 => _) = _
    rw [h4]
    show ((me e1).bind fun q => _) = _
    rw [h5]
    show ((lcL b vs tTrue me (r.map enc) (e3.kills vs)).bind fun z => _) = _
    rw [show e3.kills vs = e0 from h3, ih fun y hy => h y (List.mem_cons_of_mem _ hy)]
    rfl
theorem dAdd_ints {a b : List Int} (h : a.length + b.length ≤ 16777216) : dAdd (.list (a.map .int)) (.list (b.map .int)) = some (.list ((a ++ b).map .int)) := by
  have hi : ∀ r : List Int, immA (r.map .int) = true := fun r => by
    induction r with
    | nil => simp [immA]
    | cons a r ih => simp [immA, imm, ih]
  simp [dAdd, hi, h]
theorem forL_same {b : PyData → Dl.Env → Option Dl.Env} {body : MS} {e0 : Dl.Env} : ∀ (ds : List PyData), (∀ d ∈ ds, (b d e0).bind body = some (.nx e0)) → forL b body ds e0 = some (.nx e0)
  | [], _ => rfl
  | d :: r, h => by
    obtain ⟨e1, h3, h4⟩ := Option.bind_eq_some_iff.mp (h d List.mem_cons_self)
    show ((b d e0).bind fun e1 => (body e1).bind fun o => _) = _
    rw [h3]
    show ((body e1).bind fun o => _) = _
    rw [h4]
    exact forL_same r fun y hy => h y (List.mem_cons_of_mem _ hy)
theorem rngD_mem {a : Int} {n : Nat} {d : PyData} (h : d ∈ rngD a n) : ∃ i : Nat, i < n ∧ d = .int (a + (i : Int)) := by
  unfold rngD at h
  obtain ⟨i, h1, rfl⟩ := List.mem_map.mp h
  exact ⟨i, List.mem_range.mp h1, rfl⟩
theorem rngD_get {a : Int} {n i : Nat} {d : PyData} (h : (rngD a n)[i]? = some d) : i < n ∧ d = .int (a + (i : Int)) := by
  unfold rngD at h
  rw [List.getElem?_map] at h
  by_cases hi : i < n
  · rw [List.getElem?_range hi] at h
    cases h
    exact ⟨hi, rfl⟩
  · rw [List.getElem?_eq_none (by simpa using hi)] at h
    cases h
theorem rngD_len (a : Int) (n : Nat) : (rngD a n).length = n := by simp [rngD]
theorem rngD_eq (a : Int) (n : Nat) : rngD a n = ((List.range n).map fun (k : Nat) => (a + (k : Int))).map .int := by simp [rngD]
theorem dEq_int (a b : Int) : dEq (.int a) (.int b) = some (.bool (a == b)) := by
  unfold dEq
  rw [if_pos ⟨(shp_int a).shaped (by decide), (shp_int b).shaped (by decide)⟩]
  simp [PyData.eqv]
theorem dNe_int (a b : Int) : dNe (.int a) (.int b) = some (.bool (a != b)) := by
  unfold dNe
  rw [if_pos ⟨(shp_int a).shaped (by decide), (shp_int b).shaped (by decide)⟩]
  simp [PyData.eqv, bne]
theorem dAdd_int (a b : Int) : dAdd (.int a) (.int b) = some (.int (a + b)) := rfl
theorem dSub_int (a b : Int) : dSub (.int a) (.int b) = some (.int (a - b)) := rfl
theorem dMul_int (a b : Int) : dMul (.int a) (.int b) = if mulOk a b = true then some (.int (a * b)) else none := rfl
theorem dMod_int (a b : Int) : dMod (.int a) (.int b) = if 0 < b then some (.int (a % b)) else none := rfl
theorem dDiv_int (a b : Int) : dDiv (.int a) (.int b) = if 0 < b ∧ b < 1073741824 then some (.int (a / b)) else none := rfl
theorem dLt_int (a b : Int) : dLt (.int a) (.int b) = some (.bool (decide (a < b))) := rfl
theorem dLe_int (a b : Int) : dLe (.int a) (.int b) = some (.bool (decide (a ≤ b))) := rfl
theorem dGt_int (a b : Int) : dGt (.int a) (.int b) = some (.bool (decide (b < a))) := rfl
theorem dGe_int (a b : Int) : dGe (.int a) (.int b) = some (.bool (decide (b ≤ a))) := rfl
theorem dNeg_int (a : Int) : dNeg (.int a) = some (.int (-a)) := rfl
theorem cInt_int (a : Int) : cInt [.int a] = some (.int a) := rfl
theorem cInt_bool (a : Bool) : cInt [.bool a] = some (.int (if a = true then 1 else 0)) := rfl
theorem cMax_ii (a b : Int) : cMax [.int a, .int b] = some (.int (if b > a then b else a)) := rfl
theorem cMin_ii (a b : Int) : cMin [.int a, .int b] = some (.int (if b < a then b else a)) := rfl
theorem dIsN_n (d : PyData) : dIsN d .none = some (.bool (isNone d)) := rfl
theorem dNotN_n (d : PyData) : dNotN d .none = some (.bool (!isNone d)) := rfl
theorem isN_n : isNone .none = true := rfl
theorem isN_b (b : Bool) : isNone (.bool b) = false := rfl
theorem isN_i (b : Int) : isNone (.int b) = false := rfl
theorem isN_s (b : Str) : isNone (.str b) = false := rfl
theorem isN_l (b : List PyData) : isNone (.list b) = false := rfl
theorem isN_t (b : List PyData) : isNone (.tuple b) = false := rfl
theorem cLen_lst (ds : List PyData) : cLen [.list ds] = some (.int ds.length) := rfl
end Dl
/-! views: what is read alone, nested lists too; parts of owned tuples; x[k].append -/
namespace Dl
open PySem L2
section
variable {K : PySem.W.Frag} {bv : List V} {e e' e1 e2 : Dl.Env} {fp fp' fp1 fp2 al al' al1 al2 T T1 T2 φ : Addr → Prop} {σ : St} {H H' H1 H2 : Hp}
abbrev MV := Dl.Env → Option PyData
def RV (K : PySem.W.Frag) (t : TE) (m : MV) : Prop := ∀ (e : Dl.Env) (d : PyData), m e = some d → ∀ (bv : List V) (fp al : Addr → Prop) (σ : St) (H : Hp) (Q : VK), RR K bv e fp al σ H → (∀ v, W0 K H v d → Q v H) → t σ H Q
abbrev MVs := Dl.Env → Option (List PyData)
def RVs (K : PySem.W.Frag) (t : TA) (m : MVs) : Prop := ∀ (e : Dl.Env) (ds : List PyData), m e = some ds → ∀ (bv : List V) (fp al : Addr → Prop) (σ : St) (H : Hp) (Q : List V → Hp → Prop), RR K bv e fp al σ H → (∀ vs, W0A K H vs ds → Q vs H) → t σ H Q
def vVar (i : Nat) : MV := fun e => e.look i
theorem rv_var {i : Nat} : RV K (tVar i) (vVar i) := by
  intro e d q bv fp al σ H Q r k
  obtain ⟨v, hv, w⟩ := r.look q
  exact ⟨v, hv, k v w⟩
def vC (d : PyData) : MV := fun _ => some d
theorem rv_const {v : V} {d : PyData} (o : ∀ H : Hp, Own K H v d []) : RV K (tC v) (vC d) := by
  intro e d' q bv fp al σ H Q r k
  cases q
  exact k v (o H).w0
theorem rv_int {i : Int} : RV K (tC (.int i)) (vC (.int i)) := rv_const fun _ => .int i
theorem rv_bl {i : Bool} : RV K (tC (.bl i)) (vC (.bool i)) := rv_const fun _ => .bl i
theorem rv_str {i : Str} : RV K (tC (.str i)) (vC (.str i)) := rv_const fun _ => .str i
theorem rv_non : RV K (tC .non) (vC .none) := rv_const fun _ => .non
/-- an item, whatever it holds -/
def itm : PyData → PyData → Option PyData
  | .list ds, .int i => atI ds i
  | .tuple ds, .int i => atI ds i
  | _, _ => none
def vIx (a b : MV) : MV := fun e => (a e).bind fun x => (b e).bind fun y => itm x y
theorem rv_ix {ta tb : TE} {a b : MV} (ha : RV K ta a) (hb : RV K tb b) : RV K (tOp (rIx K) ta tb) (vIx a b) := by
  intro e d q bv fp al σ H Q r k
  obtain ⟨x, h1, q⟩ := Option.bind_eq_some_iff.mp q
  obtain ⟨y, h2, q⟩ := Option.bind_eq_some_iff.mp q
  refine ha e x h1 bv fp al σ H _ r fun v wv => hb e y h2 bv fp al σ H _ r fun w ww => ?_
  cases y with
  | int i =>
    cases ww.intI
    cases x with
    | list ds =>
      obtain ⟨p, xs, rfl, hp, w⟩ := wv.lstI
      obtain ⟨v, hv, wv⟩ := atI_w w q
      exact .inl ⟨p, xs, i, v, rfl, rfl, SqL.of hp, hv, k _ wv⟩
    | tuple ds =>
      obtain ⟨p, xs, rfl, hp, w⟩ := wv.tupI
      obtain ⟨v, hv, wv⟩ := atI_w w q
      exact .inr (.inl ⟨p, xs, i, v, rfl, rfl, hp, hv, k _ wv⟩)
    | _ => cases q
  | _ => cases x <;> cases q
def vNeg (a : MV) : MV := fun e => (a e).bind dNeg
theorem rv_neg {t : TE} {a : MV} (h : RV K t a) : RV K (tUn (rU fun i => .int (-i)) t) (vNeg a) := by
  intro e d q bv fp al σ H Q r k
  obtain ⟨x, h1, q⟩ := Option.bind_eq_some_iff.mp q
  refine h e x h1 bv fp al σ H _ r fun v wv => ?_
  cases x with
  | int i => cases q; exact ⟨_, wv.intI, k _ (.int _)⟩
  | _ => cases q
def vNil : MVs := fun _ => some []
def vCons (a : MV) (r : MVs) : MVs := fun e => (a e).bind fun d => (r e).bind fun ds => some (d :: ds)
theorem rvs_nil : RVs K tNil vNil := by
  intro e ds q bv fp al σ H Q r k
  cases q
  exact k [] .nil
theorem rvs_cons {ta : TE} {tr : TA} {a : MV} {r : MVs} (ha : RV K ta a) (hr : RVs K tr r) : RVs K (tCons ta tr) (vCons a r) := by
  intro e ds q bv fp al σ H Q rr k
  obtain ⟨d, h1, q⟩ := Option.bind_eq_some_iff.mp q
  obtain ⟨ds', h2, q⟩ := Option.bind_eq_some_iff.mp q
  cases q
  exact ha e d h1 bv fp al σ H _ rr fun v wv => hr e ds' h2 bv fp al σ H _ rr fun vs ws => k _ (.cons wv ws)
/-- new data at once -/
theorem To.now (r : RR K bv e fp al σ H) {v : V} {d : PyData} {fv : List Addr} (s : Same H H') (o : Own K H' v d fv) (n : ∀ a ∈ fv, H a = none) : To K bv σ fp al H e (· ∈ fv) fp (fun x => al x ∨ x ∈ fv) H' := (To.refl r).newv s o n
/-- a view as a value: it holds no list -/
def mView (a : MV) : ME := fun e => (a e).bind fun d => if imm d then some (d, e) else none
theorem re_view {t : TE} {m : MV} (h : RV K t m) : RE K t (mView m) := by
  intro e d e' q bv fp al σ H Q r k
  obtain ⟨c, h1, q⟩ := Option.bind_eq_some_iff.mp q
  split at q
  · rename_i hi
    cases q
    exact h e _ h1 bv fp al σ H _ r fun v wv => k v H fp al [] ((To.refl r).less fun p z => by cases z) (wv.own hi)
  · cases q
def mOp1V (f : PyData → Option PyData) (a : MV) : ME := fun e => (a e).bind fun x => (f x).bind fun c => some (c, e)
theorem re_op1V {r : V → Hp → VK → Prop} {f : PyData → Option PyData} {ta : TE} {a : MV} (hr : Fr1 K r f) (ha : RV K ta a) : RE K (tUn r ta) (mOp1V f a) := by
  intro e d e' q bv fp al σ H Q rr k
  obtain ⟨x, h1, q⟩ := Option.bind_eq_some_iff.mp q
  obtain ⟨c, h3, q⟩ := Option.bind_eq_some_iff.mp q
  cases q
  exact ha e x h1 bv fp al σ H _ rr fun v wv => hr x _ h3 v H Q wv fun w H2 f2 s ow n => k w H2 _ _ f2 (To.now rr s ow n) ow
def mOp2V (f : PyData → PyData → Option PyData) (a b : MV) : ME := fun e => (a e).bind fun x => (b e).bind fun y => (f x y).bind fun c => some (c, e)
theorem re_op2V {r : R2} {f : PyData → PyData → Option PyData} {ta tb : TE} {a b : MV} (hr : Fr2 K r f) (ha : RV K ta a) (hb : RV K tb b) : RE K (tOp r ta tb) (mOp2V f a b) := by
  intro e d e' q bv fp al σ H Q rr k
  obtain ⟨x, h1, q⟩ := Option.bind_eq_some_iff.mp q
  obtain ⟨y, h2, q⟩ := Option.bind_eq_some_iff.mp q
  obtain ⟨c, h3, q⟩ := Option.bind_eq_some_iff.mp q
  cases q
  exact ha e x h1 bv fp al σ H _ rr fun v wv => hb e y h2 bv fp al σ H _ rr fun w ww => hr x y _ h3 v w H Q wv ww fun z H2 f2 s ow n => k z H2 _ _ f2 (To.now rr s ow n) ow
def mCallV (f : List PyData → Option PyData) (a : MVs) : ME := fun e => (a e).bind fun ds => (f ds).bind fun c => some (c, e)
theorem re_frV {r : List V → Hp → VK → Prop} {f : List PyData → Option PyData} {t : TA} {m : MVs} (hr : FrN K r f) (h : RVs K t m) : RE K (fun σ H Q => t σ H fun vs H1 => r vs H1 Q) (mCallV f m) := by
  intro e d e' q bv fp al σ H Q rr k
  obtain ⟨ds, h1, q⟩ := Option.bind_eq_some_iff.mp q
  obtain ⟨c, h3, q⟩ := Option.bind_eq_some_iff.mp q
  cases q
  exact h e ds h1 bv fp al σ H _ rr fun vs ws => hr ds _ h3 vs H Q ws fun w H2 f2 s ow n => k w H2 _ _ f2 (To.now rr s ow n) ow
theorem re_callBV {r : List V → Hp → VK → Prop} {f : List PyData → Option PyData} {t : TA} {m : MVs} (hr : FrN K r f) (h : RVs K t m) : RE K (tCB r t) (mCallV f m) := re_frV hr h
theorem re_callV {n : Nat} {f : List PyData → Option PyData} {t : TA} {m : MVs} {E : XK} (h : RVs K t m) : RE K (tCall (spP K n f) [] E t) (mCallV (mFn n f) m) := by
  refine re_frV (r := fun vs H Q => spP K n f (vs ++ []) H Q E) (fun ds c hf xs H Q w k => ?_) h
  unfold mFn at hf
  split at hf
  · rename_i hn
    rw [List.append_nil]
    exact ⟨ds, c, hf, hn, w, k⟩
  · cases hf

/-! ### a slice of a tuple that is given away -/
theorem OwnA.drop {vs : List V} {ds : List PyData} {f : List Addr} (n : Nat) (h : OwnA K H vs ds f) : ∃ g, OwnA K H (vs.drop n) (ds.drop n) g ∧ ∀ a ∈ g, a ∈ f := by
  induction ds generalizing vs n f with
  | nil => cases h; exact ⟨[], by simp; exact .nil, fun a z => by cases z⟩
  | cons c r ih =>
    cases h with
    | @cons v vs' _ _ f1 f2 a b dj =>
      cases n with
      | zero => exact ⟨f1 ++ f2, .cons a b dj, fun _ z => z⟩
      | succ n =>
        obtain ⟨g, h1, h2⟩ := ih n b
        exact ⟨g, by simpa using h1, fun x z => List.mem_append_right _ (h2 x z)⟩
theorem OwnA.take {vs : List V} {ds : List PyData} {f : List Addr} (n : Nat) (h : OwnA K H vs ds f) : ∃ g, OwnA K H (vs.take n) (ds.take n) g ∧ ∀ a ∈ g, a ∈ f := by
  induction ds generalizing vs n f with
  | nil => cases h; exact ⟨[], by simp; exact .nil, fun a z => by cases z⟩
  | cons c r ih =>
    cases h with
    | @cons v vs' _ _ f1 f2 a b dj =>
      cases n with
      | zero => exact ⟨[], by simp; exact .nil, fun x z => by cases z⟩
      | succ n =>
        obtain ⟨g, h1, h2⟩ := ih n b
        refine ⟨f1 ++ g, by simpa using OwnA.cons a h1 fun x z z' => dj x z (h2 x z'), fun x z => ?_⟩
        rcases List.mem_append.mp z with z | z
        · exact List.mem_append_left _ z
        · exact List.mem_append_right _ (h2 x z)
def mSlO (a : ME) (l h : MP) : ME := fun e => (a e).bind fun p => (l p.2).bind fun x => (h x.2).bind fun y => match p.1 with
  | .tuple ds => if ¬ (HT.sIx ds.length 0 x.1 = 0 ∧ HT.sIx ds.length ds.length y.1 = ds.length) then some (.tuple (cutD ds x.1 y.1), y.2) else none
  | _ => none
theorem re_sliceO {t : TE} {tl th : TO} {a : ME} {l h : MP} (ha : RE K t a) (hl : RP K tl l) (hh : RP K th h) : RE K (tSl (rSl K) t tl th) (mSlO a l h) := by
  intro e c e' q bv fp al σ H Q rr k
  obtain ⟨⟨d, e1⟩, h1, q⟩ := Option.bind_eq_some_iff.mp q
  obtain ⟨⟨lo, e2⟩, h2, q⟩ := Option.bind_eq_some_iff.mp q
  obtain ⟨⟨hi, e3⟩, h3, q⟩ := Option.bind_eq_some_iff.mp q
  cases d with
  | tuple ds =>
    dsimp only at q
    split at q
    · rename_i hw
      cases q
      refine ha e _ e1 h1 bv fp al σ H _ rr fun v H1 fp1 al1 f1 to1 o1 => ?_
      refine hl e1 lo e2 h2 bv fp1 al1 σ H1 _ to1.rr fun H2 fp2 al2 to2 => ?_
      refine hh e2 hi _ h3 bv fp2 al2 σ H2 _ to2.rr fun H3 fp3 al3 to3 => ?_
      have to23 := to2.thn to3
      have o3 := o1.step to23.step fun a z => (to1.tmp a z).1
      have to := (to1.trans to23).less (T1 := (· ∈ f1)) fun _ z => .inl z
      cases o3 with
      | @tup p xs _ _ hp oA =>
        have lx := oA.length
        refine .inr (.inl ⟨p, xs, rfl, SqT.of hp, fun z => absurd (by rw [lx] at z; exact z) hw, fun _ b hb => ?_⟩)
        obtain ⟨g1, oB, s1⟩ := oA.drop (HT.sIx ds.length 0 lo)
        obtain ⟨g2, oC, s2⟩ := oB.take (HT.sIx ds.length ds.length hi - HT.sIx ds.length 0 lo)
        have s : Same H3 (upd H3 b (.tup (cutV xs lo hi))) := same_upd hb
        have st : Step (fun _ => False) H3 (fun _ => False) (upd H3 b (.tup (cutV xs lo hi))) := .of_same s fun _ z => z.elim
        refine k _ _ _ _ g2 (to.fresh s fun a z => .inl (s1 a (s2 a z))) (.tup upd_same (OwnA.step st ?_ fun _ _ z => z))
        unfold cutV cutD
        rw [lx]
        exact oC
    · cases q
  | _ => cases q

/-! ### x[k].append(d) -/
theorem OwnA.appAt {vs : List V} {ds es : List PyData} {f : List Addr} {k : Nat} (h : OwnA K H vs ds f) (hk : ds[k]? = some (.list es)) : ∃ l ys, vs[k]? = some (.ref l) ∧ H l = some (.lst ys) ∧ l ∈ f ∧ ys.length = es.length ∧
    ∀ (w : V) (x : PyData) (g : List Addr), Own K H w x g → (∀ a ∈ g, a ∉ f) → ∃ f', OwnA K (upd H l (.lst (ys ++ [w]))) vs (ds.set k (.list (es ++ [x]))) f' ∧ ∀ a ∈ f', a ∈ f ∨ a ∈ g := by
  induction ds generalizing vs f k with
  | nil => simp at hk
  | cons c r ih =>
    cases h with
    | @cons v vs' _ _ f1 f2 a b dj =>
      cases k with
      | zero =>
        simp at hk
        subst hk
        obtain ⟨l, ys, g0, rfl, rfl, hl, oA, nl⟩ := a.lstI
        refine ⟨l, ys, rfl, hl, List.mem_append_left _ List.mem_cons_self, oA.length, fun w x g ow nd => ?_⟩
        have lf2 : l ∉ f2 := dj l List.mem_cons_self
        have lg : l ∉ g := fun z => nd l z (List.mem_append_left _ List.mem_cons_self)
        refine ⟨(l :: (g0 ++ g)) ++ f2, OwnA.cons (.lst upd_same ?_ ?_) (b.upd_ hl trivial lf2) ?_, ?_⟩
        · exact (oA.upd_ hl trivial nl).append (g := g) (by simpa using OwnA.cons (g := []) (ow.upd_ hl trivial lg) .nil (by simp)) fun x z z' => nd x z' (List.mem_append_left _ (List.mem_cons_of_mem _ z))
        · intro z
          rcases List.mem_append.mp z with z | z
          · exact nl z
          · exact lg z
        · intro y z
          rcases List.mem_cons.mp z with rfl | z
          · exact lf2
          · rcases List.mem_append.mp z with z | z
            · exact dj y (List.mem_cons_of_mem _ z)
            · exact fun z' => nd y z (List.mem_append_right _ z')
        · intro y z
          rcases List.mem_append.mp z with z | z
          · rcases List.mem_cons.mp z with rfl | z
            · exact .inl (List.mem_append_left _ List.mem_cons_self)
            · rcases List.mem_append.mp z with z | z
              · exact .inl (List.mem_append_left _ (List.mem_cons_of_mem _ z))
              · exact .inr z
          · exact .inl (List.mem_append_right _ z)
      | succ k =>
        obtain ⟨l, ys, h1, h2, h3, h4, h5⟩ := ih b (k := k) (by simpa using hk)
        refine ⟨l, ys, by simpa using h1, h2, List.mem_append_right _ h3, h4, fun w x g ow nd => ?_⟩
        obtain ⟨f', o', s'⟩ := h5 w x g ow fun y z z' => nd y z (List.mem_append_right _ z')
        have l1 : l ∉ f1 := fun z => dj l z h3
        refine ⟨f1 ++ f', .cons (a.upd_ h2 trivial l1) o' fun y z z' => ?_, fun y z => ?_⟩
        · rcases s' y z' with q | q
          · exact dj y z q
          · exact nd y q (List.mem_append_left _ z)
        · rcases List.mem_append.mp z with z | z
          · exact .inl (List.mem_append_left _ z)
          · exact (s' y z).elim (fun q => .inl (List.mem_append_right _ q)) .inr
theorem Step.up1 {l : Addr} {u o : HO} (h : H l = some u) (m : Mut (some u)) : Step (fun p => p = l) H (fun p => p = l) (upd H l o) := by
  refine ⟨fun p w hw hp => ?_, fun p z => .inl z, fun p w hw => ?_⟩
  · by_cases hpa : p = l
    · subst hpa
      rw [h] at hw; cases hw
      rcases hp with hp | hp
      · exact absurd rfl hp
      · exact absurd m hp
    · rw [upd_ne hpa]; exact hw
  · by_cases hpa : p = l
    · subst hpa; exact ⟨_, upd_same⟩
    · exact ⟨w, by rw [upd_ne hpa]; exact hw⟩
def sAppAt (i k : Nat) (m : ME) : MS := fun e => match e.sl[i]? with
  | some (.dat (.tuple ds)) => match ds[k]? with
    | some (.list es) => if es.length < 16777216 then (m (e.set i .no)).bind fun p => match p.2.sl[i]? with
      | some .no => some (.nx (p.2.set i (.dat (.tuple (ds.set k (.list (es ++ [p.1])))))))
      | _ => none
      else none
    | _ => none
  | _ => none
theorem rs_appAt {i k : Nat} {te : TE} {m : ME} (h : RE K te m) : RS K (tDrop (tBM K "list" rAppend (tOp (rIx K) (tVar i) (tC (.int k))) (tCons te tNil))) (sAppAt i k m) := by
  intro e o q bv fp σ H D rr kk
  unfold sAppAt at q
  split at q
  rotate_left
  · cases q
  rename_i ds hsl
  split at q
  rotate_left
  · cases q
  rename_i es hk
  split at q
  rotate_left
  · cases q
  rename_i hz
  obtain ⟨⟨d, e1⟩, h1, q⟩ := Option.bind_eq_some_iff.mp q
  dsimp only at q
  split at q
  rotate_left
  · cases q
  rename_i hno
  cases q
  have r0 := rr
  obtain ⟨fo, F, rf⟩ := r0
  obtain ⟨v0, f, hv0, o0, hsub, r1⟩ := rr.take hsl
  cases o0 with
  | @tup a xs _ _ hs oA =>
    obtain ⟨l, ys, q1, q2, q3, q4, q5⟩ := oA.appAt hk
    refine ⟨_, hv0, .inr (.inl ⟨a, xs, k, _, rfl, rfl, SqT.of hs, atI_nat q1, tyV_lst q2, ?_⟩)⟩
    refine h _ d e1 h1 bv _ fp σ H _ r1 fun v H1 fp1 al1 fv to ov => ?_
    have nf : ∀ b ∈ f, ¬ fp1 b := fun b z => (to.keep (fun w => w.2 z) (oA.alive b z)).1
    have oA1 := oA.step to.step fun b z w => w.2 z
    obtain ⟨l', ys', q1', q2', q3', q4', q5'⟩ := oA1.appAt hk
    rw [q1] at q1'
    cases q1'
    have dj : ∀ b ∈ fv, b ∉ f := fun b z y => by
      rcases to.step.new b (.inr z) with w | w
      · exact w.2 y
      · obtain ⟨u, hu⟩ := oA.alive b y
        rw [w] at hu; cases hu
    obtain ⟨f', oN, sN⟩ := q5' v d fv ov dj
    refine ⟨l, ys', v, rfl, rfl, q2', by rw [q4', sizeLine_eq]; exact hz, ?_⟩
    have hi : i < e1.sl.length := (List.getElem?_eq_some_iff.mp hno).1
    have tm := to.tmp
    have lf1 : ¬ fp1 l := nf l q3
    have lfo : ∀ b, b ∈ f → ∃ u, H1 b = some u := fun b z => let ⟨u, hu⟩ := oA.alive b z; to.step.live b u hu
    have up := Step.up1 (o := .lst (ys' ++ [v])) q2' trivial
    have rA := to.rr.away (o := .lst (ys' ++ [v])) lf1 (to.mono l (rf.sup l (hsub l q3)) (oA.alive l q3)) q2' trivial
    have rK := rA.killσ i (some (.ref a))
    have hs1 : upd H1 l (.lst (ys' ++ [v])) a = some (.tup xs) := up.stay _ _ (to.step.stay _ _ hs (.inr fun z => z)) (.inr fun z => z)
    have rF := rK.fill (d := .tuple (ds.set k (.list (es ++ [d])))) (f := f') (.tup hs1 oN) (fun b z => by
      rcases sN b z with z | z
      · exact ⟨nf b z, to.mono b (rf.sup b (hsub b z)) (oA.alive b z)⟩
      · exact ⟨(tm b z).1, (tm b z).2.1⟩) hi
    have hσ : σ.set i (some (.ref a)) = σ := by
      refine List.ext_getElem? fun j => ?_
      by_cases hj : i = j
      · subst hj
        rw [List.getElem?_set_self (List.getElem?_eq_some_iff.mp hv0).1, hv0]
      · rw [List.getElem?_set_ne hj]
    rw [hσ] at rF
    have rF' := rF
    obtain ⟨fo', F', rf'⟩ := rF'
    refine kk σ _ _ (rF.less (fun b z => rf'.sup b z) fun _ z => z) ⟨fun p u hu hp => ?_, fun p hp => ?_, fun p u hu => ?_⟩
    · have h1 : H1 p = some u := to.step.stay p u hu (hp.elim (fun z => .inl fun w => z w.1) .inr)
      have hpl : p ≠ l := fun z => by
        subst z
        rw [q2'] at h1; cases h1
        rcases hp with hp | hp
        · exact hp (hsub p q3)
        · exact hp trivial
      rw [upd_ne hpl]; exact h1
    · rcases hp with hp | hp
      · rcases to.step.new p (.inl hp) with z | z
        · exact .inl z.1
        · exact .inr z
      · rcases sN p hp with z | z
        · exact .inl (hsub p z)
        · rcases to.step.new p (.inr z) with y | y
          · exact .inl y.1
          · exact .inr y
    · obtain ⟨u', q⟩ := to.step.live p u hu
      exact up.live p u' q

/-! ### displays that take what names own -/
def opdsT (e : Dl.Env) : List Opd → Option (List PyData × Dl.Env)
  | [] => some ([], e)
  | .val d :: r => (opdsT e r).bind fun q => some (d :: q.1, q.2)
  | .var i :: r => match e.sl[i]? with
    | some (.dat d) => (opdsT (if imm d = true then e else e.set i .no) r).bind fun q => some (d :: q.1, q.2)
    | _ => (e.look i).bind fun d => if imm d = true then (opdsT e r).bind fun q => some (d :: q.1, q.2) else none
theorem OpdsAt.takes {os : List Opd} {vs : List V} {f : List Addr} (h : OpdsAt K σ H os vs f) : ∀ {e e' : Dl.Env} {fp : Addr → Prop} {ds : List PyData}, RR K bv e fp al σ H → (∀ a ∈ f, ¬ fp a) → opdsT e os = some (ds, e') →
    ∃ g fp', OwnA K H vs ds g ∧ RR K bv e' fp' al σ H ∧ (∀ a, fp' a → fp a) ∧ (∀ a ∈ g, (fp a ∨ a ∈ f) ∧ ¬ fp' a) := by
  induction h with
  | nil =>
    intro e e' fp ds r n q
    cases q
    exact ⟨[], fp, .nil, r, fun _ z => z, fun a z => by cases z⟩
  | @cons o os v vs f1 f2 a b dj ih =>
    intro e e' fp ds r n q
    have n2 : ∀ {fp2 : Addr → Prop}, (∀ a, fp2 a → fp a) → ∀ x ∈ f2, ¬ fp2 x := fun h x z y => n x (List.mem_append_right _ z) (h x y)
    cases o with
    | val d =>
      obtain ⟨⟨ds', e2⟩, h1, q⟩ := Option.bind_eq_some_iff.mp q
      cases q
      obtain ⟨g, fp', og, r', s1, s2⟩ := ih r (n2 fun _ z => z) h1
      refine ⟨f1 ++ g, fp', .cons a og fun x z z' => ?_, r', s1, fun x z => ?_⟩
      · rcases (s2 x z').1 with y | y
        · exact n x (List.mem_append_left _ z) y
        · exact dj x z y
      · rcases List.mem_append.mp z with z | z
        · exact ⟨.inr (List.mem_append_left _ z), fun y => n x (List.mem_append_left _ z) (s1 x y)⟩
        · exact ⟨(s2 x z).1.elim .inl fun y => .inr (List.mem_append_right _ y), (s2 x z).2⟩
    | var i =>
      obtain ⟨hv, rfl⟩ := a
      simp only [opdsT] at q
      split at q
      · rename_i d hsl
        obtain ⟨⟨ds', e2⟩, h1, q⟩ := Option.bind_eq_some_iff.mp q
        cases q
        by_cases hd : imm d = true
        · rw [if_pos hd] at h1
          obtain ⟨g, fp', og, r', s1, s2⟩ := ih r (n2 fun _ z => z) h1
          have o0 := (r.val (d := d) (by unfold Env.look; rw [hsl]) hv).own hd
          exact ⟨[] ++ g, fp', .cons o0 og fun x z => (by cases z), r', s1, s2⟩
        · rw [if_neg hd] at h1
          obtain ⟨v', f, hv', o0, hsub, r1⟩ := r.take hsl
          rw [hv] at hv'; cases hv'
          obtain ⟨g, fp', og, r', s1, s2⟩ := ih r1 (n2 fun _ z => z.1) h1
          refine ⟨f ++ g, fp', .cons o0 og fun x z z' => ?_, r', fun x z => (s1 x z).1, fun x z => ?_⟩
          · rcases (s2 x z').1 with y | y
            · exact y.2 z
            · exact n x (List.mem_append_right _ y) (hsub x z)
          · rcases List.mem_append.mp z with z | z
            · exact ⟨.inl (hsub x z), fun y => (s1 x y).2 z⟩
            · exact ⟨(s2 x z).1.elim (fun y => .inl y.1) .inr, (s2 x z).2⟩
      · obtain ⟨d, h0, q⟩ := Option.bind_eq_some_iff.mp q
        split at q
        · rename_i hd
          obtain ⟨⟨ds', e2⟩, h1, q⟩ := Option.bind_eq_some_iff.mp q
          cases q
          obtain ⟨g, fp', og, r', s1, s2⟩ := ih r (n2 fun _ z => z) h1
          have o0 := (r.val h0 hv).own hd
          exact ⟨[] ++ g, fp', .cons o0 og fun x z => (by cases z), r', s1, s2⟩
        · cases q
theorem To.takes {os : List Opd} {vs : List V} {f : List Addr} {e2 : Dl.Env} {ds : List PyData} (to : To K bv σ fp al H e1 (· ∈ f) fp1 al1 H1) (h : OpdsAt K σ H1 os vs f) (q : opdsT e1 os = some (ds, e2)) :
    ∃ g fp2, OwnA K H1 vs ds g ∧ To K bv σ fp al H e2 (· ∈ g) fp2 al1 H1 := by
  obtain ⟨g, fp2, og, r, s1, s2⟩ := h.takes to.rr (fun a z => (to.tmp a z).1) q
  have r0 := to.rr
  obtain ⟨fo, F, rf⟩ := r0
  refine ⟨g, fp2, og, r, to.mono, to.step.sub fun a z => ?_, fun a z => ⟨(s2 a z).2, ?_, og.alive a z⟩⟩
  · rcases z with z | z
    · exact .inl (s1 a z)
    · exact (s2 a z).1
  · rcases (s2 a z).1 with y | y
    · exact rf.sup a y
    · exact (to.tmp a y).2.1
def mTupT (a : MA) : ME := fun e => (a e).bind fun p => (opdsT p.2 p.1).bind fun q => if q.1.length ≤ 16777216 then some (.tuple q.1, q.2) else none
theorem re_tupT {t : TA} {m : MA} (h : RA K t m) : RE K (tTup t) (mTupT m) := by
  intro e d e' q bv fp al σ H Q rr k
  obtain ⟨⟨os, e1⟩, h1, q⟩ := Option.bind_eq_some_iff.mp q
  obtain ⟨⟨ds, e2⟩, h2, q⟩ := Option.bind_eq_some_iff.mp q
  split at q
  · rename_i hz
    cases q
    refine h e os e1 h1 bv fp al σ H _ rr fun vs H1 fp1 al1 f1 to o1 => ?_
    obtain ⟨g, fp2, og, to2⟩ := to.takes o1 h2
    refine ⟨by rw [og.length, sizeLine_eq]; exact hz, fun p hp => ?_⟩
    have s : Same H1 (upd H1 p (.tup vs)) := same_upd hp
    have st : Step (fun _ => False) H1 (fun _ => False) (upd H1 p (.tup vs)) := .of_same s fun _ z => z.elim
    exact k _ _ _ _ g (to2.fresh s fun a z => .inl z) (.tup upd_same (og.step st fun _ _ z => z))
  · cases q
def mLstT (a : MA) : ME := fun e => (a e).bind fun p => (opdsT p.2 p.1).bind fun q => if q.1.length ≤ 16777216 then some (.list q.1, q.2) else none
theorem re_lstT {t : TA} {m : MA} (h : RA K t m) : RE K (tLst t) (mLstT m) := by
  intro e d e' q bv fp al σ H Q rr k
  obtain ⟨⟨os, e1⟩, h1, q⟩ := Option.bind_eq_some_iff.mp q
  obtain ⟨⟨ds, e2⟩, h2, q⟩ := Option.bind_eq_some_iff.mp q
  split at q
  · rename_i hz
    cases q
    refine h e os e1 h1 bv fp al σ H _ rr fun vs H1 fp1 al1 f1 to o1 => ?_
    obtain ⟨g, fp2, og, to2⟩ := to.takes o1 h2
    refine ⟨by rw [og.length, sizeLine_eq]; exact hz, fun p hp => ?_⟩
    have s : Same H1 (upd H1 p (.lst vs)) := same_upd hp
    have st : Step (fun _ => False) H1 (fun _ => False) (upd H1 p (.lst vs)) := .of_same s fun _ z => z.elim
    have np : p ∉ g := fun z => by
      obtain ⟨u, hu⟩ := og.alive p z
      rw [hp] at hu; cases hu
    refine k _ _ _ _ (p :: g) (to2.fresh s fun a z => ?_) (.lst upd_same (og.step st fun _ _ z => z) np)
    rcases List.mem_cons.mp z with rfl | z
    · exact .inr ⟨hp, _, upd_same⟩
    · exact .inl z
  · cases q
end
end Dl
/-! max, min of a list of data; the place of one -/
namespace Dl
open PySem L2 PyProof.Rows PySem.SeqAt
def aliD (ds : List PyData) : Bool := ds.all fun x => !isNone x && ds.all fun y => PySem.W.alike x y
theorem aliD_all {ds : List PyData} (h : aliD ds = true) : PySem.W.AlikeAll ds := by
  unfold aliD at h
  rw [List.all_eq_true] at h
  refine ⟨fun x hx y hy => ?_, fun x hx => ?_⟩
  · have := h x hx
    simp only [Bool.and_eq_true, List.all_eq_true] at this
    exact this.2 y hy
  · have := h x hx
    simp only [Bool.and_eq_true] at this
    rintro rfl
    exact absurd this.1 (by simp [isNone])
def rBest (K : PySem.W.Frag) (best : PyData → List PyData → PyData) : List V → Hp → VK → Prop := fun vs H Q => ∃ (a : Addr) (ws : List V) (x : PyData) (xs : List PyData), vs = [V.ref a] ∧ SqL K H a ws ∧ DpAll K H ws (x :: xs) ∧ PySem.W.AlikeAll (x :: xs) ∧
  SeqAt.shaped (.list (x :: xs)) = true ∧ ∀ (i : Nat) (v : V), ws[i]? = some v → (x :: xs)[i]? = some (best x xs) → Q v H
theorem depth_room {u : Nat} {ds : List PyData} (hs : SeqAt.shaped (.list ds) = true) (hu : u + 65 < cLine) : u + 1 + PyData.depthAll ds < cLine := by
  unfold SeqAt.shaped at hs
  rw [Bool.and_eq_true, decide_eq_true_iff] at hs
  have := hs.2
  simp only [PyData.depth] at this
  omega
section
variable {X : Cx}
theorem best_at {pins : List (Addr × Obj)} {σ : L2.St} {H : Hp} {s : Shared} (I : Inv X pins σ H s) {ws : List V} {its : List Value} {ds : List PyData} {as : List Addr} (rv : Vals ws its) (hr : ReadsAll s.heap its ds as) (hl : PyData.canLayAll0 ds = true) {i : Nat} {v : Value} {d : PyData} {h' : Heap} {bs : List Addr}
    (hv : its[i]? = some v) (hR : Reads h' v d bs) (hd : d.canLay0 = true) (hk : ∀ b o, s.heap.get? b = some o → h'.get? b = some o) : ∃ w, ws[i]? = some w ∧ RelV w v ∧ ds[i]? = some d := by
  cases e : ws[i]? with
  | none => rw [rv.none_of e] at hv; cases hv
  | some w =>
    obtain ⟨u, e2, r⟩ := rv.get e
    rw [hv] at e2; cases e2
    have h1 := SeqAt.readsAll_map ds its as hl hr
    have h2 : ds[i]? = some (SeqAt.readOf s.heap v) := by rw [← h1, List.getElem?_map, hv]; rfl
    have hlen : i < ds.length := (List.getElem?_eq_some_iff.mp h2).1
    obtain ⟨cs, hc, _⟩ := PySem.W.readsAll_at hr i v hv
    have h3 : ds.getD i .none = SeqAt.readOf s.heap v := by rw [List.getD_eq_getElem?_getD, h2]; rfl
    rw [h3] at hc
    have h4 := PySem.W.reads_keeps hk hc
    have hcl : (SeqAt.readOf s.heap v).canLay0 = true := by
      have hm : SeqAt.readOf s.heap v ∈ ds := List.mem_of_getElem? h2
      rw [layA, List.all_eq_true] at hl
      exact hl _ hm
    have h5 := SeqAt.readOf_eq hcl h4
    have h6 := SeqAt.readOf_eq hd hR
    exact ⟨w, rfl, r, by rw [h2, ← h5, h6]⟩
theorem foldl_mem {α : Type} (f : α → α → Bool) : ∀ (xs : List α) (x : α), xs.foldl (fun a y => if f a y then y else a) x ∈ x :: xs
  | [], x => by simp
  | y :: r, x => by
    rw [List.foldl_cons]
    have := foldl_mem f r (if f x y then y else x)
    rcases List.mem_cons.mp this with h | h
    · rw [h]
      split
      · simp
      · simp
    · exact List.mem_cons_of_mem _ (List.mem_cons_of_mem _ h)
theorem maxD_mem (x : PyData) (xs : List PyData) : PySem.W.maxD x xs ∈ x :: xs := foldl_mem (fun a y => PySem.W.dataLt a y) xs x
theorem minD_mem (x : PyData) (xs : List PyData) : PySem.W.minD x xs ∈ x :: xs := foldl_mem (fun a y => PySem.W.dataLt y a) xs x
theorem cr_max1 (hc : X.calm = true) (hu : X.A.units + 65 < cLine) : CallR X (.builtin "max") (rBest X.K PySem.W.maxD) := by
  intro pins s σ H vs us Q I r h
  obtain ⟨a, ws, x, xs, rfl, hs, hd, hal, hsh, q⟩ := h
  obtain ⟨its, rv, hl, _⟩ := I.list hs
  rw [Vals.ref1 r]
  obtain ⟨as, hr⟩ := Dp.readsAll I (x :: xs) ws its hd rv
  have hcl : PyData.canLayAll0 (x :: xs) = true := SeqAt.canLay_of_shaped hsh
  have hm : (PySem.W.maxD x xs).canLay0 = true := by
    rw [layA, List.all_eq_true] at hcl
    exact hcl _ (maxD_mem x xs)
  refine PySem.W.max_list_data (I.ok.hd hc) hl.isList (by simpa using hr) hal (depth_room hsh hu) fun i v h' tk bs hv hR hk => ?_
  obtain ⟨w, h1, h2, h3⟩ := best_at I rv hr hcl (by simpa using hv) hR hm hk
  exact ⟨w, H, I.kept hk, h2, q i w h1 h3⟩
theorem cr_min1 (hc : X.calm = true) (hu : X.A.units + 65 < cLine) : CallR X (.builtin "min") (rBest X.K PySem.W.minD) := by
  intro pins s σ H vs us Q I r h
  obtain ⟨a, ws, x, xs, rfl, hs, hd, hal, hsh, q⟩ := h
  obtain ⟨its, rv, hl, _⟩ := I.list hs
  rw [Vals.ref1 r]
  obtain ⟨as, hr⟩ := Dp.readsAll I (x :: xs) ws its hd rv
  have hcl : PyData.canLayAll0 (x :: xs) = true := SeqAt.canLay_of_shaped hsh
  have hm : (PySem.W.minD x xs).canLay0 = true := by
    rw [layA, List.all_eq_true] at hcl
    exact hcl _ (minD_mem x xs)
  refine PySem.W.min_list_data (I.ok.hd hc) hl.isList (by simpa using hr) hal (depth_room hsh hu) fun i v h' tk bs hv hR hk => ?_
  obtain ⟨w, h1, h2, h3⟩ := best_at I rv hr hcl (by simpa using hv) hR hm hk
  exact ⟨w, H, I.kept hk, h2, q i w h1 h3⟩
end
section
variable {K : PySem.W.Frag} {H H' H1 H2 : Hp} {φ : Addr → Prop}
def cBest (best : PyData → List PyData → PyData) : List PyData → Option PyData
  | [.list (x :: xs)] => if aliD (x :: xs) = true ∧ SeqAt.shaped (.list (x :: xs)) = true ∧ imm (best x xs) = true then some (best x xs) else none
  | _ => none
theorem fr_best {best : PyData → List PyData → PyData} : FrN K (rBest K best) (cBest best) := by
  intro ds c q vs H Q ww k
  unfold cBest at q
  split at q
  · split at q
    · rename_i x xs h
      cases q
      cases ww with
      | cons w r =>
        cases r
        obtain ⟨a, ys, rfl, ha, wA⟩ := w.lstI
        refine ⟨a, ys, x, xs, rfl, SqL.of ha, wA.dp (layA_of_shaped h.2.1), aliD_all h.1, h.2.1, fun i v hv hd => ?_⟩
        obtain ⟨v', hv', wv⟩ := wA.get hd
        rw [hv] at hv'; cases hv'
        exact k v H [] (Same.refl _) (wv.own h.2.2) fun a z => by cases z
    · cases q
  · cases q
abbrev cMax1 := cBest PySem.W.maxD
abbrev cMin1 := cBest PySem.W.minD
/-- l.index(d) -/
def idxD (ds : List PyData) (d : PyData) : Option Nat := match ds with
  | [] => none
  | z :: r => if PyData.eqv z d = true then some 0 else (idxD r d).map (· + 1)
theorem idxD_some : ∀ {ds : List PyData} {d : PyData} {j : Nat}, idxD ds d = some j → (∃ z, ds[j]? = some z ∧ PyData.eqv z d = true) ∧ ∀ (m : Nat) (z' : PyData), m < j → ds[m]? = some z' → PyData.eqv z' d = false
  | [], d, j, h => by cases h
  | z :: r, d, j, h => by
    unfold idxD at h
    split at h
    · rename_i hz
      cases h
      exact ⟨⟨z, rfl, hz⟩, fun m z' hm => by omega⟩
    · rename_i hz
      obtain ⟨i, h1, rfl⟩ := Option.map_eq_some_iff.mp h
      obtain ⟨⟨y, h2, h3⟩, h4⟩ := idxD_some h1
      refine ⟨⟨y, by simpa using h2, h3⟩, fun m z' hm hz' => ?_⟩
      cases m with
      | zero => simp at hz'; subst hz'; simpa using hz
      | succ m => exact h4 m z' (by omega) (by simpa using hz')
def mIdxV (a b : MV) : ME := fun e => (a e).bind fun x => (b e).bind fun d => match x with
  | .list ds => if SeqAt.shaped (.list ds) = true ∧ SeqAt.shaped d = true then (idxD ds d).bind fun (j : Nat) => some (.int j, e) else none
  | _ => none
theorem re_idxV {ta tb : TE} {a b : MV} (ha : RV K ta a) (hb : RV K tb b) : RE K (tBM K "list" (rIndexD K) ta (tCons tb tNil)) (mIdxV a b) := by
  intro e c e' q bv fp al σ H Q rr k
  obtain ⟨x, h1, q⟩ := Option.bind_eq_some_iff.mp q
  obtain ⟨d, h2, q⟩ := Option.bind_eq_some_iff.mp q
  split at q
  · rename_i ds
    split at q
    · rename_i hs
      obtain ⟨j, h3, q⟩ := Option.bind_eq_some_iff.mp q
      cases q
      refine ha e _ h1 bv fp al σ H _ rr fun v wv => ⟨?_, hb e d h2 bv fp al σ H _ rr fun w ww => ?_⟩
      · obtain ⟨l, xs, rfl, hl, _⟩ := wv.lstI
        exact tyV_lst hl
      · obtain ⟨⟨z, hz1, hz2⟩, hz3⟩ := idxD_some h3
        have wd := wv.dp (lay_of_shaped hs.1)
        obtain ⟨l, xs, rfl, hl, _⟩ := wv.lstI
        exact ⟨l, w, d, _, j, z, rfl, rfl, wd, ww.dp (lay_of_shaped hs.2), hs.1, hs.2, hz1, hz2, hz3, k _ H fp al [] ((To.refl rr).less fun p z => by cases z) (.int _)⟩
    · cases q
  · cases q
end
end Dl
/-! sorted of data of any number; of a dict with tuple keys -/
namespace Dl
open PySem L2 PyProof.Rows PySem.SeqAt
abbrev leD : PyData → PyData → Bool := PySem.W.dataLe false fun d : PyData => d
def sortD (ds : List PyData) : List PyData := ds.mergeSort leD
def alA (ds : List PyData) : Bool := ds.all fun x => ds.all fun y => PySem.W.alike x y
def isTup1 : PyData → Bool
  | .tuple (_ :: _) => true
  | _ => false
def isTup : PyData → Bool
  | .tuple _ => true
  | _ => false
def srtb (ds : List PyData) : Bool := (ds.all isTup1) || ds.all fun d => !isNone d && !isTup d
theorem alA_all {ds : List PyData} (h : alA ds = true) : PySem.W.AllAlike ds := by
  unfold alA at h
  rw [List.all_eq_true] at h
  exact fun d hd d' hd' => (List.all_eq_true.mp (h d hd)) d' hd'
theorem srtb_all {ds : List PyData} (h : srtb ds = true) : PySem.W.Sortable ds := by
  unfold srtb at h
  rw [Bool.or_eq_true] at h
  rcases h with h | h
  · refine .inl fun d hd => ?_
    have := List.all_eq_true.mp h d hd
    unfold isTup1 at this
    split at this
    · exact ⟨_, _, rfl⟩
    · cases this
  · refine .inr fun d hd => ?_
    have := List.all_eq_true.mp h d hd
    rw [Bool.and_eq_true] at this
    refine ⟨?_, ?_⟩
    · rintro rfl
      exact absurd this.1 (by simp [isNone])
    · rintro xs rfl
      exact absurd this.2 (by simp [isTup])
/-- pairs of values and what they stand for -/
theorem each_pairs {h : Heap} : ∀ {ws : List V} {vs : List Value} {ds : List PyData} {as : List Addr}, Vals ws vs → ReadsAll h vs ds as → PySem.W.EachIs (fun v (b : V × PyData) => RelV b.1 v ∧ ∃ as', Reads h v b.2 as' ∧ ∀ a ∈ as', a ∈ as) vs (ws.zip ds)
  | _, _, _, _, .nil, .nil => .nil
  | _, _, _, _, .cons r t, .cons x y => by
    refine .cons ⟨r, _, x, fun a z => List.mem_append_left _ z⟩ ((each_pairs t y).mono fun v b ⟨h1, as', h2, h3⟩ => ⟨h1, as', h2, fun a z => List.mem_append_right _ (h3 a z)⟩)
theorem vals_each : ∀ {out : List Value} {bs : List (V × PyData)}, PySem.W.EachIs (fun v (b : V × PyData) => RelV b.1 v) out bs → Vals (bs.map (·.1)) out
  | _, _, .nil => .nil
  | _, _, .cons h t => .cons h (vals_each t)
theorem zip_snd : ∀ {ws : List V} {ds : List PyData}, ws.length = ds.length → (ws.zip ds).map (·.2) = ds
  | [], [], _ => rfl
  | w :: ws, d :: ds, h => by simp [zip_snd (ws := ws) (ds := ds) (by simpa using h)]
theorem sort_snd {ws : List V} {ds : List PyData} (h : ws.length = ds.length) : ((ws.zip ds).mergeSort (PySem.W.dataLe false fun b : V × PyData => b.2)).map (·.2) = sortD ds := by
  have e := List.map_mergeSort (r := PySem.W.dataLe false fun b : V × PyData => b.2) (s := leD) (f := fun b : V × PyData => b.2) (l := ws.zip ds) fun a _ b _ => rfl
  rw [zip_snd h] at e
  exact e
def rSortD (K : PySem.W.Frag) : List V → Hp → VK → Prop := fun vs H Q => ∃ (a : Addr) (ws : List V) (ds : List PyData), vs = [V.ref a] ∧ SqL K H a ws ∧ DpAll K H ws ds ∧ SeqAt.shaped (.list ds) = true ∧ alA ds = true ∧ srtb ds = true ∧
  ∀ p, H p = none → Q (.ref p) (upd H p (.lst (((ws.zip ds).mergeSort (PySem.W.dataLe false fun b : V × PyData => b.2)).map (·.1))))
theorem depth_each {u : Nat} {ds : List PyData} (hs : SeqAt.shaped (.list ds) = true) (hu : u + 66 < cLine) {d : PyData} (hd : d ∈ ds) : u + 2 + d.depth < cLine := by
  unfold SeqAt.shaped at hs
  rw [Bool.and_eq_true, decide_eq_true_iff] at hs
  have h1 := hs.2
  simp only [PyData.depth] at h1
  have h2 : d.depth ≤ PyData.depthAll ds := by
    clear hs h1
    induction ds with
    | nil => cases hd
    | cons x r ih =>
      simp only [PyData.depthAll]
      rcases List.mem_cons.mp hd with rfl | hd
      · omega
      · have := ih hd
        omega
  omega
theorem hu66 {k : Nat} {A : Around} (r : Room k A) : A.units + 66 < cLine := by have := r.un; omega
section
variable {X : Cx}
theorem dpAll_length {K : PySem.W.Frag} {H : Hp} : ∀ {vs : List V} {ds : List PyData}, DpAll K H vs ds → vs.length = ds.length
  | _, _, .nil => rfl
  | _, _, .cons _ b => by simp [dpAll_length b]
theorem cr_sortD (hu : X.A.units + 66 < cLine) : CallR X (.builtin "sorted") (rSortD X.K) := by
  intro pins s σ H vs us Q I r h
  obtain ⟨a, ws, ds, rfl, hs, hd, hsh, hal, hk, q⟩ := h
  obtain ⟨its, rv, hl, hz⟩ := I.list hs
  rw [Vals.ref1 r]
  obtain ⟨as, hr⟩ := Dp.readsAll I ds ws its hd rv
  have e := each_pairs rv hr
  have hlen := dpAll_length hd
  have hm : (ws.zip ds).map (fun b : V × PyData => b.2) = ds := zip_snd hlen
  refine PySem.W.sorted_data (R := fun v (b : V × PyData) => RelV b.1 v) (enc := fun b : V × PyData => b.2) hl.isList (e.mono fun v b h => h.1) (e.mono fun v b ⟨_, as', h, _⟩ => ⟨as', h⟩) (by rw [hm]; exact alA_all hal) (by rw [hm]; exact srtb_all hk)
    (by rw [List.length_zip]; omega) (fun b hb => depth_each hsh hu (hm ▸ List.mem_map.mpr ⟨b, hb, rfl⟩)) fun out h1 h2 => ?_
  obtain ⟨ep, he'⟩ := PyProof.Rows.sortedAll_at s.heap its out.toArray
  have hlen2 : (((ws.zip ds).mergeSort (PySem.W.dataLe false fun b : V × PyData => b.2)).map (·.1)).length ≤ sizeLine := by
    rw [List.length_map, List.length_mergeSort, List.length_zip]
    omega
  exact ⟨.ref _, upd H (s.heap.objs.size + 1) (.lst (((ws.zip ds).mergeSort (PySem.W.dataLe false fun b : V × PyData => b.2)).map (·.1))), I.laid (t' := s.toks) (fun _ _ => PyProof.Rows.sortedAll_old) (Nat.le_succ _) ⟨hlen2, out, ep, vals_each h2, he'⟩, rfl, q _ (I.hok.fresh (Nat.le_succ _))⟩
end
section
variable {K : PySem.W.Frag} {H H' : Hp} {φ : Addr → Prop}
theorem wkA_pairs : ∀ {ws : List V} {ds : List PyData}, WkA K H φ ws ds → ∀ p ∈ ws.zip ds, Wk K H φ p.1 p.2
  | _, _, .nil, p, h => by simp at h
  | _, _, .cons a b, p, h => by
    rw [List.zip_cons_cons] at h
    rcases List.mem_cons.mp h with rfl | h
    · exact a
    · exact wkA_pairs b p h
theorem wkA_of : ∀ {ps : List (V × PyData)}, (∀ p ∈ ps, Wk K H φ p.1 p.2) → WkA K H φ (ps.map (·.1)) (ps.map (·.2))
  | [], _ => .nil
  | p :: r, h => .cons (h p List.mem_cons_self) (wkA_of fun q hq => h q (List.mem_cons_of_mem _ hq))
theorem immA_perm {ds es : List PyData} (h : ds.Perm es) : immA ds = immA es := by
  rw [immA_all, immA_all]
  exact h.all_eq
def cSorted : List PyData → Option PyData
  | [.list ds] => if immA ds = true ∧ SeqAt.shaped (.list ds) = true ∧ alA ds = true ∧ srtb ds = true then some (.list (sortD ds)) else none
  | _ => none
theorem fr_sorted : FrN K (rSortD K) cSorted := by
  intro ds c q vs H Q ww k
  unfold cSorted at q
  split at q
  · rename_i es
    split at q
    · rename_i h
      cases q
      obtain ⟨v, rfl, w⟩ := W0A.one ww
      obtain ⟨a, ws, rfl, ha, wA⟩ := w.lstI
      refine ⟨a, ws, es, rfl, SqL.of ha, wA.dp (layA_of_shaped h.2.1), h.2.1, h.2.2.1, h.2.2.2, fun p hp => ?_⟩
      have w2 : WkA K H (fun _ => True) (((ws.zip es).mergeSort (PySem.W.dataLe false fun b : V × PyData => b.2)).map (·.1)) (sortD es) := by
        rw [← sort_snd wA.length]
        exact wkA_of fun p hp => wkA_pairs wA p (List.mem_mergeSort.mp hp)
      obtain ⟨s, o, n⟩ := new_lst (w2.own (by rw [show immA (sortD es) = immA es from immA_perm (List.mergeSort_perm _ _)]; exact h.1)) hp
      exact k _ _ _ s o n
    · cases q
  · cases q
end
end Dl
/-! dicts -/
namespace Dl
open PySem L2 PyProof.Rows
/-! ### keys as data, and back -/
def keyOf : PyData → Option Key
  | .int i => some (.inl i)
  | .str s => some (.inr s)
  | _ => none
theorem keyOf_D {d : PyData} {k : Key} (h : keyOf d = some k) : d = keyD k := by
  unfold keyOf at h
  split at h
  · cases h; rfl
  · cases h; rfl
  · cases h
theorem keyD_inj {j k : Key} (h : keyD j = keyD k) : j = k := by
  cases j <;> cases k <;> simp [keyD] at h <;> simp [h]
def keysOf : List PyData → Option (List Key)
  | [] => some []
  | d :: r => (keyOf d).bind fun k => (keysOf r).bind fun ks => some (k :: ks)
theorem keysOf_D : ∀ {ds : List PyData} {ks : List Key}, keysOf ds = some ks → ds = ks.map keyD
  | [], ks, h => by cases h; rfl
  | d :: r, ks, h => by
    obtain ⟨k, h1, h⟩ := Option.bind_eq_some_iff.mp h
    obtain ⟨ks', h2, h⟩ := Option.bind_eq_some_iff.mp h
    cases h
    rw [keyOf_D h1, keysOf_D h2]
    rfl
def keysD : PyData → Option (List Key)
  | .tuple ds => keysOf ds
  | _ => none
theorem keysD_T {d : PyData} {ks : List Key} (h : keysD d = some ks) : d = keyT ks := by
  unfold keysD at h
  split at h
  · rw [keysOf_D h]; rfl
  · cases h
theorem map_keyD_inj : ∀ {j k : List Key}, j.map keyD = k.map keyD → j = k
  | [], [], _ => rfl
  | a :: j, b :: k, h => by
    simp only [List.map_cons, List.cons.injEq] at h
    rw [keyD_inj h.1, map_keyD_inj h.2]
  | [], _ :: _, h => by simp at h
  | _ :: _, [], h => by simp at h
theorem keyT_inj {j k : List Key} (h : keyT j = keyT k) : j = k := by
  unfold keyT at h
  exact map_keyD_inj (PyData.tuple.inj h)
/-- the pairs of a dict: by κ's keys -/
def asKs {κ : Type} (f : PyData → Option κ) : List (PyData × PyData) → Option (List (κ × PyData))
  | [] => some []
  | p :: r => (f p.1).bind fun k => (asKs f r).bind fun ks => some ((k, p.2) :: ks)
theorem asKs_eq {κ : Type} {f : PyData → Option κ} {g : κ → PyData} (hf : ∀ d k, f d = some k → d = g k) : ∀ {cs : List (PyData × PyData)} {ks : List (κ × PyData)}, asKs f cs = some ks → cs = ks.map fun p => (g p.1, p.2)
  | [], ks, h => by cases h; rfl
  | p :: r, ks, h => by
    obtain ⟨k, h1, h⟩ := Option.bind_eq_some_iff.mp h
    obtain ⟨ks', h2, h⟩ := Option.bind_eq_some_iff.mp h
    cases h
    rw [asKs_eq hf h2, List.map_cons]
    show p :: _ = (g k, p.2) :: _
    rw [← hf _ _ h1]
theorem asKs_map {κ : Type} {f : PyData → Option κ} {g : κ → PyData} (hf : ∀ k, f (g k) = some k) : ∀ ks : List (κ × PyData), asKs f (ks.map fun p => (g p.1, p.2)) = some ks
  | [] => rfl
  | p :: r => by
    simp only [List.map_cons, asKs, hf, asKs_map hf r, Option.bind_some]
/-- what a key holds -/
def getP {κ : Type} [DecidableEq κ] (ks : List (κ × PyData)) (k : κ) : Option PyData := (ks.find? fun p => decide (p.1 = k)).map (·.2)
def putP {κ : Type} [DecidableEq κ] (ks : List (κ × PyData)) (k : κ) (d : PyData) : List (κ × PyData) :=
  if (ks.any fun p => decide (p.1 = k)) = true then ks.map (fun p => if p.1 = k then (p.1, d) else p) else ks ++ [(k, d)]
/-- a dict's pairs: keys ints and texts, or tuples of them -/
inductive Dk where
  | k (ks : List (Key × PyData))
  | t (ks : List (List Key × PyData))
def asD : PyData → Option Dk
  | .dict ((.bool true, .none) :: cs) => (asKs keysD cs).bind fun ks => some (.t ks)
  | .dict cs => (asKs keyOf cs).bind fun ks => some (.k ks)
  | _ => none
def Dk.data : Dk → PyData
  | .k ks => .dict (ks.map fun p => (keyD p.1, p.2))
  | .t ks => .dict ((.bool true, .none) :: ks.map fun p => (keyT p.1, p.2))
section
variable {K : PySem.W.Frag} {H H' : Hp} {φ : Addr → Prop}
theorem keys_back {κ : Type} {g : κ → PyData} (hg : ∀ a b, g a = g b → a = b) : ∀ {kvs : List (κ × V)} {ks : List (κ × PyData)}, (ks.map fun p => (g p.1, p.2)).map (·.1) = kvs.map (fun p => g p.1) → kvs.map (·.1) = ks.map (·.1)
  | [], [], _ => rfl
  | a :: r, b :: s, h => by
    simp only [List.map_cons, List.cons.injEq] at h ⊢
    exact ⟨hg _ _ h.1.symm, keys_back hg h.2⟩
  | [], _ :: _, h => by simp at h
  | _ :: _, [], h => by simp at h
theorem asD_k {cs : List (PyData × PyData)} {ks : List (Key × PyData)} (h : asD (.dict cs) = some (.k ks)) : cs = ks.map fun p => (keyD p.1, p.2) := by
  unfold asD at h
  split at h
  · obtain ⟨_, _, h⟩ := Option.bind_eq_some_iff.mp h; cases h
  · rename_i cs' _ e
    cases e
    obtain ⟨ks', h2, h⟩ := Option.bind_eq_some_iff.mp h
    cases h
    exact asKs_eq (fun _ _ => keyOf_D) h2
  · cases h
theorem asD_t {cs : List (PyData × PyData)} {ks : List (List Key × PyData)} (h : asD (.dict cs) = some (.t ks)) : cs = (.bool true, .none) :: ks.map fun p => (keyT p.1, p.2) := by
  unfold asD at h
  split at h
  · rename_i cs' e
    cases e
    obtain ⟨ks', h2, h⟩ := Option.bind_eq_some_iff.mp h
    cases h
    rw [asKs_eq (fun _ _ => keysD_T) h2]
  · obtain ⟨_, _, h⟩ := Option.bind_eq_some_iff.mp h; cases h
  · cases h
theorem wk_dk {v : V} {d : PyData} {ks : List (Key × PyData)} (w : Wk K H φ v d) (h : asD d = some (.k ks)) : ∃ a kvs, v = .ref a ∧ H a = some (.dK kvs) ∧ kvs.map (·.1) = ks.map (·.1) ∧ WkA K H φ (kvs.map (·.2)) (ks.map (·.2)) := by
  cases w with
  | @dk a kvs cs r e n wA =>
    have ec := asD_k h
    subst ec
    refine ⟨a, kvs, rfl, r, keys_back (fun _ _ => keyD_inj) e, ?_⟩
    simpa [Function.comp_def] using wA
  | dt r e n wA =>
    have ec := asD_k h
    cases ks with
    | nil => cases ec
    | cons p r => rcases p with ⟨k, d⟩; cases k <;> cases ec
  | ins c r e n wA =>
    have ec := asD_k h
    cases ks with
    | nil => cases ec
    | cons p r => rcases p with ⟨k, d⟩; cases k <;> cases ec
  | _ => cases h
theorem wk_dt {v : V} {d : PyData} {ks : List (List Key × PyData)} (w : Wk K H φ v d) (h : asD d = some (.t ks)) : ∃ a kvs, v = .ref a ∧ H a = some (.dT kvs) ∧ kvs.map (·.1) = ks.map (·.1) ∧ WkA K H φ (kvs.map (·.2)) (ks.map (·.2)) := by
  cases w with
  | @dt a kvs cs r e n wA =>
    have ec := asD_t h
    simp only [List.cons.injEq, true_and] at ec
    subst ec
    refine ⟨a, kvs, rfl, r, keys_back (fun _ _ => keyT_inj) e, ?_⟩
    simpa [Function.comp_def] using wA
  | @dk a kvs cs r e n wA =>
    have ec := asD_t h
    subst ec
    cases kvs with
    | nil => simp at e
    | cons p r => rcases p with ⟨k, d⟩; cases k <;> simp [keyD] at e
  | ins c r e n wA =>
    have ec := asD_t h
    simp at ec
  | _ => cases h
theorem get_at {κ : Type} [DecidableEq κ] (k : κ) : ∀ {kvs : List (κ × V)} {ks : List (κ × PyData)}, kvs.map (·.1) = ks.map (·.1) → WkA K H φ (kvs.map (·.2)) (ks.map (·.2)) → (getP ks k = none ∧ valV kvs k = none) ∨ ∃ d v, getP ks k = some d ∧ valV kvs k = some v ∧ Wk K H φ v d
  | [], [], _, _ => .inl ⟨rfl, rfl⟩
  | p :: r, q :: s, h, w => by
    simp only [List.map_cons, List.cons.injEq] at h
    cases w with
    | cons a b =>
      by_cases hk : q.1 = k
      · refine .inr ⟨q.2, p.2, ?_, valV_pos (h.1.trans hk), a⟩
        simp [getP, List.find?_cons, hk]
      · have ih := get_at k h.2 b
        rw [valV_neg (fun z => hk (h.1.symm.trans z))]
        have e : getP (q :: s) k = getP s k := by simp [getP, List.find?_cons, hk]
        rw [e]
        exact ih
  | [], _ :: _, h, _ => by simp at h
  | _ :: _, [], h, _ => by simp at h
/-- a dict asked: what the key holds, or nothing -/
def lookD (d key : PyData) : Option (Option PyData) := (asD d).bind fun x => match x with
  | .k ks => (keyOf key).bind fun k => some (getP ks k)
  | .t ks => (keysD key).bind fun k => some (getP ks k)
theorem wk_key {y : V} {key : PyData} {k : Key} (w : Wk K H φ y key) (h : keyOf key = some k) : y = kV k := by
  rw [keyOf_D h] at w
  cases k with
  | inl i => exact w.intI
  | inr s => exact w.strI
theorem wkA_keys : ∀ {xs : List V} {ks : List Key}, WkA K H φ xs (ks.map keyD) → xs = ks.map kV
  | _, [], w => by cases w; rfl
  | _, k :: r, w => by
    cases w with
    | cons a b =>
      rw [wkA_keys b, List.map_cons]
      cases k with
      | inl i => rw [show _ = V.int i from a.intI]; rfl
      | inr s => rw [show _ = V.str s from a.strI]; rfl
theorem wk_keyT {y : V} {key : PyData} {k : List Key} (w : Wk K H φ y key) (h : keysD key = some k) : ∃ b, y = .ref b ∧ H b = some (.tup (k.map kV)) := by
  rw [keysD_T h] at w
  obtain ⟨b, xs, rfl, hb, wA⟩ := Wk.tupJ w
  rw [wkA_keys wA] at hb
  exact ⟨b, rfl, hb⟩
theorem dget_at {x y : V} {d key : PyData} {o : Option PyData} (wx : W0 K H x d) (wy : W0 K H y key) (h : lookD d key = some o) : ∃ a r, x = .ref a ∧ IsD H a ∧ DGet H a y r ∧ (o = none → r = none) ∧ ∀ c, o = some c → ∃ v, r = some v ∧ W0 K H v c := by
  obtain ⟨x', h1, h⟩ := Option.bind_eq_some_iff.mp h
  cases x' with
  | k ks =>
    obtain ⟨k, h2, h⟩ := Option.bind_eq_some_iff.mp h
    cases h
    obtain ⟨a, kvs, rfl, ha, e, wA⟩ := wk_dk wx h1
    have ey := wk_key wy h2
    subst ey
    refine ⟨a, valV kvs k, rfl, .inl ⟨kvs, .inl ha⟩, DGet.k ha, ?_⟩
    rcases get_at k e wA with ⟨e1, e2⟩ | ⟨c, v, e1, e2, w⟩
    · rw [e1, e2]
      exact ⟨fun _ => rfl, fun c z => by cases z⟩
    · rw [e1, e2]
      exact ⟨fun z => (by cases z), fun c' z => by cases z; exact ⟨v, rfl, w⟩⟩
  | t ks =>
    obtain ⟨k, h2, h⟩ := Option.bind_eq_some_iff.mp h
    cases h
    obtain ⟨a, kvs, rfl, ha, e, wA⟩ := wk_dt wx h1
    obtain ⟨b, rfl, hb⟩ := wk_keyT wy h2
    refine ⟨a, valV kvs k, rfl, .inr ⟨kvs, .inl ha⟩, DGet.t ha hb, ?_⟩
    rcases get_at k e wA with ⟨e1, e2⟩ | ⟨c, v, e1, e2, w⟩
    · rw [e1, e2]
      exact ⟨fun _ => rfl, fun c z => by cases z⟩
    · rw [e1, e2]
      exact ⟨fun z => (by cases z), fun c' z => by cases z; exact ⟨v, rfl, w⟩⟩
/-- d[k] -/
def rDGet : R2 := fun x y H Q => ∃ a v, x = .ref a ∧ DGet H a y (some v) ∧ Q v H
def dGetD (d key : PyData) : Option PyData := match lookD d key with
  | some (some c) => if imm c = true then some c else none
  | _ => none
theorem fr_dget : Fr2 K rDGet dGetD := by
  intro d d' c q x y H Q wx wy k
  unfold dGetD at q
  split at q
  · rename_i c' h
    split at q
    · rename_i hi
      cases q
      obtain ⟨a, r, rfl, _, g, _, hs⟩ := dget_at wx wy h
      obtain ⟨v, rfl, w⟩ := hs _ rfl
      exact ⟨a, v, rfl, g, k _ H [] (Same.refl _) (w.own hi) fun a z => by cases z⟩
    · cases q
  · cases q
/-- k in d, k not in d -/
def rDIn : R2 := fun y x H Q => ∃ a o, x = .ref a ∧ DGet H a y o ∧ Q (.bl o.isSome) H
def dInD (key d : PyData) : Option PyData := (lookD d key).bind fun o => some (.bool o.isSome)
theorem fr_din : Fr2 K rDIn dInD := by
  intro d d' c q y x H Q wy wx k
  obtain ⟨o, h, q⟩ := Option.bind_eq_some_iff.mp q
  cases q
  obtain ⟨a, r, rfl, _, g, hn, hs⟩ := dget_at wx wy h
  have e : r.isSome = o.isSome := by
    cases o with
    | none => rw [hn rfl]; rfl
    | some c => obtain ⟨v, rfl, _⟩ := hs c rfl; rfl
  exact ⟨a, r, rfl, g, by rw [e]; exact k _ H [] (Same.refl _) (.bl _) fun a z => by cases z⟩
/-- d.get(k, x): d a name -/
def mDGet2 (i : Nat) (b c : MO) : ME := fun e => (e.look i).bind fun d0 => (asD d0).bind fun _ => (b e).bind fun p => (c p.2).bind fun q => (q.2.look i).bind fun d => (p.1.look q.2).bind fun key => (q.1.look q.2).bind fun dflt =>
  (lookD d key).bind fun o => if imm (o.getD dflt) = true then some (o.getD dflt, q.2) else none
theorem isD_of {x : V} {d : PyData} {z : Dk} (w : W0 K H x d) (h : asD d = some z) : ∃ a, x = .ref a ∧ IsD H a := by
  cases z with
  | k ks => obtain ⟨a, kvs, rfl, ha, _⟩ := wk_dk w h; exact ⟨a, rfl, .inl ⟨kvs, .inl ha⟩⟩
  | t ks => obtain ⟨a, kvs, rfl, ha, _⟩ := wk_dt w h; exact ⟨a, rfl, .inr ⟨kvs, .inl ha⟩⟩
theorem re_dget2 {i : Nat} {tb tc : TE} {b c : MO} (hb : RO K tb b) (hc : RO K tc c) : RE K (tDGet2 (tVar i) tb tc) (mDGet2 i b c) := by
  intro e r e' q bv fp al σ H Q rr k
  obtain ⟨d0, h0, q⟩ := Option.bind_eq_some_iff.mp q
  obtain ⟨z, hz, q⟩ := Option.bind_eq_some_iff.mp q
  obtain ⟨⟨o1, e1⟩, h1, q⟩ := Option.bind_eq_some_iff.mp q
  obtain ⟨⟨o2, e2⟩, h2, q⟩ := Option.bind_eq_some_iff.mp q
  obtain ⟨d, h3, q⟩ := Option.bind_eq_some_iff.mp q
  obtain ⟨key, h4, q⟩ := Option.bind_eq_some_iff.mp q
  obtain ⟨df, h5, q⟩ := Option.bind_eq_some_iff.mp q
  obtain ⟨o, h6, q⟩ := Option.bind_eq_some_iff.mp q
  split at q
  · rename_i hi
    cases q
    obtain ⟨v0, hv0, w0⟩ := rr.look h0
    obtain ⟨a, rfl, hd⟩ := isD_of w0.w0 hz
    refine ⟨_, hv0, a, rfl, hd, two hb hc h1 h2 rr fun y w H' fp' al' f g to oy ow dj => ?_⟩
    obtain ⟨v1, hv1, w1⟩ := to.rr.look h3
    rw [hv0] at hv1
    cases hv1
    obtain ⟨a', rr', ea, _, gt, hn, hs⟩ := dget_at w1.w0 (oy.w0 to.rr h4) h6
    cases ea
    refine ⟨rr', gt, ?_⟩
    have wr : W0 K H' (rr'.getD w) (o.getD df) := by
      cases o with
      | none => rw [hn rfl]; exact ow.w0 to.rr h5
      | some c => obtain ⟨v, rfl, wv⟩ := hs c rfl; exact wv
    exact k _ H' fp' al' [] (to.less fun _ z => by cases z) (wr.own hi)
  · cases q
end
end Dl
/-! dicts: made, stored to, sorted; list(range(n)) -/
namespace Dl
open PySem L2 PyProof.Rows PySem.SeqAt
section
variable {K : PySem.W.Frag} {bv : List V} {e e' e1 e2 : Dl.Env} {fp fp' fp1 fp2 al al' al1 al2 T T1 T2 φ : Addr → Prop} {σ : L2.St} {H H' H1 H2 : Hp}
/-- {} -/
theorem re_dnewK : RE K tDNewK (mC (.dict [])) := by
  intro e d e' q bv fp al σ H Q rr k p hp
  cases q
  exact k _ _ _ _ [p] (To.now rr (same_upd hp) (.dk (kvs := []) (cs := []) upd_same rfl .nil (by simp)) fun a z => by rw [List.mem_singleton.mp z]; exact hp) (.dk (kvs := []) (cs := []) upd_same rfl .nil (by simp))
theorem re_dnewT : RE K tDNewT (mC (.dict [(.bool true, .none)])) := by
  intro e d e' q bv fp al σ H Q rr k p hp
  cases q
  exact k _ _ _ _ [p] (To.now rr (same_upd hp) (.dt (kvs := []) (cs := []) upd_same rfl .nil (by simp)) fun a z => by rw [List.mem_singleton.mp z]; exact hp) (.dt (kvs := []) (cs := []) upd_same rfl .nil (by simp))
theorem own_dk {v : V} {d : PyData} {ks : List (Key × PyData)} {f : List Addr} (w : Own K H v d f) (h : asD d = some (.k ks)) : ∃ a kvs g, v = .ref a ∧ f = a :: g ∧ H a = some (.dK kvs) ∧ kvs.map (·.1) = ks.map (·.1) ∧ OwnA K H (kvs.map (·.2)) (ks.map (·.2)) g ∧ a ∉ g := by
  cases w with
  | @dk a kvs cs f r e wA n =>
    have ec := asD_k h
    subst ec
    refine ⟨a, kvs, _, rfl, rfl, r, keys_back (fun _ _ => keyD_inj) e, ?_, n⟩
    simpa [Function.comp_def] using wA
  | dt r e wA n =>
    have ec := asD_k h
    cases ks with
    | nil => cases ec
    | cons p r => rcases p with ⟨k, d⟩; cases k <;> cases ec
  | ins c r e wA n =>
    have ec := asD_k h
    cases ks with
    | nil => cases ec
    | cons p r => rcases p with ⟨k, d⟩; cases k <;> cases ec
  | _ => cases h
theorem own_dt {v : V} {d : PyData} {ks : List (List Key × PyData)} {f : List Addr} (w : Own K H v d f) (h : asD d = some (.t ks)) : ∃ a kvs g, v = .ref a ∧ f = a :: g ∧ H a = some (.dT kvs) ∧ kvs.map (·.1) = ks.map (·.1) ∧ OwnA K H (kvs.map (·.2)) (ks.map (·.2)) g ∧ a ∉ g := by
  cases w with
  | @dt a kvs cs f r e wA n =>
    have ec := asD_t h
    simp only [List.cons.injEq, true_and] at ec
    subst ec
    refine ⟨a, kvs, _, rfl, rfl, r, keys_back (fun _ _ => keyT_inj) e, ?_, n⟩
    simpa [Function.comp_def] using wA
  | @dk a kvs cs f r e wA n =>
    have ec := asD_t h
    subst ec
    cases kvs with
    | nil => simp at e
    | cons p r => rcases p with ⟨k, d⟩; cases k <;> simp [keyD] at e
  | ins c r e wA n =>
    have ec := asD_t h
    simp at ec
  | _ => cases h
theorem any_keys {κ : Type} [DecidableEq κ] (k : κ) : ∀ {kvs : List (κ × V)} {ks : List (κ × PyData)}, kvs.map (·.1) = ks.map (·.1) → (kvs.any fun p => decide (p.1 = k)) = (ks.any fun p => decide (p.1 = k))
  | [], [], _ => rfl
  | p :: r, q :: s, h => by
    simp only [List.map_cons, List.cons.injEq] at h
    rw [List.any_cons, List.any_cons, any_keys k h.2, h.1]
  | [], _ :: _, h => by simp at h
  | _ :: _, [], h => by simp at h
theorem rep_own {κ : Type} [DecidableEq κ] (k : κ) {v : V} {d : PyData} (o : Own K H v d []) : ∀ {kvs : List (κ × V)} {ks : List (κ × PyData)} {g : List Addr}, kvs.map (·.1) = ks.map (·.1) → OwnA K H (kvs.map (·.2)) (ks.map (·.2)) g →
    ((kvs.map fun p => if p.1 = k then (p.1, v) else p).map (·.1) = (ks.map fun p => if p.1 = k then (p.1, d) else p).map (·.1)) ∧ ∃ g', OwnA K H ((kvs.map fun p => if p.1 = k then (p.1, v) else p).map (·.2)) ((ks.map fun p => if p.1 = k then (p.1, d) else p).map (·.2)) g' ∧ ∀ a ∈ g', a ∈ g
  | [], [], _, _, h => by cases h; exact ⟨rfl, [], .nil, fun a z => z⟩
  | p :: r, q :: s, g, e, h => by
    simp only [List.map_cons, List.cons.injEq] at e
    cases h with
    | @cons _ _ _ _ f1 f2 a b dj =>
      obtain ⟨ih1, g', ih2, ih3⟩ := rep_own k o e.2 b
      by_cases hk : q.1 = k
      · have hk' : p.1 = k := e.1.trans hk
        refine ⟨by simp only [List.map_cons, if_pos hk, if_pos hk', e.1, ih1], [] ++ g', ?_, fun a z => List.mem_append_right _ (ih3 a (by simpa using z))⟩
        simp only [List.map_cons, if_pos hk, if_pos hk']
        exact .cons o ih2 (by simp)
      · have hk' : ¬ p.1 = k := fun z => hk (e.1.symm.trans z)
        refine ⟨by simp only [List.map_cons, if_neg hk, if_neg hk', e.1, ih1], f1 ++ g', ?_, fun x z => (List.mem_append.mp z).elim (fun y => List.mem_append_left _ y) fun y => List.mem_append_right _ (ih3 x y)⟩
        simp only [List.map_cons, if_neg hk, if_neg hk']
        exact .cons a ih2 fun x z y => dj x z (ih3 x y)
  | [], _ :: _, _, h, _ => by simp at h
  | _ :: _, [], _, h, _ => by simp at h
theorem put_own {κ : Type} [DecidableEq κ] (k : κ) {v : V} {d : PyData} (o : Own K H v d []) {kvs : List (κ × V)} {ks : List (κ × PyData)} {g : List Addr} (e : kvs.map (·.1) = ks.map (·.1)) (h : OwnA K H (kvs.map (·.2)) (ks.map (·.2)) g) :
    (putK kvs k v).map (·.1) = (putP ks k d).map (·.1) ∧ ∃ g', OwnA K H ((putK kvs k v).map (·.2)) ((putP ks k d).map (·.2)) g' ∧ ∀ a ∈ g', a ∈ g := by
  unfold putK putP
  rw [any_keys k e]
  by_cases hk : (ks.any fun p => decide (p.1 = k)) = true
  · rw [if_pos hk, if_pos hk]
    exact rep_own k o e h
  · rw [if_neg hk, if_neg hk]
    refine ⟨by simp [e], g ++ ([] ++ []), ?_, fun a z => by simpa using z⟩
    rw [List.map_append, List.map_append]
    exact h.append (.cons o .nil (by simp)) (by simp)
theorem Step.upIn {a : Addr} {u o : HO} {f : List Addr} (h : H a = some u) (m : Mut (some u)) (ha : a ∈ f) : Step (· ∈ f) H (· ∈ f) (upd H a o) := by
  have st := Step.up1 (o := o) h m
  exact ⟨fun p w hw hp => st.stay p w hw (hp.imp (fun z y => z (y ▸ ha)) id), fun p z => .inl z, st.live⟩
/-- the dict that slot i owns, or that was lent -/
def theD (i : Nat) (e : Dl.Env) : Option (Ix × Dk) := (e.ix i).bind fun x => (e.own x).bind fun d => (asD d).bind fun z => some (x, z)
def putD (z : Dk) (key d : PyData) : Option Dk := match z with
  | .k ks => if ks.length < 16777216 then (keyOf key).bind fun k => some (.k (putP ks k d)) else none
  | .t ks => if ks.length < 16777216 then (keysD key).bind fun k => some (.t (putP ks k d)) else none
/-- x[k] = d, d without lists -/
def sDPutM (i : Nat) (m : ME) (mk : MO) : MS := fun e => (m e).bind fun p => (p.2.look i).bind fun _ => (mk p.2).bind fun r => (r.1.look r.2).bind fun key => (theD i r.2).bind fun q => if imm p.1 = true then (putD q.2 key p.1).bind fun z => some (.nx (r.2.put q.1 z.data)) else none
theorem len_keys {κ : Type} {kvs : List (κ × V)} {ks : List (κ × PyData)} (e : kvs.map (·.1) = ks.map (·.1)) : kvs.length = ks.length := by
  have := congrArg List.length e
  simpa using this
theorem rs_dput {i : Nat} {tv ty : TE} {m : ME} {mk : MO} (h : RE K tv m) (hk : RO K ty mk) : RS K (sDPut (tVar i) ty tv) (sDPutM i m mk) := by
  intro e o q bv fp σ H D rr k
  obtain ⟨⟨d, e1⟩, h1, q⟩ := Option.bind_eq_some_iff.mp q
  obtain ⟨d0, h0, q⟩ := Option.bind_eq_some_iff.mp q
  obtain ⟨⟨oi, e2⟩, h2, q⟩ := Option.bind_eq_some_iff.mp q
  obtain ⟨key, h3, q⟩ := Option.bind_eq_some_iff.mp q
  obtain ⟨⟨x, z⟩, h4, q⟩ := Option.bind_eq_some_iff.mp q
  split at q
  rotate_left
  · cases q
  rename_i hi
  obtain ⟨z2, h5, q⟩ := Option.bind_eq_some_iff.mp q
  cases q
  obtain ⟨x', hx, h4⟩ := Option.bind_eq_some_iff.mp h4
  obtain ⟨dd, hd, h4⟩ := Option.bind_eq_some_iff.mp h4
  obtain ⟨z', hz, h4⟩ := Option.bind_eq_some_iff.mp h4
  cases h4
  refine h e d e1 h1 bv fp fp σ H _ rr fun v H1 fp1 al1 fv to ov => ?_
  obtain ⟨v0, hv0, w0⟩ := to.rr.look h0
  refine ⟨v0, hv0, hk e1 oi e2 h2 bv fp1 al1 σ H1 _ to.rr fun vi H2 fp2 al2 fi to2 oi2 => ?_⟩
  have wk := oi2.w0 to2.rr h3
  have to' : To K bv σ fp fp H e2 (· ∈ fv) fp2 al2 H2 := (to.trans to2).less fun _ z => .inl z
  have ov2 : Own K H2 v d [] := (ov.step to2.step fun a z => (to.tmp a z).1).nils hi
  obtain ⟨v1, f, hv1, o1, dj, fin⟩ := to'.mut hx hd
  rw [hv0] at hv1; cases hv1
  cases z with
  | k ks =>
    simp only [putD] at h5
    split at h5
    rotate_left
    · cases h5
    rename_i hlen
    obtain ⟨kk, h6, h5⟩ := Option.bind_eq_some_iff.mp h5
    cases h5
    obtain ⟨a, kvs, g, rfl, rfl, ha, ek, oA, na⟩ := own_dk o1 hz
    have ey := wk_key wk h6
    subst ey
    refine ⟨a, _, rfl, DPut.k ha (by rw [len_keys ek, sizeLine_eq]; exact hlen), ?_⟩
    have o2 : Own K (upd H2 a (.dK (putK kvs kk v))) v d [] := ov2.upd_ ha trivial (by simp)
    obtain ⟨e9, g', oN, sN⟩ := put_own kk o2 ek (oA.upd_ (o := .dK (putK kvs kk v)) ha trivial na)
    have t3 := fin (upd H2 a (.dK (putK kvs kk v))) (Dk.k (putP ks kk d)).data (a :: g') [] (Step.upIn ha trivial List.mem_cons_self)
      (.dk upd_same (by simp only [List.map_map, Function.comp_def]; have := congrArg (List.map keyD) e9; simp only [List.map_map, Function.comp_def] at this; exact this.symm) (by simpa [Function.comp_def] using oN) fun w => na (sN a w))
      (fun b w => .inl ((List.mem_cons.mp w).elim (fun y => y ▸ List.mem_cons_self) fun y => List.mem_cons_of_mem _ (sN b y))) fun b w => by cases w
    exact k σ _ _ t3.end_.1 t3.end_.2
  | t ks =>
    simp only [putD] at h5
    split at h5
    rotate_left
    · cases h5
    rename_i hlen
    obtain ⟨kk, h6, h5⟩ := Option.bind_eq_some_iff.mp h5
    cases h5
    obtain ⟨a, kvs, g, rfl, rfl, ha, ek, oA, na⟩ := own_dt o1 hz
    obtain ⟨b, rfl, hb⟩ := wk_keyT wk h6
    refine ⟨a, _, rfl, DPut.t ha hb (by rw [len_keys ek, sizeLine_eq]; exact hlen), ?_⟩
    have o2 : Own K (upd H2 a (.dT (putK kvs kk v))) v d [] := ov2.upd_ ha trivial (by simp)
    obtain ⟨e9, g', oN, sN⟩ := put_own kk o2 ek (oA.upd_ (o := .dT (putK kvs kk v)) ha trivial na)
    have t3 := fin (upd H2 a (.dT (putK kvs kk v))) (Dk.t (putP ks kk d)).data (a :: g') [] (Step.upIn ha trivial List.mem_cons_self)
      (.dt upd_same (by simp only [List.map_map, Function.comp_def]; have := congrArg (List.map keyT) e9; simp only [List.map_map, Function.comp_def] at this; exact this.symm) (by simpa [Function.comp_def] using oN) fun w => na (sN a w))
      (fun b w => .inl ((List.mem_cons.mp w).elim (fun y => y ▸ List.mem_cons_self) fun y => List.mem_cons_of_mem _ (sN b y))) fun b w => by cases w
    exact k σ _ _ t3.end_.1 t3.end_.2
end
end Dl
/-! sorted(d); list(range(n)) -/
namespace Dl
open PySem L2 PyProof.Rows PySem.SeqAt
theorem dpAll_refs {K : PySem.W.Frag} {H : Hp} {kvs : List (List Key × V)} {bs : List Addr} (h : IsKeys H kvs bs) : DpAll K H (bs.map V.ref) (kvs.map fun p => keyT p.1) := by
  unfold IsKeys at h
  induction h with
  | nil => exact .nil
  | @cons p b ps bs h1 h2 ih =>
    refine .cons (.tup (SqT.of h1) ?_) ih
    have : ∀ ks : List Key, DpAll K H (ks.map kV) (ks.map keyD) := fun ks => by
      induction ks with
      | nil => exact .nil
      | cons k r ih => exact .cons (by cases k with | inl i => exact .int i | inr s => exact .str s) ih
    exact this p.1
/-- the keys of a dict with tuple keys, in order -/
def rSortDT (K : PySem.W.Frag) : List V → Hp → VK → Prop := fun vs H Q => ∃ (a : Addr) (kvs : List (List Key × V)), vs = [V.ref a] ∧ H a = some (.dT kvs) ∧ SeqAt.shaped (.list (kvs.map fun p => keyT p.1)) = true ∧ alA (kvs.map fun p => keyT p.1) = true ∧ srtb (kvs.map fun p => keyT p.1) = true ∧
  ∀ bs p, IsKeys H kvs bs → H p = none → Q (.ref p) (upd H p (.lst ((((bs.map V.ref).zip (kvs.map fun p => keyT p.1)).mergeSort (PySem.W.dataLe false fun b : V × PyData => b.2)).map (·.1))))
section
variable {X : Cx}
theorem cr_sortDT (hc : X.calm = true) (hu : X.A.units + 67 < cLine) : CallR X (.builtin "sorted") (rSortDT X.K) := by
  intro pins s σ H xs us Q I r h
  obtain ⟨d, kvs, rfl, hd, hsh, hal, hk, q⟩ := h
  obtain ⟨u, rfl, rx⟩ := r.one
  cases rx
  obtain ⟨z, hs, ks, pr, o, es, ep, ho, hx, hdt, he, hn⟩ := (show ObjOk X.prog X.w H s.heap d (.dT kvs) from I.hok d _ hd)
  have l1 : es.size = ks.length := size_of_entries he
  have l2 : kvs.length = ks.length := Paired.length pr
  have h16 : es.size ≤ sizeLine := by omega
  refine Calls.call_function_entry PyProof.Rows.kind_sorted PyProof.Rows.plain_sorted PyProof.Rows.entry_sorted (PyProof.Rows.args_sorted1 _) ?_
  unfold Builtin.«sorted»
  refine wpAny_bind (m := checkCount "sorted" 1 1 _) (wpAny_pure ?_)
  refine wpAny_bind (PySem.W.kdu_collect (A := X.A.in1) (kdl_raw hs hx hdt) (I.ok.hd hc) ho h16 fun h' tk acc kp it => ?_)
  have hl : acc.toList.length = ks.length := by rw [Array.length_toList, it.1]; exact l1
  have ea : acc.toList = (ks.map fun x => x.2.1).map Value.ref := by
    rw [List.map_map]
    apply List.ext_getElem?
    intro j
    rw [List.getElem?_map]
    cases hj : acc.toList[j]? with
    | none =>
      have h1 := List.getElem?_eq_none_iff.mp hj
      rw [List.getElem?_eq_none (by omega)]
      all_goals rfl
    | some v =>
      obtain ⟨en, hen, hv⟩ := it.2 j v (by rw [← Array.getElem?_toList]; exact hj)
      have qe := entry_at he j
      rw [hen] at qe
      cases hb : ks[j]? with
      | none =>
        rw [hb] at qe
        exact nomatch (show some en = none from qe)
      | some b =>
        rw [hb] at qe
        have e2 : en = entryOfKey (tupleKind (mixKind X.prog X.w)) b := Option.some.inj qe
        rw [hv, e2]
        all_goals rfl
  have rv : Vals ((ks.map fun x => x.2.1).map V.ref) acc.toList := by rw [ea]; exact vals_refs _
  have I1 : Inv X pins σ H { s with heap := h', toks := tk } := I.kept kp
  have ik := isKeys_of pr
  generalize (ks.map fun x => x.2.1) = bs at ea rv ik
  have dA := dpAll_refs (K := X.K) ik
  generalize hD : (kvs.map fun p => keyT p.1) = ds at hsh hal hk q dA
  have hlen := dpAll_length dA
  have hll := rv.length
  have hz : acc.toList.length ≤ sizeLine := by omega
  obtain ⟨as, hr⟩ := Dp.readsAll I1 ds _ _ dA rv
  have e := each_pairs rv hr
  have live := PyProof.On.readsAll_mem_get hr
  have hm : ((bs.map V.ref).zip ds).map (fun b : V × PyData => b.2) = ds := zip_snd hlen
  refine wpAny_bind (wpAny_newList ?_ hz)
  have hoL : (h'.push (seqObj "list" acc.toList.toArray 0)).get? h'.objs.size = some (seqObj "list" acc.toList.toArray 0) := Heap.get?_push_size _ rfl
  show wpAny _ _ _ _ _ { s with heap := h'.push (seqObj "list" acc.toList.toArray 0), toks := tk }
  refine wpAny_bind (wpAny_holding (PySem.W.list_sort_data (s := { s with heap := h'.push (seqObj "list" acc.toList.toArray 0), toks := tk }) (R := fun v (b : V × PyData) => RelV b.1 v) (enc := fun b : V × PyData => b.2) hoL (e.mono fun v b h => h.1)
    (e.mono fun v b ⟨_, as', h, h3⟩ => ⟨as', PyProof.Rows.Reads.keeps (fun _ _ => Heap.get?_push_of_some _) h, fun w => by
      obtain ⟨o, ho⟩ := live _ (h3 _ w)
      exact absurd (Heap.lt_size ho) (Nat.lt_irrefl _)⟩)
    (by rw [hm]; exact alA_all hal) (by rw [hm]; exact srtb_all hk) (by rw [List.length_zip]; omega)
    (fun b hb => by have := depth_each hsh (u := X.A.units + 1) (by omega) (hm ▸ List.mem_map.mpr ⟨b, hb, rfl⟩); show X.A.units + 1 + 1 + _ < _; omega) fun out h1 h2 => ?_))
  obtain ⟨ep', he'⟩ := PyProof.Rows.sortedHeap_at (vs := acc.toList) (out := out.toArray) hoL
  have hlen2 : ((((bs.map V.ref).zip ds).mergeSort (PySem.W.dataLe false fun b : V × PyData => b.2)).map (·.1)).length ≤ sizeLine := by
    rw [List.length_map, List.length_mergeSort, List.length_zip]
    omega
  refine wpAny_pure ⟨_, rfl, .ref h'.objs.size, upd H h'.objs.size (.lst ((((bs.map V.ref).zip ds).mergeSort (PySem.W.dataLe false fun b : V × PyData => b.2)).map (·.1))), I1.laid (t' := tk) (fun b u e => ?_) (Nat.le_refl _)
    ⟨hlen2, out, ep', vals_each h2, he'⟩, rfl, q bs _ ik (I1.hok.fresh (Nat.le_refl _))⟩
  have hb : b < h'.objs.size := Heap.lt_size e
  rw [PyProof.Rows.sortedHeap_old (Nat.ne_of_lt hb) (by rw [size_push']; exact Nat.lt_succ_of_lt hb)]
  exact Heap.get?_push_of_some _ e
end
section
variable {K : PySem.W.Frag} {H H' : Hp} {φ : Addr → Prop}
/-- a dict's keys as ints -/
def intsK : List (Key × PyData) → Option (List Int)
  | [] => some []
  | (.inl i, _) :: r => (intsK r).bind fun is => some (i :: is)
  | _ => none
theorem intsK_eq : ∀ {ks : List (Key × PyData)} {is : List Int}, intsK ks = some is → ks.map (·.1) = is.map Sum.inl
  | [], is, h => by cases h; rfl
  | (.inl i, d) :: r, is, h => by
    obtain ⟨js, h1, h⟩ := Option.bind_eq_some_iff.mp h
    cases h
    simp [intsK_eq h1]
  | (.inr s, d) :: r, is, h => by cases h
def sortI (is : List Int) : List Int := is.mergeSort fun x y => decide (x ≤ y)
def rSortKI (K : PySem.W.Frag) : List V → Hp → VK → Prop := fun xs H Q => ∃ (a : Addr) (kvs : List (Key × V)) (ks : List Int), xs = [.ref a] ∧ Rd H a (.dK kvs) ∧ kvs.map (·.1) = ks.map Sum.inl ∧ ks.length < 64 ∧ ∀ (ys : List Int) (p : Addr), ys.Perm ks → ys.Pairwise (· ≤ ·) → H p = none → Q (.ref p) (upd H p (.lst (ys.map V.int)))
def cSortK : List PyData → Option PyData
  | [d] => (asD d).bind fun z => match z with
    | .k ks => (intsK ks).bind fun is => if is.length < 64 then some (.list ((sortI is).map .int)) else none
    | .t _ => none
  | _ => none
theorem own_ints : ∀ ns : List Int, OwnA K H (ns.map V.int) (ns.map .int) []
  | [] => .nil
  | n :: r => OwnA.cons (f := []) (g := []) (.int n) (own_ints r) (by simp)
theorem fr_sortK : FrN K (rSortKI K) cSortK := by
  intro ds c q vs H Q ww k
  unfold cSortK at q
  split at q
  · rename_i d
    obtain ⟨z, h1, q⟩ := Option.bind_eq_some_iff.mp q
    cases z with
    | t ks => cases q
    | k ks =>
      obtain ⟨is, h2, q⟩ := Option.bind_eq_some_iff.mp q
      split at q
      · rename_i h
        cases q
        obtain ⟨v, rfl, w⟩ := W0A.one ww
        obtain ⟨a, kvs, rfl, ha, e, wA⟩ := wk_dk w h1
        refine ⟨a, kvs, is, rfl, .inl ha, e.trans (intsK_eq h2), h, fun ys p pm pw hp => ?_⟩
        have ey : ys = sortI is := PySem.W.os_sorted_mergeSort pm pw
        subst ey
        obtain ⟨s, o, n⟩ := new_lst (own_ints (K := K) (H := H) (sortI is)) hp
        exact k _ _ _ s o n
      · cases q
  · cases q
def cSortT : List PyData → Option PyData
  | [d] => (asD d).bind fun z => match z with
    | .t ks => if SeqAt.shaped (.list (ks.map fun p => keyT p.1)) = true ∧ alA (ks.map fun p => keyT p.1) = true ∧ srtb (ks.map fun p => keyT p.1) = true then some (.list (sortD (ks.map fun p => keyT p.1))) else none
    | .k _ => none
  | _ => none
theorem imm_keyT (k : List Key) : imm (keyT k) = true := by
  unfold keyT
  simp only [imm, immA_all, List.all_map, List.all_eq_true]
  intro x _
  cases x <;> rfl
theorem wkA_refs {kvs : List (List Key × V)} {bs : List Addr} (h : IsKeys H kvs bs) : W0A K H (bs.map V.ref) (kvs.map fun p => keyT p.1) := by
  unfold IsKeys at h
  induction h with
  | nil => exact .nil
  | @cons p b ps bs h1 h2 ih =>
    refine .cons (.tup h1 ?_) ih
    have : ∀ ks : List Key, W0A K H (ks.map kV) (ks.map keyD) := fun ks => by
      induction ks with
      | nil => exact .nil
      | cons k r ih => exact .cons (by cases k with | inl i => exact .int i | inr s => exact .str s) ih
    exact this p.1
theorem map_keys {κ : Type} {g : κ → PyData} {kvs : List (κ × V)} {ks : List (κ × PyData)} (e : kvs.map (·.1) = ks.map (·.1)) : (kvs.map fun p => g p.1) = ks.map fun p => g p.1 := by
  have := congrArg (List.map g) e
  simpa [List.map_map, Function.comp_def] using this
theorem fr_sortT : FrN K (rSortDT K) cSortT := by
  intro ds c q vs H Q ww k
  unfold cSortT at q
  split at q
  · rename_i d
    obtain ⟨z, h1, q⟩ := Option.bind_eq_some_iff.mp q
    cases z with
    | k ks => cases q
    | t ks =>
      dsimp only at q
      split at q
      · rename_i h
        cases q
        obtain ⟨v, rfl, w⟩ := W0A.one ww
        obtain ⟨a, kvs, rfl, ha, e, wA⟩ := wk_dt w h1
        have em := map_keys (g := keyT) e
        refine ⟨a, kvs, rfl, ha, by rw [em]; exact h.1, by rw [em]; exact h.2.1, by rw [em]; exact h.2.2, fun bs p ik hp => ?_⟩
        have wk := wkA_refs (K := K) ik
        rw [em] at wk ⊢
        have w2 : WkA K H (fun _ => True) ((((bs.map V.ref).zip (ks.map fun p => keyT p.1)).mergeSort (PySem.W.dataLe false fun b : V × PyData => b.2)).map (·.1)) (sortD (ks.map fun p => keyT p.1)) := by
          rw [← sort_snd wk.length]
          exact wkA_of fun p hp => wkA_pairs wk p (List.mem_mergeSort.mp hp)
        obtain ⟨s, o, n⟩ := new_lst (w2.own (by
          rw [show immA (sortD (ks.map fun p => keyT p.1)) = immA (ks.map fun p => keyT p.1) from immA_perm (List.mergeSort_perm _ _), immA_all, List.all_map, List.all_eq_true]
          exact fun x _ => imm_keyT x.1)) hp
        exact k _ _ _ s o n
      · cases q
  · cases q
/-- list(range(n)) -/
def cListRg : List PyData → Option PyData
  | [.int n] => if 0 ≤ n ∧ n ≤ 16777216 then some (.list (rngD 0 n.toNat)) else none
  | _ => none
theorem re_listRg {t : TE} {a : MO} (h : RO K t a) : RE K (tLstRg (tRg1 t)) (mOp1 (fun d => cListRg [d]) a) := by
  intro e c e' q bv fp al σ H Q rr k
  obtain ⟨⟨o, e1⟩, h1, q⟩ := Option.bind_eq_some_iff.mp q
  obtain ⟨d, h2, q⟩ := Option.bind_eq_some_iff.mp q
  obtain ⟨c', h3, q⟩ := Option.bind_eq_some_iff.mp q
  cases q
  unfold cListRg at h3
  dsimp only at h3
  split at h3
  · rename_i n e
    cases e
    split at h3
    · rename_i hn
      cases h3
      refine h e o e1 h1 bv fp al σ H _ rr fun v H1 fp1 al1 fv to oo => ?_
      have ev := (oo.w0 to.rr h2).intI
      subst ev
      refine ⟨n, rfl, RgOk.of_le (by omega) hn.2 (by omega) hn.1, fun p hp => ?_⟩
      have hA : OwnA K H1 (rgV 0 n) (rngD 0 n.toNat) [] := by
        unfold rgV rngD
        rw [show (n - 0).toNat = n.toNat by omega]
        have := own_ints (K := K) (H := H1) ((List.range n.toNat).map fun i => (0 : Int) + (i : Nat))
        simpa [List.map_map, Function.comp_def] using this
      obtain ⟨s, o, nn⟩ := new_lst hA hp
      exact k _ _ _ _ [p] ((to.less (T1 := fun _ => False) fun _ z => z.elim).newv s o nn) o
    · cases h3
  · cases h3
end
end Dl
namespace Dl
open PySem L2 PyProof.Rows PySem.SeqAt
theorem hu1 {k : Nat} {A : Around} (r : Room k A) : A.units + 1 < cLine := by have := r.un; omega
theorem hu67 {k : Nat} {A : Around} (r : Room k A) : A.units + 67 < cLine := by have := r.un; omega
section
variable {K : PySem.W.Frag} {H H' : Hp}
/-- x.index(e): x a name -/
def mIdxO (i : Nat) (b : MO) : ME := fun e => (e.look i).bind fun d0 => if isLst d0 = true then (b e).bind fun p => (p.2.look i).bind fun x => (p.1.look p.2).bind fun d => match x with
  | .list ds => if SeqAt.shaped (.list ds) = true ∧ SeqAt.shaped d = true then (idxD ds d).bind fun (j : Nat) => some (.int j, p.2) else none
  | _ => none
  else none
theorem re_idxO {i : Nat} {tb : TE} {b : MO} (hb : RO K tb b) : RE K (tBM K "list" (rIndexD K) (tVar i) (tCons tb tNil)) (mIdxO i b) := by
  intro e c e' q bv fp al σ H Q rr k
  obtain ⟨d0, h0, q⟩ := Option.bind_eq_some_iff.mp q
  split at q
  rotate_left
  · cases q
  rename_i hl0
  obtain ⟨⟨o, e1⟩, h1, q⟩ := Option.bind_eq_some_iff.mp q
  obtain ⟨x, h2, q⟩ := Option.bind_eq_some_iff.mp q
  obtain ⟨d, h3, q⟩ := Option.bind_eq_some_iff.mp q
  dsimp only at q
  split at q
  · rename_i ds
    split at q
    · rename_i hs
      obtain ⟨j, h4, q⟩ := Option.bind_eq_some_iff.mp q
      cases q
      obtain ⟨v0, hv0, w0⟩ := rr.look h0
      refine ⟨v0, hv0, ?_, hb e o _ h1 bv fp al σ H _ rr fun w H1 fp1 al1 f to oo => ?_⟩
      · cases d0 with
        | list _ => obtain ⟨a, xs, rfl, ha, _⟩ := w0.lstI; exact tyV_lst ha
        | _ => cases hl0
      · obtain ⟨v1, hv1, w1⟩ := to.rr.look h2
        rw [hv0] at hv1; cases hv1
        obtain ⟨⟨z, hz1, hz2⟩, hz3⟩ := idxD_some h4
        have wd := w1.dp (lay_of_shaped hs.1)
        obtain ⟨l, xs, rfl, hl, _⟩ := w1.lstI
        exact ⟨l, w, d, _, j, z, rfl, rfl, wd, (oo.w0 to.rr h3).dp (lay_of_shaped hs.2), hs.1, hs.2, hz1, hz2, hz3, k _ H1 fp1 al1 [] (to.less fun p z => by cases z) (.int _)⟩
    · cases q
  · cases q
end
end Dl
/-! len(set(xs)), xs.count(e), dict(pairs), f(..)[i] of what is given away -/
namespace Dl
open PySem L2 PyProof.Rows PySem.SeqAt
section
variable {K : PySem.W.Frag} {bv : List V} {e e' e1 e2 : Dl.Env} {fp fp' fp1 fp2 al al' al1 al2 T T1 T2 φ : Addr → Prop} {σ : L2.St} {H H' H1 H2 : Hp}
/-- data as ints -/
def asInts : List PyData → Option (List Int)
  | [] => some []
  | .int i :: r => (asInts r).bind fun is => some (i :: is)
  | _ => none
theorem asInts_eq : ∀ {ds : List PyData} {is : List Int}, asInts ds = some is → ds = is.map .int
  | [], is, h => by cases h; rfl
  | .int i :: r, is, h => by
    obtain ⟨js, h1, h⟩ := Option.bind_eq_some_iff.mp h
    cases h
    rw [asInts_eq h1]; rfl
  | .none :: _, _, h => by cases h
  | .bool _ :: _, _, h => by cases h
  | .str _ :: _, _, h => by cases h
  | .list _ :: _, _, h => by cases h
  | .tuple _ :: _, _, h => by cases h
  | .dict _ :: _, _, h => by cases h
theorem asInts_map : ∀ is : List Int, asInts (is.map .int) = some is
  | [] => rfl
  | i :: r => by simp [asInts, asInts_map r]
theorem wkA_ints : ∀ {xs : List V} {is : List Int}, WkA K H φ xs (is.map .int) → xs = is.map V.int
  | _, [], w => by cases w; rfl
  | _, i :: r, w => by
    cases w with
    | cons a b => rw [wkA_ints b, a.intI]; rfl
/-- len(set(xs)), xs ints, each once -/
def cLenSet : PyData → Option PyData
  | .list ds => (asInts ds).bind fun is => if is.Nodup ∧ is.length ≤ 4000 then some (.int is.length) else none
  | _ => none
theorem re_lenSet {t : TE} {a : MO} (h : RO K t a) : RE K (RZ.tLenSetI K t) (mOp1 cLenSet a) := by
  intro e c e' q bv fp al σ H Q rr k
  obtain ⟨⟨o, e1⟩, h1, q⟩ := Option.bind_eq_some_iff.mp q
  obtain ⟨d, h2, q⟩ := Option.bind_eq_some_iff.mp q
  obtain ⟨c', h3, q⟩ := Option.bind_eq_some_iff.mp q
  cases q
  unfold cLenSet at h3
  split at h3
  · rename_i ds
    obtain ⟨is, h4, h3⟩ := Option.bind_eq_some_iff.mp h3
    split at h3
    · rename_i hn
      cases h3
      have ed := asInts_eq h4
      subst ed
      refine h e o e1 h1 bv fp al σ H _ rr fun v H1 fp1 al1 fv to oo => ?_
      obtain ⟨l, xs, rfl, hl, wA⟩ := (oo.w0 to.rr h2).lstI
      have ex := wkA_ints wA
      subst ex
      exact ⟨l, is, rfl, SqL.of hl, hn.1, hn.2, k _ H1 fp1 al1 [] (to.less fun _ z => by cases z) (.int _)⟩
    · cases h3
  · cases h3
/-- x.count(e), ints, x a name -/
def mCntO (i : Nat) (b : MO) : ME := fun e => (e.look i).bind fun d0 => if isLst d0 = true then (b e).bind fun p => (p.2.look i).bind fun x => (opInt p.1 p.2).bind fun n => match x with
  | .list ds => (asInts ds).bind fun is => some (.int (is.count n : Nat), p.2)
  | _ => none
  else none
theorem re_cntO {i : Nat} {tb : TE} {b : MO} (hb : RO K tb b) : RE K (tBM K "list" (rCntI K) (tVar i) (tCons tb tNil)) (mCntO i b) := by
  intro e c e' q bv fp al σ H Q rr k
  obtain ⟨d0, h0, q⟩ := Option.bind_eq_some_iff.mp q
  split at q
  rotate_left
  · cases q
  rename_i hl0
  obtain ⟨⟨o, e1⟩, h1, q⟩ := Option.bind_eq_some_iff.mp q
  obtain ⟨x, h2, q⟩ := Option.bind_eq_some_iff.mp q
  obtain ⟨n, h3, q⟩ := Option.bind_eq_some_iff.mp q
  dsimp only at q
  split at q
  · rename_i ds
    obtain ⟨is, h4, q⟩ := Option.bind_eq_some_iff.mp q
    cases q
    have ed := asInts_eq h4
    subst ed
    obtain ⟨v0, hv0, w0⟩ := rr.look h0
    refine ⟨v0, hv0, ?_, hb e o _ h1 bv fp al σ H _ rr fun w H1 fp1 al1 f to oo => ?_⟩
    · cases d0 with
      | list _ => obtain ⟨a, xs, rfl, ha, _⟩ := w0.lstI; exact tyV_lst ha
      | _ => cases hl0
    · obtain ⟨v1, hv1, w1⟩ := to.rr.look h2
      rw [hv0] at hv1; cases hv1
      obtain ⟨l, xs, rfl, hl, wA⟩ := w1.lstI
      have ex := wkA_ints wA
      subst ex
      have ew := (oo.w0 to.rr (opInt_look h3)).intI
      subst ew
      exact ⟨l, is, n, rfl, rfl, SqL.of hl, k _ H1 fp1 al1 [] (to.less fun p z => by cases z) (.int _)⟩
  · cases q
/-- dict(xs), xs pairs of keys and data without lists -/
def asPairs : List PyData → Option (List (Key × PyData))
  | [] => some []
  | .tuple [k, d] :: r => (keyOf k).bind fun k => if imm d = true then (asPairs r).bind fun ps => some ((k, d) :: ps) else none
  | _ => none
def mergeP (ks more : List (Key × PyData)) : List (Key × PyData) := more.foldl (fun acc p => putP acc p.1 p.2) ks
def cDictP : List PyData → Option PyData
  | [.list ds] => (asPairs ds).bind fun ps => some (Dk.k (mergeP [] ps)).data
  | _ => none
def rDictP (K : PySem.W.Frag) : List V → Hp → VK → Prop := fun xs H Q => ∃ (a : Addr) (ps : List Addr) (kvs : List (Key × V)), xs = [.ref a] ∧ SqL K H a (ps.map V.ref) ∧ Paired (fun p kv => SqT K H p [kV kv.1, kv.2]) ps kvs ∧ ∀ p, H p = none → Q (.ref p) (upd H p (.dK (mergeK [] kvs)))
theorem pairs_at : ∀ {ds : List PyData} {ks : List (Key × PyData)} {xs : List V}, asPairs ds = some ks → W0A K H xs ds → ∃ (ps : List Addr) (kvs : List (Key × V)), xs = ps.map V.ref ∧ Paired (fun p kv => SqT K H p [kV kv.1, kv.2]) ps kvs ∧ kvs.map (·.1) = ks.map (·.1) ∧ OwnA K H (kvs.map (·.2)) (ks.map (·.2)) []
  | [], ks, xs, h, w => by
    cases h
    cases w
    exact ⟨[], [], rfl, .nil, rfl, .nil⟩
  | d :: r, ks, xs, h, w => by
    unfold asPairs at h
    split at h
    · rename_i z; cases z
    · rename_i kd c r' e
      cases e
      obtain ⟨k, h1, h⟩ := Option.bind_eq_some_iff.mp h
      split at h
      · rename_i hi
        obtain ⟨ks', h2, h⟩ := Option.bind_eq_some_iff.mp h
        cases h
        cases w with
        | cons a b =>
          obtain ⟨ps, kvs, rfl, h3, h4, h5⟩ := pairs_at h2 b
          obtain ⟨p, ys, rfl, hp, wA⟩ := Wk.tupJ a
          cases wA with
          | @cons v1 _ _ _ q1 q2 =>
            cases q2 with
            | @cons v2 _ _ _ q2 q3 =>
              cases q3
              have ek := wk_key q1 h1
              subst ek
              exact ⟨p :: ps, (k, v2) :: kvs, rfl, .cons (SqT.of hp) h3, by simp [h4], OwnA.cons (f := []) (g := []) (q2.own hi) h5 (by simp)⟩
      · cases h
    · cases h
theorem OwnA.parts0 {v : V} {vs : List V} {d : PyData} {ds : List PyData} {f : List Addr} (h : OwnA K H (v :: vs) (d :: ds) f) (hf : f = []) : Own K H v d [] ∧ OwnA K H vs ds [] := by
  cases h with
  | @cons _ _ _ _ f1 f2 a b dj =>
    obtain ⟨rfl, rfl⟩ := List.append_eq_nil_iff.mp hf
    exact ⟨a, b⟩
theorem merge_own : ∀ {kvs : List (Key × V)} {ks : List (Key × PyData)} {acc : List (Key × V)} {acd : List (Key × PyData)}, kvs.map (·.1) = ks.map (·.1) → OwnA K H (kvs.map (·.2)) (ks.map (·.2)) [] → acc.map (·.1) = acd.map (·.1) → OwnA K H (acc.map (·.2)) (acd.map (·.2)) [] →
    (mergeK acc kvs).map (·.1) = (mergeP acd ks).map (·.1) ∧ OwnA K H ((mergeK acc kvs).map (·.2)) ((mergeP acd ks).map (·.2)) []
  | [], [], acc, acd, _, _, e, o => ⟨e, o⟩
  | p :: r, q :: s, acc, acd, h, w, e, o => by
    simp only [List.map_cons, List.cons.injEq] at h
    obtain ⟨oa, ob'⟩ := OwnA.parts0 (show OwnA K H (p.2 :: r.map (·.2)) (q.2 :: s.map (·.2)) [] from w) rfl
    obtain ⟨e9, g', oN, sN⟩ := put_own p.1 oa e o
    have hg : g' = [] := by
      cases g' with
      | nil => rfl
      | cons x _ => exact absurd (sN x List.mem_cons_self) (by simp)
    subst hg
    rw [show mergeK acc (p :: r) = mergeK (putK acc p.1 p.2) r from rfl, show mergeP acd (q :: s) = mergeP (putP acd q.1 q.2) s from rfl, ← h.1]
    exact merge_own h.2 ob' e9 oN
  | [], _ :: _, _, _, h, _, _, _ => by simp at h
  | _ :: _, [], _, _, h, _, _, _ => by simp at h
theorem fr_dictP : FrN K (rDictP K) cDictP := by
  intro ds c q vs H Q ww k
  unfold cDictP at q
  split at q
  · rename_i es
    obtain ⟨ps, h1, q⟩ := Option.bind_eq_some_iff.mp q
    cases q
    obtain ⟨v, rfl, w⟩ := W0A.one ww
    obtain ⟨a, xs, rfl, ha, wA⟩ := w.lstI
    obtain ⟨as, kvs, rfl, h3, h4, h5⟩ := pairs_at h1 wA
    refine ⟨a, as, kvs, rfl, SqL.of ha, h3, fun p hp => ?_⟩
    obtain ⟨e9, oN⟩ := merge_own (acc := []) (acd := []) h4 h5 rfl .nil
    have st := same_upd (o := .dK (mergeK [] kvs)) hp
    exact k _ _ [p] st (.dk upd_same (by simp only [List.map_map, Function.comp_def]; have := congrArg (List.map keyD) e9; simp only [List.map_map, Function.comp_def] at this; exact this.symm) (by simpa [Function.comp_def] using oN.same st) (by simp)) fun b z => by rw [List.mem_singleton.mp z]; exact hp
  · cases q
/-- f(..)[i]: a part of what is given away -/
theorem OwnA.get {vs : List V} {ds : List PyData} {f : List Addr} (h : OwnA K H vs ds f) {i : Nat} {d : PyData} (e : ds[i]? = some d) : ∃ v g, vs[i]? = some v ∧ Own K H v d g ∧ ∀ a ∈ g, a ∈ f := by
  induction ds generalizing vs f i with
  | nil => simp at e
  | cons c r ih =>
    cases h with
    | @cons v vs' _ _ f1 f2 a b dj =>
      cases i with
      | zero => simp at e; subst e; exact ⟨v, f1, rfl, a, fun x z => List.mem_append_left _ z⟩
      | succ i =>
        obtain ⟨w, g, h1, h2, h3⟩ := ih (i := i) b (by simpa using e)
        exact ⟨w, g, by simpa using h1, h2, fun x z => List.mem_append_right _ (h3 x z)⟩
def mIxG (a : ME) (n : Nat) : ME := fun e => (a e).bind fun p => match p.1 with
  | .tuple ds => (ds[n]?).bind fun d => some (d, p.2)
  | _ => none
theorem re_ixG {t : TE} {a : ME} {n : Nat} (h : RE K t a) : RE K (tOp (rIx K) t (tC (.int n))) (mIxG a n) := by
  intro e c e' q bv fp al σ H Q rr k
  obtain ⟨⟨d, e1⟩, h1, q⟩ := Option.bind_eq_some_iff.mp q
  dsimp only at q
  split at q
  · rename_i ds
    obtain ⟨c', h2, q⟩ := Option.bind_eq_some_iff.mp q
    cases q
    refine h e _ _ h1 bv fp al σ H _ rr fun v H1 fp1 al1 fv to o => ?_
    cases o with
    | @tup p xs _ _ hp oA =>
      obtain ⟨w, g, hw, ow, sg⟩ := oA.get h2
      exact .inr (.inl ⟨p, xs, n, w, rfl, rfl, SqT.of hp, atI_nat hw, k w H1 fp1 al1 g (to.less fun a z => sg a z) ow⟩)
  · cases q
end
end Dl
/-! texts -/
namespace Dl
open PySem L2 PyProof.Rows PySem.SeqAt
section
variable {K : PySem.W.Frag} {bv : List V} {e e' e1 e2 : Dl.Env} {fp fp' fp1 fp2 al al' al1 al2 T T1 T2 φ : Addr → Prop} {σ : L2.St} {H H' H1 H2 : Hp}
def asStrs : List PyData → Option (List Str)
  | [] => some []
  | .str i :: r => (asStrs r).bind fun is => some (i :: is)
  | _ => none
theorem asStrs_map : ∀ is : List Str, asStrs (is.map .str) = some is
  | [] => rfl
  | i :: r => by simp [asStrs, asStrs_map r]
theorem asStrs_eq : ∀ {ds : List PyData} {is : List Str}, asStrs ds = some is → ds = is.map .str
  | [], is, h => by cases h; rfl
  | .str i :: r, is, h => by
    obtain ⟨js, h1, h⟩ := Option.bind_eq_some_iff.mp h
    cases h
    rw [asStrs_eq h1]; rfl
  | .none :: _, _, h => by cases h
  | .bool _ :: _, _, h => by cases h
  | .int _ :: _, _, h => by cases h
  | .list _ :: _, _, h => by cases h
  | .tuple _ :: _, _, h => by cases h
  | .dict _ :: _, _, h => by cases h
theorem wkA_strs : ∀ {xs : List V} {is : List Str}, WkA K H φ xs (is.map .str) → xs = is.map V.str
  | _, [], w => by cases w; rfl
  | _, i :: r, w => by
    cases w with
    | cons a b => rw [wkA_strs b, a.strI]; rfl
theorem own_strs : ∀ ns : List Str, OwnA K H (ns.map V.str) (ns.map .str) []
  | [] => .nil
  | n :: r => OwnA.cons (f := []) (g := []) (.str n) (own_strs r) (by simp)
def isStr : PyData → Bool
  | .str _ => true
  | _ => false
/-- a text's method of one argument -/
def FrM (K : PySem.W.Frag) (r : V → List V → Hp → VK → Prop) (f : PyData → PyData → Option PyData) : Prop := ∀ (d d' c : PyData), f d d' = some c → ∀ (x y : V) (H : Hp) (Q : VK), W0 K H x d → W0 K H y d' →
  (∀ (v : V) (H' : Hp) (fv : List Addr), Same H H' → Own K H' v c fv → (∀ a ∈ fv, H a = none) → Q v H') → r x [y] H Q
def mM1 (f : PyData → PyData → Option PyData) (a b : MO) : ME := fun e => (a e).bind fun p => (p.1.look p.2).bind fun d0 => if isStr d0 = true then (b p.2).bind fun q => (p.1.look q.2).bind fun x => (q.1.look q.2).bind fun y => (f x y).bind fun c => some (c, q.2) else none
theorem re_m1 {r : V → List V → Hp → VK → Prop} {f : PyData → PyData → Option PyData} {ta tb : TE} {a b : MO} (hr : FrM K r f) (ha : RO K ta a) (hb : RO K tb b) : RE K (tM1 r ta tb) (mM1 f a b) := by
  intro e c e' q bv fp al σ H Q rr k
  obtain ⟨⟨o1, e1⟩, h1, q⟩ := Option.bind_eq_some_iff.mp q
  obtain ⟨d0, h2, q⟩ := Option.bind_eq_some_iff.mp q
  split at q
  rotate_left
  · cases q
  rename_i hs
  obtain ⟨⟨o2, e2⟩, h3, q⟩ := Option.bind_eq_some_iff.mp q
  obtain ⟨x, h4, q⟩ := Option.bind_eq_some_iff.mp q
  obtain ⟨y, h5, q⟩ := Option.bind_eq_some_iff.mp q
  obtain ⟨c', h6, q⟩ := Option.bind_eq_some_iff.mp q
  cases q
  refine ha e o1 e1 h1 bv fp al σ H _ rr fun v H1 fp1 al1 f1 to1 oo1 => ⟨?_, hb e1 o2 _ h3 bv fp1 al1 σ H1 _ to1.rr fun w H2 fp2 al2 f2 to2 oo2 => ?_⟩
  · have w := oo1.w0 to1.rr h2
    cases d0 with
    | str s => exact ⟨s, w.strI⟩
    | _ => cases hs
  · have oo1' := oo1.step to2.step fun a z => (to1.tmp a z).1
    refine hr x y _ h6 v w H2 Q (oo1'.w0 to2.rr h4) (oo2.w0 to2.rr h5) fun u H3 fu s o n => ?_
    exact k u H3 _ _ fu (((to1.trans to2).less (T1 := fun _ => False) fun _ z => z.elim).newv s o n) o
def dJoin : PyData → PyData → Option PyData
  | .str a, .list ds => (asStrs ds).bind fun ys => if (ys.map (·.length)).sum + ys.length * a.length ≤ 16777216 then some (.str (Txt.join a ys)) else none
  | _, _ => none
theorem fr_join : FrM K (fun x xs H Q => ∃ a p, ∃ ys : List Str, x = .str a ∧ xs = [.ref p] ∧ (SqL K H p (ys.map V.str) ∨ SqT K H p (ys.map V.str)) ∧ (ys.map (·.length)).sum + ys.length * a.length ≤ 16777216 ∧ Q (.str (Txt.join a ys)) H) dJoin := by
  intro d d' c q x y H Q wx wy k
  unfold dJoin at q
  split at q
  · rename_i a ds
    obtain ⟨ys, h1, q⟩ := Option.bind_eq_some_iff.mp q
    split at q
    · rename_i hl
      cases q
      have ed := asStrs_eq h1
      subst ed
      cases wx.strI
      obtain ⟨p, xs, rfl, hp, wA⟩ := wy.lstI
      have ex := wkA_strs wA
      subst ex
      exact ⟨a, p, ys, rfl, rfl, .inl (SqL.of hp), hl, k _ H [] (Same.refl _) (.str _) fun a z => by cases z⟩
    · cases q
  · cases q
def dSplit : PyData → PyData → Option PyData
  | .str a, .str b => if (b.length == 0) = false ∧ a.length + 2 ≤ 16777216 then some (.list ((Txt.split a b).map .str)) else none
  | _, _ => none
theorem fr_split : FrM K (fun x xs H Q => ∃ a b, x = .str a ∧ xs = [.str b] ∧ (b.length == 0) = false ∧ a.length + 2 ≤ sizeLine ∧ rNewStrs (Txt.split a b) H Q) dSplit := by
  intro d d' c q x y H Q wx wy k
  unfold dSplit at q
  split at q
  · rename_i a b
    split at q
    · rename_i h
      cases q
      cases wx.strI
      cases wy.strI
      refine ⟨a, b, rfl, rfl, h.1, by rw [sizeLine_eq]; exact h.2, fun p hp => ?_⟩
      obtain ⟨s, o, n⟩ := new_lst (own_strs (K := K) (H := H) (Txt.split a b)) hp
      exact k _ _ _ s o n
    · cases q
  · cases q
/-- str(n), int(text) -/
def cStr : List PyData → Option PyData
  | [.int i] => if i.natAbs.log2 < 1920 then some (.str (toString i)) else none
  | _ => none
theorem fr_str : FrN K (fun xs H Q => ∃ i : Int, xs = [.int i] ∧ i.natAbs.log2 < 1920 ∧ Q (.str (toString i)) H) cStr := by
  intro ds c q vs H Q ww k
  unfold cStr at q
  split at q
  · rename_i i
    split at q
    · rename_i h
      cases q
      obtain ⟨v, rfl, w⟩ := W0A.one ww
      cases w.intI
      exact ⟨i, rfl, h, k _ H [] (Same.refl _) (.str _) fun a z => by cases z⟩
    · cases q
  · cases q
def cIntS : List PyData → Option PyData
  | [.str a] => if a.length ≤ 640 then (PySem.intText? a).bind fun n => some (.int n) else none
  | _ => none
theorem fr_intS : FrN K (fun xs H Q => ∃ a n, xs = [.str a] ∧ PySem.intText? a = some n ∧ a.length ≤ 640 ∧ Q (.int n) H) cIntS := by
  intro ds c q vs H Q ww k
  unfold cIntS at q
  split at q
  · rename_i a
    split at q
    · rename_i h
      obtain ⟨n, h1, q⟩ := Option.bind_eq_some_iff.mp q
      cases q
      obtain ⟨v, rfl, w⟩ := W0A.one ww
      cases w.strI
      exact ⟨a, n, rfl, h1, h, k _ H [] (Same.refl _) (.int _) fun a z => by cases z⟩
    · cases q
  · cases q
/-- a sign not in a text -/
def dNotInS : PyData → PyData → Option PyData
  | .str s, .str z => match s.cps.toList with
    | [c] => some (.bool (!decide (c ∈ z.cps.toList)))
    | _ => none
  | _, _ => none
theorem fr_notInS : Fr2 K (fun x y H Q => ∃ (c : Nat) (z : Str), x = .str ⟨#[c]⟩ ∧ y = .str z ∧ Q (.bl (!decide (c ∈ z.cps.toList))) H) dNotInS := by
  intro d d' c q x y H Q wx wy k
  unfold dNotInS at q
  split at q
  · rename_i s z
    split at q
    · rename_i ch hs
      cases q
      have ex := wx.strI
      cases wy.strI
      have es : s = ⟨#[ch]⟩ := by
        cases s with
        | mk cps =>
          congr 1
          apply Array.toList_inj.mp
          simpa using hs
      rw [es] at ex
      exact ⟨ch, z, ex, rfl, k _ H [] (Same.refl _) (.bl _) fun a z => by cases z⟩
    · cases q
  · cases q
/-- for c in s -/
def signs (z : Str) : List PyData := z.cps.toList.map fun c => .str ⟨#[c]⟩
theorem walk_str {z : Str} : Walk K (Its z) (signs z) (fun _ => False) (fun _ => True) where
  keep := fun _ _ _ _ _ _ _ => trivial
  item := fun i d H _ e => by
    unfold signs at e
    rw [List.getElem?_map] at e
    obtain ⟨c, hc, rfl⟩ := Option.map_eq_some_iff.mp e
    have hi := (List.getElem?_eq_some_iff.mp hc).1
    rw [Array.length_toList] at hi
    refine ⟨hi, fun x H1 hx => ?_⟩
    obtain ⟨rfl, c', hc', rfl⟩ := hx
    rw [← Array.getElem?_toList, hc] at hc'
    cases hc'
    exact ⟨Same.refl _, [], .str _, fun a z => by cases z⟩
  stop := fun i H _ h => by
    unfold signs at h
    rw [List.length_map, Array.length_toList] at h
    exact h
def mItS (a : MO) : MI := fun e => (a e).bind fun p => match p.1.look p.2 with
  | some (.str z) => some (signs z, p.2)
  | _ => none
theorem ri_str {t : TE} {a : MO} (h : RO K t a) : RI K (iStr t) (mItS a) := by
  intro e ds e' q bv fp al σ H Rq rr k
  obtain ⟨⟨o, e1⟩, h1, q⟩ := Option.bind_eq_some_iff.mp q
  dsimp only at q
  split at q
  · rename_i z hz
    cases q
    refine h e o _ h1 bv fp al σ H _ rr fun v H1 fp1 al1 fv to oo => ?_
    have w := (oo.w0 to.rr hz).strI
    exact ⟨z, w, k _ H1 fp1 al1 (fun _ => False) _ (to.less fun _ z => False.elim z) trivial walk_str fun _ z => False.elim z⟩
  · cases q
/-- enumerate(xs), xs a new list -/
theorem walk_enumL {a : Addr} {xs : List V} {ds : List PyData} (hi : immA ds = true) : Walk K (Ite K a) (numD 0 ds) (fun b => b = a) (fun H' => H' a = some (.lst xs) ∧ OwnA K H' xs ds []) where
  keep := fun g g' Ha Hb t s n => ⟨s.stay a _ t.1 (.inl (n a rfl)), t.2.step s fun a z => by cases z⟩
  item := fun i d H t e => by
    obtain ⟨c, h1, h2⟩ := numD_get ds 0 i d e
    rw [Nat.zero_add] at h2
    obtain ⟨x, hx, ox⟩ := own_get t.2 hi h1
    refine ⟨⟨xs, x, SqL.of t.1, hx⟩, fun y H1 hy => ?_⟩
    obtain ⟨T, x', rfl, hT, rfl, hx'⟩ := hy
    have := hx' xs (SqL.of t.1)
    rw [hx] at this; cases this
    obtain ⟨s, o⟩ := pair_new (.int _) ox hT
    subst h2
    exact ⟨s, [], o, fun a z => by cases z⟩
  stop := fun i H t h => ⟨xs, SqL.of t.1, by rw [t.2.length]; rwa [numD_len] at h⟩
def mEnumL (m : ME) : MI := fun e => (m e).bind fun p => match p.1 with
  | .list ds => (immL ds).bind fun ds => some (numD 0 ds, p.2)
  | _ => none
theorem ri_enumL {t : TE} {m : ME} (h : RE K t m) : RI K (iEnum K (tCons t tNil)) (mEnumL m) := by
  intro e ds e' q bv fp al σ H Rq rr k
  obtain ⟨⟨d, e1⟩, h1, q⟩ := Option.bind_eq_some_iff.mp q
  dsimp only at q
  split at q
  · rename_i cs
    obtain ⟨c, h2, q⟩ := Option.bind_eq_some_iff.mp q
    cases q
    obtain ⟨rfl, hi⟩ := immL_some h2
    refine h e _ _ h1 bv fp al σ H _ rr fun v H' fp' al' fv to o => ?_
    cases o with
    | @lst a xs _ f hl oA n =>
      exact ⟨a, xs, rfl, SqL.of hl, k _ H' fp' al' (fun b => b = a) _ (to.less fun _ z => False.elim z) ⟨hl, (oA.wk (φ := fun _ => True) fun _ _ => trivial).own hi⟩ (walk_enumL hi) fun b hb => hb ▸ ⟨(to.tmp a List.mem_cons_self).1, _, hl⟩⟩
  · cases q
def rJoin (K : PySem.W.Frag) : V → List V → Hp → VK → Prop := fun x xs H Q => ∃ a p, ∃ ys : List Str, x = .str a ∧ xs = [.ref p] ∧ (SqL K H p (ys.map V.str) ∨ SqT K H p (ys.map V.str)) ∧ (ys.map (·.length)).sum + ys.length * a.length ≤ 16777216 ∧ Q (.str (Txt.join a ys)) H
/-- a join inside of a comprehension -/
theorem pe_joinK {X : Cx} {o e : Expr} {ot te : TE} (hK : X.K = K) {apos pos : Pos} (ho : PE X o ot) (he : PE X e te) (hs : starEach [e] X.env = [(false, eval e X.env)] := by rfl) (hbase : attributeBase o "join" X.env (eval o X.env) = eval o X.env := by rfl) (hline : (apos.endLine == pos.line) = true := by rfl) :
    PE X (.Call (.Attribute o "join" apos) [e] [] pos) (tM1 (rJoin K) ot te) := by
  subst hK
  exact pe_join ho he hs hbase hline
end
end Dl
/-! objects of the program's own classes -/
namespace Dl
open PySem L2 PyProof.Rows
/-- the class named nm, plain, and of these fields -/
structure ClsF (K : PySem.W.Frag) (nm : Str) (fs : List Str) : Prop where
  cl : ∀ C, PySem.W.nsIn K mainGlobals nm = some (some (.ref C)) → Cls K C
  no : ∀ C, PySem.W.nsIn K mainGlobals nm = some (some (.ref C)) → ∀ f ∈ fs, NoAttr K C f
section
variable {K : PySem.W.Frag} {bv : List V} {e e' e1 e2 : Dl.Env} {fp fp' fp1 fp2 al al' al1 al2 T T1 T2 φ : Addr → Prop} {σ : L2.St} {H H' H1 H2 : Hp}
def lkS (f : Str) : List (PyData × PyData) → Option PyData
  | [] => none
  | (.str g, d) :: r => if f = g then some d else lkS f r
  | _ :: _ => none
def putS (f : Str) (c : PyData) : List (PyData × PyData) → List (PyData × PyData)
  | [] => [(.str f, c)]
  | (k, d) :: r => match k with
    | .str g => if g = f then (k, c) :: r else (k, d) :: putS f c r
    | _ => (k, d) :: r
def asI (nm : Str) : PyData → Option (List (PyData × PyData))
  | .dict ((.none, .str n) :: cs) => if n = nm then some cs else none
  | _ => none
theorem asI_eq {nm : Str} {d : PyData} {cs : List (PyData × PyData)} (h : asI nm d = some cs) : d = .dict ((.none, .str nm) :: cs) := by
  unfold asI at h
  split at h
  · split at h
    · rename_i hn
      cases h
      rw [hn]
    · cases h
  · cases h
def fldD (nm f : Str) (d : PyData) : Option PyData := (asI nm d).bind (lkS f)
theorem Wk.insI {v : V} {nm : Str} {cs : List (PyData × PyData)} (h : Wk K H φ v (.dict ((.none, .str nm) :: cs))) : ∃ a C dx fs, v = .ref a ∧ PySem.W.nsIn K mainGlobals nm = some (some (.ref C)) ∧ H a = some (.ins C dx fs) ∧ cs.map (·.1) = fs.map (fun p => PyData.str p.1) ∧ WkA K H φ (fs.map (·.2)) (cs.map (·.2)) := by
  cases h with
  | @dk _ kvs _ h e n w =>
    exfalso
    rw [List.map_cons] at e
    cases kvs with
    | nil => exact absurd e (by simp)
    | cons p r =>
      rw [List.map_cons] at e
      obtain ⟨k, _⟩ := p
      have e1 := (List.cons.inj e).1
      cases k <;> cases e1
  | ins c h e n w => exact ⟨_, _, _, _, rfl, c, h, e, w⟩
theorem Own.insI {v : V} {nm : Str} {cs : List (PyData × PyData)} {f : List Addr} (h : Own K H v (.dict ((.none, .str nm) :: cs)) f) : ∃ a C dx fs g, v = .ref a ∧ f = a :: g ∧ PySem.W.nsIn K mainGlobals nm = some (some (.ref C)) ∧ H a = some (.ins C dx fs) ∧ cs.map (·.1) = fs.map (fun p => PyData.str p.1) ∧ OwnA K H (fs.map (·.2)) (cs.map (·.2)) g ∧ a ∉ g := by
  cases h with
  | @dk _ kvs _ _ h e n w =>
    exfalso
    rw [List.map_cons] at e
    cases kvs with
    | nil => exact absurd e (by simp)
    | cons p r =>
      rw [List.map_cons] at e
      obtain ⟨k, _⟩ := p
      have e1 := (List.cons.inj e).1
      cases k <;> cases e1
  | ins c h e w n => exact ⟨_, _, _, _, _, rfl, rfl, c, h, e, w, n⟩
theorem lk_wk {f : Str} {d : PyData} : ∀ {fs : List (Str × V)} {cs : List (PyData × PyData)}, cs.map (·.1) = fs.map (fun p => PyData.str p.1) → WkA K H φ (fs.map (·.2)) (cs.map (·.2)) → lkS f cs = some d → ∃ v, fs.lookup f = some v ∧ Wk K H φ v d
  | [], [], _, _, q => by cases q
  | (g, v) :: r, (k, c) :: s, e, w, q => by
    rw [List.map_cons, List.map_cons] at e w
    obtain ⟨e1, e2⟩ := List.cons.inj e
    have e1' : k = .str g := e1
    subst e1'
    cases w with
    | cons w1 w2 =>
      simp only [lkS] at q
      by_cases h : f = g
      · rw [if_pos h] at q
        cases q
        exact ⟨v, by rw [List.lookup, h]; simp, w1⟩
      · rw [if_neg h] at q
        obtain ⟨u, h1, h2⟩ := lk_wk e2 w2 q
        exact ⟨u, by rw [List.lookup, beq_eq_false_iff_ne.mpr h]; exact h1, h2⟩
  | [], _ :: _, e, _, _ => by cases e
  | _ :: _, [], e, _, _ => by cases e
theorem lk_none {f : Str} : ∀ {fs : List (Str × V)} {cs : List (PyData × PyData)}, cs.map (·.1) = fs.map (fun p => PyData.str p.1) → lkS f cs = none → fs.lookup f = none
  | [], [], _, _ => rfl
  | (g, v) :: r, (k, c) :: s, e, q => by
    rw [List.map_cons, List.map_cons] at e
    obtain ⟨e1, e2⟩ := List.cons.inj e
    have e1' : k = .str g := e1
    subst e1'
    simp only [lkS] at q
    by_cases h : f = g
    · rw [if_pos h] at q; cases q
    · rw [if_neg h] at q
      rw [List.lookup, beq_eq_false_iff_ne.mpr h]
      exact lk_none e2 q
  | [], _ :: _, e, _ => by cases e
  | _ :: _, [], e, _ => by cases e
/-- o.f, read alone -/
def vFld (nm f : Str) (a : MV) : MV := fun e => (a e).bind (fldD nm f)
theorem rv_fld {nm f : Str} {fs : List Str} {ta : TE} {a : MV} (T : ClsF K nm fs) (hf : f ∈ fs) (ha : RV K ta a) : RV K (tFld K ta f) (vFld nm f a) := by
  intro e d q bv fp al σ H Q r k
  obtain ⟨x, h1, q⟩ := Option.bind_eq_some_iff.mp q
  obtain ⟨cs, h2, q⟩ := Option.bind_eq_some_iff.mp q
  refine ha e x h1 bv fp al σ H _ r fun v wv => ?_
  rw [asI_eq h2] at wv
  obtain ⟨p, C, dx, gs, rfl, hc, hp, ek, w⟩ := wv.insI
  obtain ⟨u, hu, wu⟩ := lk_wk ek w q
  exact ⟨p, C, dx, gs, u, rfl, hp, T.cl C hc, T.no C hc f hf, hu, k u wu⟩
/-- o.m(..) that changes o -/
def mMethB (nm m : Str) (n : Nat) (f : PyData → List PyData → Option (PyData × PyData)) (i : Nat) (a : MA) : ME := fun e => (e.look i).bind fun d => (asI nm d).bind fun cs => match lkS m cs with
  | none => mCallB n f i a e
  | some _ => none
theorem re_meth {nm m : Str} {C : Addr} {n : Nat} {f : PyData → List PyData → Option (PyData × PyData)} {i : Nat} {t : TA} {a : MA} {E : XK} (hC : PySem.W.nsIn K mainGlobals nm = some (some (.ref C))) (h : RA K t a) : RE K (tMeth C m (spB K n f) [] E (tVar i) t) (mMethB nm m n f i a) := by
  intro e d e' q bv fp al σ H Q rr k
  obtain ⟨d0, h0, q⟩ := Option.bind_eq_some_iff.mp q
  obtain ⟨cs, h1, q⟩ := Option.bind_eq_some_iff.mp q
  split at q
  rotate_left
  · cases q
  rename_i hl
  obtain ⟨v, hv, w⟩ := rr.look h0
  rw [asI_eq h1] at w
  obtain ⟨p, C', dx, gs, rfl, hc, hp, ek, _⟩ := w.insI
  rw [hC] at hc
  cases hc
  obtain ⟨v2, hv2, r2⟩ := re_callBor (E := E) h e d e' q bv fp al σ H Q rr k
  rw [hv] at hv2
  cases hv2
  exact ⟨_, hv, p, dx, gs, rfl, hp, lk_none ek hl, r2⟩
/-- C(..) -/
def mMake (nm : Str) (n : Nat) (f : PyData → List PyData → Option (PyData × PyData)) (a : MA) : ME := fun e => (a e).bind fun p => (looks p.2 p.1).bind fun ds => if immA ds = true ∧ ds.length = n then (f (.dict [(.none, .str nm)]) ds).bind fun q => match q.1 with
  | .none => some (q.2, p.2)
  | _ => none else none
theorem re_make {nm : Str} {C : Addr} {n : Nat} {f : PyData → List PyData → Option (PyData × PyData)} {t : TA} {a : MA} {E : XK} (hC : PySem.W.nsIn K mainGlobals nm = some (some (.ref C))) (h : RA K t a) : RE K (tMake C (spB K n f) [] E t) (mMake nm n f a) := by
  intro e d e' q bv fp al σ H Q rr k
  obtain ⟨⟨os, e1⟩, h1, q⟩ := Option.bind_eq_some_iff.mp q
  obtain ⟨ds, h2, q⟩ := Option.bind_eq_some_iff.mp q
  split at q
  rotate_left
  · cases q
  rename_i hi
  obtain ⟨⟨c, b'⟩, h5, q⟩ := Option.bind_eq_some_iff.mp q
  dsimp only at q
  split at q
  rotate_left
  · cases q
  cases q
  refine h e os e' h1 bv fp al σ H _ rr fun vs H1 fp1 al1 f1 to o1 x dx nx ndx nex => ?_
  have w := o1.w0 to.rr h2
  have s1 : Same H1 (upd H1 dx (.own x)) := same_upd ndx
  have nx2 : upd H1 dx (.own x) x = none := by rw [upd_ne (Ne.symm nex)]; exact nx
  have s2 : Same H1 (upd (upd H1 dx (.own x)) x (.ins C dx [])) := fun b u q => same_upd nx2 b u (s1 b u q)
  have oA := (w.own hi.1).step (Step.of_same (f := fun _ => False) (f1 := fun _ => False) s2 fun _ z => z.elim) fun a z => by cases z
  refine ⟨.ref x, vs ++ [], [x], _, ds, _, _, rfl, h5, hi.2, .ins (cs := []) (fs := []) (f := []) hC upd_same rfl .nil (by simp), by rw [List.append_nil]; exact oA.wk (fun a z => by cases z), fun v H2 fb' fv ob ov dj st => ?_⟩
  have fvn : fv = [] ∧ v = .non := by cases ov; exact ⟨rfl, rfl⟩
  obtain ⟨rfl, rfl⟩ := fvn
  have hnb : ∀ a ∈ fb', H1 a = none := fun a z => by
    rcases st.new a (.inl z) with y | y
    · have : a = x := by simpa using y
      rw [this]; exact nx
    · cases hh : H1 a with
      | none => rfl
      | some u => rw [s2 a u hh] at y; cases y
  have nox : ∀ a, (∃ u, H1 a = some u) → ¬ a ∈ [x] := fun a hu z => by
    obtain ⟨u, hu⟩ := hu
    have : a = x := by simpa using z
    rw [this, nx] at hu; cases hu
  obtain ⟨fo, F, rf⟩ := to.rr.more (al' := fun a => al1 a ∨ a ∈ fb') (fun a z => z.elim .inl fun z => .inr (hnb a z)) (fun a z => .inl z)
  refine ⟨rfl, k (.ref x) H2 fp1 (fun a => al1 a ∨ a ∈ fb') fb' ⟨⟨fo, F, (rf.step (g := fun _ => False) (g' := fun _ => False) (.of_same s2 fun _ z => z.elim) (fun _ _ z => z) fun _ _ z => z).step st (fun a z => nox a (rf.alv a z)) fun a z => nox a (rf.fof a z).2⟩, fun a z y => .inl (to.mono a z y), ?_, fun a z => ?_⟩ ob⟩
  · refine to.step.trans ⟨fun p u hu _ => st.stay p u (s2 p u hu) (.inl (nox p ⟨u, hu⟩)), fun p hp => hp.elim (fun z => .inl (.inl z)) fun z => .inr (hnb p z), fun p u hu => ⟨u, st.stay p u (s2 p u hu) (.inl (nox p ⟨u, hu⟩))⟩⟩
  · refine ⟨fun y => ?_, .inr z, ob.alive a z⟩
    obtain ⟨u, hu⟩ := rf.alv a y
    rw [hnb a z] at hu; cases hu
theorem storeI {a : Addr} {u o : HO} (h : H a = some u) (m : Mut (some u)) (f : List Addr) (ha : a ∈ f) : Step (· ∈ f) H (· ∈ f) (upd H a o) :=
  ⟨fun p w hw hp => (Step.up1 h m).stay p w hw (hp.elim (fun z => .inl fun y => z (y ▸ ha)) .inr), fun _ z => .inl z, (Step.up1 h m).live⟩
theorem putF_own {f : Str} {c : PyData} {y : V} {g : List Addr} (oy : Own K H y c g) : ∀ {fs : List (Str × V)} {cs : List (PyData × PyData)} {fl : List Addr}, cs.map (·.1) = fs.map (fun p => PyData.str p.1) → OwnA K H (fs.map (·.2)) (cs.map (·.2)) fl → (∀ a ∈ g, a ∉ fl) →
    ∃ fl', (putS f c cs).map (·.1) = (putF f y fs).map (fun p => PyData.str p.1) ∧ OwnA K H ((putF f y fs).map (·.2)) ((putS f c cs).map (·.2)) fl' ∧ ∀ a ∈ fl', a ∈ fl ∨ a ∈ g
  | [], [], fl, _, o, _ => ⟨g, rfl, by simpa [putS, putF] using OwnA.cons (g := []) oy .nil (by simp), fun _ z => .inr z⟩
  | (h, v) :: r, (k, d) :: s, fl, e, o, dj => by
    rw [List.map_cons, List.map_cons] at e o
    obtain ⟨e1, e2⟩ := List.cons.inj e
    have e1' : k = .str h := e1
    subst e1'
    cases o with
    | @cons _ _ _ _ f1 f2 o1 o2 n =>
      by_cases q : h = f
      · refine ⟨g ++ f2, ?_, ?_, fun a z => ?_⟩
        · simp only [putS, putF, if_pos q, List.map_cons, e2]
        · simp only [putS, putF, if_pos q, List.map_cons]
          exact .cons oy o2 fun a z y => dj a z (List.mem_append_right _ y)
        · rcases List.mem_append.mp z with z | z
          · exact .inr z
          · exact .inl (List.mem_append_right _ z)
      · obtain ⟨fl', q1, q2, q3⟩ := putF_own (f := f) oy e2 o2 fun a z y => dj a z (List.mem_append_right _ y)
        refine ⟨f1 ++ fl', ?_, ?_, fun a z => ?_⟩
        · simp only [putS, putF, if_neg q, List.map_cons, q1]
        · simp only [putS, putF, if_neg q, List.map_cons]
          refine .cons o1 q2 fun a z y => ?_
          rcases q3 a y with y | y
          · exact n a z y
          · exact dj a y (List.mem_append_left _ z)
        · rcases List.mem_append.mp z with z | z
          · exact .inl (List.mem_append_left _ z)
          · exact (q3 a z).elim (fun y => .inl (List.mem_append_right _ y)) .inr
  | [], _ :: _, _, e, _, _ => by cases e
  | _ :: _, [], _, e, _, _ => by cases e
theorem key_len {fs : List (Str × V)} {cs : List (PyData × PyData)} (e : cs.map (·.1) = fs.map (fun p => PyData.str p.1)) : fs.length = cs.length := by
  have := congrArg List.length e
  simpa using this.symm
/-- o.f = v -/
def sSetF (nm f : Str) (i : Nat) (m : ME) : MS := fun e => (m e).bind fun p => (p.2.ix i).bind fun x => (p.2.own x).bind fun d => (asI nm d).bind fun cs => if cs.length < 1000 then some (.nx (p.2.put x (.dict ((.none, .str nm) :: putS f p.1 cs)))) else none
theorem rs_setF {nm f : Str} {fs : List Str} {i : Nat} {tv : TE} {m : ME} (T : ClsF K nm fs) (hf : f ∈ fs) (h : RE K tv m) : RS K (sFld K (tVar i) tv f) (sSetF nm f i m) := by
  intro e o q bv fp σ H D rr k
  obtain ⟨⟨c, e1⟩, h1, q⟩ := Option.bind_eq_some_iff.mp q
  obtain ⟨x, h2, q⟩ := Option.bind_eq_some_iff.mp q
  obtain ⟨d, h3, q⟩ := Option.bind_eq_some_iff.mp q
  obtain ⟨cs, h4, q⟩ := Option.bind_eq_some_iff.mp q
  split at q
  rotate_left
  · cases q
  rename_i hl
  cases q
  have ed := asI_eq h4
  subst ed
  refine h e c e1 h1 bv fp fp σ H _ rr fun y H1 fp1 al1 fv to oy => ?_
  obtain ⟨v, g0, hv, ov, dj, fin⟩ := to.mut h2 h3
  obtain ⟨a, C, dx, gs, g, rfl, rfl, hC, ha, ek, oA, na⟩ := ov.insI
  obtain ⟨fl', e2, oN, sN⟩ := putF_own (f := f) oy ek oA fun b z y => dj b (List.mem_cons_of_mem _ y) z
  have nfv : a ∉ fv := dj a List.mem_cons_self
  have na' : a ∉ fl' := fun z => (sN a z).elim na nfv
  refine ⟨.ref a, hv, a, C, dx, gs, rfl, ha, T.cl C hC, T.no C hC f hf, by rw [key_len ek]; exact hl, ?_⟩
  have to' := fin (upd H1 a (.ins C dx (putF f y gs))) (.dict ((.none, .str nm) :: putS f c cs)) (a :: fl') [] (storeI ha trivial _ List.mem_cons_self) (.ins hC upd_same e2 (oN.upd_ ha trivial na') na') (fun b z => by
    rcases List.mem_cons.mp z with rfl | z
    · exact .inl List.mem_cons_self
    · exact (sN b z).elim (fun y => .inl (List.mem_cons_of_mem _ y)) .inr) fun b z => by cases z
  exact k σ _ _ to'.end_.1 to'.end_.2
theorem lk_at {f : Str} {d : PyData} : ∀ {fs : List (Str × V)} {cs : List (PyData × PyData)}, cs.map (·.1) = fs.map (fun p => PyData.str p.1) → lkS f cs = some d → ∃ k v, cs[k]? = some (.str f, d) ∧ (∀ c, putS f c cs = cs.set k (.str f, c)) ∧ fs[k]? = some (f, v) ∧ fs.lookup f = some v
  | [], [], _, q => by cases q
  | (g, v) :: r, (k, c) :: s, e, q => by
    rw [List.map_cons, List.map_cons] at e
    obtain ⟨e1, e2⟩ := List.cons.inj e
    have e1' : k = .str g := e1
    subst e1'
    simp only [lkS] at q
    by_cases h : f = g
    · rw [if_pos h] at q
      cases q
      exact ⟨0, v, by simp [h], fun c => by simp [putS, h], by simp [h], by rw [List.lookup, h]; simp⟩
    · rw [if_neg h] at q
      obtain ⟨n, u, h1, h2, h3, h4⟩ := lk_at e2 q
      refine ⟨n + 1, u, by simpa using h1, fun c => ?_, by simpa using h3, by rw [List.lookup, beq_eq_false_iff_ne.mpr h]; exact h4⟩
      simp only [putS, if_neg (Ne.symm h), h2, List.set_cons_succ]
  | [], _ :: _, e, _ => by cases e
  | _ :: _, [], e, _ => by cases e
/-! ### values made while all stands -/
def RU (K : PySem.W.Frag) (t : TE) (m : MV) : Prop := ∀ (e : Dl.Env) (d : PyData), m e = some d → ∀ (bv : List V) (fp al : Addr → Prop) (σ : L2.St) (H : Hp) (Q : VK), RR K bv e fp al σ H → (∀ v H', Same H H' → W0 K H' v d → Q v H') → t σ H Q
def RUs (K : PySem.W.Frag) (t : TA) (m : MVs) : Prop := ∀ (e : Dl.Env) (ds : List PyData), m e = some ds → ∀ (bv : List V) (fp al : Addr → Prop) (σ : L2.St) (H : Hp) (Q : List V → Hp → Prop), RR K bv e fp al σ H → (∀ vs H', Same H H' → W0A K H' vs ds → Q vs H') → t σ H Q
theorem ru_v {t : TE} {m : MV} (h : RV K t m) : RU K t m := fun e d q bv fp al σ H Q r k => h e d q bv fp al σ H Q r fun v w => k v H (Same.refl _) w
theorem Wk.same {v : V} {d : PyData} (s : Same H H') (w : W0 K H v d) : W0 K H' v d := w.step (Step.of_same (f := fun _ => False) (f1 := fun _ => False) s fun _ z => z.elim) fun _ _ z => z
theorem WkA.same {v : List V} {d : List PyData} (s : Same H H') (w : W0A K H v d) : W0A K H' v d := w.step (Step.of_same (f := fun _ => False) (f1 := fun _ => False) s fun _ z => z.elim) fun _ _ z => z
def uOp2 (f : PyData → PyData → Option PyData) (a b : MV) : MV := fun e => (a e).bind fun x => (b e).bind fun y => f x y
theorem ru_op2 {r : R2} {f : PyData → PyData → Option PyData} {ta tb : TE} {a b : MV} (hr : Fr2 K r f) (ha : RU K ta a) (hb : RU K tb b) : RU K (tOp r ta tb) (uOp2 f a b) := by
  intro e d q bv fp al σ H Q rr k
  obtain ⟨x, h1, q⟩ := Option.bind_eq_some_iff.mp q
  obtain ⟨y, h2, q⟩ := Option.bind_eq_some_iff.mp q
  refine ha e x h1 bv fp al σ H _ rr fun v H1 s1 w1 => hb e y h2 bv fp al σ H1 _ (rr.pure s1) fun u H2 s2 w2 => ?_
  exact hr x y d q v u H2 Q (w1.same s2) w2 fun z H3 fz s3 o n => k z H3 (Same.trans (Same.trans s1 s2) s3) o.w0
def uIf (c a b : MV) : MV := fun e => (c e).bind fun x => match x with
  | .bool true => a e
  | .bool false => b e
  | _ => none
theorem ru_if {tc ta tb : TE} {c a b : MV} (hc : RU K tc c) (ha : RU K ta a) (hb : RU K tb b) : RU K (tIf (tTest tc) ta tb) (uIf c a b) := by
  intro e d q bv fp al σ H Q rr k
  obtain ⟨x, h1, q⟩ := Option.bind_eq_some_iff.mp q
  split at q
  · refine hc e _ h1 bv fp al σ H _ rr fun v H1 s1 w1 => ⟨true, w1.blI, ?_⟩
    exact ha e d q bv fp al σ H1 _ (rr.pure s1) fun u H2 s2 w2 => k u H2 (Same.trans s1 s2) w2
  · refine hc e _ h1 bv fp al σ H _ rr fun v H1 s1 w1 => ⟨false, w1.blI, ?_⟩
    exact hb e d q bv fp al σ H1 _ (rr.pure s1) fun u H2 s2 w2 => k u H2 (Same.trans s1 s2) w2
  · cases q
theorem rus_nil : RUs K tNil vNil := by
  intro e ds q bv fp al σ H Q rr k
  cases q
  exact k [] H (Same.refl _) .nil
theorem rus_cons {ta : TE} {tr : TA} {a : MV} {r : MVs} (ha : RU K ta a) (hr : RUs K tr r) : RUs K (tCons ta tr) (vCons a r) := by
  intro e ds q bv fp al σ H Q rr k
  obtain ⟨x, h1, q⟩ := Option.bind_eq_some_iff.mp q
  obtain ⟨y, h2, q⟩ := Option.bind_eq_some_iff.mp q
  cases q
  refine ha e x h1 bv fp al σ H _ rr fun v H1 s1 w1 => hr e y h2 bv fp al σ H1 _ (rr.pure s1) fun vs H2 s2 w2 => ?_
  exact k (v :: vs) H2 (Same.trans s1 s2) (.cons (w1.same s2) w2)
def uTup (m : MVs) : MV := fun e => (m e).bind fun ds => if ds.length ≤ 16777216 then some (.tuple ds) else none
theorem ru_tup {t : TA} {m : MVs} (h : RUs K t m) : RU K (tTup t) (uTup m) := by
  intro e d q bv fp al σ H Q rr k
  obtain ⟨ds, h1, q⟩ := Option.bind_eq_some_iff.mp q
  split at q
  rotate_left
  · cases q
  rename_i hz
  cases q
  refine h e ds h1 bv fp al σ H _ rr fun vs H1 s1 w => ?_
  refine ⟨by rw [w.length, sizeLine_eq]; exact hz, fun p hp => k (.ref p) _ (Same.trans s1 (same_upd hp)) (.tup upd_same (w.same (same_upd hp)))⟩
/-- o.f.append(v) -/
def sAppF (nm f : Str) (i : Nat) (m : MV) : MS := fun e => (e.ix i).bind fun x => (e.own x).bind fun d => (asI nm d).bind fun cs => match lkS f cs with
  | some (.list es) => (m e).bind fun c => if imm c = true ∧ es.length < 16777216 then some (.nx (e.put x (.dict ((.none, .str nm) :: putS f (.list (es ++ [c])) cs)))) else none
  | _ => none
theorem map_set2 (f : Str) (c : PyData) (cs : List (PyData × PyData)) (k : Nat) : (cs.set k (.str f, c)).map (·.2) = (cs.map (·.2)).set k c := by rw [List.map_set]
theorem map_set1 {f : Str} {c d : PyData} {cs : List (PyData × PyData)} {k : Nat} (h : cs[k]? = some (.str f, d)) : (cs.set k (.str f, c)).map (·.1) = cs.map (·.1) := by
  rw [List.map_set]
  refine List.ext_getElem? fun j => ?_
  by_cases hj : k = j
  · subst hj
    have hl := (List.getElem?_eq_some_iff.mp h).1
    rw [List.getElem?_set_self (by simpa using hl), List.getElem?_map, h]
    rfl
  · rw [List.getElem?_set_ne hj]
theorem rs_appF {nm f : Str} {fs : List Str} {i : Nat} {te : TE} {m : MV} (T : ClsF K nm fs) (hf : f ∈ fs) (h : RU K te m) : RS K (tDrop (tBM K "list" rAppend (tFld K (tVar i) f) (tCons te tNil))) (sAppF nm f i m) := by
  intro e o q bv fp σ H D rr k
  obtain ⟨x, h2, q⟩ := Option.bind_eq_some_iff.mp q
  obtain ⟨d, h3, q⟩ := Option.bind_eq_some_iff.mp q
  obtain ⟨cs, h4, q⟩ := Option.bind_eq_some_iff.mp q
  split at q
  rotate_left
  · cases q
  rename_i es hes
  obtain ⟨c, h5, q⟩ := Option.bind_eq_some_iff.mp q
  split at q
  rotate_left
  · cases q
  rename_i hi
  cases q
  have ed := asI_eq h4
  subst ed
  obtain ⟨v, g0, hv, _, ov, _⟩ := rr.focus h2 h3
  obtain ⟨a, C, dx, gs, g, rfl, rfl, hC, ha, ek, oA, na⟩ := ov.insI
  obtain ⟨kk, u, k1, k2, k3, k4⟩ := lk_at ek hes
  obtain ⟨l, ys, l1, l2, l3, l4, _⟩ := oA.appAt (k := kk) (es := es) (by rw [List.getElem?_map, k1]; rfl)
  rw [List.getElem?_map, k3] at l1
  have eu : u = .ref l := Option.some.inj l1
  subst eu
  refine ⟨.ref a, hv, a, C, dx, gs, .ref l, rfl, ha, T.cl C hC, T.no C hC f hf, k4, tyV_lst l2, ?_⟩
  refine h e c h5 bv fp fp σ H _ rr fun y H1 s1 wy => ?_
  have oy := wy.own hi.1
  have to := To.now rr s1 oy fun a z => by cases z
  obtain ⟨v', g0', hv', ov', _, fin⟩ := to.mut h2 h3
  rw [hv] at hv'
  cases hv'
  obtain ⟨a', C', dx', gs', g', ea, rfl, hC', ha', ek', oA', na'⟩ := ov'.insI
  cases ea
  rw [s1 _ _ ha] at ha'
  cases ha'
  obtain ⟨l', ys', q1, q2, q3, q4, q5⟩ := oA'.appAt (k := kk) (es := es) (by rw [List.getElem?_map, k1]; rfl)
  rw [List.getElem?_map, k3] at q1
  have eu : V.ref l = .ref l' := Option.some.inj q1
  cases eu
  obtain ⟨f', oN, sN⟩ := q5 y c [] oy fun a z => by cases z
  have nal : a ≠ l := fun z => na' (z ▸ q3)
  have naf : a ∉ f' := fun z => (sN a z).elim na' fun y => by cases y
  refine ⟨l, ys', y, rfl, rfl, q2, by rw [q4, sizeLine_eq]; exact hi.2, ?_⟩
  have to' := fin (upd H1 l (.lst (ys' ++ [y]))) (.dict ((.none, .str nm) :: putS f (.list (es ++ [c])) cs)) (a :: f') [] (storeI q2 trivial _ (List.mem_cons_of_mem _ q3)) (.ins (fs := gs) (dx := dx) (C := C) hC (by rw [upd_ne nal]; exact s1 _ _ ha) (by rw [k2, map_set1 k1]; exact ek) (by rw [k2, map_set2]; exact oN) naf) (fun b z => by
    rcases List.mem_cons.mp z with rfl | z
    · exact .inl List.mem_cons_self
    · exact .inl ((sN b z).elim (fun y => List.mem_cons_of_mem _ y) fun y => by cases y)) fun b z => by cases z
  exact k σ _ _ to'.end_.1 to'.end_.2
/-! ### the object that was lent, set aside -/
theorem RR.takeB (r : RR K bv e fp al σ H) {d : PyData} (hb : e.bo = [d]) : ∃ v f, bv[0]? = some v ∧ Own K H v d f ∧ (∀ a ∈ f, fp a) ∧ (∀ a ∈ f, al a) ∧ RR K bv ⟨e.sl, []⟩ (fun a => fp a ∧ a ∉ f) al σ H := by
  obtain ⟨fo, F, r⟩ := r
  obtain ⟨v, a, o⟩ := r.own (.inr 0) d (by show e.bo[0]? = _; rw [hb]; rfl)
  refine ⟨v, F (.inr 0), a, o, r.sub _, fun a z => r.sup a (r.sub _ a z), fo, fun x => match x with
    | .inl j => F (.inl j)
    | .inr _ => [], r.len, fun x c h => ?_, fun x y hxy a ha => ?_, fun x a ha => ?_, fun a z => r.sup a z.1, r.wk, r.bor, r.fof, fun a z => r.alv a z.1⟩
  · cases x with
    | inl j => exact r.own (.inl j) c h
    | inr j => cases h
  · cases x with
    | inr j => cases ha
    | inl j =>
      cases y with
      | inr j' => exact fun z => by cases z
      | inl j' => exact r.dis _ _ hxy a ha
  · cases x with
    | inr j => cases ha
    | inl j => exact ⟨r.sub _ a ha, fun z => r.dis _ _ (by simp) a ha z⟩
theorem RR.backB {v : V} {d : PyData} {f : List Addr} (r : RR K bv e fp al σ H) (hb : e.bo = []) (hv : bv[0]? = some v) (o : Own K H v d f) (n : ∀ a ∈ f, ¬ fp a ∧ al a) : RR K bv ⟨e.sl, [d]⟩ (fun a => fp a ∨ a ∈ f) al σ H := by
  obtain ⟨fo, F, r⟩ := r
  refine ⟨fo, fun x => match x with
    | .inl j => F (.inl j)
    | .inr 0 => f
    | .inr (_ + 1) => [], r.len, fun x c h => ?_, fun x y hxy a ha => ?_, fun x a ha => ?_, fun a z => z.elim (r.sup a) fun z => (n a z).2, r.wk, r.bor, r.fof, fun a z => z.elim (r.alv a) (o.alive a)⟩
  · match x with
    | .inl j => exact r.own (.inl j) c h
    | .inr 0 => cases h; exact ⟨v, hv, o⟩
    | .inr (j + 1) => cases h
  · match x, y with
    | .inl i, .inl j => exact r.dis _ _ hxy a ha
    | .inl i, .inr 0 => exact fun z => (n a z).1 (r.sub _ a ha)
    | .inl i, .inr (j + 1) => exact fun z => by cases z
    | .inr 0, .inl j => exact fun z => (n a ha).1 (r.sub _ a z)
    | .inr 0, .inr 0 => exact absurd rfl hxy
    | .inr 0, .inr (j + 1) => exact fun z => by cases z
    | .inr (i + 1), _ => cases ha
  · match x with
    | .inl j => exact .inl (r.sub _ a ha)
    | .inr 0 => exact .inr ha
    | .inr (j + 1) => cases ha
/-- [e for x in o.f if t], o lent -/
def mLcF (nm f : Str) (i : Nat) (b : PyData → Dl.Env → Option Dl.Env) (vs : List Nat) (t : MT) (me : ME) : ME := fun e => match e.bo, e.sl[i]? with
  | [d], some (.bor 0) => (asI nm d).bind fun cs => match lkS f cs with
    | some (.list ds) => if immA ds = true ∧ ds.length ≤ 16777216 then (lcL b vs t me ds ((⟨e.sl, []⟩ : Dl.Env).kills vs)).bind fun q => match q.2.bo with
      | [] => some (.list q.1, ⟨q.2.sl, [d]⟩)
      | _ => none
      else none
    | _ => none
  | _, _ => none
theorem re_lcF {nm f : Str} {fs : List Str} {i : Nat} {is vs : List Nat} {g : TG} {tt : TT} {te : TE} {b : PyData → Dl.Env → Option Dl.Env} {t : MT} {me : ME} (T : ClsF K nm fs) (hf : f ∈ fs) (hg : RG K is g b) (ht : RT K tt t) (he : RE K te me) (his : ∀ j ∈ is, j ∈ vs := by decide) :
    RE K (tLc (iSeq K (tFld K (tVar i) f)) g tt te vs) (mLcF nm f i b vs t me) := by
  intro e c e' q bv fp al σ H Q rr k
  unfold mLcF at q
  split at q
  rotate_left
  · cases q
  rename_i d hbo hsl
  obtain ⟨cs, h4, q⟩ := Option.bind_eq_some_iff.mp q
  split at q
  rotate_left
  · cases q
  rename_i ds hds
  split at q
  rotate_left
  · cases q
  rename_i hi
  obtain ⟨⟨out, ez⟩, hl, q⟩ := Option.bind_eq_some_iff.mp q
  dsimp only at q
  split at q
  rotate_left
  · cases q
  rename_i hz
  cases q
  have ed := asI_eq h4
  subst ed
  obtain ⟨v, f0, hv, o, sub, alf, r0⟩ := rr.takeB hbo
  obtain ⟨a, C, dx, gs, f1, rfl, rfl, hC, ha, ek, oA, na⟩ := o.insI
  obtain ⟨kk, u, k1, k2, k3, k4⟩ := lk_at ek hds
  obtain ⟨u', g2, hu1, ou, sg⟩ := oA.get (i := kk) (d := .list ds) (by rw [List.getElem?_map, k1]; rfl)
  rw [List.getElem?_map, k3] at hu1
  have eu : u = u' := Option.some.inj hu1
  subst eu
  obtain ⟨l, xs, g3, rfl, rfl, hl2, oI, nl⟩ := ou.lstI
  have g3n := oI.imm_nil hi.1
  subst g3n
  have r0' := rr
  obtain ⟨fo, F, rf⟩ := r0'
  obtain ⟨w, hw, hbw⟩ := rf.bor i 0 hsl
  rw [hv] at hbw
  cases hbw
  refine re_lc_at (bv := bv) (fp := fun p => fp p ∧ p ∉ a :: f1) (al := al) (e0 := ⟨e.sl, []⟩) (fun Rq kk2 => .inl ⟨.ref a, hw, a, C, dx, gs, .ref l, rfl, ha, T.cl C hC, T.no C hC f hf, k4, l, rfl, ⟨xs, SqL.of hl2⟩, kk2 (Itl K l) H _ _ (fun p => p = l) _ (To.refl r0) ⟨hl2, oI⟩ (walk_lst hi.1) fun p z => ⟨fun y => y.2 (List.mem_cons_of_mem _ (z ▸ sg l List.mem_cons_self)), z ▸ ⟨_, hl2⟩⟩⟩) hg ht he his hi.2 hl fun v2 H' fp' al' fv to ov => ?_
  have ofin : Own K H (.ref a) (.dict ((.none, .str nm) :: cs)) (a :: f1) := o
  have nf : ∀ p ∈ a :: f1, ¬ fp' p := fun p z => (to.keep (fun y => y.2 z) (ofin.alive p z)).1
  have o2 : Own K H' (.ref a) (.dict ((.none, .str nm) :: cs)) (a :: f1) := ofin.step to.step fun p z y => y.2 z
  have back := to.rr.backB hz hv o2 fun p z => ⟨nf p z, to.mono p (alf p z) (ofin.alive p z)⟩
  refine k v2 H' _ al' fv ⟨back, to.mono, ⟨fun p u hu hp => to.step.stay p u hu (hp.elim (fun z => .inl fun y => z y.1) .inr), fun p hp => ?_, to.step.live⟩, fun p z => ⟨fun y => ?_, (to.tmp p z).2⟩⟩ ov
  · rcases hp with (hp | hp) | hp
    · exact (to.step.new p (.inl hp)).elim (fun z => .inl z.1) .inr
    · exact .inl (sub p hp)
    · exact (to.step.new p (.inr hp)).elim (fun z => .inl z.1) .inr
  · rcases y with y | y
    · exact (to.tmp p z).1 y
    · rcases to.step.new p (.inr z) with q | q
      · exact q.2 y
      · obtain ⟨u, hu⟩ := ofin.alive p y
        rw [q] at hu; cases hu
end
/-- a method, for its callers -/
def CalleeM (P : Program) (w : World) (K : PySem.W.Frag) (mg : Str → Option Value) (base : Heap) (C : Addr) (m : Str) (k : Nat) (ps : List Str) (sp : Sp) : Prop := Cls K C ∧ ∃ f fd, FnOk P w K mg base CX0 k f fd ps sp ∧ Meth K C m f ∧ Binds K fd ps []
/-- a class, for who makes one of it -/
def CalleeI (P : Program) (w : World) (K : PySem.W.Frag) (mg : Str → Option Value) (base : Heap) (x : Str) (C : Addr) (k : Nat) (ps : List Str) (sp : Sp) : Prop := ∃ f fd, Mk K C f ∧ FnOk P w K mg base CX0 k f fd ps sp ∧ Binds K fd ps [] ∧ mg x = some (.ref C)
end Dl
/-! set(xs), xs tuples of ints, some hundreds of them: the table's masks up to 2047; then sorted -/
namespace Dl
open PySem L2 PyProof.Rows

/-! ### the round of i -> a i + c meets all rests of 2 ^ k -/
def itr (a c i : Nat) : Nat → Nat
  | 0 => i
  | n + 1 => a * itr a c i n + c
theorem itr_step (a c i : Nat) : ∀ n, itr a c i (n + 1) = itr a c (a * i + c) n
  | 0 => rfl
  | n + 1 => by rw [itr, itr_step a c i n, itr]
/-- two steps at once, by halves -/
theorem itr_two (q c u p n : Nat) : itr (4 * q + 1) c (2 * u + p) (2 * n) = 2 * itr ((4 * q + 1) * (4 * q + 1)) (p * (8 * q * q + 4 * q) + c * (2 * q + 1)) u n + p := by
  induction n with
  | zero => rfl
  | succ n ih =>
    rw [show 2 * (n + 1) = (2 * n + 1) + 1 from by omega, itr, itr, itr, ih]
    generalize itr ((4 * q + 1) * (4 * q + 1)) (p * (8 * q * q + 4 * q) + c * (2 * q + 1)) u n = z
    grind
theorem itr_full : ∀ (k a c : Nat), a % 4 = 1 → c % 2 = 1 → ∀ i j, ∃ n, n < 2 ^ k ∧ itr a c i n % 2 ^ k = j % 2 ^ k
  | 0, a, c, _, _, i, j => ⟨0, by decide, by rw [Nat.pow_zero, Nat.mod_one, Nat.mod_one]⟩
  | k + 1, a, c, ha, hc, i, j => by
    obtain ⟨q, rfl⟩ : ∃ q, a = 4 * q + 1 := ⟨a / 4, by omega⟩
    have same : ∀ i, i % 2 = j % 2 → ∃ n, n < 2 ^ k ∧ itr (4 * q + 1) c i (2 * n) % 2 ^ (k + 1) = j % 2 ^ (k + 1) := fun i e => by
      have h1 : (4 * q + 1) * (4 * q + 1) % 4 = 1 := by rw [Nat.mul_mod, ha]
      have h2 : (i % 2 * (8 * q * q + 4 * q) + c * (2 * q + 1)) % 2 = 1 := by
        have a1 : (i % 2 * (8 * q * q + 4 * q)) % 2 = 0 := by
          rw [show 8 * q * q + 4 * q = 2 * (4 * (q * q) + 2 * q) from by rw [Nat.mul_assoc]; omega, Nat.mul_left_comm, Nat.mul_mod_right]
        have a2 : (c * (2 * q + 1)) % 2 = 1 := by rw [Nat.mul_mod, hc, show (2 * q + 1) % 2 = 1 from by omega]
        omega
      obtain ⟨n, hn, f⟩ := itr_full k _ _ h1 h2 (i / 2) (j / 2)
      refine ⟨n, hn, ?_⟩
      have ei : i = 2 * (i / 2) + i % 2 := by omega
      conv => lhs; rw [ei]
      rw [itr_two]
      generalize itr ((4 * q + 1) * (4 * q + 1)) (i % 2 * (8 * q * q + 4 * q) + c * (2 * q + 1)) (i / 2) n = z at f ⊢
      rw [Nat.pow_succ, Nat.mul_comm (2 ^ k) 2]
      have g1 : (2 * z + i % 2) % (2 * 2 ^ k) = 2 * (z % 2 ^ k) + i % 2 := by
        rw [Nat.mod_mul]
        have x1 : (2 * z + i % 2) / 2 = z := by omega
        have x2 : (2 * z + i % 2) % 2 = i % 2 := by omega
        rw [x1, x2]; omega
      have g2 : j % (2 * 2 ^ k) = 2 * (j / 2 % 2 ^ k) + j % 2 := by
        rw [Nat.mod_mul]; omega
      rw [g1, g2, f, e]
    rw [show (2 : Nat) ^ (k + 1) = 2 * 2 ^ k from by rw [Nat.pow_succ, Nat.mul_comm]] at same ⊢
    by_cases e : i % 2 = j % 2
    · obtain ⟨n, hn, f⟩ := same i e
      exact ⟨2 * n, by omega, f⟩
    · have e' : ((4 * q + 1) * i + c) % 2 = j % 2 := by
        have : ((4 * q + 1) * i) % 2 = i % 2 := by rw [Nat.mul_mod, show (4 * q + 1) % 2 = 1 from by omega, Nat.one_mul, Nat.mod_mod]
        omega
      obtain ⟨n, hn, f⟩ := same _ e'
      exact ⟨2 * n + 1, by omega, by rw [itr_step]; exact f⟩

/-! ### masks -/
def P2 (m : Nat) : Prop := ∃ k, 3 ≤ k ∧ k ≤ 11 ∧ m + 1 = 2 ^ k
theorem P2.odd {m : Nat} (h : P2 m) : m % 2 = 1 := by
  obtain ⟨k, h1, _, e⟩ := h
  obtain ⟨l, rfl⟩ : ∃ l, k = l + 1 := ⟨k - 1, by omega⟩
  rw [Nat.pow_succ] at e
  omega
theorem P2.most {m : Nat} (h : P2 m) : m ≤ 2047 := by
  obtain ⟨k, _, h2, e⟩ := h
  have : 2 ^ k ≤ 2 ^ 11 := Nat.pow_le_pow_right (by decide) h2
  omega
theorem lcg_itr (m i : Nat) (hi : i ≤ m) : ∀ n, lcgI m i n = itr 5 1 i n % (m + 1)
  | 0 => (Nat.mod_eq_of_lt (Nat.lt_succ_of_le hi)).symm
  | n + 1 => by
    rw [lcgI, lcg_itr m i hi n, itr, Nat.mul_comm 5, Nat.add_mod, Nat.mul_mod, Nat.mod_mod, ← Nat.mul_mod, ← Nat.add_mod]
/-- all slots begin a run -/
theorem runs_all {m : Nat} (hm : P2 m) (h : Int) {j : Nat} (hj : j ≤ m) : ∃ n, n ≤ m + 12 ∧ runI m (SetTable.bits h) n = j := by
  obtain ⟨k, _, _, e⟩ := hm
  obtain ⟨n, hn, f⟩ := itr_full k 5 1 rfl rfl (runI m (SetTable.bits h) 12) j
  rw [← e] at hn f
  refine ⟨12 + n, by omega, ?_⟩
  rw [runI_tail (bits_lt h), lcg_itr m _ (runI_le m _ 12), f, Nat.mod_eq_of_lt (Nat.lt_succ_of_le hj)]
theorem way_in (m : Nat) (h : Int) (n : Nat) : way m h n ≤ m := by
  have hi : SetTable.bits h % (m + 1) ≤ m := Nat.le_of_lt_succ (Nat.mod_lt _ (Nat.succ_pos _))
  have r := runEnd_bd hi
  have q := nth_in (m := m) n (runAt m (SetTable.bits h % (m + 1)) (SetTable.bits h)) (by simp only [runAt]; omega)
  exact Nat.le_trans (Nat.le_add_right _ _) q
/-- the first n of which p is true, given one -/
theorem first_of {p : Nat → Prop} (n : Nat) (h : p n) : ∃ k, k ≤ n ∧ p k ∧ ∀ i, i < k → ¬ p i := st_least n h

/-! ### a table that finds what it holds -/
structure Tb (t : SetTable) (hs : List Int) : Prop where
  up : Ris t.place.toList
  no : t.dummies = #[]
  ln : t.place.size = hs.length
  mo : P2 t.mask
  le : ∀ x ∈ t.place.toList, x ≤ t.mask
  at_ : ∀ (i : Nat) (h : Int) (j : Nat), hs[i]? = some h → t.place.toList[i]? = some j → ∃ n, way t.mask h n = j ∧ ∀ c, c < n → way t.mask h c ∈ t.place.toList
theorem Tb.len {t : SetTable} {hs : List Int} (T : Tb t hs) : t.place.toList.length = hs.length := by
  rw [Array.length_toList]; exact T.ln
/-- where a search for h ends if nothing is found -/
theorem Tb.hole {t : SetTable} {hs : List Int} (T : Tb t hs) (hl : hs.length ≤ t.mask) (h : Int) : ∃ N, N < 10 * SetTable.turns t.mask ∧ way t.mask h N ∉ t.place.toList ∧ ∀ c, c < N → way t.mask h c ∈ t.place.toList := by
  obtain ⟨j, hj, hn⟩ := st_missing t.place.toList (t.mask + 1) (by rw [T.len]; omega)
  obtain ⟨r, hr, e⟩ := runs_all T.mo h (Nat.le_of_lt_succ hj)
  obtain ⟨c, hc, e2⟩ := run_nth t.mask (SetTable.bits h) r
  have e3 : way t.mask h c = j := (congrArg SetTable.Probe.j e2).trans e
  obtain ⟨N, h1, h2, h3⟩ := first_of (p := fun c => way t.mask h c ∉ t.place.toList) c (by rw [e3]; exact hn)
  exact ⟨N, by unfold SetTable.turns; omega, h2, fun i hi => Classical.not_not.mp (h3 i hi)⟩
/-- what has this hash stands ahead of the hole -/
theorem Tb.ahead {t : SetTable} {hs : List Int} (T : Tb t hs) {h : Int} {N i j : Nat} (hN : way t.mask h N ∉ t.place.toList) (hi : hs[i]? = some h) (hj : t.place.toList[i]? = some j) : ∃ c, c < N ∧ way t.mask h c = j := by
  obtain ⟨n, e, hb⟩ := T.at_ i h j hi hj
  refine ⟨n, Nat.lt_of_not_le fun hle => ?_, e⟩
  rcases Nat.eq_or_lt_of_le hle with rfl | hlt
  · exact hN (e ▸ List.mem_of_getElem? hj)
  · exact hN (hb N hlt)
/-- one more, put into the hole -/
theorem Tb.more {t : SetTable} {hs : List Int} (T : Tb t hs) {h : Int} {N j p : Nat} (ej : way t.mask h N = j) (ep : SetTable.below t.place j = p) (hN : j ∉ t.place.toList) (hb : ∀ c, c < N → way t.mask h c ∈ t.place.toList) :
    p ≤ hs.length ∧ Tb (t.put j).1 (hs.take p ++ h :: hs.drop p) ∧ (t.put j).1.fill = hs.length + 1 := by
  have c1 := (below_cut T.up j).1
  rw [ep] at c1
  have hp : p ≤ hs.length := by rw [← T.ln]; exact c1
  have hp' : p ≤ t.place.toList.length := by rw [T.len]; exact hp
  have hpl := put_place t j
  rw [ep] at hpl
  have size : (t.put j).1.place.size = hs.length + 1 := by rw [← Array.length_toList, hpl, len_ins _ hp', T.len]
  have old : ∀ x, x ∈ t.place.toList → x ∈ (t.put j).1.place.toList := fun x hx => by rw [hpl]; exact mem_ins.2 (.inr hx)
  have nohave : t.place[SetTable.below t.place j]? ≠ some j := fun z => hN (List.mem_of_getElem? (by rw [Array.getElem?_toList]; exact z))
  refine ⟨hp, ⟨ris_insert T.up nohave, put_dm T.no j, by rw [len_ins _ hp]; exact size, T.mo, ?_, ?_⟩, ?_⟩
  · intro x hx
    rw [hpl] at hx
    rcases mem_ins.1 hx with rfl | z
    · exact ej ▸ way_in _ _ _
    · exact T.le x z
  · intro i g y h1 h2
    rw [tins_get hs hp] at h1
    rw [hpl, tins_get _ hp'] at h2
    have go : ∀ i', hs[i']? = some g → t.place.toList[i']? = some y → ∃ n, way t.mask g n = y ∧ ∀ c, c < n → way t.mask g c ∈ (t.put j).1.place.toList := fun i' q1 q2 =>
      let ⟨n, e, z⟩ := T.at_ i' g y q1 q2
      ⟨n, e, fun c hc => old _ (z c hc)⟩
    show ∃ n, way t.mask g n = y ∧ ∀ c, c < n → way t.mask g c ∈ (t.put j).1.place.toList
    split at h1
    · rename_i lt
      rw [if_pos lt] at h2
      exact go i h1 h2
    · rename_i lt
      rw [if_neg lt] at h2
      split at h1
      · rename_i eq
        rw [if_pos eq] at h2
        cases h1; cases h2
        exact ⟨N, ej, fun c hc => old _ (hb c hc)⟩
      · rename_i eq
        rw [if_neg eq] at h2
        exact go (i - 1) h1 h2
  · show (t.put j).1.place.size + (t.put j).1.dummies.size = _
    rw [size, put_dm T.no j]; rfl

/-! ### all laid anew -/
theorem place_free {m : Nat} (hm : P2 m) (owner : Array (Option Nat)) (h : Int) {j : Nat} (hj : j ≤ m) (hf : oAt owner j = none) :
    ∃ N, SetTable.layClean.free m owner (SetTable.turns m) (SetTable.bits h % (m + 1)) (SetTable.bits h) = some (way m h N) ∧ oAt owner (way m h N) = none ∧ ∀ c, c < N → oAt owner (way m h c) ≠ none := by
  obtain ⟨r, hr, e⟩ := runs_all hm h hj
  have at_run : way m h (off m (SetTable.bits h % (m + 1)) (SetTable.bits h) r) = j := by
    have : nth m (runAt m (SetTable.bits h % (m + 1)) (SetTable.bits h)) (off m (SetTable.bits h % (m + 1)) (SetTable.bits h) r) = runAt m (runI m (SetTable.bits h) r) (SetTable.bits h / 32 ^ r) := by rw [nth_off, itL_run]
    exact (congrArg SetTable.Probe.j this).trans e
  obtain ⟨N, n1, n2, n3⟩ := first_of (p := fun c => oAt owner (way m h c) = none) _ (by rw [at_run]; exact hf)
  refine ⟨N, free_spec m owner (SetTable.turns m) r _ _ N (by unfold SetTable.turns; omega) n1 (fun c hc => ?_) (by rw [show oAt owner (nth m (runAt m (SetTable.bits h % (m + 1)) (SetTable.bits h)) N).j = none from n2]; rfl), n2, n3⟩
  have := n3 c hc
  exact Bool.eq_false_iff.mpr fun z => this (Option.isNone_iff_eq_none.mp z)
theorem own_next {m : Nat} (hm : P2 m) {done : List Int} {owner : Array (Option Nat)} (W : L2.Own m done owner) (hl : done.length ≤ m) (h : Int) :
    ∃ j, SetTable.layClean.free m owner (SetTable.turns m) (SetTable.bits h % (m + 1)) (SetTable.bits h) = some j ∧ L2.Own m (done ++ [h]) (owner.setIfInBounds j (some done.length)) := by
  obtain ⟨ps, hps, hin⟩ := W.ps
  obtain ⟨z, hz, hzn⟩ := st_missing ps (m + 1) (by omega)
  have zfree : oAt owner z = none := Classical.byContradiction fun q => hzn (hin z (Nat.le_of_lt_succ hz) q)
  obtain ⟨N, e1, e2, e3⟩ := place_free hm owner h (Nat.le_of_lt_succ hz) zfree
  have lt : way m h N < owner.size := by rw [W.sz]; exact Nat.lt_succ_of_le (way_in m h N)
  generalize ej : way m h N = j at e1 e2 lt
  have me := oAt_set_self (some done.length) lt
  have stays : ∀ i, oAt owner i ≠ none → oAt (owner.setIfInBounds j (some done.length)) i ≠ none := fun i hi => by
    by_cases c : i = j
    · rw [c, me]; simp
    · rw [oAt_set_ne _ c]; exact hi
  refine ⟨j, e1, by rw [Array.size_setIfInBounds]; exact W.sz, ?_, ?_, j :: ps, by simp [hps], ?_⟩
  · intro i k hi e
    by_cases c : i = j
    · rw [c, me] at e
      cases e
      exact ⟨h, N, by simp, ej.trans c.symm, fun k' hk' => stays _ (e3 k' hk')⟩
    · rw [oAt_set_ne _ c] at e
      obtain ⟨g, n, a1, a2, a3⟩ := W.at_ i k hi e
      exact ⟨g, n, by rw [List.getElem?_append_left (List.getElem?_eq_some_iff.mp a1).1]; exact a1, a2, fun k' hk' => stays _ (a3 k' hk')⟩
  · intro k hk
    by_cases c : k < done.length
    · obtain ⟨i, hi, e⟩ := W.all k c
      exact ⟨i, hi, by rw [oAt_set_ne _ (fun q => by rw [q, e2] at e; cases e)]; exact e⟩
    · have : k = done.length := by simp at hk; omega
      exact ⟨j, ej ▸ way_in m h N, by rw [this]; exact me⟩
  · intro i hi e
    by_cases c : i = j
    · exact c ▸ List.mem_cons_self
    · rw [oAt_set_ne _ c] at e
      exact List.mem_cons_of_mem _ (hin i hi e)
theorem lay_all {m : Nat} (hm : P2 m) : ∀ (rest done : List Int) (owner : Array (Option Nat)), L2.Own m done owner → done.length + rest.length ≤ m →
    ∃ o' n, rest.foldl (stepF m) (some (owner, done.length)) = some (o', n) ∧ L2.Own m (done ++ rest) o'
  | [], done, owner, W, _ => ⟨owner, _, rfl, by rw [List.append_nil]; exact W⟩
  | h :: rest, done, owner, W, hl => by
    simp only [List.length_cons] at hl
    obtain ⟨j, e, W'⟩ := own_next hm W (by omega) h
    obtain ⟨o', n, f, W2⟩ := lay_all hm rest (done ++ [h]) _ W' (by simp; omega)
    refine ⟨o', n, ?_, by simpa using W2⟩
    rw [List.foldl_cons, stepF_some e]
    simpa using f
theorem lay_clean {m : Nat} (hm : P2 m) {hs : Array Int} (hn : hs.size ≤ m) : ∃ owner, SetTable.layClean m hs = some owner ∧ L2.Own m hs.toList owner := by
  obtain ⟨owner, n, f, W⟩ := lay_all hm hs.toList [] _ (L2.Own.init m) (by simpa using hn)
  refine ⟨owner, ?_, by simpa using W⟩
  rw [layClean_eq, show hs.toList.foldl (stepF m) (some (Array.replicate (m + 1) none, 0)) = some (owner, n) from f]; rfl
theorem live_len {m : Nat} {hs : Array Int} {owner : Array (Option Nat)} (W : L2.Own m hs.toList owner) (nd : ((liveOf m owner).map (·.1)).Nodup) : (liveOf m owner).length = hs.size := by
  obtain ⟨ps, p1, p2⟩ := W.ps
  have a := nat_nodup_len ((liveOf m owner).map (·.1)) ps nd fun x hx => by
    obtain ⟨⟨y, k⟩, hq, rfl⟩ := List.mem_map.mp hx
    obtain ⟨b1, b2⟩ := (mem_live W.sz).1 hq
    exact p2 y b1 (by rw [b2]; simp)
  have b := nat_nodup_len (List.range hs.size) ((liveOf m owner).map (·.2)) List.nodup_range fun k hk => by
    obtain ⟨j, b1, b2⟩ := W.all k (by simpa using hk)
    exact List.mem_map.mpr ⟨(j, k), (mem_live W.sz).2 ⟨b1, b2⟩, rfl⟩
  simp at a b p1
  omega
theorem laid_new (t : SetTable) {hs : Array Int} {wanted M : Nat} (hw : SetTable.sizeAbove wanted - 1 = M) (hM : P2 M) (hn : hs.size ≤ M) :
    ∃ t' order, t.relaid hs wanted = some (t', order) ∧ order.toList.Perm (List.range hs.size) ∧ Tb t' (order.toList.map fun i => hs.getD i 0) ∧ t'.mask = M ∧ t'.led = t.led ∧ t'.plain = t.plain := by
  obtain ⟨owner, e, W⟩ := lay_clean hM hn
  have rl := ris_live (fun j => owner.getD j none) (List.range (M + 1)) (by unfold Ris; exact List.pairwise_lt_range)
  have up : Ris ((liveOf M owner).map (·.1)) := rl.1
  have len := live_len W (List.Pairwise.imp (fun h => Nat.ne_of_lt h) up)
  refine ⟨tabOf t M owner, ((liveOf M owner).map (·.2)).toArray, by rw [relaid_eq, hw, e]; rfl, perm_range _ _ (by simpa using len) (fun k hk => ?_), ⟨up, rfl, by simp [tabOf], hM, fun x hx => ?_, ?_⟩, rfl, rfl, rfl⟩
  · obtain ⟨j, b1, b2⟩ := W.all k (by simpa using hk)
    exact List.mem_map.mpr ⟨(j, k), (mem_live W.sz).2 ⟨b1, b2⟩, rfl⟩
  · exact Nat.le_of_lt_succ (List.mem_range.mp (rl.2 x hx))
  · intro i h j h1 h2
    have g1 : ((liveOf M owner)[i]?).map (fun q => hs.getD q.2 0) = some h := by simpa [Function.comp_def] using h1
    have g2 : ((liveOf M owner)[i]?).map (·.1) = some j := by
      have h2' : ((liveOf M owner).map (·.1))[i]? = some j := h2
      rwa [List.getElem?_map] at h2'
    obtain ⟨⟨y, k⟩, hq, e1⟩ := Option.map_eq_some_iff.mp g2
    rw [hq] at g1
    have eh : hs.getD k 0 = h := Option.some.inj g1
    have ey : y = j := e1
    subst ey
    obtain ⟨b1, b2⟩ := (mem_live W.sz).1 (List.mem_of_getElem? hq)
    obtain ⟨g, N, a1, a2, a3⟩ := W.at_ y k b1 b2
    have eg : g = h := by
      rw [← eh, Array.getD_eq_getD_getElem?, ← Array.getElem?_toList, a1]; rfl
    subst eg
    refine ⟨N, a2, fun c hc => ?_⟩
    show way M g c ∈ (liveOf M owner).map (·.1)
    cases z : oAt owner (way M g c) with
    | none => exact absurd z (a3 c hc)
    | some k2 => exact List.mem_map.mpr ⟨(way M g c, k2), (mem_live W.sz).2 ⟨way_in M g c, z⟩, rfl⟩
end Dl
set_option maxRecDepth 100000
/-! the set itself: searched, added to, filled from a list -/
namespace Dl
open PySem PySem.Spec L2 PyProof.Rows

/-- from the c-th step on: the next place with this hash, or the hole -/
theorem Tb.probed {t : SetTable} {hs : List Int} (T : Tb t hs) {h : Int} {N : Nat} (hN : way t.mask h N ∉ t.place.toList) (hb : ∀ c, c < N → way t.mask h c ∈ t.place.toList) (hf : N < 10 * SetTable.turns t.mask)
    (ha : Nat → Int) {c : Nat} (hc : c ≤ N) {p : SetTable.Probe} (hp : p = nth t.mask (t.probeStart h) c) :
    (∃ n i, c ≤ n ∧ n < N ∧ t.place.toList[i]? = some (way t.mask h n) ∧ ha i = h ∧ (∀ n' i', c ≤ n' → n' < n → t.place.toList[i']? = some (way t.mask h n') → ha i' ≠ h) ∧
      t.probe ha h p = some (.candidate (way t.mask h n) i (nth t.mask (t.probeStart h) (n + 1)))) ∨
    ((∀ n' i', c ≤ n' → n' < N → t.place.toList[i']? = some (way t.mask h n') → ha i' ≠ h) ∧ t.probe ha h p = some (.empty (way t.mask h N) none)) := by
  have nodummy : ∀ (n : Nat) (p : SetTable.Probe), p.dummy = none → (nth t.mask p n).dummy = none := fun n => by
    induction n with
    | zero => exact fun p z => z
    | succ n ih => exact fun p z => ih _ (by unfold adv; split <;> exact z)
  have sh : ∀ q, nth t.mask p q = nth t.mask (t.probeStart h) (c + q) := fun q => by rw [hp, ← nth_add]
  have shj : ∀ q, (nth t.mask p q).j = way t.mask h (c + q) := fun q => congrArg SetTable.Probe.j (sh q)
  have en : c + (N - c) = N := by omega
  rcases go_spec t T.up T.no ha h (10 * SetTable.turns t.mask) (N - c) p (by rw [hp]; exact nodummy c _ rfl) (by omega) (fun q hq => by rw [shj]; exact hb _ (by omega)) (by rw [shj, en]; exact hN) with ⟨q, i, q1, q2, q3, q4, q5⟩ | ⟨q4, q5⟩
  · rw [shj] at q2
    refine .inl ⟨c + q, i, by omega, by omega, q2, q3, fun n' i' l1 l2 e => q4 (n' - c) i' (by omega) (by rw [shj, show c + (n' - c) = n' from by omega]; exact e), ?_⟩
    rw [shj, sh] at q5
    exact q5
  · refine .inr ⟨fun n' i' l1 l2 e => q4 (n' - c) i' (by omega) (by rw [shj, show c + (n' - c) = n' from by omega]; exact e), ?_⟩
    rw [shj, en] at q5
    exact q5

section
variable {P : Program} {w : World} {A : Around} {E : Value → Shared → Prop} {s : Shared}
def M5 (m : Nat) : Prop := m = 7 ∨ m = 31 ∨ m = 127 ∨ m = 511 ∨ m = 2047
theorem M5.p2 {m : Nat} (h : M5 m) : P2 m := by
  rcases h with rfl | rfl | rfl | rfl | rfl
  · exact ⟨3, by decide, by decide, rfl⟩
  · exact ⟨5, by decide, by decide, rfl⟩
  · exact ⟨7, by decide, by decide, rfl⟩
  · exact ⟨9, by decide, by decide, rfl⟩
  · exact ⟨11, by decide, by decide, rfl⟩
/-- the set at a holds the tuples L, each once -/
structure SG (P : Program) (w : World) (h : Heap) (a : Addr) (L : List (Addr × List Int)) (es : Array (Int × Value)) (ep : Nat) (t : SetTable) : Prop where
  obj : ∃ o, h.get? a = some o ∧ o.ExactSet ∧ o.data = .set es ep t
  row : es.toList = rowsOf P w L
  tb : Tb t (L.map fun p => thash P w p.2)
  once : (L.map (·.2)).Nodup
  tps : ∀ p ∈ L, IsT P w h p.2 p.1
  pln : t.plain = true
  ldd : w.params.followText "set-order" = true ∨ t.led = true
  rm : L.length * 5 < t.mask * 3
  m5 : M5 t.mask
variable {a : Addr} {L : List (Addr × List Int)} {es : Array (Int × Value)} {ep : Nat} {t : SetTable}
theorem rows_len (h : es.toList = rowsOf P w L) : es.size = L.length := by
  rw [← Array.length_toList, h, rowsOf, List.length_map]
theorem tb_fits {hs : List Int} (T : Tb t hs) (h : es.size = hs.length) (h2 : hs.length ≤ t.mask) : t.fits es.size = true := by
  have := T.ln
  simp [SetTable.fits, SetTable.fill, T.no, this, h, h2]
theorem SG.fits (R : SG P w s.heap a L es ep t) : t.fits es.size = true := by
  have := R.rm
  exact tb_fits R.tb (by rw [rows_len R.row, List.length_map]) (by rw [List.length_map]; omega)
theorem row_at (h : es.toList = rowsOf P w L) {i : Nat} {p : Addr × List Int} (e : L[i]? = some p) : es[i]? = some (thash P w p.2, Value.ref p.1) := by
  rw [← Array.getElem?_toList, h, rowsOf, List.getElem?_map, e]; rfl
/-- the place of the i-th -/
theorem SG.spot (R : SG P w s.heap a L es ep t) {i j : Nat} (e : t.place.toList[i]? = some j) : ∃ p, L[i]? = some p := by
  have h1 : i < t.place.toList.length := (List.getElem?_eq_some_iff.mp e).1
  rw [R.tb.len, List.length_map] at h1
  exact ⟨_, List.getElem?_eq_getElem h1⟩

/-- searched for, to be added: by one candidate after the other -/
theorem sg_from (R : SG P w s.heap a L es ep t) {x : Addr} {k : List Int} (hx : IsT P w s.heap k x) (hu : A.units < cLine) {N : Nat} (hf : N < 10 * SetTable.turns t.mask)
    (hN : way t.mask (thash P w k) N ∉ t.place.toList) (hb : ∀ c, c < N → way t.mask (thash P w k) c ∈ t.place.toList) {Q : SetFound → Shared → Prop}
    (yes : k ∈ L.map (·.2) → Q (.there none) s) (new : k ∉ L.map (·.2) → Q (.free (way t.mask (thash P w k) N) false) s) :
    ∀ (f c : Nat) (from_ : Option SetTable.Probe), from_.getD (t.probeStart (thash P w k)) = nth t.mask (t.probeStart (thash P w k)) c → c ≤ N → N - c < f →
      (∀ (i : Nat) p, L[i]? = some p → p.2 = k → ∃ n, c ≤ n ∧ n < N ∧ t.place.toList[i]? = some (way t.mask (thash P w k) n)) →
      wpAny (model P w) A (setSearchFrom a (.ref x) (thash P w k) true f from_) Q E s := by
  intro f
  induction f with
  | zero => intro c _ _ _ z _; exact absurd z (Nat.not_lt_zero _)
  | succ f ih =>
    intro c from_ e0 hc hfuel later
    obtain ⟨o, ho, _, hd⟩ := R.obj
    rw [setSearchFrom_succ]
    refine wpAny_bind (wpAny_setState_of ho hd R.fits ?_)
    dsimp only
    refine wp_if_neg (by simp [SetTable.gaveWay, R.tb.mo.odd]) ?_
    try refine wpAny_bind (wpAny_pure ?_)
    have hash_of : ∀ (i : Nat) p, L[i]? = some p → (es[i]?.map (·.1)).getD 0 = thash P w p.2 := fun i p hp => by rw [row_at R.row hp]; rfl
    rcases R.tb.probed hN hb hf (fun i => (es[i]?.map (·.1)).getD 0) hc e0 with ⟨n, i, c1, c2, c3, c4, c5, c6⟩ | ⟨c5, c6⟩
    · rw [c6]
      dsimp only
      obtain ⟨p, hp⟩ := R.spot c3
      have pm : p ∈ L := List.mem_of_getElem? hp
      have asked : wpAny (model P w) A (searchRest a (.ref x) (thash P w k) true f es t (way t.mask (thash P w k) n) i (nth t.mask (t.probeStart (thash P w k)) (n + 1))) Q E s := by
        have sl := slot_live R.tb.up c3
        unfold searchRest
        rw [row_at R.row hp]
        dsimp only
        refine wpAny_bind (wpAny_holding (wpAny_eqBool_tuple hu (R.tps p pm) hx ?_))
        refine wpAny_bind (wpAny_setState_of ho hd R.fits ?_)
        dsimp only
        by_cases same : p.2 = k
        · exact wp_if_pos (by simp [same]) (wpAny_pure (yes (List.mem_map.mpr ⟨p, pm, same⟩)))
        · refine wp_if_neg (by simp [same]) ?_
          try refine wpAny_bind (wpAny_pure ?_)
          rw [sameMem]
          dsimp only
          simp only [if_true, sl, row_at R.row hp]
          refine wpAny_bind (wpAny_isSame_ref_self (wpAny_bind (wpAny_pure ?_)))
          simp only [if_true]
          refine wp_if_neg (by simp [same]) (ih (n + 1) _ rfl c2 (by omega) fun i' p' hp' hk' => ?_)
          obtain ⟨n', d1, d2, d3⟩ := later i' p' hp' hk'
          refine ⟨n', Nat.lt_of_le_of_ne (Nat.le_of_not_lt fun lt => ?_) fun eq => ?_, d2, d3⟩
          · exact c5 n' i' d1 lt d3 ((hash_of i' p' hp').trans (by rw [hk']))
          · subst eq
            have two := slot_live R.tb.up d3
            rw [sl] at two
            cases two
            rw [hp] at hp'
            cases hp'
            exact same hk'
      by_cases hl : t.led = true
      · refine wp_if_neg (by simp [hl]) ?_
        try refine wpAny_bind (wpAny_pure ?_)
        exact asked
      · refine wp_if_pos (by simp [hl]) (wpAny_bind (seen_tup hx (fun y hy => ?_) ?_))
        · obtain ⟨e, he, rfl⟩ := List.mem_map.mp hy
          have he2 : e ∈ es.toList := by
            have := he
            simp at this
            exact Array.mem_def.mp this.1
          rw [R.row] at he2
          obtain ⟨p2, hp2, rfl⟩ := List.mem_map.mp he2
          exact ⟨p2.2, p2.1, rfl, R.tps p2 hp2⟩
        · refine wp_if_neg (by decide) ?_
          try refine wpAny_bind (wpAny_pure ?_)
          exact asked
    · rw [c6]
      dsimp only
      refine wpAny_pure (new fun hm => ?_)
      obtain ⟨p, pm, hk⟩ := List.mem_map.mp hm
      obtain ⟨i, hi, e⟩ := List.getElem_of_mem pm
      have hp : L[i]? = some p := by rw [List.getElem?_eq_getElem hi, e]
      obtain ⟨n, d1, d2, d3⟩ := later i p hp hk
      exact c5 n i d1 d2 d3 ((hash_of i p hp).trans (by rw [hk]))
theorem sg_search (R : SG P w s.heap a L es ep t) {x : Addr} {k : List Int} (hx : IsT P w s.heap k x) (hu : A.units < cLine) {Q : SetFound → Shared → Prop} (yes : k ∈ L.map (·.2) → Q (.there none) s)
    (new : k ∉ L.map (·.2) → ∀ N, way t.mask (thash P w k) N ∉ t.place.toList → (∀ c, c < N → way t.mask (thash P w k) c ∈ t.place.toList) → Q (.free (way t.mask (thash P w k) N) false) s) :
    wpAny (model P w) A (setSearch a (.ref x) (thash P w k) true) Q E s := by
  have rm := R.rm
  obtain ⟨N, hf, hN, hb⟩ := R.tb.hole (by rw [List.length_map]; omega) (thash P w k)
  have small : 10 * SetTable.turns t.mask ≤ 20620 := by
    have := R.tb.mo.most
    unfold SetTable.turns
    omega
  refine sg_from R hx hu hf hN hb yes (fun z => new z N hN hb) 100000 0 none rfl (Nat.zero_le _) (by omega) fun i p hp hk => ?_
  have hi : (L.map fun p => thash P w p.2)[i]? = some (thash P w k) := by rw [List.getElem?_map, hp, ← hk]; rfl
  have lt : i < t.place.toList.length := by
    rw [R.tb.len]
    exact (List.getElem?_eq_some_iff.mp hi).1
  obtain ⟨c, hc, e⟩ := R.tb.ahead hN hi (List.getElem?_eq_getElem lt)
  exact ⟨c, Nat.zero_le _, hc, by rw [e]; exact List.getElem?_eq_getElem lt⟩

/-- the table laid anew, with four places for each -/
theorem sg_relay {o : Obj} (ho : s.heap.get? a = some o) (hex : o.ExactSet) (hd : o.data = .set es ep t) (hrow : es.toList = rowsOf P w L) (T : Tb t (L.map fun p => thash P w p.2)) (hfl : L.length ≤ t.mask)
    (nd : (L.map (·.2)).Nodup) (tps : ∀ p ∈ L, IsT P w s.heap p.2 p.1) (pl : t.plain = true) (ld : w.params.followText "set-order" = true ∨ t.led = true) {wanted M : Nat}
    (hw : SetTable.sizeAbove wanted = M + 1) (hm5 : M5 M) (hn : L.length * 5 < M * 3) {Q : Unit → Shared → Prop}
    (hQ : ∀ h' L' es' ep' t', Heap.SameBut a s.heap h' → SG P w h' a L' es' ep' t' → L'.Perm L → Q () { s with heap := h' }) : wpAny (model P w) A (setRelay a wanted) Q E s := by
  have sz := rows_len hrow
  have hM := hm5.p2
  have M2 := hM.most
  obtain ⟨t', order, e, hp, T', em, el, epl⟩ := laid_new t (hs := es.map (·.1)) (wanted := wanted) (by rw [hw]; rfl) hM (by rw [Array.size_map, sz]; omega)
  rw [Array.size_map, sz] at hp
  obtain ⟨L2, r1, r2, r3⟩ := order_rows L es order hrow hp
  rw [← r3] at T'
  have sz2 : (order.filterMap (es[·]?)).size = es.size := by rw [rows_len r1, r2.length_eq, sz]
  rw [setRelay_eq]
  refine wpAny_bind (wpAny_setState_of ho hd (tb_fits T (by rw [sz, List.length_map]) (by rw [List.length_map]; exact hfl)) ?_)
  dsimp only
  refine wp_if_neg (by rw [hw, sizeLine_eq]; omega) ?_
  try refine wpAny_bind (wpAny_pure ?_)
  rw [e]
  dsimp only
  refine wpAny_bind (wp_if_neg (by simp [sz2]) ?_)
  try refine wpAny_bind (wpAny_pure ?_)
  refine wpAny_pure ?_
  dsimp only
  refine wpAny_storeSet_of ho hd ?_ (by rw [sz2, sz, sizeLine_eq]; omega)
  have sb : Heap.SameBut a s.heap (s.heap.update a (Obj.putSet (order.filterMap (es[·]?)) t')) := Heap.SameBut.update ..
  exact hQ _ L2 _ (ep + 1) t' sb ⟨⟨_, store_at ho hd, ⟨hex.1, hex.2.1, hex.2.2⟩, rfl⟩, r1, T', (r2.map (·.2)).nodup_iff.mpr nd, fun p q => isT_same (tps p (r2.mem_iff.mp q)) ho hd sb, by rw [epl]; exact pl, by rw [el]; exact ld,
    by rw [r2.length_eq, em]; exact hn, em ▸ hm5⟩ r2
theorem grown_at : SetTable.sizeAbove (SetTable.grown 5) = 31 + 1 ∧ SetTable.sizeAbove (SetTable.grown 19) = 127 + 1 ∧ SetTable.sizeAbove (SetTable.grown 77) = 511 + 1 ∧ SetTable.sizeAbove (SetTable.grown 307) = 2047 + 1 := by decide +kernel
/-- one more -/
theorem sg_add (R : SG P w s.heap a L es ep t) {x : Addr} {k : List Int} (hx : IsT P w s.heap k x) (hu : A.units < cLine) (few : L.length < 1000) {Q : Bool → Shared → Prop}
    (hQ : ∀ b h' L' es' ep' t', Heap.SameBut a s.heap h' → SG P w h' a L' es' ep' t' → (k ∈ L.map (·.2) → L' = L) → (k ∉ L.map (·.2) → L'.Perm ((x, k) :: L)) → Q b { s with heap := h' }) :
    wpAny (model P w) A (setAddHashed a (.ref x) (thash P w k)) Q E s := by
  obtain ⟨o, ho, hex, hd⟩ := R.obj
  have sz := rows_len R.row
  have rm := R.rm
  unfold setAddHashed
  refine wpAny_holding ?_
  rw [show (100000 : Nat) = 99999 + 1 from rfl, setAddHashedIn_succ]
  refine wpAny_bind (wpAny_setState_of ho hd R.fits ?_)
  dsimp only
  refine wp_if_neg (by simp [byScan, Value.scannable]) ?_
  try refine wpAny_bind (wpAny_pure ?_)
  refine wpAny_bind (sg_search R hx hu (fun hm => wpAny_pure (hQ false s.heap L es ep t (Heap.SameBut.refl a s.heap) R (fun _ => rfl) fun z => absurd hm z)) fun hm N hN hb => ?_)
  dsimp only
  refine wpAny_bind (wpAny_setState_of ho hd R.fits ?_)
  dsimp only
  generalize ej : way t.mask (thash P w k) N = j at hN
  generalize eq : SetTable.below t.place j = q
  obtain ⟨hq, T1, hfill⟩ := R.tb.more ej eq hN hb
  have e1 : (t.put j).2 = q := eq
  have e2 : (t.put j).1.mask = t.mask := rfl
  have e3 : (t.put j).1.led = t.led := rfl
  have e4 : (t.put j).1.plain = true := R.pln
  generalize t.put j = pt at e1 e2 e3 e4 T1 hfill ⊢
  obtain ⟨t1, q'⟩ := pt
  dsimp only at e1 e2 e3 e4 T1 hfill ⊢
  subst e1
  first
    | (refine wpAny_bind ?_; refine wp_if_pos e4 ?_; refine hashBy_tup hx ?_)
    | refine wp_if_pos e4 (wpAny_bind (hashBy_tup hx ?_))
  simp only [if_true]
  have row1 : (SetTable.insertAt es q' (thash P w k, Value.ref x)).toList = rowsOf P w (L.take q' ++ (x, k) :: L.drop q') := by rw [SetTable.toList_insertAt, rows_put, R.row]
  have pm := put_perm L q' (x, k)
  have T2 : Tb t1 ((L.take q' ++ (x, k) :: L.drop q').map fun p => thash P w p.2) := by simpa using T1
  rw [List.length_map] at hfill
  generalize L.take q' ++ (x, k) :: L.drop q' = L1 at row1 pm T2
  have n1 : L1.length = L.length + 1 := by rw [pm.length_eq]; rfl
  have once1 : (L1.map (·.2)).Nodup := (pm.map (·.2)).nodup_iff.mpr (List.nodup_cons.mpr ⟨hm, R.once⟩)
  generalize SetTable.insertAt es q' (thash P w k, Value.ref x) = es1 at row1 ⊢
  have sz1 := rows_len row1
  refine wpAny_bind (wpAny_storeSet_of ho hd ?_ (by rw [sz1, n1, sizeLine_eq]; omega))
  have sb : Heap.SameBut a s.heap (s.heap.update a (Obj.putSet es1 t1)) := Heap.SameBut.update ..
  have ho1 := store_at (es' := es1) (t' := t1) ho hd
  generalize s.heap.update a (Obj.putSet es1 t1) = h1 at sb ho1 ⊢
  have tps1 : ∀ p ∈ L1, IsT P w h1 p.2 p.1 := fun p hp => by
    rcases List.mem_cons.mp (pm.mem_iff.mp hp) with rfl | hp
    · exact isT_same hx ho hd sb
    · exact isT_same (R.tps p hp) ho hd sb
  have ld1 : w.params.followText "set-order" = true ∨ t1.led = true := by rw [e3]; exact R.ldd
  have full : t1.tooFull = decide ((L.length + 1) * 5 ≥ t.mask * 3) := by unfold SetTable.tooFull; rw [hfill, e2]
  by_cases hf : (L.length + 1) * 5 ≥ t.mask * 3
  · first
      | (refine wpAny_bind ?_; refine wp_if_pos (by simp [full, hf]) ?_)
      | (refine wp_if_pos (by simp [full, hf]) ?_; refine wpAny_bind ?_)
    rw [sz]
    have go : ∀ M, SetTable.sizeAbove (SetTable.grown (L.length + 1)) = M + 1 → M5 M → (L.length + 1) * 5 < M * 3 → wpAny (model P w) A (setRelay a (SetTable.grown (L.length + 1))) (fun _ s' => wpAny (model P w) A (pure true) Q E s') E { s with heap := h1 } := fun M g1 g2 g3 => by
      refine sg_relay (s := { s with heap := h1 }) ho1 ⟨hex.1, hex.2.1, hex.2.2⟩ rfl row1 T2 (by rw [n1, e2]; have := R.m5.p2.odd; omega) once1 tps1 e4 ld1 g1 g2 (by rw [n1]; exact g3) fun h2 L2 es2 ep2 t2 sb2 R2 pm2 => ?_
      exact wpAny_pure (hQ true h2 L2 es2 ep2 t2 (sb.trans sb2) R2 (fun z => absurd z hm) fun _ => pm2.trans pm)
    have ⟨z1, z2, z3, z4⟩ := grown_at
    rcases R.m5 with e | e | e | e | e <;> rw [e] at hf rm
    · have el : L.length + 1 = 5 := by omega
      rw [el] at go ⊢
      exact go 31 z1 (.inr (.inl rfl)) (by decide)
    · have el : L.length + 1 = 19 := by omega
      rw [el] at go ⊢
      exact go 127 z2 (.inr (.inr (.inl rfl))) (by decide)
    · have el : L.length + 1 = 77 := by omega
      rw [el] at go ⊢
      exact go 511 z3 (.inr (.inr (.inr (.inl rfl)))) (by decide)
    · have el : L.length + 1 = 307 := by omega
      rw [el] at go ⊢
      exact go 2047 z4 (.inr (.inr (.inr (.inr rfl)))) (by decide)
    · omega
  · first
      | refine wp_if_neg (by simp [full, hf]) ?_
      | (refine wpAny_bind ?_; refine wp_if_neg (by simp [full, hf]) ?_; refine wpAny_pure ?_)
    exact wpAny_pure (hQ true h1 L1 es1 (ep + 1) t1 sb ⟨⟨_, ho1, ⟨hex.1, hex.2.1, hex.2.2⟩, rfl⟩, row1, T2, once1, tps1, e4, ld1, by rw [n1, e2]; omega, by rw [e2]; exact R.m5⟩ (fun z => absurd z hm) fun _ => pm)
end
end Dl
set_option maxRecDepth 100000
/-! set(xs), sorted(set(xs)) -/
namespace Dl
open PySem PySem.Spec L2 PyProof.Rows PySem.SeqAt

section
variable {P : Program} {w : World} {A : Around} {E : Value → Shared → Prop} {s : Shared}
theorem SG.move {h h' : Heap} {a : Addr} {L : List (Addr × List Int)} {es : Array (Int × Value)} {ep : Nat} {t : SetTable} (R : SG P w h a L es ep t) (ha : ∀ o, h.get? a = some o → h'.get? a = some o) (ht : ∀ p ∈ L, IsT P w h' p.2 p.1) : SG P w h' a L es ep t :=
  let ⟨o, ho, r⟩ := R.obj
  ⟨⟨o, ha o ho, r⟩, R.row, R.tb, R.once, ht, R.pln, R.ldd, R.rm, R.m5⟩
/-- the empty set, as set() makes it -/
abbrev set0 (w : World) : Obj := { cls := .type "set", dict := none, data := .set #[] 0 (.fresh 0 0 (!w.params.followText "set-order")) }
theorem sg_fresh {h : Heap} {a : Addr} (ho : h.get? a = some (set0 w)) : SG P w h a [] #[] 0 (.fresh 0 0 (!w.params.followText "set-order")) := by
  refine ⟨⟨_, ho, ⟨rfl, rfl, rfl⟩, rfl⟩, rfl, ⟨List.Pairwise.nil, rfl, rfl, M5.p2 (.inl rfl), fun _ z => ?_, fun _ _ _ z => ?_⟩, List.nodup_nil, fun _ z => ?_, rfl, ?_, ?_, .inl rfl⟩
  · cases z
  · simp at z
  · cases z
  · show _ ∨ (!w.params.followText "set-order") = true
    cases w.params.followText "set-order" <;> simp
  · show 0 < 7 * 3
    decide
/-- the turns of the filling -/
theorem fill_turns {I : Addr} {fp wr : List Addr} {G : Array GenState → Array GenState → Prop} {n : Nat} {Pv : Nat → Value → Prop} {St : Nat → Shared → Prop} {R : Result → Shared → Prop} (W : WalksS P w A.in1 I fp wr G n Pv St) {S : Addr} (out : S ∉ fp)
    {ks : List (Addr × List Int)} (hn : n = ks.length) (few : ks.length < 1000) (val : ∀ i v, Pv i v → ∃ p, ks[i]? = some p ∧ v = .ref p.1) {h0 : Heap} (tps : ∀ p ∈ ks, IsT P w h0 p.2 p.1) (hS0 : h0.get? S = none)
    (hw0 : ∀ b ∈ wr, h0.get? b = none) (hu : A.in1.units < cLine) (k : Nat) : ∀ (i : Nat) (s : Shared), n - i = k → i ≤ n → St i s → (∀ b o, h0.get? b = some o → s.heap.get? b = some o) →
      (∃ L es ep t, SG P w s.heap S L es ep t ∧ Got ks i L) →
      (∀ s' L es ep t, Moved (S :: wr) G s s' → SG P w s'.heap S L es ep t → Got ks n L → (∀ b o, h0.get? b = some o → s'.heap.get? b = some o) → R (.ok (.ret .none)) s') →
      codeAny (model P w) A (.builtin "set.update.loop" ⟨[.ref S, .ref I], []⟩) R s := by
  have notw : S ∉ wr := fun z => out (W.sub _ z)
  have keep : ∀ {s s' : Shared}, Moved wr G s s' → (∀ b o, h0.get? b = some o → s.heap.get? b = some o) → ∀ b o, h0.get? b = some o → s'.heap.get? b = some o := fun m g b o e =>
    m.heap b o (fun z => by rw [hw0 b z] at e; cases e) (g b o e)
  have inks : ∀ {i : Nat} {L : List (Addr × List Int)}, Got ks i L → ∀ p ∈ L, p ∈ ks := fun g p z => List.mem_of_mem_take (g.sub p z)
  induction k with
  | zero =>
    rintro i s hk hi st g ⟨L, es, ep, t, hS, got⟩ hR
    obtain rfl : i = n := by omega
    refine codeAny_builtin PyProof.Rows.F.entry_set_update_loop ?_
    rw [Around.under_plainId PyProof.Rows.F.plain_set_update_loop _]
    show wpAny _ A.in1 (pyNext (.ref I) >>= _) _ _ s
    refine wpAny_bind (W.done s _ _ st fun s' m => ?_)
    have g' := keep m g
    exact wpAny_pure (hR s' L es ep t (m.mono fun b z => List.mem_cons_of_mem _ z) (hS.move (fun o e => m.heap S o notw e) fun p z => isT_keep (tps p (inks got p z)) g') got g')
  | succ k ih =>
    rintro i s hk hi st g ⟨L, es, ep, t, hS, got⟩ hR
    have lt : i < n := by omega
    refine codeAny_builtin PyProof.Rows.F.entry_set_update_loop ?_
    rw [Around.under_plainId PyProof.Rows.F.plain_set_update_loop _]
    show wpAny _ A.in1 (pyNext (.ref I) >>= _) _ _ s
    refine wpAny_bind (W.item i s _ _ lt st fun v s' hP st' m => ?_)
    obtain ⟨p, hp, rfl⟩ := val i v hP
    have g' := keep m g
    have hS' := hS.move (fun o e => m.heap S o notw e) fun q z => isT_keep (tps q (inks got q z)) g'
    have hx : IsT P w s'.heap p.2 p.1 := isT_keep (tps p (List.mem_of_getElem? hp)) g'
    show wpAny _ A.in1 (holding [Value.ref p.1] (setAdd S (.ref p.1)) >>= _) _ _ s'
    refine wpAny_bind (wpAny_holding ?_)
    unfold setAdd
    refine wpAny_holding (wpAny_bind (wpAny_pyHash_tuple hu hx ?_))
    refine sg_add (s := { s' with toks := s'.toks + (p.2.length + 1) }) hS' hx hu (by have := got.len; omega) fun b h' L' es' ep' t' sb hS2 same more => ?_
    have got' : Got ks (i + 1) L' := by
      by_cases c : p.2 ∈ L.map (·.2)
      · rw [same c]; exact got.same hp c
      · exact got.more hp (more c)
    have g2 : ∀ b o, h0.get? b = some o → h'.get? b = some o := fun b o e => (sb.2 b fun z => by rw [z, hS0] at e; cases e).trans (g' b o e)
    refine wpAny_pure ⟨plainId_quiet PyProof.Rows.F.plain_set_update_loop _, ih (i + 1) _ (by omega) lt (W.frame _ s' _ _ st' (Nat.le_add_right _ _) fun b hb o e => ?_) g2 ⟨L', es', ep', t', hS2, got'⟩ fun s'' L2 es2 ep2 t2 m2 hS3 got2 g3 => ?_⟩
    · rw [sb.2 b fun z => out (z ▸ hb)]; exact e
    · refine hR s'' L2 es2 ep2 t2 (Moved.trans W.gtrans ((m.mono fun b z => List.mem_cons_of_mem _ z).then_heap (Nat.le_add_right _ _) fun b o hb e => ?_) m2) hS3 got2 g3
      rw [sb.2 b fun z => hb (z ▸ List.mem_cons_self)]; exact e

set_option maxHeartbeats 3200000 in
/-- set(xs) of a list of tuples of ints -/
theorem set_of_list {l : Addr} {items : Array Value} {ks : List (Addr × List Int)} {Q : Value → Shared → Prop} (hh : A.handled = none) (hl : s.heap.IsList l items) (hit : items.toList = ks.map fun p => Value.ref p.1) (tps : ∀ p ∈ ks, IsT P w s.heap p.2 p.1)
    (few : ks.length < 1000) (hu : A.units + 3 < cLine)
    (hQ : ∀ (h' : Heap) (tk : Nat) L es ep t, SG P w h' s.heap.objs.size L es ep t → Got ks ks.length L → (∀ b o, s.heap.get? b = some o → h'.get? b = some o) → Q (.ref s.heap.objs.size) { s with heap := h', toks := tk }) :
    wpAny (model P w) A (call (.type "set") [.ref l]) Q E s := by
  have isz : items.size = ks.length := by rw [← Array.length_toList, hit, List.length_map]
  obtain ⟨_, _, hmro⟩ := PySem.F.called_set.mro
  have made := PySem.F.called_set.made
  have subt := PySem.F.called_set.sub
  have noty := PySem.F.called_set.notType
  have canc := PySem.F.called_set.canCreate
  have tcal := PySem.F.typeCall_set_1 (.ref l)
  refine wpAny_call (codeAny_of_tree ?_)
  show wpAny _ _ (callAny (.type "set") _) _ _ _
  refine wpAny_pure ⟨Code.quiet_builtin _ (by decide +kernel), codeAny_builtin PySem.F.entry_type_call ?_⟩
  rw [Around.under_plain (weight_type_call_type "set" [.ref l] []) rfl]
  repeat any_goals (first | assumption | wp_step)
  refine codeAny_mono (code_set_led1 (.ref l) (E := E) (Q₁ := fun v s₁ => v = .ref s.heap.objs.size ∧ s₁ = { s with heap := s.heap.push (set0 w) }) ⟨rfl, rfl⟩) fun r s₁ hr => ?_
  match r, hr with
  | .error _, hr => exact hr
  | .ok .next, hr => exact hr.elim
  | .ok .brk, hr => exact hr.elim
  | .ok .cont, hr => exact hr.elim
  | .ok (.ret v), hr =>
    obtain ⟨rfl, rfl⟩ := hr
    have hS : (s.heap.push (set0 w)).get? s.heap.objs.size = some (set0 w) := Heap.get?_push_size _ rfl
    have hT : Shared.TypeIs { s with heap := s.heap.push (set0 w) } (.ref s.heap.objs.size) "set" := ⟨_, hS, rfl⟩
    have ilk := PySem.F.called_set.init.lookup
    have ibd := PySem.F.called_set.init.bind (.ref s.heap.objs.size)
    repeat any_goals (first | assumption | wp_step)
    refine codeAny_mono (codeAny_call_builtin (R := wants (fun r s₂ => r = .none ∧ ∃ h' tk L es ep t, s₂ = { s with heap := h', toks := tk } ∧ SG P w h' s.heap.objs.size L es ep t ∧ Got ks ks.length L ∧ (∀ b o, s.heap.get? b = some o → h'.get? b = some o)) E)
      PySem.F.called_set.init.plain PySem.F.entry_set_init (check_set_init_1 hT ?_)) fun r₂ s₂ hr₂ => ?_
    · obtain ⟨ol, hol, hcl, nl, hdl⟩ := hl
      obtain ⟨_, odict, _, oslots⟩ := ol
      dsimp only at hcl hdl
      subst hcl hdl
      have hol2 : (s.heap.push (set0 w)).get? l = some { cls := .type "list", dict := odict, data := .seq items nl, slots := oslots } := Heap.get?_push_of_some _ hol
      have n1 := PySem.F.sub_list_set
      have n2 := PySem.F.sub_list_frozenset
      have n3 : (Value.type "list" == Value.type "dict") = false := by decide
      have hl1 : (s.heap.push (set0 w)).IsList l items := ⟨_, hol2, rfl, nl, rfl⟩
      unfold Builtin.«set.__init__» noKeywords Builtin.Frozenset.updateFrom
      generalize hPI : pyIter = PI
      wp_walk
      subst hPI
      refine wpAny_pyIter_list hl1 (wpAny_bind (wpAny_runValue ?_))
      have lS : l < s.heap.objs.size := Heap.lt_size hol
      have zs : (s.heap.push (set0 w)).objs.size = s.heap.objs.size + 1 := Heap.size_push ..
      have none_at : ∀ b, s.heap.objs.size ≤ b → s.heap.get? b = none := fun b hb => by
        cases q : s.heap.get? b with
        | none => rfl
        | some o => exact absurd (Nat.lt_of_lt_of_le (Heap.lt_size q) hb) (Nat.lt_irrefl _)
      have value : ∀ (i : Nat) (v : Value), items[i]? = some v → ∃ p, ks[i]? = some p ∧ v = .ref p.1 := fun i v hv => by
        rw [← Array.getElem?_toList, hit, List.getElem?_map] at hv
        obtain ⟨p, hp, e⟩ := Option.map_eq_some_iff.mp hv
        exact ⟨p, hp, e.symm⟩
      refine fill_turns ((Walks.list (A := A.in1.in1.in1) (by simp [hh]) _ l (by rw [zs]; exact Nat.ne_of_lt (Nat.lt_succ_of_lt lS)) items).toS) (S := s.heap.objs.size) (by rw [zs]; simp only [List.mem_cons, List.not_mem_nil, or_false, not_or]; exact ⟨Nat.ne_of_lt (Nat.lt_succ_self _), Nat.ne_of_gt lS⟩) isz few value tps (none_at _ (Nat.le_refl _))
        (fun b hb => none_at b (by rw [List.mem_singleton.mp hb, zs]; exact Nat.le_succ _)) hu (items.size - 0) 0 _ (by omega) (Nat.zero_le _) ⟨⟨_, Heap.get?_push_size _ rfl, rfl, rfl⟩, hl1.push _⟩ (fun b o e => Heap.get?_push_of_some _ (Heap.get?_push_of_some _ e))
        ⟨[], #[], 0, _, sg_fresh (Heap.get?_push_of_some _ hS), Got.zero ks⟩ fun s' L es ep t m hS' g' kp => ?_
      obtain ⟨h', g2, d', tk', os'⟩ := s'
      obtain rfl : g2 = s.gens := m.gens
      obtain rfl : d' = s.drawn := m.drawn
      obtain rfl : os' = s.os := m.os
      show wpAny _ _ _ _ _ _
      refine wpAny_pure ?_
      show wpAny _ _ (ret Value.none) _ _ _
      rw [isz] at g'
      exact wpAny_pure ⟨rfl, h', tk', L, es, ep, t, rfl, hS', g', kp⟩
    · match r₂, hr₂ with
      | .error _, hr₂ => exact hr₂
      | .ok .next, hr₂ => exact hr₂.elim
      | .ok .brk, hr₂ => exact hr₂.elim
      | .ok .cont, hr₂ => exact hr₂.elim
      | .ok (.ret _), hr₂ =>
        obtain ⟨rfl, h', tk, L, es, ep, t, rfl, hS', g', kp⟩ := hr₂
        repeat any_goals (first | assumption | wp_step)
        exact hQ _ _ _ _ _ _ hS' g' kp
end
end Dl
set_option maxRecDepth 100000
/-! sorted(set(xs)), xs pairs of ints -/
namespace Dl
open PySem PySem.Spec L2 PyProof.Rows PySem.SeqAt

/-! ### the set as an object of the heap -/
def SG0 (P : Program) (w : World) (h : Heap) (a : Addr) (L : List (Addr × List Int)) : Prop := ∃ (es : Array (Int × Value)) (ep : Nat) (t : SetTable), (∃ o, h.get? a = some o ∧ o.ExactSet ∧ o.data = .set es ep t) ∧ es.toList = rowsOf P w L ∧
  Tb t (L.map fun p => thash P w p.2) ∧ (L.map (·.2)).Nodup ∧ t.plain = true ∧ (w.params.followText "set-order" = true ∨ t.led = true) ∧ L.length * 5 < t.mask * 3 ∧ M5 t.mask
def SetGO (P : Program) (w : World) (a : Addr) (L : List (Addr × List Int)) : HO := .ext fun h => SG0 P w h a L
section
variable {P : Program} {w : World}
theorem SG.bare {h : Heap} {a : Addr} {L : List (Addr × List Int)} {es : Array (Int × Value)} {ep : Nat} {t : SetTable} (R : SG P w h a L es ep t) : SG0 P w h a L :=
  ⟨es, ep, t, R.obj, R.row, R.tb, R.once, R.pln, R.ldd, R.rm, R.m5⟩
theorem setGO_ok {H : Hp} {h : Heap} {a : Addr} {L : List (Addr × List Int)} (R : SG0 P w h a L) : ObjOk P w H h a (SetGO P w a L) := by
  have ⟨_, _, _, ⟨o, ho, _⟩, _⟩ := R
  refine ⟨R, ⟨o, ho⟩, fun h1 h2 R1 stay => ?_⟩
  obtain ⟨es, ep, t, ⟨o1, ho1, r⟩, q⟩ := R1
  exact ⟨es, ep, t, ⟨o1, stay o1 ho1, r⟩, q⟩
end
section
variable {X : Cx}
/-- set(xs): what it holds -/
def rSetG (K : PySem.W.Frag) (P : Program) (w : World) : List V → Hp → VK → Prop := fun vs H Q => ∃ (l : Addr) (ks : List (Addr × List Int)), vs = [V.ref l] ∧ SqL K H l (ks.map fun p => V.ref p.1) ∧ (∀ p ∈ ks, SqT K H p.1 (p.2.map V.int)) ∧ ks.length < 1000 ∧
  ∀ a L, H a = none → (∀ p ∈ L, p ∈ ks) → (∀ p ∈ ks, p.2 ∈ L.map (·.2)) → (L.map (·.2)).Nodup → L.length ≤ ks.length → Q (.ref a) (upd H a (SetGO P w a L))
theorem cr_setG (hc : X.calm = true) (hu : X.A.units + 64 < cLine) : CallR X (.type "set") (rSetG X.K X.prog X.w) := by
  intro pins s σ H vs us Q I r ⟨l, ks, e, hl, hk, few, q⟩
  subst e
  rw [Vals.ref1 r]
  obtain ⟨its, rv, pl, _⟩ := I.list hl
  refine set_of_list (ks := ks) (I.ok.hd hc) pl.isList (by simpa using refs_of_vals rv) (fun p hp => I.isT (hk p hp)) few (by omega) fun h' tk L es ep t R g kp => ?_
  exact ⟨.ref s.heap.objs.size, upd H s.heap.objs.size (SetGO X.prog X.w s.heap.objs.size L), I.laid (t' := tk) kp (Nat.le_refl _) (setGO_ok R.bare), rfl,
    q _ L (I.hok.fresh (Nat.le_refl _)) (fun p hp => List.mem_of_mem_take (g.sub p hp)) (fun p hp => g.all p (by rw [List.take_length]; exact hp)) R.once g.len⟩
end

/-! ### pairs, in order -/
def prD (p : Int × Int) : PyData := .tuple [.int p.1, .int p.2]
def leP (p q : Int × Int) : Bool := decide (p.1 < q.1 ∨ (p.1 = q.1 ∧ p.2 ≤ q.2))
theorem leP_trans (a b c : Int × Int) (h : leP a b = true) (h' : leP b c = true) : leP a c = true := by
  simp only [leP, decide_eq_true_eq] at *; omega
theorem leP_total (a b : Int × Int) : (leP a b || leP b a) = true := by
  simp only [leP, Bool.or_eq_true, decide_eq_true_eq]; omega
theorem leP_anti {a b : Int × Int} (h : leP a b = true) (h' : leP b a = true) : a = b := by
  simp only [leP, decide_eq_true_eq] at *
  exact Prod.ext (by omega) (by omega)
def dd : List (Int × Int) → List (Int × Int)
  | [] => []
  | x :: r => if x ∈ r then dd r else x :: dd r
theorem mem_dd {x : Int × Int} : ∀ {ps : List (Int × Int)}, x ∈ dd ps ↔ x ∈ ps
  | [] => Iff.rfl
  | y :: r => by
    unfold dd
    split
    · rename_i h
      rw [mem_dd, List.mem_cons]
      exact ⟨.inr, fun z => z.elim (fun e => e ▸ h) id⟩
    · rw [List.mem_cons, List.mem_cons, mem_dd]
theorem dd_nodup : ∀ ps : List (Int × Int), (dd ps).Nodup
  | [] => List.nodup_nil
  | y :: r => by
    unfold dd
    split
    · exact dd_nodup r
    · rename_i h
      exact List.nodup_cons.mpr ⟨fun z => h (mem_dd.mp z), dd_nodup r⟩
def ssort (ps : List (Int × Int)) : List (Int × Int) := (dd ps).mergeSort leP
def keyP (k : List Int) : Int × Int := (k.getD 0 0, k.getD 1 0)
/-- a list whose order is another's -/
theorem perm_back {α β : Type} {f : α → β} {vs us : List β} (h : vs.Perm us) : ∀ L : List α, us = L.map f → ∃ L1 : List α, L1.Perm L ∧ vs = L1.map f := by
  induction h with
  | nil => intro L e; exact ⟨[], by rw [List.map_eq_nil_iff.mp e.symm], rfl⟩
  | cons x _ ih =>
    intro L e
    cases L with
    | nil => cases e
    | cons y r =>
      injection e with e1 e2
      obtain ⟨L1, p, e3⟩ := ih r e2
      exact ⟨y :: L1, p.cons y, by rw [List.map_cons, e3, e1]⟩
  | swap x y l =>
    intro L e
    match L, e with
    | a :: b :: r, e =>
      simp only [List.map_cons, List.cons.injEq] at e
      exact ⟨b :: a :: r, List.Perm.swap _ _ _, by simp [e]⟩
  | trans _ _ ih1 ih2 =>
    intro L e
    obtain ⟨L2, p2, e2⟩ := ih2 L e
    obtain ⟨L1, p1, e1⟩ := ih1 L2 e2
    exact ⟨L1, p1.trans p2, e1⟩
theorem sorted_one {as bs : List (Int × Int)} (h : as.Perm bs) (ha : as.Pairwise fun x y => leP x y = true) (hb : bs.Pairwise fun x y => leP x y = true) : as = bs :=
  h.eq_of_pairwise (le := fun x y => leP x y = true) (fun _ _ _ _ => leP_anti) ha hb

/-! ### sorted(s), s such a set -/
section
variable {X : Cx}
def rSortG (K : PySem.W.Frag) (P : Program) (w : World) : List V → Hp → VK → Prop := fun vs H Q => ∃ (a : Addr) (L : List (Addr × List Int)), vs = [V.ref a] ∧ H a = some (SetGO P w a L) ∧ (∀ p ∈ L, SqT K H p.1 (p.2.map V.int)) ∧ (∀ p ∈ L, p.2.length = 2) ∧ L.length < 4000 ∧
  ∀ (L' : List (Addr × List Int)) (p : Addr), L'.Perm L → ((L'.map fun q => keyP q.2).Pairwise fun x y => leP x y = true) → H p = none → Q (.ref p) (upd H p (.lst (L'.map fun q => V.ref q.1)))
theorem cr_sortG (hc : X.calm = true) (hu : X.A.units + 67 < cLine) : CallR X (.builtin "sorted") (rSortG X.K X.prog X.w) := by
  intro pins s σ H vs us Q I r ⟨a, L, e, ha, hk, h2, few, q⟩
  subst e
  rw [Vals.ref1 r]
  obtain ⟨es, ep, t, ⟨o, ho, hex, hd⟩, row, T, once, pln, ldd, rm, m5⟩ := show SG0 X.prog X.w s.heap a L from (I.hok a _ ha).1
  have sz := rows_len row
  refine Calls.call_function_entry PyProof.Rows.kind_sorted PyProof.Rows.plain_sorted PyProof.Rows.entry_sorted (PyProof.Rows.args_sorted1 _) ?_
  unfold Builtin.«sorted»
  refine wpAny_bind (m := checkCount "sorted" 1 1 _) (wpAny_pure ?_)
  refine wpAny_bind (collect_set (A := X.A.in1) (I.ok.hd hc) ⟨o, ho, hex.1, hd⟩ (tb_fits T (by rw [sz, List.length_map]) (by rw [List.length_map]; omega)) (by unfold scanBound; omega) T.up ldd fun s1 out k1 hz g1 o1 pm => ?_)
  have er : es.toList.map (·.2) = L.map fun q => Value.ref q.1 := by rw [row, rowsOf, List.map_map]; rfl
  obtain ⟨L1, pL, e1⟩ := perm_back (f := fun q : Addr × List Int => Value.ref q.1) (er ▸ pm) L rfl
  subst e1
  have n1 : L1.length < 4000 := by rw [pL.length_eq]; exact few
  have in1 : ∀ q ∈ L1, q ∈ L := fun q z => pL.mem_iff.mp z
  have I1 : Inv X pins σ H { s with heap := s1.heap, toks := s1.toks } := I.kept k1
  let enc : Addr × List Int → PyData := fun q => .tuple [.int (keyP q.2).1, .int (keyP q.2).2]
  have as_pair : ∀ k : List Int, k.length = 2 → k = [(keyP k).1, (keyP k).2] := fun k hk => by
    match k, hk with
    | [x, y], _ => rfl
  have reads : ∀ h' : Heap, (∀ b o, s.heap.get? b = some o → h'.get? b = some o) → ∀ q ∈ L1, Reads h' (.ref q.1) (enc q) [] := fun h' kp q hq => by
    obtain ⟨o2, items, n, g1, g2, g3, g4⟩ := I.isT (hk q (in1 q hq))
    refine .tuple (kp _ _ g1) g2 g3 ?_
    have two := as_pair q.2 (h2 q (in1 q hq))
    generalize (keyP q.2).1 = x at two ⊢
    generalize (keyP q.2).2 = y at two ⊢
    rw [two] at g4
    have g5 := ints_of_items g4
    generalize items.toList = vs at g5
    cases g5 with
    | cons _ t1 r =>
      cases r with
      | cons _ t2 r =>
        cases r
        exact ReadsAll.cons (.int x t1) (ReadsAll.cons (.int y t2) .nil)
  refine wpAny_bind (wpAny_newList ?_ (by rw [List.length_map, sizeLine_eq]; omega))
  have hoL : (s1.heap.push (seqObj "list" (L1.map fun q => Value.ref q.1).toArray 0)).get? s1.heap.objs.size = some (seqObj "list" (L1.map fun q => Value.ref q.1).toArray 0) := Heap.get?_push_size _ rfl
  have each : ∀ (M : List (Addr × List Int)), (∀ q ∈ M, q ∈ L1) → PySem.W.EachIs (fun v (q : Addr × List Int) => v = Value.ref q.1) (M.map fun q => Value.ref q.1) M ∧
      PySem.W.EachIs (fun v (q : Addr × List Int) => ∃ as, Reads (s1.heap.push (seqObj "list" (L1.map fun q => Value.ref q.1).toArray 0)) v (enc q) as ∧ s1.heap.objs.size ∉ as) (M.map fun q => Value.ref q.1) M := fun M => by
    induction M with
    | nil => intro _; exact ⟨.nil, .nil⟩
    | cons q M ih =>
      intro hM
      obtain ⟨i1, i2⟩ := ih fun r hr => hM r (List.mem_cons_of_mem _ hr)
      exact ⟨.cons rfl i1, .cons ⟨[], reads _ (fun b u e => Heap.get?_push_of_some _ (k1 b u e)) q (hM q List.mem_cons_self), by simp⟩ i2⟩
  obtain ⟨ea, eb⟩ := each L1 fun _ z => z
  show wpAny _ _ _ _ _ { s1 with heap := s1.heap.push (seqObj "list" (L1.map fun q => Value.ref q.1).toArray 0) }
  refine wpAny_bind (wpAny_holding (PySem.W.list_sort_data (s := { s1 with heap := s1.heap.push (seqObj "list" (L1.map fun q => Value.ref q.1).toArray 0) }) (enc := enc) hoL ea eb (PySem.W.AllAlike.of fun _ _ => by simp [enc, PySem.W.alike, PySem.W.alikeAll]) (PySem.W.Sortable.tuples fun _ => ⟨_, _, rfl⟩)
    (by rw [sizeLine_eq]; omega) (fun b _ => by show X.A.units + 1 + 1 + PyData.depth (.tuple [_, _]) < _; simp [PyData.depth, PyData.depthAll]; omega) fun out h1 h3 => ?_))
  have eout : out = (L1.mergeSort (PySem.W.dataLe false enc)).map fun q => Value.ref q.1 := by
    have : ∀ {o : List Value} {M : List (Addr × List Int)}, PySem.W.EachIs (fun v (q : Addr × List Int) => v = Value.ref q.1) o M → o = M.map fun q => Value.ref q.1 := fun h => by
      induction h with
      | nil => rfl
      | cons e _ ih => rw [List.map_cons, ← ih, e]
    exact this h3
  have ord : ((L1.mergeSort (PySem.W.dataLe false enc)).map fun q => keyP q.2).Pairwise fun x y => leP x y = true := by
    have e : (L1.mergeSort (PySem.W.dataLe false enc)).map (fun q => keyP q.2) = (L1.map fun q => keyP q.2).mergeSort leP :=
      List.map_mergeSort fun a _ b _ => by rw [show PySem.W.dataLe false enc = _ from PySem.W.dataLe_ii (fun q : Addr × List Int => (keyP q.2).1) (fun q => (keyP q.2).2)]; rfl
    rw [e]
    exact List.pairwise_mergeSort leP_trans leP_total _
  have pm2 : (L1.mergeSort (PySem.W.dataLe false enc)).Perm L := (List.mergeSort_perm _ _).trans pL
  generalize L1.mergeSort (PySem.W.dataLe false enc) = L' at eout ord pm2
  subst eout
  obtain ⟨c, hc2⟩ := PyProof.Rows.sortedHeap_at (vs := L1.map fun q => Value.ref q.1) (out := (L'.map fun q => Value.ref q.1).toArray) hoL
  have hlt : ∀ b u, s.heap.get? b = some u → b < s1.heap.objs.size := fun b u e => Heap.lt_size (k1 b u e)
  have old : ∀ b u, s.heap.get? b = some u → (sortedHeap (s1.heap.push (seqObj "list" (L1.map fun q => Value.ref q.1).toArray 0)) s1.heap.objs.size (L1.map fun q => Value.ref q.1) (L'.map fun q => Value.ref q.1).toArray).get? b = some u := fun b u e => by
    rw [PyProof.Rows.sortedHeap_old (Nat.ne_of_lt (hlt b u e)) (by rw [size_push']; exact Nat.lt_succ_of_lt (hlt b u e))]
    exact Heap.get?_push_of_some _ (k1 b u e)
  have nl : (L'.map fun q => V.ref q.1).length ≤ sizeLine := by rw [List.length_map, pm2.length_eq, sizeLine_eq]; omega
  have hnew : H s1.heap.objs.size = none := I.hok.fresh hz
  refine wpAny_pure ⟨_, rfl, .ref s1.heap.objs.size, upd H s1.heap.objs.size (.lst (L'.map fun q => V.ref q.1)), ?_, rfl, q L' _ pm2 ord hnew⟩
  have e2 : ∀ h2 : Heap, { s1 with heap := h2 } = { s with heap := h2, gens := s1.gens, drawn := s1.drawn, toks := s1.toks } := fun h2 => by cases s1; cases o1; rfl
  have J : Inv X pins σ (upd H s1.heap.objs.size (.lst (L'.map fun q => V.ref q.1))) { s with heap := sortedHeap (s1.heap.push (seqObj "list" (L1.map fun q => Value.ref q.1).toArray 0)) s1.heap.objs.size (L1.map fun q => Value.ref q.1) (L'.map fun q => Value.ref q.1).toArray, gens := s1.gens, drawn := s1.drawn, toks := s1.toks } :=
    I.call (ch := []) (Un.laid old hz hnew) (I.hok.laid old hz ⟨nl, L'.map fun q => Value.ref q.1, c, vals_of_refs L', hc2⟩) (by rw [g1]; exact I.bare) (fun _ z => nomatch z)
  rw [← e2] at J
  exact J
end

/-! ### the mirror -/
theorem hu64 {k : Nat} {A : Around} (r : Room k A) : A.units + 64 < cLine := by have := r.un; omega
def asPrs : List PyData → Option (List (Int × Int))
  | [] => some []
  | .tuple [.int x, .int y] :: r => (asPrs r).bind fun ps => some ((x, y) :: ps)
  | _ => none
theorem asPrs_map : ∀ ps : List (Int × Int), asPrs (ps.map prD) = some ps
  | [] => rfl
  | p :: r => by rw [List.map_cons, prD, asPrs, asPrs_map r]; rfl
theorem asPrs_eq {ds : List PyData} : ∀ {ps : List (Int × Int)}, asPrs ds = some ps → ds = ps.map prD := by
  fun_induction asPrs ds with
  | case1 => intro ps h; cases h; rfl
  | case2 x y r ih =>
    intro ps h
    obtain ⟨qs, h1, h⟩ := Option.bind_eq_some_iff.mp h
    cases h
    rw [ih h1]; rfl
  | case3 => intro ps h; cases h
def cSortSet : PyData → Option PyData
  | .list ds => (asPrs ds).bind fun ps => if ps.length < 1000 then some (.list ((ssort ps).map prD)) else none
  | _ => none
theorem cSortSet_eq {ps : List (Int × Int)} (h : ps.length < 1000) : cSortSet (.list (ps.map prD)) = some (.list ((ssort ps).map prD)) := by
  rw [cSortSet, asPrs_map]; exact if_pos h
section
variable {K : PySem.W.Frag} {bv : List V} {e e' : Dl.Env} {fp al : Addr → Prop} {σ : L2.St} {H H' : Hp} {φ : Addr → Prop}
theorem prs_at : ∀ {ps : List (Int × Int)} {xs : List V}, WkA K H φ xs (ps.map prD) → ∃ ks : List (Addr × List Int), xs = ks.map (fun p => V.ref p.1) ∧ ks.map (·.2) = ps.map (fun p => [p.1, p.2]) ∧ ∀ p ∈ ks, H p.1 = some (.tup (p.2.map V.int))
  | [], _, w => by cases w; exact ⟨[], rfl, rfl, fun _ z => nomatch z⟩
  | p :: r, _, w => by
    cases w with
    | cons a b =>
      obtain ⟨ks, e1, e2, e3⟩ := prs_at b
      obtain ⟨t, ys, rfl, ht, wt⟩ := a.tupJ
      have ey := wkA_ints (is := [p.1, p.2]) wt
      subst ey
      refine ⟨(t, [p.1, p.2]) :: ks, by rw [e1]; rfl, by rw [List.map_cons, e2]; rfl, fun q hq => ?_⟩
      rcases List.mem_cons.mp hq with rfl | hq
      · exact ht
      · exact e3 q hq
theorem ownA_prs {H : Hp} : ∀ {L : List (Addr × List Int)}, (∀ p ∈ L, H p.1 = some (.tup (p.2.map V.int))) → (∀ p ∈ L, p.2.length = 2) → OwnA K H (L.map fun p => V.ref p.1) ((L.map fun p => keyP p.2).map prD) []
  | [], _, _ => .nil
  | p :: r, h, h2 => by
    refine OwnA.cons (f := []) (g := []) ?_ (ownA_prs (fun q z => h q (List.mem_cons_of_mem _ z)) fun q z => h2 q (List.mem_cons_of_mem _ z)) (fun _ z => nomatch z)
    have g := h p List.mem_cons_self
    have l2 := h2 p List.mem_cons_self
    obtain ⟨t, k⟩ := p
    match k, l2 with
    | [x, y], _ => exact .tup g (OwnA.cons (f := []) (g := []) (.int x) (OwnA.cons (f := []) (g := []) (.int y) .nil (fun _ z => nomatch z)) (fun _ z => nomatch z))
/-- sorted(set(xs)) -/
theorem re_sortSet {P : Program} {w : World} {t : TE} {a : MO} (h : RO K t a) : RE K (tCB (rSortG K P w) (tCons (tCB (rSetG K P w) (tCons t tNil)) tNil)) (mOp1 cSortSet a) := by
  intro e c e' q bv fp al σ H Q rr k
  obtain ⟨⟨o, e1⟩, h1, q⟩ := Option.bind_eq_some_iff.mp q
  obtain ⟨d, h2, q⟩ := Option.bind_eq_some_iff.mp q
  obtain ⟨c', h3, q⟩ := Option.bind_eq_some_iff.mp q
  cases q
  unfold cSortSet at h3
  split at h3
  rotate_left
  · cases h3
  rename_i ds
  obtain ⟨ps, h4, h3⟩ := Option.bind_eq_some_iff.mp h3
  split at h3
  rotate_left
  · cases h3
  rename_i few
  cases h3
  have ed := asPrs_eq h4
  subst ed
  refine h e o e1 h1 bv fp al σ H _ rr fun v H1 fp1 al1 fv to oo => ?_
  obtain ⟨l, xs, rfl, hl, wA⟩ := (oo.w0 to.rr h2).lstI
  obtain ⟨ks, rfl, e2, e3⟩ := prs_at wA
  have len2 : ∀ p ∈ ks, p.2.length = 2 := fun p hp => by
    have : p.2 ∈ ps.map fun p => [p.1, p.2] := e2 ▸ List.mem_map.mpr ⟨p, hp, rfl⟩
    obtain ⟨q, _, e⟩ := List.mem_map.mp this
    rw [← e]; rfl
  have ls : ks.length < 1000 := by
    have := congrArg List.length e2
    simp at this
    omega
  refine ⟨l, ks, rfl, SqL.of hl, fun p hp => SqT.of (e3 p hp), ls, fun a L ha sub all once ll => ?_⟩
  have at2 : ∀ p ∈ L, (upd H1 a (SetGO P w a L)) p.1 = some (.tup (p.2.map V.int)) := fun p hp => by
    rw [upd_ne (ne_of_none (e3 p (sub p hp)) ha)]; exact e3 p (sub p hp)
  refine ⟨a, L, rfl, upd_same, fun p hp => SqT.of (at2 p hp), fun p hp => len2 p (sub p hp), ?_, fun L' p pm ord hp => ?_⟩
  · omega
  have hpa : p ≠ a := fun z => by rw [z, upd_same] at hp; cases hp
  have hp1 : H1 p = none := by rwa [upd_ne hpa] at hp
  have sm : Same H1 (upd (upd H1 a (SetGO P w a L)) p (.lst (L'.map fun q => V.ref q.1))) := fun b u z => by
    rw [upd_ne (ne_of_none z hp1), upd_ne (ne_of_none z ha)]; exact z
  have eres : (L'.map fun q => keyP q.2) = ssort ps := by
    have two : ∀ q : List Int, q.length = 2 → q = [(keyP q).1, (keyP q).2] := fun q hq => by
      match q, hq with
      | [x, y], _ => rfl
    have kmem : ∀ x, x ∈ (ks.map (·.2)).map keyP ↔ x ∈ ps := fun x => by
      rw [e2, List.map_map]
      have : (keyP ∘ fun p : Int × Int => [p.1, p.2]) = id := funext fun p => rfl
      rw [this, List.map_id]
    refine sorted_one ?_ ord (List.pairwise_mergeSort leP_trans leP_total _)
    refine List.Perm.trans ?_ (List.mergeSort_perm _ _).symm
    have nd : (L'.map fun q => keyP q.2).Nodup := by
      have n0 : (L'.map (·.2)).Nodup := (pm.map (·.2)).nodup_iff.mpr once
      have : (L'.map fun q => keyP q.2) = (L'.map (·.2)).map keyP := by rw [List.map_map]; rfl
      rw [this]
      refine List.pairwise_map.mpr (List.Pairwise.imp_of_mem (fun {x y} hx hy ne e => ne ?_) n0)
      have lx : ∀ z ∈ L'.map (·.2), z.length = 2 := fun z hz => by
        obtain ⟨q, hq, rfl⟩ := List.mem_map.mp hz
        exact len2 q (sub q (pm.mem_iff.mp hq))
      rw [two x (lx x hx), two y (lx y hy), e]
    refine (List.perm_ext_iff_of_nodup nd (dd_nodup ps)).mpr fun x => ?_
    rw [mem_dd, ← kmem x, List.mem_map, List.mem_map]
    constructor
    · rintro ⟨q, hq, rfl⟩
      exact ⟨q.2, List.mem_map.mpr ⟨q, sub q (pm.mem_iff.mp hq), rfl⟩, rfl⟩
    · rintro ⟨z, hz, rfl⟩
      obtain ⟨q, hq, rfl⟩ := List.mem_map.mp hz
      obtain ⟨r, hr, e⟩ := List.mem_map.mp (all q hq)
      exact ⟨r, pm.mem_iff.mpr hr, by rw [e]⟩
  have ow : Own K (upd (upd H1 a (SetGO P w a L)) p (.lst (L'.map fun q => V.ref q.1))) (.ref p) (.list ((ssort ps).map prD)) [p] := by
    rw [← eres]
    refine .lst upd_same (ownA_prs (fun q hq => ?_) fun q hq => len2 q (sub q (pm.mem_iff.mp hq))) (fun z => nomatch z)
    have := sub q (pm.mem_iff.mp hq)
    exact sm _ _ (e3 q this)
  exact k _ _ fp1 _ [p] (to.newv sm ow fun x hx => by rw [List.mem_singleton.mp hx]; exact hp1) ow
end
end Dl
/-! sorted of a list that is given away, of data of any kind -/
namespace Dl
open PySem L2 PyProof.Rows PySem.SeqAt
section
variable {K : PySem.W.Frag} {bv : List V} {e e' : Dl.Env} {fp al : Addr → Prop} {σ : L2.St} {H H' : Hp} {φ : Addr → Prop}
theorem OwnA.perm {ps qs : List (V × PyData)} (h : ps.Perm qs) : ∀ {g : List Addr}, OwnA K H (ps.map (·.1)) (ps.map (·.2)) g → ∃ g', OwnA K H (qs.map (·.1)) (qs.map (·.2)) g' ∧ ∀ a ∈ g', a ∈ g := by
  induction h with
  | nil => intro g o; exact ⟨g, o, fun _ z => z⟩
  | cons x _ ih =>
    intro g o
    cases o with
    | cons a b n =>
      obtain ⟨g', o', s⟩ := ih b
      refine ⟨_, .cons a o' fun y hy z => n y hy (s y z), fun y hy => ?_⟩
      rcases List.mem_append.mp hy with z | z
      · exact List.mem_append_left _ z
      · exact List.mem_append_right _ (s y z)
  | swap x y l =>
    intro g o
    cases o with
    | @cons _ _ _ _ f1 _ a b n =>
      cases b with
      | @cons _ _ _ _ f2 f3 a2 b2 n2 =>
        refine ⟨f2 ++ (f1 ++ f3), .cons a2 (.cons a b2 fun z hz q => n z hz (List.mem_append_right _ q)) fun z hz q => ?_, fun z hz => ?_⟩
        · rcases List.mem_append.mp q with q | q
          · exact n z q (List.mem_append_left _ hz)
          · exact n2 z hz q
        · simp only [List.mem_append] at hz ⊢
          rcases hz with q | q | q
          · exact .inr (.inl q)
          · exact .inl q
          · exact .inr (.inr q)
  | trans _ _ ih1 ih2 =>
    intro g o
    obtain ⟨g1, o1, s1⟩ := ih1 o
    obtain ⟨g2, o2, s2⟩ := ih2 o1
    exact ⟨g2, o2, fun a z => s1 a (s2 a z)⟩
def mSortO (m : ME) : ME := fun e => (m e).bind fun p => match p.1 with
  | .list ds => if SeqAt.shaped (.list ds) = true ∧ alA ds = true ∧ srtb ds = true then some (.list (sortD ds), p.2) else none
  | _ => none
theorem zip_fst' : ∀ {ws : List V} {ds : List PyData}, ws.length = ds.length → (ws.zip ds).map (·.1) = ws
  | [], [], _ => rfl
  | w :: ws, d :: ds, h => by simp [zip_fst' (ws := ws) (ds := ds) (by simpa using h)]
theorem re_sortO {t : TE} {m : ME} (h : RE K t m) : RE K (tCB (rSortD K) (tCons t tNil)) (mSortO m) := by
  intro e c e' q bv fp al σ H Q rr k
  obtain ⟨⟨d, e1⟩, h1, q⟩ := Option.bind_eq_some_iff.mp q
  cases d with
  | list ds =>
    dsimp only at q
    split at q
    · rename_i hc
      cases q
      refine h e _ _ h1 bv fp al σ H _ rr fun v H1 fp1 al1 fv to ow => ?_
      obtain ⟨a, xs, g, rfl, rfl, ha, oA, na⟩ := ow.lstI
      have wA : WkA K H1 (fun _ => True) xs ds := oA.wk fun _ _ => trivial
      refine ⟨a, xs, ds, rfl, SqL.of ha, wA.dp (layA_of_shaped hc.1), hc.1, hc.2.1, hc.2.2, fun p hp => ?_⟩
      have sm : Same H1 (upd H1 p (.lst (((xs.zip ds).mergeSort (PySem.W.dataLe false fun b : V × PyData => b.2)).map (·.1)))) := same_upd hp
      have lx := oA.length
      have o0 : OwnA K H1 ((xs.zip ds).map (·.1)) ((xs.zip ds).map (·.2)) g := by rw [zip_fst' lx, zip_snd lx]; exact oA
      obtain ⟨g', o1, s1⟩ := OwnA.perm (List.mergeSort_perm (xs.zip ds) (PySem.W.dataLe false fun b : V × PyData => b.2)).symm o0
      rw [sort_snd lx] at o1
      have pg : p ∉ g' := fun z => by
        obtain ⟨u, hu⟩ := oA.alive p (s1 p z)
        rw [hp] at hu; cases hu
      have o2 : Own K (upd H1 p (.lst (((xs.zip ds).mergeSort (PySem.W.dataLe false fun b : V × PyData => b.2)).map (·.1)))) (.ref p) (.list (sortD ds)) (p :: g') :=
        .lst upd_same (o1.step (.of_same sm fun _ z => .inl z) fun _ _ z => z) pg
      refine k _ _ fp1 _ (p :: g') (to.fresh sm fun b z => ?_) o2
      rcases List.mem_cons.mp z with rfl | z
      · exact .inr ⟨hp, _, upd_same⟩
      · exact .inl (List.mem_cons_of_mem _ (s1 b z))
    · cases q
  | _ => cases q
/-! ### readings that make new data of what is read alone -/
def uCat (a b : MV) : MV := fun e => (a e).bind fun x => (b e).bind fun y => match x, y with
  | .tuple xs, .tuple ys => if xs.length + ys.length ≤ 16777216 then some (.tuple (xs ++ ys)) else none
  | _, _ => none
def mOp2U (f : PyData → PyData → Option PyData) (a b : MV) : ME := fun e => (a e).bind fun x => (b e).bind fun y => (f x y).bind fun c => some (c, e)
theorem re_op2U {r : R2} {f : PyData → PyData → Option PyData} {ta tb : TE} {a b : MV} (hr : Fr2 K r f) (ha : RU K ta a) (hb : RU K tb b) : RE K (tOp r ta tb) (mOp2U f a b) := by
  intro e c e' q bv fp al σ H Q rr k
  obtain ⟨x, h1, q⟩ := Option.bind_eq_some_iff.mp q
  obtain ⟨y, h2, q⟩ := Option.bind_eq_some_iff.mp q
  obtain ⟨c', h3, q⟩ := Option.bind_eq_some_iff.mp q
  cases q
  refine ha _ x h1 bv fp al σ H _ rr fun v H1 s1 w1 => hb _ y h2 bv fp al σ H1 _ (rr.pure s1) fun u H2 s2 w2 => ?_
  exact hr x y _ h3 v u H2 Q (w1.same s2) w2 fun z H3 fz s3 o n => k z H3 _ _ fz (To.now rr (Same.trans (Same.trans s1 s2) s3) o fun a z => by
    cases h : H a with
    | none => rfl
    | some u => have := n a z; rw [s2 a u (s1 a u h)] at this; cases this) o
def mOp2E (f : PyData → PyData → Option PyData) (a : ME) (b : MV) : ME := fun e => (a e).bind fun p => (b p.2).bind fun y => (f p.1 y).bind fun c => some (c, p.2)
theorem re_op2E {r : R2} {f : PyData → PyData → Option PyData} {ta tb : TE} {a : ME} {b : MV} (hr : Fr2 K r f) (ha : RE K ta a) (hb : RU K tb b) : RE K (tOp r ta tb) (mOp2E f a b) := by
  intro e c e' q bv fp al σ H Q rr k
  obtain ⟨⟨x, e1⟩, h1, q⟩ := Option.bind_eq_some_iff.mp q
  obtain ⟨y, h2, q⟩ := Option.bind_eq_some_iff.mp q
  obtain ⟨c', h3, q⟩ := Option.bind_eq_some_iff.mp q
  cases q
  refine ha e x _ h1 bv fp al σ H _ rr fun v H1 fp1 al1 fv to ow => hb _ y h2 bv fp1 al1 σ H1 _ to.rr fun u H2 s2 w2 => ?_
  refine hr x y _ h3 v u H2 Q (ow.w0.same s2) w2 fun z H3 fz s3 o n => k z H3 _ _ fz (to.newv (Same.trans s2 s3) o fun a z => ?_) o
  cases h : H1 a with
  | none => rfl
  | some u => have := n a z; rw [s2 a u h] at this; cases this
def RKp (K : PySem.W.Frag) (t : TE) (m : MV) : Prop := ∀ (e : Dl.Env) (d : PyData), m e = some d → ∀ (bv : List V) (fp al : Addr → Prop) (σ : L2.St) (H : Hp) (Q : VK) (fo : Addr → Prop) (F : Ix → List Addr), RF K bv e fp al σ H fo F → (∀ v H', Same H H' → Wk K H' fo v d → Q v H') → t σ H Q
def RKs (K : PySem.W.Frag) (t : TA) (m : MVs) : Prop := ∀ (e : Dl.Env) (ds : List PyData), m e = some ds → ∀ (bv : List V) (fp al : Addr → Prop) (σ : L2.St) (H : Hp) (Q : List V → Hp → Prop) (fo : Addr → Prop) (F : Ix → List Addr), RF K bv e fp al σ H fo F → (∀ vs H', Same H H' → WkA K H' fo vs ds → Q vs H') → t σ H Q
theorem Same.stepF (s : Same H H') : Step (fun _ => False) H (fun _ => False) H' := .of_same s fun _ z => z.elim
theorem Wk.sameφ {v : V} {d : PyData} (s : Same H H') (w : Wk K H φ v d) : Wk K H' φ v d := w.step (Same.stepF s) fun _ _ z => z
theorem WkA.sameφ {v : List V} {d : List PyData} (s : Same H H') (w : WkA K H φ v d) : WkA K H' φ v d := w.step (Same.stepF s) fun _ _ z => z
theorem RF.same {fo : Addr → Prop} {F : Ix → List Addr} (r : RF K bv e fp al σ H fo F) (s : Same H H') : RF K bv e fp al σ H' fo F := r.step (Same.stepF s) (fun _ _ z => z) fun _ _ z => z
theorem RKp.ru {t : TE} {m : MV} (h : RKp K t m) : RU K t m := fun e d q bv fp al σ H Q rr k => by
  obtain ⟨fo, F, rf⟩ := rr
  exact h e d q bv fp al σ H Q fo F rf fun v H' s w => k v H' s w.w0
def kVar (i : Nat) : MV := fun e => match e.sl[i]? with
  | some (.wk d) => some d
  | _ => none
theorem rk_var {i : Nat} : RKp K (tVar i) (kVar i) := by
  intro e d q bv fp al σ H Q fo F rf k
  unfold kVar at q
  split at q
  · rename_i c hc
    cases q
    obtain ⟨v, hv, w⟩ := rf.wk i _ hc
    exact ⟨v, hv, k v H (Same.refl _) w⟩
  · cases q
theorem rk_const {v : V} {d : PyData} (o : ∀ H : Hp, Own K H v d []) : RKp K (tC v) (vC d) := by
  intro e d' q bv fp al σ H Q fo F rf k
  cases q
  exact k v H (Same.refl _) ((o H).wk fun _ z => by cases z)
theorem rk_int {i : Int} : RKp K (tC (.int i)) (vC (.int i)) := rk_const fun _ => .int i
theorem rk_str {i : Str} : RKp K (tC (.str i)) (vC (.str i)) := rk_const fun _ => .str i
theorem rk_non : RKp K (tC .non) (vC .none) := rk_const fun _ => .non
theorem rk_ix {ta tb : TE} {a b : MV} (ha : RKp K ta a) (hb : RKp K tb b) : RKp K (tOp (rIx K) ta tb) (vIx a b) := by
  intro e d q bv fp al σ H Q fo F rf k
  obtain ⟨x, h1, q⟩ := Option.bind_eq_some_iff.mp q
  obtain ⟨y, h2, q⟩ := Option.bind_eq_some_iff.mp q
  refine ha e x h1 bv fp al σ H _ fo F rf fun v H1 s1 wv => hb e y h2 bv fp al σ H1 _ fo F (rf.same s1) fun w H2 s2 ww => ?_
  have wv := wv.sameφ s2
  cases y with
  | int i =>
    cases ww.intI
    cases x with
    | list ds =>
      obtain ⟨p, xs, rfl, hp, w⟩ := wv.lstI
      obtain ⟨v, hv, wv⟩ := atI_w w q
      exact .inl ⟨p, xs, i, v, rfl, rfl, SqL.of hp, hv, k _ _ (Same.trans s1 s2) wv⟩
    | tuple ds =>
      obtain ⟨p, xs, rfl, hp, w⟩ := wv.tupI
      obtain ⟨v, hv, wv⟩ := atI_w w q
      exact .inr (.inl ⟨p, xs, i, v, rfl, rfl, hp, hv, k _ _ (Same.trans s1 s2) wv⟩)
    | _ => cases q
  | _ => cases x <;> cases q
def kOp2 (f : PyData → PyData → Option PyData) (a b : MV) : MV := fun e => (a e).bind fun x => (b e).bind fun y => (f x y).bind fun c => if imm c = true then some c else none
theorem rk_op2 {r : R2} {f : PyData → PyData → Option PyData} {ta tb : TE} {a b : MV} (hr : Fr2 K r f) (ha : RKp K ta a) (hb : RKp K tb b) : RKp K (tOp r ta tb) (kOp2 f a b) := by
  intro e d q bv fp al σ H Q fo F rf k
  obtain ⟨x, h1, q⟩ := Option.bind_eq_some_iff.mp q
  obtain ⟨y, h2, q⟩ := Option.bind_eq_some_iff.mp q
  obtain ⟨c, h3, q⟩ := Option.bind_eq_some_iff.mp q
  split at q
  rotate_left
  · cases q
  rename_i hi
  cases q
  refine ha e x h1 bv fp al σ H _ fo F rf fun v H1 s1 w1 => hb e y h2 bv fp al σ H1 _ fo F (rf.same s1) fun u H2 s2 w2 => ?_
  exact hr x y _ h3 v u H2 Q (w1.w0.same s2) w2.w0 fun z H3 fz s3 o n => k z H3 (Same.trans (Same.trans s1 s2) s3) ((o.nils hi).wk fun _ z => by cases z)
theorem rk_if {tc ta tb : TE} {c a b : MV} (hc : RKp K tc c) (ha : RKp K ta a) (hb : RKp K tb b) : RKp K (tIf (tTest tc) ta tb) (uIf c a b) := by
  intro e d q bv fp al σ H Q fo F rf k
  obtain ⟨x, h1, q⟩ := Option.bind_eq_some_iff.mp q
  split at q
  · refine hc e _ h1 bv fp al σ H _ fo F rf fun v H1 s1 w1 => ⟨true, w1.blI, ?_⟩
    exact ha e d q bv fp al σ H1 _ fo F (rf.same s1) fun u H2 s2 w2 => k u H2 (Same.trans s1 s2) w2
  · refine hc e _ h1 bv fp al σ H _ fo F rf fun v H1 s1 w1 => ⟨false, w1.blI, ?_⟩
    exact hb e d q bv fp al σ H1 _ fo F (rf.same s1) fun u H2 s2 w2 => k u H2 (Same.trans s1 s2) w2
  · cases q
theorem rks_nil : RKs K tNil vNil := by
  intro e ds q bv fp al σ H Q fo F rf k
  cases q
  exact k [] H (Same.refl _) .nil
theorem rks_cons {ta : TE} {tr : TA} {a : MV} {r : MVs} (ha : RKp K ta a) (hr : RKs K tr r) : RKs K (tCons ta tr) (vCons a r) := by
  intro e ds q bv fp al σ H Q fo F rf k
  obtain ⟨x, h1, q⟩ := Option.bind_eq_some_iff.mp q
  obtain ⟨y, h2, q⟩ := Option.bind_eq_some_iff.mp q
  cases q
  refine ha e x h1 bv fp al σ H _ fo F rf fun v H1 s1 w1 => hr e y h2 bv fp al σ H1 _ fo F (rf.same s1) fun vs H2 s2 w2 => ?_
  exact k (v :: vs) H2 (Same.trans s1 s2) (.cons (w1.sameφ s2) w2)
theorem rk_tup {t : TA} {m : MVs} (h : RKs K t m) : RKp K (tTup t) (uTup m) := by
  intro e d q bv fp al σ H Q fo F rf k
  obtain ⟨ds, h1, q⟩ := Option.bind_eq_some_iff.mp q
  split at q
  rotate_left
  · cases q
  rename_i hz
  cases q
  refine h e ds h1 bv fp al σ H _ fo F rf fun vs H1 s1 w => ?_
  exact ⟨by rw [w.length, sizeLine_eq]; exact hz, fun p hp => k (.ref p) _ (Same.trans s1 (same_upd hp)) (.tup upd_same (w.sameφ (same_upd hp)))⟩
theorem rk_cat {ta tb : TE} {a b : MV} (ha : RKp K ta a) (hb : RKp K tb b) : RKp K (tOp (rPlus K) ta tb) (uCat a b) := by
  intro e d q bv fp al σ H Q fo F rf k
  obtain ⟨x, h1, q⟩ := Option.bind_eq_some_iff.mp q
  obtain ⟨y, h2, q⟩ := Option.bind_eq_some_iff.mp q
  split at q
  rotate_left
  · cases q
  rename_i xs ys
  split at q
  rotate_left
  · cases q
  rename_i hz
  cases q
  refine ha e _ h1 bv fp al σ H _ fo F rf fun v H1 s1 w1 => hb e _ h2 bv fp al σ H1 _ fo F (rf.same s1) fun u H2 s2 w2 => ?_
  obtain ⟨l, vs, rfl, hl, wx⟩ := (w1.sameφ s2).tupJ
  obtain ⟨m, us, rfl, hm, wy⟩ := w2.tupJ
  have s12 := Same.trans s1 s2
  refine .inr (.inr (.inl ⟨l, m, vs, us, rfl, rfl, SqT.of hl, SqT.of hm, by rw [sizeLine_eq, wx.length, wy.length]; exact hz, fun hx => ?_, fun _ hy => ?_, fun _ _ p hp => ?_⟩))
  · subst hx
    cases wx
    exact k _ H2 s12 (.tup hm wy)
  · subst hy
    cases wy
    rw [List.append_nil] at k
    exact k _ H2 s12 (.tup hl wx)
  · exact k _ _ (Same.trans s12 (same_upd hp)) (.tup upd_same ((wx.append wy).sameφ (same_upd hp)))
/-- x = e, what is made of what is read alone -/
def sAsgK (i : Nat) (m : MV) : MS := fun e => (m e).bind fun d => if i < e.sl.length then some (.nx (e.set i (.wk d))) else none
theorem RF.fillK {fo : Addr → Prop} {F : Ix → List Addr} (r : RF K bv e fp al σ H fo F) {i : Nat} {v : V} {d : PyData} (w : Wk K H fo v d) (hi : i < e.sl.length) : RF K bv (e.set i (.wk d)) fp al (σ.set i (some v)) H fo F := by
  have hl : i < σ.length := by rw [← r.len]; exact hi
  have σe : ∀ {j : Nat}, j ≠ i → (σ.set i (some v))[j]? = σ[j]? := fun {j} h => List.getElem?_set_ne (Ne.symm h)
  refine ⟨by simpa [Env.set] using r.len, fun x c h => ?_, r.dis, r.sub, r.sup, fun j c h => ?_, fun j k h => ?_, r.fof, r.alv⟩
  · cases x with
    | inl j =>
      rcases set_get (Env.own_inl h) with ⟨_, z⟩ | ⟨hj, z⟩
      · cases z
      · obtain ⟨u, a, o⟩ := r.own (.inl j) c (Env.own_of z)
        exact ⟨u, adr_of (by rw [σe hj]; exact adr_inl a), o⟩
    | inr k => exact r.own (.inr k) c h
  · rcases set_get h with ⟨rfl, z⟩ | ⟨hj, z⟩
    · cases z
      exact ⟨v, by rw [List.getElem?_set_self hl], w⟩
    · obtain ⟨u, a, b⟩ := r.wk j c z
      exact ⟨u, by rw [σe hj]; exact a, b⟩
  · rcases set_get h with ⟨_, z⟩ | ⟨hj, z⟩
    · cases z
    · obtain ⟨u, a, b⟩ := r.bor j k z
      exact ⟨u, by rw [σe hj]; exact a, b⟩
theorem rs_asgK {i : Nat} {t : TE} {m : MV} (h : RKp K t m) : RS K (tAsg t (gName i)) (sAsgK i m) := by
  intro e o q bv fp σ H D rr k
  obtain ⟨d, h1, q⟩ := Option.bind_eq_some_iff.mp q
  split at q
  rotate_left
  · cases q
  rename_i hi
  cases q
  obtain ⟨fo, F, rf⟩ := rr
  refine h e d h1 bv fp fp σ H _ fo F rf fun v H' s w => ?_
  exact k _ H' fp ⟨fo, F, (rf.same s).fillK w hi⟩ (Step.of_same s fun _ z => .inl z)
/-- x.index(e) inside of a comprehension -/
theorem pe_idxK {X : Cx} {o e : Expr} {ot : TE} {ta : TA} (hK : X.K = K) (hu : X.A.units + 65 < cLine) {apos cpos : Pos} (ho : PE X o ot) (ha : PA X [e] ta) (hbase : attributeBase o "index" X.env (eval o X.env) = eval o X.env := by rfl)
    (hfew : ((backTo cpos (starEach [e] X.env)).all (fun x => !x.1) && (backToKw cpos (keywordEach [] X.env)).all (fun x => x.1.isSome)
      && decide ([e].length + ([] : List Keyword).length + (if ([] : List Keyword).isEmpty then 0 else 1) < 30)) = true := by rfl)
    (hline : (apos.endLine == cpos.line) = true := by rfl) (hs : starEach [e] X.env = (false, eval e X.env) :: starEach [] X.env := by rfl) (hplain : (backTo cpos (starEach [] X.env)).any (·.1) = false := by rfl) :
    PE X (.Call (.Attribute o "index" apos) [e] [] cpos) (tBM K "list" (rIndexD K) ot ta) := by
  subst hK
  exact pe_bm PySem.F.plainAttrs_list PySem.F.slot_list_index PySem.F.type_list_index (mt_indexD hu) ho ha hbase hfew hline hs hplain
theorem pe_popK {X : Cx} {o e : Expr} {ot : TE} {ta : TA} (hK : X.K = K) {apos cpos : Pos} (ho : PE X o ot) (ha : PA X [e] ta) (hbase : attributeBase o "pop" X.env (eval o X.env) = eval o X.env := by rfl)
    (hfew : ((backTo cpos (starEach [e] X.env)).all (fun x => !x.1) && (backToKw cpos (keywordEach [] X.env)).all (fun x => x.1.isSome)
      && decide ([e].length + ([] : List Keyword).length + (if ([] : List Keyword).isEmpty then 0 else 1) < 30)) = true := by rfl)
    (hline : (apos.endLine == cpos.line) = true := by rfl) (hs : starEach [e] X.env = (false, eval e X.env) :: starEach [] X.env := by rfl) (hplain : (backTo cpos (starEach [] X.env)).any (·.1) = false := by rfl) :
    PE X (.Call (.Attribute o "pop" apos) [e] [] cpos) (tBM K "list" rPopAt ot ta) := by
  subst hK
  exact pe_bm PySem.F.plainAttrs_list PySem.F.slot_list_pop PySem.F.type_list_pop mt_popAt ho ha hbase hfew hline hs hplain
end
end Dl
/-! data of any depth: isinstance of list and tuple, a def over the items, what is given away, items changed by a def -/
namespace Dl
open PySem L2 PyProof.Rows PySem.SeqAt
section
variable {K : PySem.W.Frag} {bv : List V} {e e' : Dl.Env} {fp al : Addr → Prop} {σ : L2.St} {H H' : Hp} {φ : Addr → Prop}
/-- isinstance(x, (list, tuple)) -/
def isLT : PyData → Option Bool
  | .dict _ => none
  | .list _ => some true
  | .tuple _ => some true
  | _ => some false
def mIsiLT (a : MO) : ME := fun e => (a e).bind fun p => (p.1.look p.2).bind fun d => (isLT d).bind fun b => some (.bool b, p.2)
theorem kit_isLT {d : PyData} {b : Bool} (h : isLT d = some b) : PySem.W.kitAny K (.type (tyD d)) [Value.type "list", Value.type "tuple"] = some b := by
  have l : ∀ c, isiB "list" d = some c → PySem.W.kitOne K (.type (tyD d)) (.type "list") = some c := fun c q => kit_isi q
  have t : ∀ c, isiB "tuple" d = some c → PySem.W.kitOne K (.type (tyD d)) (.type "tuple") = some c := fun c q => kit_isi q
  have two : ∀ b1 b2, isiB "list" d = some b1 → isiB "tuple" d = some b2 → PySem.W.kitAny K (.type (tyD d)) [Value.type "list", Value.type "tuple"] = some (b1 || b2) := fun b1 b2 h1 h2 => by
    refine kitAny_cons (l b1 h1) (fun z => ?_) fun z => by rw [z]; rfl
    subst z
    refine kitAny_cons (t b2 h2) (fun z => ?_) fun z => by rw [z]; rfl
    subst z
    rfl
  cases d with
  | dict cs => cases h
  | _ => cases h; exact two _ _ rfl rfl
theorem re_isLT {t : TE} {a : MO} (h : RO K t a) : RE K (tCB (rIsiT K) (tCons t (tCons (tTup (tCons (tC (.ty "list")) (tCons (tC (.ty "tuple")) tNil))) tNil))) (mIsiLT a) := by
  intro e c e' q bv fp al σ H Q rr k
  obtain ⟨⟨o, e1⟩, h1, q⟩ := Option.bind_eq_some_iff.mp q
  obtain ⟨d, h2, q⟩ := Option.bind_eq_some_iff.mp q
  obtain ⟨b, h3, q⟩ := Option.bind_eq_some_iff.mp q
  cases q
  refine h e o e1 h1 bv fp al σ H _ rr fun v H' fp' al' fv to oo => ?_
  refine ⟨by show 2 ≤ sizeLine; rw [sizeLine_eq]; omega, fun p hp => ?_⟩
  refine ⟨v, p, [.ty "list", .ty "tuple"], .type (tyD d), [Value.type "list", Value.type "tuple"], b, rfl, upd_same, .cons (.ty "list") (.cons (.ty "tuple") .nil), tyX_w ((oo.w0 to.rr h2).same (same_upd hp)) (fun cs z => by subst z; cases h3), kit_isLT h3, ?_⟩
  exact k _ _ fp' _ [] (to.fresh (same_upd hp) fun _ z => by cases z) (.bl b)

/-! ### [f(x) for x in ys], ys of any data -/
def itF : PyData → Option (List PyData)
  | .list ds => some ds
  | .tuple ds => some ds
  | _ => none
def mapF (f : List PyData → Option PyData) : List PyData → Option (List PyData)
  | [] => some []
  | d :: r => (f [d]).bind fun c => (mapF f r).bind fun cs => some (c :: cs)
theorem mapF_len {f : List PyData → Option PyData} : ∀ {ds out : List PyData}, mapF f ds = some out → out.length = ds.length
  | [], _, h => by cases h; rfl
  | d :: r, _, h => by
    obtain ⟨c, h1, h⟩ := Option.bind_eq_some_iff.mp h
    obtain ⟨cs, h2, h⟩ := Option.bind_eq_some_iff.mp h
    cases h
    simp [mapF_len h2]
def mMapF (f : List PyData → Option PyData) (i j : Nat) : ME := fun e => (e.look i).bind fun d => (itF d).bind fun ds => if ds.length ≤ 16777216 ∧ j < e.sl.length then (mapF f ds).bind fun out => some (.list out, e) else none
theorem keepSq {a : Addr} {xs : List V} (s : Same H H') (h : SqT K H a xs) : SqT K H' a xs := (Step.of_same (f := fun _ => False) (f1 := fun _ => False) s fun _ z => z.elim).keepT h
theorem mapF_core {f : List PyData → Option PyData} {J : It} {vs : List V} {ds out : List PyData} {j : Nat} {E : XK} {Q : VK} (hz : ds.length ≤ 16777216) (w : W0A K H vs ds) (go : ∀ H', Same H H' → ∀ i x, vs[i]? = some x → J.go i H' ∧ ∀ y H2, J.yld i H' y H2 → H2 = H' ∧ y = x)
    (stp : ∀ H', Same H H' → J.stop vs.length H') (hm : mapF f ds = some out) (hj : j < σ.length) (k : ∀ (v : V) (H' : Hp) (fv : List Addr), Same H H' → Own K H' v (.list out) fv → (∀ a ∈ fv, H a = none) → Q v H') : ∀ D, H D = none → ∃ W : Nat → Nat → Hp → Prop, (∃ m, W 0 m (upd H D (.lst []))) ∧ ∀ i m H, W i m H →
  (J.stop i H ∧ Q (.ref D) H) ∨ (J.go i H ∧ ∃ Nx : Hp → Prop, (∀ H', Nx H' → ∃ m', m' < m ∧ W (i + 1) m' H') ∧ ∀ x H', J.yld i H x H' → gName j x (wipe σ [j]) H' fun σ2 H2 => wipe σ2 [j] = wipe σ [j] ∧ tYes σ2 H2 fun b H3 =>
    if b = true then tCall (spP K 1 f) [] E (tCons (tVar j) tNil) σ2 H3 fun y H4 => ∃ acc, H4 D = some (.lst acc) ∧ acc.length < sizeLine ∧ Nx (upd H4 D (.lst (acc ++ [y]))) else Nx H3) := by
  intro D hD
  have hl := w.length
  refine ⟨fun i m H1 => m = ds.length - i ∧ i ≤ ds.length ∧ ∃ (avs : List V) (acc rest : List PyData) (fa : List Addr), mapF f (ds.drop i) = some rest ∧ out = acc ++ rest ∧ acc.length = i ∧ Same H H1 ∧ H1 D = some (.lst avs) ∧ OwnA K H1 avs acc fa ∧ D ∉ fa ∧ ∀ a ∈ fa, H a = none,
    ⟨ds.length, rfl, Nat.zero_le _, [], [], out, [], by simpa using hm, rfl, rfl, same_upd hD, upd_same, .nil, by simp, by simp⟩, ?_⟩
  rintro i m H1 ⟨rfl, hil, avs, acc, rest, fa, h1, h2, h3, s1, hd1, oA, nD, nf⟩
  rcases Nat.lt_or_ge i ds.length with hlt | hge
  rotate_left
  · have : i = vs.length := by omega
    subst this
    rw [List.drop_of_length_le (by omega)] at h1
    cases h1
    rw [List.append_nil] at h2
    subst h2
    refine .inl ⟨stp H1 s1, k (.ref D) H1 (D :: fa) s1 (.lst hd1 oA nD) fun a z => ?_⟩
    rcases List.mem_cons.mp z with rfl | z
    · exact hD
    · exact nf a z
  right
  rw [List.drop_eq_getElem_cons hlt] at h1
  obtain ⟨c, h4, h1⟩ := Option.bind_eq_some_iff.mp h1
  obtain ⟨cs, h5, h1⟩ := Option.bind_eq_some_iff.mp h1
  cases h1
  obtain ⟨x, hx, wx⟩ := w.get (List.getElem?_eq_getElem hlt)
  obtain ⟨g1, g2⟩ := go H1 s1 i x hx
  refine ⟨g1, fun H' => ∃ (avs : List V) (acc rest : List PyData) (fa : List Addr), mapF f (ds.drop (i + 1)) = some rest ∧ out = acc ++ rest ∧ acc.length = i + 1 ∧ Same H H' ∧ H' D = some (.lst avs) ∧ OwnA K H' avs acc fa ∧ D ∉ fa ∧ ∀ a ∈ fa, H a = none, fun H' q => ⟨ds.length - (i + 1), by omega, rfl, hlt, q⟩, fun y H2 hy => ?_⟩
  obtain ⟨rfl, rfl⟩ := g2 y H2 hy
  show wipe ((wipe σ [j]).set j (some y)) [j] = wipe σ [j] ∧ _
  refine ⟨wipe_eq (is := [j]) (by simp) (fun i h => set_other h) (by simp), ?_⟩
  simp only [tYes, if_true]
  refine ⟨y, by rw [List.getElem?_set_self (by rw [wipe_length]; exact hj)], ?_⟩
  refine ⟨[ds[i]], c, h4, rfl, .cons (wx.same s1) .nil, fun v H4 fv s o n => ?_⟩
  have hd4 := s D _ hd1
  have nv : D ∉ fv := fun z => by have := n D z; rw [hd1] at this; cases this
  refine ⟨avs, hd4, by rw [oA.length, sizeLine_eq]; omega, avs ++ [v], acc ++ [c], cs, fa ++ fv, h5, by rw [h2]; simp, by simp [h3], fun b u q => ?_, upd_same, ?_, ?_, fun a z => ?_⟩
  · have hb : b ≠ D := fun z => by rw [z, hD] at q; cases q
    rw [upd_ne hb]
    exact s b u (s1 b u q)
  · refine ((OwnA.step (fp := fun _ => False) (fp' := fun _ => False) (.of_same s fun _ z => z.elim) oA fun _ _ z => z).upd_ hd4 trivial nD).append (g := fv) (by simpa using OwnA.cons (g := []) (o.upd_ hd4 trivial nv) .nil (by simp)) fun a z z' => ?_
    obtain ⟨u, hu⟩ := oA.alive a z
    have := n a z'
    rw [hu] at this; cases this
  · simp [nD, nv]
  · rcases List.mem_append.mp z with z | z
    · exact nf a z
    · have := n a z
      cases q : H a with
      | none => rfl
      | some u => rw [s1 a u q] at this; cases this
theorem re_mapF {f : List PyData → Option PyData} {i j : Nat} {E : XK} : RE K (tLc (iSeq K (tVar i)) (gName j) tYes (tCall (spP K 1 f) [] E (tCons (tVar j) tNil)) [j]) (mMapF f i j) := by
  intro e d e' q bv fp al σ H Q rr k
  obtain ⟨d0, h1, q⟩ := Option.bind_eq_some_iff.mp q
  obtain ⟨ds, h2, q⟩ := Option.bind_eq_some_iff.mp q
  split at q
  rotate_left
  · cases q
  rename_i hz
  obtain ⟨out, h3, q⟩ := Option.bind_eq_some_iff.mp q
  cases q
  obtain ⟨v, hv, w⟩ := rr.look h1
  have hj : j < σ.length := by obtain ⟨fo, F, rf⟩ := rr; rw [← rf.len]; exact hz.2
  have fin : ∀ (v : V) (H' : Hp) (fv : List Addr), Same H H' → Own K H' v (.list out) fv → (∀ a ∈ fv, H a = none) → Q v H' := fun v H' fv s o n => k v H' fp _ fv (((To.refl rr).less (T1 := (· ∈ ([] : List Addr))) fun _ z => by cases z).newv s o n) o
  cases d0 with
  | list es =>
    cases h2
    obtain ⟨a, xs, rfl, ha, wA⟩ := w.lstI
    refine .inl ⟨.ref a, hv, a, rfl, ⟨xs, SqL.of ha⟩, mapF_core hz.1 wA (fun H' s i x hx => ⟨⟨xs, x, SqL.of (s a _ ha), hx⟩, fun y H2 hy => ⟨hy.1, ?_⟩⟩) (fun H' s => ⟨xs, SqL.of (s a _ ha), Nat.le_refl _⟩) h3 hj fin⟩
    have := hy.2 xs (SqL.of (s a _ ha))
    rw [hx] at this; cases this; rfl
  | tuple es =>
    cases h2
    obtain ⟨a, xs, rfl, ha, wA⟩ := w.tupI
    refine .inr ⟨.ref a, hv, a, rfl, ⟨xs, ha⟩, mapF_core hz.1 wA (fun H' s i x hx => ⟨⟨xs, x, (keepSq s ha), hx⟩, fun y H2 hy => ⟨hy.1, ?_⟩⟩) (fun H' s => ⟨xs, (keepSq s ha), Nat.le_refl _⟩) h3 hj fin⟩
    have := hy.2 xs ((keepSq s ha))
    rw [hx] at this; cases this; rfl
  | _ => cases h2
/-! ### what is given away -/
/-- tuple(x), x a list that its name gives away -/
def mTupMv (i : Nat) : ME := fun e => match e.sl[i]? with
  | some (.dat (.list ds)) => some (.tuple ds, e.set i .no)
  | _ => none
theorem re_tupMv {i : Nat} : RE K (tCB (fun xs H Q => ∃ p ys, xs = [.ref p] ∧ ((SqL K H p ys ∧ ∀ l, H l = none → Q (.ref l) (upd H l (.tup ys))) ∨ (SqT K H p ys ∧ Q (.ref p) H))) (tCons (tVar i) tNil)) (mTupMv i) := by
  intro e d e' q bv fp al σ H Q rr k
  unfold mTupMv at q
  split at q
  rotate_left
  · cases q
  rename_i ds h1
  cases q
  refine re_move e (.list ds) (e.set i .no) (by unfold mMove; rw [h1]) bv fp al σ H _ rr fun v H1 fp1 al1 fv to o => ?_
  obtain ⟨a, xs, g, rfl, rfl, ha, oA, na⟩ := o.lstI
  refine ⟨a, xs, rfl, .inl ⟨SqL.of ha, fun l hl => ?_⟩⟩
  refine k _ _ _ _ g (to.fresh (same_upd hl) fun a z => .inl (List.mem_cons_of_mem _ z)) (.tup upd_same ?_)
  exact OwnA.step (fp := fun _ => False) (fp' := fun _ => False) (.of_same (same_upd hl) fun _ z => z.elim) oA fun _ _ z => z
theorem moveTo (r : RR K bv e fp al σ H) {i : Nat} {d : PyData} (h : e.sl[i]? = some (.dat d)) : ∃ v f, σ[i]? = some (some v) ∧ Own K H v d f ∧ To K bv σ fp al H (e.set i .no) (· ∈ f) (fun a => fp a ∧ a ∉ f) al H := by
  obtain ⟨v, f, hv, o, hs, r'⟩ := r.take h
  obtain ⟨fo, F, rf⟩ := r
  refine ⟨v, f, hv, o, r', fun _ z _ => z, ⟨fun p u q _ => q, fun p z => ?_, fun p u q => ⟨u, q⟩⟩, fun a z => ⟨fun w => w.2 z, rf.sup a (hs a z), o.alive a z⟩⟩
  rcases z with z | z
  · exact .inl z.1
  · exact .inl (hs p z)
/-- x + e, x a list that its name gives away, e a list of its own -/
def mCatMv (i : Nat) (m : ME) : ME := fun e => (e.look i).bind fun _ => (m e).bind fun p => match p.1, p.2.sl[i]? with
  | .list ys, some (.dat (.list xs)) => if xs.length + ys.length ≤ 16777216 then some (.list (xs ++ ys), p.2.set i .no) else none
  | _, _ => none
theorem re_catMv {i : Nat} {te : TE} {m : ME} (h : RE K te m) : RE K (tOp (rPlus K) (tVar i) te) (mCatMv i m) := by
  intro e d e' q bv fp al σ H Q rr k
  obtain ⟨d0, h0, q⟩ := Option.bind_eq_some_iff.mp q
  obtain ⟨⟨c, e1⟩, h1, q⟩ := Option.bind_eq_some_iff.mp q
  dsimp only at q
  split at q
  rotate_left
  · cases q
  rename_i ys xs hs
  split at q
  rotate_left
  · cases q
  rename_i hz
  cases q
  obtain ⟨v0, hv0, _⟩ := rr.look h0
  refine ⟨v0, hv0, h e _ e1 h1 bv fp al σ H _ rr fun v H1 fp1 al1 fv to o => ?_⟩
  obtain ⟨w, fw, hw, o2, to2⟩ := moveTo to.rr hs
  rw [hv0] at hw
  cases hw
  obtain ⟨b, zs, g2, rfl, rfl, hb, oB, nb⟩ := o.lstI
  obtain ⟨a, us, g1, rfl, rfl, ha, oA, na⟩ := o2.lstI
  have o' : Own K H1 (.ref b) (.list ys) (b :: g2) := Own.step to2.step o fun x z => (to.tmp x z).1
  obtain ⟨b', zs', g2', e3, e4, hb', oB', nb'⟩ := o'.lstI
  cases e3
  cases e4
  have dj : ∀ x ∈ a :: g1, x ∉ b :: g2 := fun x z z' => by
    rcases to2.step.new x (.inr z) with y | y
    · exact (to.tmp x z').1 y
    · obtain ⟨u, hu⟩ := (to.tmp x z').2.2
      rw [y] at hu; cases hu
  refine .inr (.inl ⟨a, b, us, zs', rfl, rfl, ha, hb', by rw [oA.length, oB'.length, sizeLine_eq]; exact hz, fun p hp => ?_⟩)
  have np : p ∉ g1 ++ g2 := fun z => by
    rcases List.mem_append.mp z with z | z
    · obtain ⟨u, hu⟩ := oA.alive p z
      rw [hp] at hu; cases hu
    · obtain ⟨u, hu⟩ := oB'.alive p z
      rw [hp] at hu; cases hu
  have sm : Step (fun _ => False) H1 (fun _ => False) (upd H1 p (.lst (us ++ zs'))) := .of_same (same_upd hp) fun _ z => z.elim
  refine k _ _ _ _ (p :: (g1 ++ g2)) ((to.trans to2).fresh (same_upd hp) fun x z => ?_) (.lst upd_same ((OwnA.step sm oA fun _ _ z => z).append (OwnA.step sm oB' fun _ _ z => z) fun x z z' => dj x (List.mem_cons_of_mem _ z) (List.mem_cons_of_mem _ z')) np)
  rcases List.mem_cons.mp z with rfl | z
  · exact .inr ⟨hp, _, upd_same⟩
  · rcases List.mem_append.mp z with z | z
    · exact .inl (.inr (List.mem_cons_of_mem _ z))
    · exact .inl (.inl (List.mem_cons_of_mem _ z))

/-! ### a def that changes its argument where it stands -/
def spI (K : PySem.W.Frag) (f : PyData → Option PyData) : Sp := fun vs H Q _ => ∃ v d g d', vs = [v] ∧ f d = some d' ∧ Own K H v d g ∧ ∀ (H' : Hp) (g' : List Addr), Own K H' v d' g' → (∀ a ∈ g', a ∈ g) → Step (· ∈ g) H (· ∈ g) H' → Q .non H'
theorem spI_len {f : PyData → Option PyData} : ∀ vs H Q E, spI K f vs H Q E → vs.length = 1 := by
  intro vs H Q E h
  obtain ⟨v, d, g, d', rfl, _⟩ := h
  rfl
theorem OwnA.at_ {vs : List V} {ds : List PyData} {g : List Addr} (h : OwnA K H vs ds g) : ∀ {n : Nat} {d : PyData}, ds[n]? = some d → ∃ y gy, vs[n]? = some y ∧ Own K H y d gy ∧ (∀ a ∈ gy, a ∈ g) ∧
    ∀ (H' : Hp) (d' : PyData) (gy' : List Addr), Step (· ∈ gy) H (· ∈ gy) H' → Own K H' y d' gy' → (∀ a ∈ gy', a ∈ gy) → ∃ g', OwnA K H' vs (ds.set n d') g' ∧ ∀ a ∈ g', a ∈ g := by
  induction ds generalizing vs g with
  | nil => intro n d e; simp at e
  | cons c ds ih =>
    intro n d e
    cases h with
    | @cons v vs _ _ f1 f2 o oA dj =>
      cases n with
      | zero =>
        cases e
        refine ⟨v, f1, rfl, o, fun a z => List.mem_append_left _ z, fun H' d' gy' st o' sub => ⟨gy' ++ f2, .cons o' (OwnA.step st oA fun a z z' => dj a z' z) fun a z => dj a (sub a z), fun a z => ?_⟩⟩
        rcases List.mem_append.mp z with z | z
        · exact List.mem_append_left _ (sub a z)
        · exact List.mem_append_right _ z
      | succ n =>
        obtain ⟨y, gy, h1, h2, h3, h4⟩ := ih oA (n := n) (d := d) (by simpa using e)
        refine ⟨y, gy, by simpa using h1, h2, fun a z => List.mem_append_right _ (h3 a z), fun H' d' gy' st o' sub => ?_⟩
        obtain ⟨g', q1, q2⟩ := h4 H' d' gy' st o' sub
        refine ⟨f1 ++ g', .cons (Own.step st o fun a z z' => dj a z (h3 a z')) q1 fun a z z' => dj a z (q2 a z'), fun a z => ?_⟩
        rcases List.mem_append.mp z with z | z
        · exact List.mem_append_left _ z
        · exact List.mem_append_right _ (q2 a z)
theorem Step.wide {g f : List Addr} (s : Step (· ∈ g) H (· ∈ g) H') (h : ∀ a ∈ g, a ∈ f) : Step (· ∈ f) H (· ∈ f) H' := ⟨fun p u e q => s.stay p u e (q.imp (fun n z => n (h p z)) id), fun p z => .inl z, s.live⟩
/-- f(x[k]) -/
def sCallIx (f : PyData → Option PyData) (i : Nat) (mk : MO) : MS := fun e => (e.look i).bind fun _ => (mk e).bind fun r => (opInt r.1 r.2).bind fun j => (theL i r.2).bind fun q => (ixN q.2.length j).bind fun n => (q.2[n]?).bind fun d => (f d).bind fun d' => some (.nx (r.2.put q.1 (.list (q.2.set n d'))))
theorem rs_callIx {f : PyData → Option PyData} {i : Nat} {tk : TE} {mk : MO} {E : XK} (h : RO K tk mk) : RS K (tDrop (tCall (spI K f) [] E (tCons (tOp (rIx K) (tVar i) tk) tNil))) (sCallIx f i mk) := by
  intro e o q bv fp σ H D rr k
  obtain ⟨d0, h0, q⟩ := Option.bind_eq_some_iff.mp q
  obtain ⟨⟨oi, e1⟩, h2, q⟩ := Option.bind_eq_some_iff.mp q
  obtain ⟨j, h3, q⟩ := Option.bind_eq_some_iff.mp q
  obtain ⟨⟨x, ds⟩, h4, q⟩ := Option.bind_eq_some_iff.mp q
  obtain ⟨n, h5, q⟩ := Option.bind_eq_some_iff.mp q
  obtain ⟨d, h6, q⟩ := Option.bind_eq_some_iff.mp q
  obtain ⟨d', h7, q⟩ := Option.bind_eq_some_iff.mp q
  cases q
  obtain ⟨v0, hv0, _⟩ := rr.look h0
  refine ⟨v0, hv0, h e oi e1 h2 bv fp fp σ H _ rr fun vi H1 fp1 al1 fi to oi2 => ?_⟩
  have ei := (oi2.w0 to.rr (opInt_look h3)).intI
  subst ei
  have to0 : To K bv σ fp fp H e1 (· ∈ ([] : List Addr)) fp1 al1 H1 := to.less fun _ z => by cases z
  obtain ⟨hx, ho⟩ := theL_some h4
  obtain ⟨v, g0, hv, ow, _, upd'⟩ := to0.mut hx ho
  rw [hv0] at hv; cases hv
  obtain ⟨a, xs, g, rfl, rfl, ha, oA, na⟩ := ow.lstI
  obtain ⟨y, gy, hy, oy, sy, back⟩ := oA.at_ h6
  refine .inl ⟨a, xs, j, y, rfl, rfl, SqL.of ha, by unfold atI; rw [oA.length]; exact (congrArg (fun z => Option.bind z _) h5).trans hy, ?_⟩
  refine ⟨y, d, gy, d', rfl, h7, oy, fun H' gy' oy' sub st => ?_⟩
  obtain ⟨g', oN, sN⟩ := back H' d' gy' st oy' sub
  have hay : a ∉ gy := fun z => na (sy a z)
  have to1 := upd' H' (.list (ds.set n d')) (a :: g') [] (st.wide fun b z => List.mem_cons_of_mem _ (sy b z)) (.lst (st.stay a _ ha (.inl hay)) oN fun z => na (sN a z)) (fun b z => by
    rcases List.mem_cons.mp z with rfl | z
    · exact .inl List.mem_cons_self
    · exact .inl (List.mem_cons_of_mem _ (sN b z))) fun b z => by cases z
  exact k σ _ _ to1.end_.1 to1.end_.2

/-! ### what is spoilt: every list below gets one item more -/
def mapO (f : PyData → Option PyData) : List PyData → Option (List PyData)
  | [] => some []
  | d :: r => (f d).bind fun c => (mapO f r).bind fun cs => some (c :: cs)
theorem mapO_len {f : PyData → Option PyData} : ∀ {ds out : List PyData}, mapO f ds = some out → out.length = ds.length
  | [], _, h => by cases h; rfl
  | d :: r, _, h => by
    obtain ⟨c, h1, h⟩ := Option.bind_eq_some_iff.mp h
    obtain ⟨cs, h2, h⟩ := Option.bind_eq_some_iff.mp h
    cases h
    simp [mapO_len h2]
theorem mapO_get {f : PyData → Option PyData} : ∀ {ds out : List PyData} {i : Nat} {d : PyData}, mapO f ds = some out → ds[i]? = some d → ∃ c, f d = some c ∧ out[i]? = some c
  | [], _, _, _, _, e => by simp at e
  | x :: r, _, i, d, h, e => by
    obtain ⟨c, h1, h⟩ := Option.bind_eq_some_iff.mp h
    obtain ⟨cs, h2, h⟩ := Option.bind_eq_some_iff.mp h
    cases h
    cases i with
    | zero => cases e; exact ⟨c, h1, rfl⟩
    | succ i =>
      obtain ⟨c', q1, q2⟩ := mapO_get (ds := r) (out := cs) (i := i) (d := d) h2 (by simpa using e)
      exact ⟨c', q1, by simpa using q2⟩
def spoilF : Nat → PyData → Option PyData
  | 0, _ => none
  | n + 1, d => match d with
    | .list ds => if ds.length < 16777216 then (mapO (spoilF n) ds).bind fun out => some (.list (out ++ [.int 0])) else none
    | .tuple ds => (mapO (spoilF n) ds).bind fun out => some (.tuple out)
    | .dict _ => none
    | d => some d
theorem spoil_loop {f : PyData → Option PyData} {J : It} {xs : List V} {ds out : List PyData} {g : List Addr} {E : XK} {D : Ends} {σ : L2.St} (oA : OwnA K H xs ds g) (hm : mapO f ds = some out)
    (go : ∀ H', Step (· ∈ g) H (· ∈ g) H' → ∀ i x, xs[i]? = some x → J.go i H' ∧ ∀ y H2, J.yld i H' y H2 → H2 = H' ∧ y = x) (stp : ∀ H', Step (· ∈ g) H (· ∈ g) H' → J.stop xs.length H')
    (hσ : 1 < σ.length) (k : ∀ (σ' : L2.St) (H' : Hp) (g' : List Addr), OwnA K H' xs out g' → (∀ a ∈ g', a ∈ g) → Step (· ∈ g) H (· ∈ g) H' → σ'.length = σ.length → (∀ j, j ≠ 1 → σ'[j]? = σ[j]?) → D.nx σ' H') :
    ∃ W : Nat → Nat → L2.St → Hp → Prop, (∃ m, W 0 m σ H) ∧ ∀ i m σ H, W i m σ H →
      (J.stop i H ∧ D.nx σ H) ∨ (J.go i H ∧ ∃ N : L2.St → Hp → Prop, (∀ σ' H', N σ' H' → ∃ m', m' < m ∧ W (i + 1) m' σ' H') ∧ ∀ x H', J.yld i H x H' → gName 1 x σ H' fun σ2 H2 => tDrop (tCall (spI K f) [] E (tCons (tVar 1) tNil)) { D with nx := N, ct := N, bk := D.nx } σ2 H2) := by
  have hl := oA.length
  have ml := mapO_len hm
  refine ⟨fun i m σ1 H1 => m = ds.length - i ∧ i ≤ ds.length ∧ σ1.length = σ.length ∧ (∀ j, j ≠ 1 → σ1[j]? = σ[j]?) ∧ Step (· ∈ g) H (· ∈ g) H1 ∧ ∃ g1, OwnA K H1 xs (out.take i ++ ds.drop i) g1 ∧ ∀ a ∈ g1, a ∈ g, ⟨ds.length, rfl, Nat.zero_le _, rfl, fun _ _ => rfl, Step.refl _ _, g, by simpa using oA, fun _ z => z⟩, ?_⟩
  rintro i m σ1 H1 ⟨rfl, hil, sl, sj, st, g1, o1, s1⟩
  rcases Nat.lt_or_ge i ds.length with hlt | hge
  rotate_left
  · have : i = ds.length := by omega
    subst this
    refine .inl ⟨by rw [← hl]; exact stp H1 st, k σ1 H1 g1 ?_ s1 st sl sj⟩
    rwa [List.take_of_length_le (by omega), List.drop_of_length_le (Nat.le_refl _), List.append_nil] at o1
  right
  have hd : ds[i]? = some ds[i] := List.getElem?_eq_getElem hlt
  have hd1 : (out.take i ++ ds.drop i)[i]? = some ds[i] := by
    rw [List.getElem?_append_right (by rw [List.length_take]; omega), List.length_take, Nat.min_eq_left (by omega), Nat.sub_self, List.getElem?_drop, Nat.add_zero, hd]
  obtain ⟨c, h1, h2⟩ := mapO_get hm hd
  obtain ⟨y, gy, hy, oy, sy, back⟩ := o1.at_ hd1
  obtain ⟨q1, q2⟩ := go H1 st i y hy
  refine ⟨q1, fun σ' H' => i + 1 ≤ ds.length ∧ σ'.length = σ.length ∧ (∀ j, j ≠ 1 → σ'[j]? = σ[j]?) ∧ Step (· ∈ g) H (· ∈ g) H' ∧ ∃ g1, OwnA K H' xs (out.take (i + 1) ++ ds.drop (i + 1)) g1 ∧ ∀ a ∈ g1, a ∈ g, fun σ' H' q => ⟨ds.length - (i + 1), by omega, rfl, q⟩, fun x H2 hx => ?_⟩
  obtain ⟨rfl, rfl⟩ := q2 x H2 hx
  refine ⟨x, List.getElem?_set_self (by omega), ?_⟩
  refine ⟨x, ds[i], gy, c, rfl, h1, oy, fun H' gy' oy' sub st2 => ?_⟩
  obtain ⟨g', oN, sN⟩ := back H' c gy' st2 oy' sub
  refine ⟨hlt, by rw [List.length_set]; exact sl, fun j hj => by rw [List.getElem?_set_ne (Ne.symm hj)]; exact sj j hj, st.trans (st2.wide fun a z => s1 a (sy a z)), g', ?_, fun a z => s1 a (sN a z)⟩
  have e : (out.take i ++ ds.drop i).set i c = out.take (i + 1) ++ ds.drop (i + 1) := by
    rw [List.set_append_right _ _ (by rw [List.length_take]; omega), List.length_take, Nat.min_eq_left (by omega), Nat.sub_self, List.drop_eq_getElem_cons hlt, List.set_cons_zero, List.take_succ, h2]
    simp
  rw [← e]
  exact oN
abbrev tSpoil (K : PySem.W.Frag) (f : PyData → Option PyData) (E : XK) : TS :=
  tSeq (tIfS (tB (tCB (rIsiT K) (tCons (tVar 0) (tCons (tTup (tCons (tC (.ty "list")) (tCons (tC (.ty "tuple")) tNil))) tNil)))) (tFor (iSeq K (tVar 0)) (gName 1) (tDrop (tCall (spI K f) [] E (tCons (tVar 1) tNil)))) tNext)
    (tIfS (tB (tCB (rIsi K) (tCons (tVar 0) (tCons (tC (.ty "list")) tNil)))) (tDrop (tBM K "list" rAppend (tVar 0) (tCons (tC (.int 0)) tNil))) tNext)
theorem test_isLT {σ : L2.St} {v : V} {d : PyData} {b : Bool} {R : Bool → Hp → Prop} (hv : σ[0]? = some (some v)) (w : W0 K H v d) (hb : isLT d = some b) (k : ∀ H', Same H H' → R b H') : tB (tCB (rIsiT K) (tCons (tVar 0) (tCons (tTup (tCons (tC (.ty "list")) (tCons (tC (.ty "tuple")) tNil))) tNil))) σ H R := by
  refine ⟨v, hv, by show 2 ≤ sizeLine; rw [sizeLine_eq]; omega, fun p hp => ?_⟩
  exact ⟨v, p, [.ty "list", .ty "tuple"], .type (tyD d), [Value.type "list", Value.type "tuple"], b, rfl, upd_same, .cons (.ty "list") (.cons (.ty "tuple") .nil), tyX_w (w.same (same_upd hp)) (fun cs z => by subst z; cases hb), kit_isLT hb, b, rfl, k _ (same_upd hp)⟩
theorem test_isi {σ : L2.St} {v : V} {d : PyData} {b : Bool} {R : Bool → Hp → Prop} (hv : σ[0]? = some (some v)) (w : W0 K H v d) (hb : isiB "list" d = some b) (k : R b H) : tB (tCB (rIsi K) (tCons (tVar 0) (tCons (tC (.ty "list")) tNil))) σ H R :=
  ⟨v, hv, v, .ty "list", .type (tyD d), .type "list", b, rfl, .ty "list", tyX_w w (fun cs z => by subst z; cases hb), kit_isi hb, b, rfl, k⟩
theorem body_spoil {n : Nat} {σ : L2.St} {vs : List V} {Q : VK} {E E' : XK} (sp : spI K (spoilF (n + 1)) vs H Q E) (h0 : ∀ v, vs = [v] → σ[0]? = some (some v)) (h1' : ∀ v, vs = [v] → 1 < σ.length) : tSpoil K (spoilF n) E' { nx := fun _ H' => Q .non H', rt := Q } σ H := by
  obtain ⟨v, d, g, d', rfl, hd, ow, k⟩ := sp
  have hv := h0 v rfl
  have h1 := h1' v rfl
  have plain : isLT d = some false → isiB "list" d = some false → d' = d → tSpoil K (spoilF n) E' { nx := fun _ H' => Q .non H', rt := Q } σ H := fun a b c => by
    subst c
    refine test_isLT hv ow.w0 a fun H1 s1 => ?_
    rw [if_neg Bool.false_ne_true]
    refine test_isi (d := d') hv (ow.w0.same s1) b ?_
    rw [if_neg Bool.false_ne_true]
    exact k H1 g (ow.same s1) (fun _ z => z) (.of_same s1 fun a z => .inl z)
  cases d with
  | list ds =>
    simp only [spoilF] at hd
    split at hd
    rotate_left
    · cases hd
    rename_i hz
    obtain ⟨out, hm, hd⟩ := Option.bind_eq_some_iff.mp hd
    cases hd
    obtain ⟨a, xs, f, rfl, rfl, ha, oA, na⟩ := ow.lstI
    refine test_isLT (d := .list ds) hv ow.w0 rfl fun H1 s1 => ?_
    rw [if_pos rfl]
    have oA1 : OwnA K H1 xs ds f := OwnA.step (fp := fun _ => False) (fp' := fun _ => False) (.of_same s1 fun _ z => z.elim) oA fun _ _ z => z
    have hc : ∀ H', Step (· ∈ f) H1 (· ∈ f) H' → H' a = some (.lst xs) := fun H' st => st.stay a _ (s1 a _ ha) (.inl na)
    refine .inl ⟨.ref a, hv, a, rfl, ⟨xs, SqL.of (s1 a _ ha)⟩, spoil_loop oA1 hm (fun H' st i x hx => ⟨⟨xs, x, SqL.of (hc H' st), hx⟩, fun y H2 hy => ⟨hy.1, ?_⟩⟩) (fun H' st => ⟨xs, SqL.of (hc H' st), Nat.le_refl _⟩) h1 fun σ2 H2 g2 o2 sub st sl sj => ?_⟩
    · have := hy.2 xs (SqL.of (hc H' st))
      rw [hx] at this; cases this; rfl
    have hv2 : σ2[0]? = some (some (.ref a)) := by rw [sj 0 (by decide)]; exact hv
    have ha2 := hc H2 st
    have na2 : a ∉ g2 := fun z => na (sub a z)
    have ml := mapO_len hm
    refine test_isi (d := .list out) hv2 (Own.w0 (.lst ha2 o2 na2)) rfl ?_
    rw [if_pos rfl]
    refine ⟨.ref a, hv2, tyV_lst ha2, a, xs, .int 0, rfl, rfl, ha2, by rw [o2.length, ml, sizeLine_eq]; exact hz, ?_⟩
    have oN : OwnA K (upd H2 a (.lst (xs ++ [.int 0]))) (xs ++ [.int 0]) (out ++ [.int 0]) (g2 ++ []) := (o2.upd_ ha2 trivial na2).append (g := []) (by simpa using OwnA.cons (g := []) (Own.int (K := K) (H := upd H2 a (.lst (xs ++ [.int 0]))) 0) .nil (by simp)) fun _ _ z => by cases z
    rw [List.append_nil] at oN
    refine k _ (a :: g2) (.lst upd_same oN na2) (fun b z => ?_) ?_
    · rcases List.mem_cons.mp z with rfl | z
      · exact List.mem_cons_self
      · exact List.mem_cons_of_mem _ (sub b z)
    · exact (Step.of_same (f := (· ∈ a :: f)) (f1 := (· ∈ a :: f)) s1 fun _ z => .inl z).trans ((st.wide fun b z => List.mem_cons_of_mem _ z).trans (store1 ha2 (a :: f) List.mem_cons_self (a :: f) fun _ z => z))
  | tuple ds =>
    simp only [spoilF] at hd
    obtain ⟨out, hm, hd⟩ := Option.bind_eq_some_iff.mp hd
    cases hd
    have ow' := ow
    cases ow' with
    | @tup a xs _ _ ha oA =>
    refine test_isLT (d := .tuple ds) hv ow.w0 rfl fun H1 s1 => ?_
    rw [if_pos rfl]
    have oA1 : OwnA K H1 xs ds g := OwnA.step (fp := fun _ => False) (fp' := fun _ => False) (.of_same s1 fun _ z => z.elim) oA fun _ _ z => z
    have hc : ∀ H', Step (· ∈ g) H1 (· ∈ g) H' → H' a = some (.tup xs) := fun H' st => st.stay a _ (s1 a _ ha) (.inr fun z => z)
    refine .inr ⟨.ref a, hv, a, rfl, ⟨xs, SqT.of (s1 a _ ha)⟩, spoil_loop oA1 hm (fun H' st i x hx => ⟨⟨xs, x, SqT.of (hc H' st), hx⟩, fun y H2 hy => ⟨hy.1, ?_⟩⟩) (fun H' st => ⟨xs, SqT.of (hc H' st), Nat.le_refl _⟩) h1 fun σ2 H2 g2 o2 sub st sl sj => ?_⟩
    · have := hy.2 xs (SqT.of (hc H' st))
      rw [hx] at this; cases this; rfl
    have hv2 : σ2[0]? = some (some (.ref a)) := by rw [sj 0 (by decide)]; exact hv
    have ha2 := hc H2 st
    refine test_isi (d := .tuple out) hv2 (Own.w0 (.tup ha2 o2)) rfl ?_
    rw [if_neg Bool.false_ne_true]
    exact k _ g2 (.tup ha2 o2) sub ((Step.of_same (f := (· ∈ g)) (f1 := (· ∈ g)) s1 fun _ z => .inl z).trans st)
  | dict cs => simp [spoilF] at hd
  | _ => exact plain rfl rfl (by simpa [spoilF] using hd.symm)
end
end Dl
/-! exceptions: what a body does that may raise -/
namespace Dl
open PySem L2 PyProof.Rows PySem.SeqAt
/-- an answer, or an own exception: its class, its fields (the last stored first) -/
inductive Rz where
  | ret (d : PyData) | exc (nm : Str) (fs : List (Str × PyData))
inductive OutX where
  | o (x : Out) | ex (nm : Str) (fs : List (Str × PyData))
abbrev MSX := Dl.Env → Option OutX
/-- fields that hold no list -/
inductive Flds (K : PySem.W.Frag) (H : Hp) : List (Str × V) → List (Str × PyData) → Prop
  | nil : Flds K H [] []
  | cons {f : Str} {v : V} {d : PyData} {vs : List (Str × V)} {ds : List (Str × PyData)} : Own K H v d [] → Flds K H vs ds → Flds K H ((f, v) :: vs) ((f, d) :: ds)
/-- an exception of the class nm, with these fields, that left the heap H' -/
def ExcAt (K : PySem.W.Frag) (H' : Hp) (nm : Str) (fs : List (Str × PyData)) (cls : Value) (d : Option Addr) : Prop := ∃ C : Addr, cls = .ref C ∧ PySem.W.nsIn K mainGlobals nm = some (some (.ref C)) ∧
  ((fs = [] ∧ d = none) ∨ ∃ dd vs, d = some dd ∧ H' dd = some (.xd vs) ∧ Flds K H' vs fs)
section
variable {K : PySem.W.Frag} {bv : List V} {e e' : Dl.Env} {fp fp' al : Addr → Prop} {σ : L2.St} {H H' : Hp} {φ : Addr → Prop}
theorem Flds.same {vs : List (Str × V)} {ds : List (Str × PyData)} (h : Flds K H vs ds) (s : Same H H') : Flds K H' vs ds := by
  induction h with
  | nil => exact .nil
  | cons o _ ih => exact .cons (o.same s) ih
def EndX (K : PySem.W.Frag) (bv : List V) (fp : Addr → Prop) (H : Hp) (D : Ends) (W : WX) : OutX → Prop
  | .o x => Ends' K bv fp H D x
  | .ex nm fs => ∀ (cls : Value) (d : Option Addr) (σ' : L2.St) (H' : Hp) (fp' : Addr → Prop), Step fp H fp' H' → ExcAt K H' nm fs cls d → W cls d σ' H'
theorem EndX.step {W : WX} {D : Ends} {o : OutX} (h : EndX K bv fp H D W o) (s : Step fp H fp' H') : EndX K bv fp' H' D W o := by
  cases o with
  | o x => exact Ends'.step h s
  | ex nm fs => exact fun cls d σ' H2 fp2 s2 x => h cls d σ' H2 fp2 (s.trans s2) x
def RSX (K : PySem.W.Frag) (W : WX) (t : TS) (m : MSX) : Prop := ∀ (e : Dl.Env) (o : OutX), m e = some o → ∀ (bv : List V) (fp : Addr → Prop) (σ : L2.St) (H : Hp) (D : Ends), RR K bv e fp fp σ H → EndX K bv fp H D W o → t D σ H
variable {W : WX}
def xOf (m : MS) : MSX := fun e => (m e).bind fun x => some (.o x)
theorem rsx_of {t : TS} {m : MS} (h : RS K t m) : RSX K W t (xOf m) := by
  intro e o q bv fp σ H D rr k
  obtain ⟨x, h1, q⟩ := Option.bind_eq_some_iff.mp q
  cases q
  exact h e x h1 bv fp σ H D rr k
def xSeq (a b : MSX) : MSX := fun e => (a e).bind fun o => match o with
  | .o (.nx e') => b e'
  | o => some o
theorem rsx_seq {t u : TS} {a b : MSX} (ha : RSX K W t a) (hb : RSX K W u b) : RSX K W (tSeq t u) (xSeq a b) := by
  intro e o q bv fp σ H D rr k
  obtain ⟨x, h1, q⟩ := Option.bind_eq_some_iff.mp q
  refine ha e x h1 bv fp σ H { D with nx := u D } rr ?_
  cases x with
  | ex nm fs => cases q; exact k
  | o x =>
    cases x with
    | nx e1 => exact fun σ' H' fp' r s => hb e1 o q bv fp' σ' H' D r (k.step s)
    | ret d bo => cases q; exact k
    | bk e1 => cases q; exact k
    | ct e1 => cases q; exact k
def xIf (t : MT) (a b : MSX) : MSX := fun e => (t e).bind fun p => if p.1 = true then a p.2 else b p.2
theorem rsx_if {t : TT} {ta tb : TS} {m : MT} {a b : MSX} (ht : RT K t m) (ha : RSX K W ta a) (hb : RSX K W tb b) : RSX K W (tIfS t ta tb) (xIf m a b) := by
  intro e o q bv fp σ H D rr k
  obtain ⟨⟨d, e1⟩, h1, q⟩ := Option.bind_eq_some_iff.mp q
  refine ht e d e1 h1 bv fp fp σ H _ rr fun H1 fp1 al1 to1 => ?_
  cases d with
  | true => exact ha e1 o q bv fp1 σ H1 D to1.end_.1 (k.step to1.end_.2)
  | false => exact hb e1 o q bv fp1 σ H1 D to1.end_.1 (k.step to1.end_.2)
def OutX.kills (is : List Nat) : OutX → OutX
  | .o x => .o (x.kills is)
  | .ex nm fs => .ex nm fs
def xKill (is : List Nat) (m : MSX) : MSX := fun e => (m e).bind fun o => some (o.kills is)
theorem rsx_kill {is : List Nat} {t : TS} {m : MSX} (h : RSX K W t m) : RSX K W t (xKill is m) := by
  intro e o q bv fp σ H D rr k
  obtain ⟨x, h1, q⟩ := Option.bind_eq_some_iff.mp q
  cases q
  refine h e x h1 bv fp σ H D rr ?_
  cases x with
  | ex nm fs => exact k
  | o x =>
    cases x with
    | nx e1 => exact fun σ' H' fp' r s => k σ' H' fp' (r.kills is) s
    | ret d bo => exact k
    | bk e1 => exact k
    | ct e1 => exact k
/-! ### for -/
def forX (b : PyData → Dl.Env → Option Dl.Env) (body : MSX) : List PyData → MSX
  | [], e => some (.o (.nx e))
  | d :: r, e => (b d e).bind fun e1 => (body e1).bind fun o => match o with
    | .o (.nx e2) => forX b body r e2
    | .o (.ct e2) => forX b body r e2
    | .o (.bk e2) => some (.o (.nx e2))
    | .o (.ret d bo) => some (.o (.ret d bo))
    | .ex nm fs => some (.ex nm fs)
def xFor (mi : MI) (b : PyData → Dl.Env → Option Dl.Env) (body : MSX) : MSX := fun e => (mi e).bind fun p => forX b body p.1 p.2
theorem rsx_for {is : List Nat} {wi : TI} {g : TG} {tb : TS} {mi : MI} {b : PyData → Dl.Env → Option Dl.Env} {body : MSX} (hi : RI K wi mi) (hg : RG K is g b) (hb : RSX K W tb body) : RSX K W (tFor wi g tb) (xFor mi b body) := by
  intro e o q bv fp σ H D rr k
  obtain ⟨⟨ds, e0⟩, h1, q⟩ := Option.bind_eq_some_iff.mp q
  refine hi e ds e0 h1 bv fp fp σ H _ rr fun J H0 fp0 al0 Z Tok to tok wk hz => ?_
  have k0 : EndX K bv fp0 H0 D W o := k.step to.end_.2
  refine ⟨fun i m σ H => m = ds.length - i ∧ i ≤ ds.length ∧ ∃ (ei : Dl.Env) (fpi : Addr → Prop), forX b body (ds.drop i) ei = some o ∧ RR K bv ei fpi fpi σ H ∧ Step fp0 H0 fpi H ∧ Tok H,
    ⟨ds.length, rfl, Nat.zero_le _, e0, fp0, by simpa using q, to.end_.1, Step.refl _ _, tok⟩, ?_⟩
  rintro i m σ1 H1 ⟨rfl, hil, ei, fpi, hf, r1, s1, tk⟩
  have hz1 := Zkeep s1 hz
  by_cases hlt : i < ds.length
  · right
    have hd : ds[i]? = some ds[i] := List.getElem?_eq_getElem hlt
    rw [List.drop_eq_getElem_cons hlt] at hf
    obtain ⟨e2, b1, hf⟩ := Option.bind_eq_some_iff.mp hf
    obtain ⟨x, b2, hf⟩ := Option.bind_eq_some_iff.mp hf
    obtain ⟨go, yl⟩ := wk.item i _ H1 tk hd
    refine ⟨go, fun σ' H' => ∃ (e3 : Dl.Env) (fp3 : Addr → Prop), forX b body (ds.drop (i + 1)) e3 = some o ∧ RR K bv e3 fp3 fp3 σ' H' ∧ Step fp0 H0 fp3 H' ∧ Tok H', fun σ' H' ⟨e3, fp3, q1, q2, q3, q4⟩ => ⟨ds.length - (i + 1), by omega, rfl, hlt, e3, fp3, q1, q2, q3, q4⟩, fun v H2 hy => ?_⟩
    obtain ⟨sm, f, ow, nf⟩ := yl v H2 hy
    have r2 := r1.pure sm
    have r1' := r1
    obtain ⟨fo, F, rf⟩ := r1'
    have nfp : ∀ a ∈ f, ¬ fpi a := fun a z y => by
      obtain ⟨u, hu⟩ := rf.alv a y
      rw [nf a z] at hu; cases hu
    have r3 : RR K bv ei fpi (fun a => fpi a ∨ a ∈ f) σ1 H2 := (r1.more (al' := fun a => fpi a ∨ a ∈ f) (fun a z => z.elim .inl fun z => .inr (nf a z)) fun a z => .inl z).pure sm
    refine hg ds[i] ei e2 b1 bv fpi _ σ1 H2 v f _ r3 ow (fun a z => ⟨nfp a z, .inr z⟩) fun σ3 fp3 al3 r4 sb _ _ _ => ?_
    have r4' := r4
    obtain ⟨fo3, F3, rf3⟩ := r4'
    have r5 : RR K bv e2 fp3 fp3 σ3 H2 := r4.less (fun a z => rf3.sup a z) fun _ z => z
    have s3 : Step fpi H1 fp3 H2 := .of_same sm fun a z => (sb a z).elim .inl fun z => .inr (nf a z)
    have s03 : Step fp0 H0 fp3 H2 := s1.trans s3
    have tk2 : Tok H2 := wk.keep fpi fp3 H1 H2 tk s3 fun a z => (hz1 a z).1
    have hz2 := Zkeep s3 hz1
    refine hb e2 x b2 bv fp3 σ3 H2 _ r5 ?_
    have nxt : ∀ (e3 : Dl.Env), forX b body (ds.drop (i + 1)) e3 = some o → ∀ (σ' : L2.St) (H' : Hp) (fp' : Addr → Prop), RR K bv e3 fp' fp' σ' H' → Step fp3 H2 fp' H' → ∃ (e3 : Dl.Env) (fp3 : Addr → Prop), forX b body (ds.drop (i + 1)) e3 = some o ∧ RR K bv e3 fp3 fp3 σ' H' ∧ Step fp0 H0 fp3 H' ∧ Tok H' :=
      fun e3 he σ' H' fp' r s => ⟨e3, fp', he, r, s03.trans s, wk.keep fp3 fp' H2 H' tk2 s fun a z => (hz2 a z).1⟩
    cases x with
    | ex nm fs => cases hf; exact k0.step s03
    | o x =>
      cases x with
      | nx e3 => exact nxt e3 hf
      | ct e3 => exact nxt e3 hf
      | bk e3 =>
        cases hf
        exact fun σ' H' fp' r s => k0 σ' H' fp' r (s03.trans s)
      | ret d bo =>
        cases hf
        exact fun v H' fb fv r o n s => k0 v H' fb fv r o n (s03.trans s)
  · left
    have hi' : i = ds.length := by omega
    refine ⟨wk.stop i H1 tk (by omega), ?_⟩
    rw [List.drop_of_length_le (by omega)] at hf
    cases hf
    exact k0 σ1 H1 fpi r1 s1
/-! ### the promise of a def that changes nothing, and may raise -/
def spX (K : PySem.W.Frag) (n : Nat) (f : List PyData → Option Rz) : Sp := fun vs H Q E => ∃ ds r, f ds = some r ∧ ds.length = n ∧ W0A K H vs ds ∧ match r with
  | .ret c => ∀ (v : V) (H' : Hp) (fv : List Addr), Same H H' → Own K H' v c fv → (∀ a ∈ fv, H a = none) → Q v H'
  | .exc nm fs => ∀ (cls : Value) (d : Option Addr) (H' : Hp), Same H H' → ExcAt K H' nm fs cls d → E cls d H'
theorem spX_len {n : Nat} {f : List PyData → Option Rz} : ∀ vs H Q E, spX K n f vs H Q E → vs.length = n := by
  intro vs H Q E h
  obtain ⟨ds, r, _, hn, w, _⟩ := h
  rw [w.length, hn]
def outX : OutX → Option Rz
  | .o x => (outP x).bind fun d => some (.ret d)
  | .ex nm fs => some (.exc nm fs)
def mDefX (N : Nat) (m : MSX) (ds : List PyData) : Option Rz := (m (envP N ds)).bind outX
theorem body_X {N : List Str} {t : TS} {m : MSX} {n : Nat} {vs : List V} {Q : VK} {E : XK} (h : RSX K (fun cls d _ H => E cls d H) t m) (hn : n ≤ N.length) (sp : spX K n (mDefX N.length m) vs H Q E) : t { nx := fun _ H' => Q .non H', rt := Q } (L2.start N vs) H := by
  obtain ⟨ds, c, hc, hl, w, k⟩ := sp
  unfold mDefX at hc
  have wl := w.length
  have r := rr_envP (N := N) w (by omega)
  have fin : ∀ {fb : Addr → Prop} {fv : List Addr} {H' : Hp}, Step (fun _ => False) H (fun a => fb a ∨ a ∈ fv) H' → Same H H' ∧ ∀ a ∈ fv, H a = none := fun {fb fv H'} s =>
    ⟨fun b o e => s.stay b o e (.inl fun z => z), fun a z => (s.new a (.inr z)).elim (fun z => False.elim z) id⟩
  cases ho : m (envP N.length ds) with
  | none => rw [ho] at hc; cases hc
  | some o =>
    rw [ho] at hc
    refine h _ o ho [] _ _ H _ r ?_
    cases o with
    | ex nm fs =>
      cases hc
      exact fun cls d σ' H' fp' s x => k cls d H' (fun b o e => s.stay b o e (.inl fun z => z)) x
    | o x =>
      cases x with
      | ret d bo =>
        cases hc
        exact fun v H' fb fv _ o n s => k v H' fv (fin s).1 o (fin s).2
      | nx e1 =>
        cases hc
        exact fun σ' H' fp' _ s => k .non H' [] (fun b o e => s.stay b o e (.inl fun z => z)) .non fun a z => by cases z
      | bk e1 => cases hc
      | ct e1 => cases hc
/-! ### calls of such a def -/
/-- .. where it does not raise -/
def fnR (n : Nat) (f : List PyData → Option Rz) : List PyData → Option PyData := fun ds => if ds.length = n then (f ds).bind fun r => match r with
  | .ret c => some c
  | .exc _ _ => none
  else none
theorem re_callR {n : Nat} {f : List PyData → Option Rz} {t : TA} {m : MA} {E : XK} (h : RA K t m) : RE K (tCall (spX K n f) [] E t) (mCall (fnR n f) m) := by
  refine re_fr (r := fun vs H Q => spX K n f (vs ++ []) H Q E) (fun ds c hf xs H Q w k => ?_) h
  unfold fnR at hf
  split at hf
  rotate_left
  · cases hf
  rename_i hn
  obtain ⟨r, h1, hf⟩ := Option.bind_eq_some_iff.mp hf
  split at hf
  rotate_left
  · cases hf
  cases hf
  rw [List.append_nil]
  exact ⟨ds, _, h1, hn, w, k⟩
/-- .. where it may: a statement of its own, a return -/
def xCall (n : Nat) (f : List PyData → Option Rz) (a : MA) (k : PyData → Dl.Env → Option OutX) : MSX := fun e => (a e).bind fun p => (looks p.2 p.1).bind fun ds => if ds.length = n then (f ds).bind fun r => match r with
  | .ret c => k c p.2
  | .exc nm fs => some (.ex nm fs)
  else none
theorem call_x {n : Nat} {f : List PyData → Option Rz} {t : TA} {a : MA} {kk : PyData → Dl.Env → Option OutX} (h : RA K t a) {e : Dl.Env} {o : OutX} (q : xCall n f a kk e = some o) {D : Ends} (rr : RR K bv e fp fp σ H) (k : EndX K bv fp H D W o) {Q : VK}
    (hq : ∀ (c : PyData) (e1 : Dl.Env), kk c e1 = some o → ∀ (v : V) (H' : Hp) (fp' al' : Addr → Prop) (fv : List Addr), To K bv σ fp fp H e1 (· ∈ fv) fp' al' H' → Own K H' v c fv → Q v H') : tCallS (spX K n f) (WE W) t σ H Q := by
  obtain ⟨⟨os, e1⟩, h1, q⟩ := Option.bind_eq_some_iff.mp q
  obtain ⟨ds, h2, q⟩ := Option.bind_eq_some_iff.mp q
  split at q
  rotate_left
  · cases q
  rename_i hn
  obtain ⟨r, h3, q⟩ := Option.bind_eq_some_iff.mp q
  refine h e os e1 h1 bv fp fp σ H _ rr fun vs H1 fp1 al1 f1 to o1 => ?_
  refine ⟨ds, r, h3, hn, o1.w0 to.rr h2, ?_⟩
  cases r with
  | ret c => exact fun v H' fv s ow nn => hq c e1 q v H' _ _ fv (to.newv s ow nn) ow
  | exc nm fs =>
    cases q
    exact fun cls d H' s x => k cls d σ H' fp1 (to.end_.2.trans (.of_same s fun _ z => .inl z)) x
theorem rsx_drop {n : Nat} {f : List PyData → Option Rz} {t : TA} {a : MA} (h : RA K t a) : RSX K W (tDrop (tCallS (spX K n f) (WE W) t)) (xCall n f a fun _ e => some (.o (.nx e))) := by
  intro e o q bv fp σ H D rr k
  refine call_x h q rr k fun c e1 z v H' fp' al' fv to ow => ?_
  cases z
  exact k σ H' fp' to.end_.1 to.end_.2
end
end Dl
/-! exceptions: what is made by hand over the kit: C.__init__(self, ..) of an own class, the class of a caught one asked in another def -/
namespace Dl
open PySem L2 PyProof.Rows PySem.SeqAt
section
variable {X : Cx} {e : Expr} {es : List Expr} {ta : TA} {p p1 p2 pos : Pos}
/-- Base.__init__(self, ..), Base an own class of exceptions without one of its own -/
theorem pe_meinit {pl : Sem Bool} {x : Str} {Cm : Addr} (hg : Gl X x) (gM : X.mg x = some (.ref Cm)) (R : ClX.CRead X.K Cm (.type "type")) (vV : PySem.W.findCls X.K (.ref Cm) (.type "type") "__init__" = some (.val (.builtin "ValueError.__init__"))) (ha : PA X (e :: es) ta)
    (hdb : (x == ("__debug__" : Str)) = false := by decide)
    (hc : eval (.Call (.Attribute (.Name x p1) "__init__" p2) (e :: es) [] pos) X.env = (do
      let ov ← eval (.Name x p1) X.env
      standAt p2.atName
      let (f, first) ← holding [ov] (getMethod ov "__init__" pl)
      callWith pos f first (backTo pos (starEach (e :: es) X.env)) (backToKw pos (keywordEach [] X.env))) := by rfl)
    (he : starEach (e :: es) X.env = (false, eval e X.env) :: starEach es X.env := by rfl) (hpl : (backTo pos (starEach es X.env)).any (·.1) = false := by rfl) :
    PE X (.Call (.Attribute (.Name x p1) "__init__" p2) (e :: es) [] pos) (tVeI X.K ta) := by
  refine ⟨fun pins s σ H Q I h => ?_⟩
  refine PySem.W.methodCall_KW (ld_glob I hg gM ?_ hdb) hc
  refine PySem.W.method_cls I.kIn R.ga (PySem.W.cls_value I.kIn R.rd vV (by decide +kernel) ?_)
  show wpAny _ _ (callWith pos (Value.builtin "ValueError.__init__") [] (backTo pos (starEach (e :: es) X.env)) []) _ _ _
  refine PyProof.Rows.callWith_method1 (thn (ha.run pos pins _ σ H _ (I.tok _) h) fun us s1 ⟨vs, H1, I1, r1, a, C, ws, ev, hl, T, ea, q⟩ => ?_) he hpl
  subst ev
  cases r1 with
  | @cons _ u0 _ ur ra rw' =>
    obtain rfl : u0 = Value.ref a := ra
    have hlen : ur.length ≤ sizeLine := by
      rw [← Paired.length rw', sizeLine_eq]
      omega
    exact oinit_ok T I1 ea hlen fun s' J => ⟨.non, H1, J, rfl, q⟩
/-! ### xs.count(True) -/
def eqb (k : Bool) (v : Value) : Bool := match v with
  | .bool b => b == k
  | _ => false
theorem bools_of_vals : ∀ {bs : List Bool} {us : List Value}, Vals (bs.map V.bl) us → us = bs.map Value.bool
  | [], _, r => by cases r; rfl
  | b :: bs, _, r => by
    cases r with
    | cons r t =>
      cases (show _ = Value.bool b from r)
      rw [bools_of_vals t]
      rfl
theorem eqb_count {k : Bool} : ∀ bs : List Bool, (bs.map Value.bool).countP (eqb k) = bs.count k
  | [] => rfl
  | b :: r => by
    have ih := eqb_count (k := k) r
    rw [List.map_cons, List.countP_cons, List.count_cons, ih] <;> rfl
def rCntB (K : PySem.W.Frag) : V → List V → Hp → VK → Prop := fun x xs H Q => ∃ (p : Addr) (bs : List Bool) (k : Bool), x = .ref p ∧ xs = [.bl k] ∧ SqL K H p (bs.map V.bl) ∧ Q (.int (bs.count k : Nat)) H
theorem mt_bcount : MtR X "list.count" (rCntB X.K) := by
  intro pins s σ H x xs v us Q I rx rxs h
  obtain ⟨p, bs, k, rfl, rfl, hs, q⟩ := h
  cases rx
  obtain ⟨u, rfl, ru⟩ := rxs.one
  obtain rfl : u = Value.bool k := ru
  obtain ⟨its, rv, ⟨⟨cls, dd, data, sl⟩, n, ho, hc, hdn, hd⟩, hlen⟩ := I.list hs
  simp only at hc hd
  subst hc hd
  have hi := bools_of_vals rv
  subst hi
  refine call_meets PySem.F.slot_list_count ⟨_, ho, rfl⟩ PySem.F.entry_list_count (PySem.F.args_list_count_2 _ _)
    (SeqAt.list_countAt p (bs.map Value.bool).toArray n dd sl (.bool k) (eqb k)) ⟨ho, fun y hy => ?_, ?_⟩
  · obtain ⟨b, _, rfl⟩ := List.mem_map.mp (show y ∈ bs.map Value.bool by simpa using hy)
    exact SeqAt.EqAt.bool_bool b k
  · have ec : (bs.map Value.bool).toArray.toList.countP (eqb k) = bs.count k := eqb_count bs
    refine ⟨.int (bs.count k : Nat), H, I.tok _, ⟨s.toks, ?_⟩, q⟩
    show Value.int (((bs.map Value.bool).toArray.toList.countP (eqb k) : Nat) : Int) s.toks = Value.int ((bs.count k : Nat) : Int) s.toks
    rw [ec]
/-! ### an exception that stands in the base -/
structure ExBase (K : PySem.W.Frag) (B : Heap) (a C : Addr) (d : Option Addr) (oe : Obj) : Prop where
  get : B.get? a = some oe
  z : Zc (.ref C) d oe
  f : ∃ vs, oe.data = .fields vs
  c : ExcC K C
def DictAt (H : Hp) (d : Option Addr) : Prop := d = none ∨ ∃ dd fs, d = some dd ∧ H dd = some (.xd fs)
theorem DictAt.same {H H' : Hp} {d : Option Addr} (h : DictAt H d) (s : Same H H') : DictAt H' d := by
  rcases h with h | ⟨dd, fs, h, e⟩
  · exact .inl h
  · exact .inr ⟨dd, fs, h, s dd _ e⟩
def rIsB (K : PySem.W.Frag) (B : Heap) : List V → Hp → VK → Prop := fun xs H Q => ∃ (a C : Addr) (d : Option Addr) (oe : Obj) (c : V) (cv : Value) (b : Bool), xs = [.ref a, c] ∧ ExBase K B a C d oe ∧ DictAt H d ∧ ClsV c cv ∧ PySem.W.kitOne K (.ref C) cv = some b ∧ Q (.bl b) H
theorem call_isB : CallR X (.builtin "isinstance") (rIsB X.K X.base) := by
  intro pins s σ H xs us Q I r h
  obtain ⟨a, C, d, oe, c, cv, b, rfl, E, D, k, e, q⟩ := h
  obtain ⟨u1, u2, rfl, r1, r2⟩ := vals2 r
  have e2 := k.eq r2
  subst e2
  obtain rfl : u1 = Value.ref a := r1
  have hget := (I.bs a oe E.get).1
  obtain ⟨vs, hv⟩ := E.f
  obtain ⟨cdD, hcD, _⟩ := PySem.W.any_some E.c.hd
  have hcl : (PySem.W.clsIn X.K C).isSome = true := by rw [hcD]; rfl
  have J : ∃ od, PySem.W.InstAt s.heap a oe C od := by
    rcases D with rfl | ⟨dd, fs, rfl, hd⟩
    · exact ⟨none, hget, E.z.1, by unfold PySem.W.notCls; rw [hv] <;> rfl, by rw [E.z.2]; trivial⟩
    · obtain ⟨mA, hns, hr⟩ := (show ObjOk X.prog X.w H s.heap dd (.xd fs) from I.hok dd _ hd)
      obtain ⟨od, ho, hl⟩ := lookIn_ns hns
      exact ⟨some od, hget, E.z.1, by unfold PySem.W.notCls; rw [hv] <;> rfl, by rw [E.z.2]; exact ho⟩
  obtain ⟨od, J⟩ := J
  exact PySem.W.kia_one (PySem.W.kitx_exc (od := od) (ox := oe) hcl E.c.hg E.c.hk E.c.hs E.c.ha E.c.hn E.c.ht E.c.hm) I.kIn J e (fun z => nomatch z) fun tk => ⟨.bl b, H, I.kept (t' := tk) fun _ _ z => z, rfl, q⟩
/-! ### f(n) in an except suite, n the caught exception: f's promise for the base that holds it -/
theorem restrictZ (h : Heap) (p : Addr → Bool) : ∃ G : Heap, (∀ b, p b = true → G.get? b = h.get? b) ∧ (∀ b, p b = false → G.get? b = none) ∧ G.objs.size ≤ h.objs.size := by
  obtain ⟨l, hl⟩ : ∃ l : List Addr, l = (List.range h.objs.size).filter fun b => !p b := ⟨_, rfl⟩
  have m1 : ∀ b, b ∈ l → p b = false := fun b hb => by
    rw [hl] at hb
    have z := (List.mem_filter.mp hb).2
    simpa using z
  have m2 : ∀ b, b < h.objs.size → p b = false → b ∈ l := fun b h1 h2 => by
    rw [hl]
    exact List.mem_filter.mpr ⟨List.mem_range.mpr h1, by simp [h2]⟩
  refine ⟨PySem.W.hideAll h l, fun b hb => ?_, fun b hb => ?_, Nat.le_of_eq (PySem.W.hideAll_size _ _)⟩
  · cases e : h.get? b with
    | some o => exact PySem.W.hideAll_get l e fun hm => by rw [m1 b hm] at hb; cases hb
    | none =>
      cases q : (PySem.W.hideAll h l).get? b with
      | none => rfl
      | some o =>
        have z := PySem.W.of_hideAll l q
        rw [e] at z; cases z
  · cases q : (PySem.W.hideAll h l).get? b with
    | none => rfl
    | some o =>
      have z := PySem.W.of_hideAll l q
      rw [PySem.W.hideAll_none l (m2 b (Heap.lt_size z) hb)] at q; cases q
def tCallE (a : Addr) (oe : Obj) (sp : Heap → Sp) (te : TE) : TE := fun σ H Q => tCons te tNil σ H fun vs H1 => vs = [.ref a] ∧ ∀ B : Heap, B.get? a = some oe → sp B [.ref a] H1 Q E0
theorem pe_callE {a f : Addr} {oe : Obj} {pn : List (Addr × Obj)} {k : Nat} {fd : FuncData} {x n : Str} {sp : Heap → Sp} {te : TE} {q : Str}
    (F : ∀ B : Heap, Mod X.K X.mg B → FnOk X.prog X.w X.K X.mg B CX0 k f fd [q] (sp B)) (hr : Room k (X.suite a ((a, oe) :: pn)).A) (hg : Gl X x) (hm : X.mg x = some (.ref f)) (hk : PySem.W.keepIn X.K (.ref f) = true) (hb : Binds X.K fd [q] [])
    (he : PE (X.suite a ((a, oe) :: pn)) e te) (hdb : (x == ("__debug__" : Str)) = false := by decide) (hs : starEach [e] X.env = (false, eval e X.env) :: starEach [] X.env := by rfl) (hpl : (backTo pos (starEach [] X.env)).any (·.1) = false := by rfl) :
    PE (X.suite a ((a, oe) :: pn)) (.Call (.Name x p) [e] [] pos) (tCallE a oe sp te) := by
  refine ⟨fun pins s σ H Q I h => ?_⟩
  refine wpAny_Call_Name_kw (ld_glob (X := X.suite a ((a, oe) :: pn)) I hg hm ?_ hdb)
  refine PySem.W.callWith_K (h₀ := X.base) I.ok.mod.kin hk (thn ((pa_cons (X := X.suite a ((a, oe) :: pn)) he pa_nil hs).run pos pins s σ H _ I h) fun us s1 ⟨vs, H1, I1, r, q⟩ => ⟨I1.kIn, ?_⟩) hs hpl
  obtain ⟨ev, hq⟩ := q
  subst ev
  have eu : us = [Value.ref a] := by
    cases r with
    | cons r t =>
      cases t
      cases (show _ = Value.ref a from r)
      rfl
  subst eu
  obtain ⟨hget, hnone, hloc, hfs, _⟩ := I1.pin (a, oe) (List.mem_append_left _ List.mem_cons_self)
  obtain ⟨B, g1, g2, gz⟩ := restrictZ s1.heap fun b => (X.base.get? b).isSome || decide (b = a)
  have keep : ∀ b o, X.base.get? b = some o → B.get? b = some o := fun b o e => by
    rw [g1 b (by simp [e])]
    exact (I1.bs b o e).1
  have hBa : B.get? a = some oe := by
    rw [g1 a (by simp)]
    exact hget
  have of : ∀ b o, B.get? b = some o → s1.heap.get? b = some o ∧ ((∃ o', X.base.get? b = some o') ∨ b = a) := fun b o e => by
    cases w : ((X.base.get? b).isSome || decide (b = a)) with
    | false => rw [g2 b w] at e; cases e
    | true =>
      rw [g1 b w] at e
      refine ⟨e, ?_⟩
      rcases Bool.or_eq_true_iff.mp w with z | z
      · exact .inl (Option.isSome_iff_exists.mp z)
      · exact .inr (of_decide_eq_true z)
  have e0 := I1.env0
  have M : Mod X.K X.mg B := by
    obtain ⟨m1, m2, ⟨mb, m3, m4⟩, m5⟩ := I1.ok.mod
    exact ⟨m1.keeps keep, m2.keeps keep, ⟨mb, m3.keeps keep, m4⟩, m5.keeps keep⟩
  have env : Env0 X.prog X.w X.K X.mg B (X.suite a ((a, oe) :: pn)).A X.stack s1 H1 := ⟨e0.frames, M, fun b o e => by
      obtain ⟨w1, w2⟩ := of b o e
      rcases w2 with ⟨o', w2⟩ | rfl
      · exact ⟨w1, (I1.bs b o' w2).2⟩
      · exact ⟨w1, hnone⟩, gz, funFrames_none e0.funs fun L hL => by
      cases e : B.get? L with
      | none => rfl
      | some o =>
        obtain ⟨w1, w2⟩ := of L o e
        rcases w2 with ⟨o', w2⟩ | rfl
        · have := (e0.funs.mem hL).1
          rw [show (X.suite a ((a, oe) :: pn)).base.get? L = some o' from w2] at this
          cases this
        · rcases List.mem_cons.mp (I1.stkSub L hL) with z | z
          · exact absurd z hloc
          · exact absurd z hfs, e0.frf, e0.hok, e0.bare⟩
  have hbb := hb s1 [Value.ref a] I1.kIn rfl
  rw [List.append_nil] at hbb
  refine wpAny_call (codeAny_mono ((F B M).run _ X.stack s1 H1 ⟨[.ref a], []⟩ [.ref a] [.ref a] Q E0 hr env hbb r (hq B hBa)) fun r s' hr' => ?_)
  cases r with
  | error er => exact pass0 (X := X.suite a ((a, oe) :: pn)) pins σ H1 s1 er s' I1 hr'
  | ok fl =>
    cases fl with
    | ret u => exact I1.after hr'
    | next => exact False.elim hr'
    | brk => exact False.elim hr'
    | cont => exact False.elim hr'
end
end Dl
/-! the class of a caught exception, told by isinstance (the law's own def), by hand -/
namespace Dl
open PySem L2 PyProof.Rows PySem.SeqAt
section
variable {K : PySem.W.Frag} {B : Heap} {σ : L2.St} {H : Hp}
abbrev tIs (K : PySem.W.Frag) (B : Heap) (c : V) : TE := tCB (rIsB K B) (tCons (tVar 0) (tCons (tC c) tNil))
abbrev tCls3 (K : PySem.W.Frag) (B : Heap) : TS := (tRet (tIf (tAnd (tTest (tOp (rEqD K) (tBM K "list" (rCntB K) (tVar 1) (tCons (tC (.bl true)) tNil)) (tC (.int 1)))) (tB (tIs K B (.ty "ValueError"))))
    (tOp (rIx K) (tVar 2) (tBM K "list" (rIndexD K) (tVar 1) (tCons (tC (.bl true)) tNil))) (tC (.str ""))))
abbrev tCls2 (K : PySem.W.Frag) (B : Heap) : TS :=
  tSeq (tAsg (tLst (tCons (tC (.str "BadTown")) (tCons (tC (.str "BadLetter")) (tCons (tC (.str "BadTime")) (tCons (tC (.str "BadPerson")) (tCons (tC (.str "BadKeep")) (tCons (tC (.str "BadText")) tNil))))))) (gName 2))
  (tCls3 K B)
abbrev tCls (K : PySem.W.Frag) (B : Heap) (C1 C2 C3 C4 C5 C6 : Addr) : TS :=
  tSeq (tAsg (tLst (tCons (tIs K B (.ref C1)) (tCons (tIs K B (.ref C2)) (tCons (tIs K B (.ref C3)) (tCons (tIs K B (.ref C4)) tNil))))) (gName 1))
  (tSeq (tAsg (tOp (rPlus K) (tVar 1) (tLst (tCons (tIs K B (.ref C5)) (tCons (tIs K B (.ref C6)) tNil)))) (gName 1)) (tCls2 K B))
theorem isB_at {a C : Addr} {d : Option Addr} {oe : Obj} {c : V} {cv : Value} {b : Bool} {Q : VK} (hσ : σ[0]? = some (some (.ref a))) (E : ExBase K B a C d oe) (D : DictAt H d) (k : ClsV c cv) (e : PySem.W.kitOne K (.ref C) cv = some b) (q : Q (.bl b) H) : tIs K B c σ H Q :=
  ⟨.ref a, hσ, a, C, d, oe, c, cv, b, rfl, E, D, k, e, q⟩
theorem bools_own (bs : List Bool) : OwnA K H (bs.map V.bl) (bs.map PyData.bool) [] := by
  induction bs with
  | nil => exact .nil
  | cons b r ih => exact .cons (f := []) (.bl b) ih (by simp)
theorem bools_shp (bs : List Bool) : SeqAt.shaped (.list (bs.map .bool)) = true := (shp_list (n := 1) fun d hd => by
  obtain ⟨b, _, rfl⟩ := List.mem_map.mp hd
  exact shp_bool b).shaped (by omega)
theorem body_cls {C1 C2 C3 C4 C5 C6 a C : Addr} {d : Option Addr} {oe : Obj} {b1 b2 b3 b4 b5 b6 : Bool} {nm : Str} {j : Nat} {Q : VK} (hσ : σ[0]? = some (some (.ref a))) (hl : σ.length = 3) (E : ExBase K B a C d oe) (D : DictAt H d)
    (k1 : PySem.W.kitOne K (.ref C) (.ref C1) = some b1) (k2 : PySem.W.kitOne K (.ref C) (.ref C2) = some b2) (k3 : PySem.W.kitOne K (.ref C) (.ref C3) = some b3) (k4 : PySem.W.kitOne K (.ref C) (.ref C4) = some b4) (k5 : PySem.W.kitOne K (.ref C) (.ref C5) = some b5) (k6 : PySem.W.kitOne K (.ref C) (.ref C6) = some b6)
    (kv : PySem.W.kitOne K (.ref C) (.type "ValueError") = some true) (hc : [b1, b2, b3, b4, b5, b6].count true = 1) (hj : [b1, b2, b3, b4, b5, b6][j]? = some true) (hn : ∀ m b, m < j → [b1, b2, b3, b4, b5, b6][m]? = some b → b = false)
    (hw : (["BadTown", "BadLetter", "BadTime", "BadPerson", "BadKeep", "BadText"] : List Str)[j]? = some nm) (k : ∀ H', Same H H' → Q (.str nm) H') :
    tCls K B C1 C2 C3 C4 C5 C6 { nx := fun _ H' => Q .non H', rt := Q } σ H := by
  refine isB_at hσ E D (.own _) k1 ?_
  refine isB_at hσ E D (.own _) k2 ?_
  refine isB_at hσ E D (.own _) k3 ?_
  refine isB_at hσ E D (.own _) k4 ?_
  refine ⟨by show 4 ≤ sizeLine; rw [sizeLine_eq]; omega, fun p hp => ?_⟩
  have s1 : Same H (upd H p (.lst [.bl b1, .bl b2, .bl b3, .bl b4])) := same_upd hp
  generalize hH1 : upd H p (.lst [.bl b1, .bl b2, .bl b3, .bl b4]) = H1 at s1
  have hp1 : H1 p = some (.lst [.bl b1, .bl b2, .bl b3, .bl b4]) := by rw [← hH1]; exact upd_same
  have g0 : (σ.set 1 (some (.ref p)))[0]? = some (some (.ref a)) := by rw [List.getElem?_set_ne (by decide)]; exact hσ
  refine ⟨.ref p, List.getElem?_set_self (by omega), ?_⟩
  have D1 := D.same s1
  refine isB_at g0 E D1 (.own _) k5 ?_
  refine isB_at g0 E D1 (.own _) k6 ?_
  refine ⟨by show 2 ≤ sizeLine; rw [sizeLine_eq]; omega, fun p2 hp2 => ?_⟩
  have s2 : Same H1 (upd H1 p2 (.lst [.bl b5, .bl b6])) := same_upd hp2
  generalize hH2 : upd H1 p2 (.lst [.bl b5, .bl b6]) = H2 at s2
  have hp22 : H2 p2 = some (.lst [.bl b5, .bl b6]) := by rw [← hH2]; exact upd_same
  refine .inr (.inl ⟨p, p2, _, _, rfl, rfl, s2 p _ hp1, hp22, by show 4 + 2 ≤ sizeLine; rw [sizeLine_eq]; omega, fun p3 hp3 => ?_⟩)
  suffices key : ∀ H3 : Hp, Same H2 H3 → H3 p3 = some (.lst ([b1, b2, b3, b4, b5, b6].map V.bl)) → tCls2 K B { nx := fun _ H' => Q .non H', rt := Q } ((σ.set 1 (some (.ref p))).set 1 (some (.ref p3))) H3 from key _ (same_upd hp3) upd_same
  intro H3 s3 hp33
  refine ⟨by show 6 ≤ sizeLine; rw [sizeLine_eq]; omega, fun p4 hp4 => ?_⟩
  suffices key4 : ∀ H4 : Hp, Same H3 H4 → H4 p4 = some (.lst ((["BadTown", "BadLetter", "BadTime", "BadPerson", "BadKeep", "BadText"] : List Str).map V.str)) → tCls3 K B { nx := fun _ H' => Q .non H', rt := Q } (((σ.set 1 (some (.ref p))).set 1 (some (.ref p3))).set 2 (some (.ref p4))) H4 from key4 _ (same_upd hp4) upd_same
  intro H4 s4 hp44
  have sA : Same H H4 := Same.trans (Same.trans (Same.trans s1 s2) s3) s4
  have hb : H4 p3 = some (.lst ([b1, b2, b3, b4, b5, b6].map V.bl)) := s4 p3 _ hp33
  have v0 : (((σ.set 1 (some (.ref p))).set 1 (some (.ref p3))).set 2 (some (.ref p4)))[0]? = some (some (.ref a)) := by
    rw [List.getElem?_set_ne (by decide), List.getElem?_set_ne (by decide), List.getElem?_set_ne (by decide)]; exact hσ
  have v1 : (((σ.set 1 (some (.ref p))).set 1 (some (.ref p3))).set 2 (some (.ref p4)))[1]? = some (some (.ref p3)) := by
    rw [List.getElem?_set_ne (by decide), List.getElem?_set_self (by rw [List.length_set]; omega)]
  have v2 : (((σ.set 1 (some (.ref p))).set 1 (some (.ref p3))).set 2 (some (.ref p4)))[2]? = some (some (.ref p4)) := List.getElem?_set_self (by rw [List.length_set, List.length_set]; omega)
  have wl : W0 K H4 (.ref p3) (.list ([b1, b2, b3, b4, b5, b6].map PyData.bool)) := Own.w0 (.lst hb (bools_own _) (by simp))
  refine ⟨.ref p3, v1, tyV_lst hb, p3, [b1, b2, b3, b4, b5, b6], true, rfl, rfl, SqL.of hb, ?_⟩
  have sI : ∀ i : Int, SeqAt.shaped (.int i) = true := fun i => (shp_int i).shaped (by omega)
  refine ⟨.int (([b1, b2, b3, b4, b5, b6].count true : Nat) : Int), .int 1, (Own.w0 (.int _)).dp (lay_of_shaped (sI _)), (Own.w0 (.int _)).dp (lay_of_shaped (sI _)), sI _, sI _, ?_⟩
  refine ⟨_, rfl, ?_⟩
  rw [hc, show PyData.eqv (.int ((1 : Nat) : Int)) (.int 1) = true from by decide +kernel]
  dsimp only
  rw [if_pos rfl]
  refine isB_at v0 E (D.same sA) (.ty "ValueError") kv ⟨true, rfl, ?_⟩
  dsimp only
  rw [if_pos rfl]
  refine ⟨.ref p4, v2, .ref p3, v1, tyV_lst hb, ?_⟩
  refine ⟨p3, .bl true, .bool true, [b1, b2, b3, b4, b5, b6].map PyData.bool, j, .bool true, rfl, rfl, wl.dp (lay_of_shaped (bools_shp _)), (Own.w0 (.bl true)).dp (lay_of_shaped ((shp_bool true).shaped (by omega))), bools_shp _, (shp_bool true).shaped (by omega), by rw [List.getElem?_map, hj]; rfl, by decide +kernel, fun m z' hm hz => ?_, ?_⟩
  · rw [List.getElem?_map] at hz
    obtain ⟨b, q1, rfl⟩ := Option.map_eq_some_iff.mp hz
    rw [hn m b hm q1]
    decide +kernel
  · refine .inl ⟨p4, _, (j : Int), .str nm, rfl, rfl, SqL.of hp44, ?_, k H4 sA⟩
    have hlt : j < 6 := (List.getElem?_eq_some_iff.mp hw).1
    unfold atI ixN
    rw [if_pos (by omega), if_pos (by simp; omega)]
    simp only [Option.bind_some, Int.toNat_natCast, List.getElem?_map, hw, Option.map_some]
end
end Dl
/-! raise, of own classes with and without an __init__ of their own -/
namespace Dl
open PySem L2 PyProof.Rows PySem.SeqAt
section
variable {K : PySem.W.Frag} {bv : List V} {e e' : Dl.Env} {fp fp' al : Addr → Prop} {σ : L2.St} {H H' : Hp} {W : WX}
/-- raise X('..'), X without __init__ -/
def xRaise (nm : Str) : MSX := fun _ => some (.ex nm [])
theorem rsx_raise {C : Addr} {nm : Str} (hC : PySem.W.nsIn K mainGlobals nm = some (some (.ref C))) : RSX K W (fun _ σ H => W (.ref C) none σ H) (xRaise nm) := by
  intro e o q bv fp σ H D rr k
  cases q
  exact k (.ref C) none σ H fp (Step.refl _ _) ⟨C, rfl, hC, .inl ⟨rfl, rfl⟩⟩
/-- what X.__init__ promises: the fields, in the order of the parameters -/
def spXI (K : PySem.W.Frag) (C : Addr) (fs : List Str) : Sp := fun vs H Q _ => ∃ (a : Addr) (args : List V), vs = .ref a :: args ∧ args.length = fs.length ∧ H a = some (exo a C none) ∧ OexC K C ∧
  ∀ (d : Addr) (H2 : Hp), H d = none → d ≠ a → H2 a = some (exo a C (some d)) → H2 d = some (exd d (fs.zip args).reverse) → (∀ b, b ≠ a → b ≠ d → H2 b = H b) → Q .non H2
theorem spXI_len {C : Addr} {fs : List Str} {n : Nat} (hn : fs.length + 1 = n) : ∀ vs H Q E, spXI K C fs vs H Q E → vs.length = n := by
  intro vs H Q E h
  obtain ⟨a, args, rfl, hl, _⟩ := h
  rw [List.length_cons, hl, hn]
def xRaiseI (nm : Str) (fs : List Str) (a : MA) : MSX := fun e => (a e).bind fun p => (looks p.2 p.1).bind fun ds => if ds.length = fs.length ∧ immA ds = true ∧ ds.length ≤ 900 then some (.ex nm (fs.zip ds).reverse) else none
theorem flds_app {vs ws : List (Str × V)} {ds es : List (Str × PyData)} (h : Flds K H vs ds) (g : Flds K H ws es) : Flds K H (vs ++ ws) (ds ++ es) := by
  induction h with
  | nil => exact g
  | cons o _ ih => exact .cons o ih
theorem flds_zip : ∀ {fs : List Str} {vs : List V} {ds : List PyData}, W0A K H vs ds → immA ds = true → ds.length = fs.length → Flds K H (fs.zip vs).reverse (fs.zip ds).reverse
  | [], _, _, _, _, _ => by simpa using Flds.nil
  | f :: fs, _, _, .cons (v := v) (d := d) (ds := ds) w r, hi, hl => by
    have hi' : imm d = true ∧ immA ds = true := by simpa [immA] using hi
    rw [List.zip_cons_cons, List.zip_cons_cons, List.reverse_cons, List.reverse_cons]
    exact flds_app (flds_zip r hi'.2 (by simpa using hl)) (.cons (w.own hi'.1) .nil)
theorem rsx_raiseI {C : Addr} {nm : Str} {fs : List Str} {t : TA} {m : MA} (hC : PySem.W.nsIn K mainGlobals nm = some (some (.ref C))) (T : OexC K C) (h : RA K t m) : RSX K W (fun _ σ H => tMkO C (spXI K C fs) [] t σ H fun cls d H' => W cls d σ H') (xRaiseI nm fs m) := by
  intro e o q bv fp σ H D rr k
  obtain ⟨⟨os, e1⟩, h1, q⟩ := Option.bind_eq_some_iff.mp q
  obtain ⟨ds, h2, q⟩ := Option.bind_eq_some_iff.mp q
  split at q
  rotate_left
  · cases q
  rename_i hz
  cases q
  refine h e os e1 h1 bv fp fp σ H _ rr fun vs H1 fp1 al1 f1 to o1 => ?_
  have w := o1.w0 to.rr h2
  refine ⟨by rw [w.length]; omega, fun a ha => ⟨a, vs ++ [], rfl, by rw [List.append_nil, w.length]; exact hz.1, upd_same, T, fun d H2 hd hne h2a h2d hoth => ?_⟩⟩
  rw [List.append_nil] at h2d
  rw [upd_ne hne] at hd
  have sm : Same H1 (upd (del H2 a) d (.xd (fs.zip vs).reverse)) := fun b u q => by
    have hba := ne_of_none q ha
    have hbd := ne_of_none q hd
    rw [upd_ne hbd, del_ne hba, hoth b hba hbd, upd_ne hba]
    exact q
  refine ⟨rfl, d, _, h2a, h2d, hd, k (.ref C) (some d) σ _ fp1 (to.end_.2.trans (.of_same sm fun _ z => .inl z)) ⟨C, rfl, hC, .inr ⟨d, _, rfl, upd_same, ?_⟩⟩⟩
  exact (flds_zip w hz.2.1 hz.1).same sm
/-! ### such an __init__: Base.__init__(self, 'm'), then the fields -/
theorem body_init1 {C : Addr} {f : Str} {m : Str} {σ : L2.St} {vs : List V} {Q : VK} {E : XK} (hf : PySem.W.findIn K (.ref C) f = some none) (sp : spXI K C [f] vs H Q E) (hσ : ∀ a y, vs = [.ref a, y] → σ[0]? = some (some (.ref a)) ∧ σ[1]? = some (some y)) :
    tSeq (tDrop (tVeI K (tCons (tVar 0) (tCons (tC (.str m)) tNil)))) (tOst K f (tVar 0) (tVar 1)) { nx := fun _ H' => Q .non H', rt := Q } σ H := by
  obtain ⟨a, args, rfl, hl, ha, T, k⟩ := sp
  obtain ⟨y, rfl⟩ : ∃ y, args = [y] := by
    match args, hl with
    | [y], _ => exact ⟨y, rfl⟩
  obtain ⟨h0, h1⟩ := hσ a y rfl
  refine ⟨.ref a, h0, a, C, [.str m], rfl, by simp, T, ha, ?_⟩
  refine ⟨y, h1, .ref a, h0, a, C, rfl, T, hf, .inl ⟨ha, fun dx hdx hne => ?_⟩⟩
  refine k dx _ hdx hne upd_same ?_ fun b hb hd => ?_
  · rw [upd_ne hne]
    exact upd_same
  · rw [upd_ne hb, upd_ne hd]
theorem body_init2 {C : Addr} {f g : Str} {m : Str} {σ : L2.St} {vs : List V} {Q : VK} {E : XK} (hf : PySem.W.findIn K (.ref C) f = some none) (hg : PySem.W.findIn K (.ref C) g = some none) (sp : spXI K C [f, g] vs H Q E)
    (hσ : ∀ a y z, vs = [.ref a, y, z] → σ[0]? = some (some (.ref a)) ∧ σ[1]? = some (some y) ∧ σ[2]? = some (some z)) :
    tSeq (tDrop (tVeI K (tCons (tVar 0) (tCons (tC (.str m)) tNil)))) (tSeq (tOst K f (tVar 0) (tVar 1)) (tOst K g (tVar 0) (tVar 2))) { nx := fun _ H' => Q .non H', rt := Q } σ H := by
  obtain ⟨a, args, rfl, hl, ha, T, k⟩ := sp
  obtain ⟨y, z, rfl⟩ : ∃ y z, args = [y, z] := by
    match args, hl with
    | [y, z], _ => exact ⟨y, z, rfl⟩
  obtain ⟨h0, h1, h2⟩ := hσ a y z rfl
  refine ⟨.ref a, h0, a, C, [.str m], rfl, by simp, T, ha, ?_⟩
  refine ⟨y, h1, .ref a, h0, a, C, rfl, T, hf, .inl ⟨ha, fun dx hdx hne => ?_⟩⟩
  refine ⟨z, h2, .ref a, h0, a, C, rfl, T, hg, .inr ⟨dx, [(f, y)], upd_same, by rw [upd_ne hne]; exact upd_same, by simp, ?_⟩⟩
  refine k dx _ hdx hne ?_ upd_same fun b hb hd => ?_
  · rw [upd_ne (Ne.symm hne)]
    exact upd_same
  · rw [upd_ne hd, upd_ne hb, upd_ne hd]
end
end Dl
/-! defs that may raise, own classes of exceptions, for their users -/
namespace Dl
open PySem L2 PyProof.Rows PySem.SeqAt
def CalleeX (P : Program) (w : World) (K : PySem.W.Frag) (mg : Str → Option Value) (base : Heap) (x : Str) (k : Nat) (ps : List Str) (sp : Sp) : Prop :=
  ∃ f fd, FnOk P w K mg base (L2.CX P w) k f fd ps sp ∧ mg x = some (.ref f) ∧ PySem.W.keepIn K (.ref f) = true ∧ Binds K fd ps []
section
variable {X : Cx} {x : Str} {k j : Nat} {ps : List Str} {sp : Sp} {e : Expr} {es : List Expr} {t : TA} {p pos : Pos}
/-- .. where it does not raise -/
theorem pe_callR (C : CalleeX X.prog X.w X.K X.mg X.base x j ps sp) (hr : Room k X.A) (hj : j ≤ k) (hg : Gl X x) (ha : PA X (e :: es) t)
    (hdb : (x == ("__debug__" : Str)) = false := by decide) (he : starEach (e :: es) X.env = (false, eval e X.env) :: starEach es X.env := by rfl) (hpl : (backTo pos (starEach es X.env)).any (·.1) = false := by rfl) :
    PE X (.Call (.Name x p) (e :: es) [] pos) (tCall sp [] E0 t) := by
  obtain ⟨f, fd, F, hm, hk, hb⟩ := C
  exact pe_call F (hr.mono hj) hg hm hk hb .nil passL ha hdb he hpl
/-- .. where it may -/
theorem pe_callT {W : WX} (C : CalleeX X.prog X.w X.K X.mg X.base x j ps sp) (tk : Takes X W) (hr : Room k X.A) (hj : j ≤ k) (hg : Gl X x) (ha : PA X (e :: es) t)
    (hdb : (x == ("__debug__" : Str)) = false := by decide) (he : starEach (e :: es) X.env = (false, eval e X.env) :: starEach es X.env := by rfl) (hpl : (backTo pos (starEach es X.env)).any (·.1) = false := by rfl) :
    PE X (.Call (.Name x p) (e :: es) [] pos) (tCallS sp (WE W) t) := by
  obtain ⟨f, fd, F, hm, hk, hb⟩ := C
  exact pe_callS F (hr.mono hj) hg hm hk hb (fun σ => passAt tk σ) ha hdb he hpl
end
/-- an own class of exceptions without an __init__ of its own -/
structure ExcPl (K : PySem.W.Frag) (mg : Str → Option Value) (nm : Str) (C : Addr) : Prop where
  g : mg nm = some (.ref C)
  n : PySem.W.nsIn K mainGlobals nm = some (some (.ref C))
  x : PySem.W.excIn K C [.type "ValueError", .type "Exception", .type "BaseException", .type "object"] "ValueError.__new__" = true
  k : PySem.W.keepIn K (.ref C) = true
  b : PySem.W.subIn K (.ref C) (.type "BaseException") = some true
  t : PySem.W.typeIn K (.ref C) = some (.type "type")
theorem ps_raisePl {X : Cx} {W : WX} {nm m : Str} {C : Addr} {j : Nat} {p p2 pos pos' : Pos} (E : ExcPl X.K X.mg nm C) (hc : X.calm = true) (tk : Takes X W) (hg : Gl X nm) (hdb : (nm == ("__debug__" : Str)) = false := by decide) :
    PS X (.Raise (some (.Call (.Name nm p) [.Constant (.str m) j p2] [] pos)) none pos') (fun _ σ H => W (.ref C) none σ H) :=
  ps_raise hc tk (pmk_own PySem.F.excBase_ValueError E.x E.g E.k (raises_own E.b E.t) hg hdb)
/-- .. with one: its fields in the order of the parameters -/
structure ExcIn (P : Program) (w : World) (K : PySem.W.Frag) (mg : Str → Option Value) (base : Heap) (nm : Str) (C : Addr) (k : Nat) (ps fs : List Str) : Prop where
  fn : ∃ fI fd, FnOk P w K mg base CX0 k fI fd ps (spXI K C fs) ∧ Binds K fd ps [] ∧ PySem.W.findIn K (.ref C) "__init__" = some (some (.ref fI)) ∧ PySem.W.typeIn K (.ref fI) = some (.type "function")
  T : OexC K C
  g : mg nm = some (.ref C)
  n : PySem.W.nsIn K mainGlobals nm = some (some (.ref C))
theorem ps_raiseIn {X : Cx} {W : WX} {nm : Str} {C : Addr} {k j : Nat} {ps fs : List Str} {e : Expr} {es : List Expr} {ta : TA} {p pos pos' : Pos} (E : ExcIn X.prog X.w X.K X.mg X.base nm C j ps fs) (hc : X.calm = true) (tk : Takes X W) (hr : Room k X.A) (hj : j + 1 ≤ k) (hg : Gl X nm) (ha : PA X (e :: es) ta)
    (hdb : (nm == ("__debug__" : Str)) = false := by decide) (he : starEach (e :: es) X.env = (false, eval e X.env) :: starEach es X.env := by rfl) (hpl : (backTo pos (starEach es X.env)).any (·.1) = false := by rfl) :
    PS X (.Raise (some (.Call (.Name nm p) (e :: es) [] pos)) none pos') (fun _ σ H => tMkO C (spXI X.K C fs) [] ta σ H fun cls d H' => W cls d σ H') := by
  obtain ⟨fI, fd, F, hb, iC, tI⟩ := E.fn
  exact ps_raise hc tk (pmk_oex E.T iC tI F (hr.mono hj) hb .nil pass0 hg E.g ha hdb he hpl)
end Dl
/-! the six classes, and the def that tells a caught exception's -/
namespace Dl
open PySem L2 PyProof.Rows PySem.SeqAt
def KINDS : List Str := ["BadTown", "BadLetter", "BadTime", "BadPerson", "BadKeep", "BadText"]
/-- the class objects, and what isinstance says of their instances -/
structure Kinds (K : PySem.W.Frag) (mg : Str → Option Value) (C : Nat → Addr) : Prop where
  g : ∀ i nm, KINDS[i]? = some nm → mg nm = some (.ref (C i))
  n : ∀ i nm, KINDS[i]? = some nm → PySem.W.nsIn K mainGlobals nm = some (some (.ref (C i)))
  k : ∀ i j, i < 6 → j < 6 → PySem.W.kitOne K (.ref (C i)) (.ref (C j)) = some (decide (i = j))
  v : ∀ i, i < 6 → PySem.W.kitOne K (.ref (C i)) (.type "ValueError") = some true
/-- what _law_class promises, for a base that holds the exception -/
def spCls (K : PySem.W.Frag) (B : Heap) : Sp := fun vs H Q _ => ∃ (a C : Addr) (i : Nat) (nm : Str) (d : Option Addr) (oe : Obj), vs = [.ref a] ∧ KINDS[i]? = some nm ∧ PySem.W.nsIn K mainGlobals nm = some (some (.ref C)) ∧ ExBase K B a C d oe ∧ DictAt H d ∧ ∀ H', Same H H' → Q (.str nm) H'
theorem spCls_len {K : PySem.W.Frag} {B : Heap} : ∀ vs H Q E, spCls K B vs H Q E → vs.length = 1 := by
  intro vs H Q E h
  obtain ⟨a, C, i, nm, d, oe, rfl, _⟩ := h
  rfl
theorem body_kinds {K : PySem.W.Frag} {B : Heap} {mg : Str → Option Value} {C : Nat → Addr} {σ : L2.St} {H : Hp} {vs : List V} {Q : VK} {E : XK} (T : Kinds K mg C) (sp : spCls K B vs H Q E) (hσ : ∀ v, vs = [v] → σ[0]? = some (some v)) (hl : σ.length = 3) :
    tCls K B (C 0) (C 1) (C 2) (C 3) (C 4) (C 5) { nx := fun _ H' => Q .non H', rt := Q } σ H := by
  obtain ⟨a, c, i, nm, d, oe, rfl, hi, hn, X, D, k⟩ := sp
  have e := T.n i nm hi
  rw [hn] at e
  cases e
  have hi6 : i < 6 := (List.getElem?_eq_some_iff.mp hi).1
  have kk : ∀ j, j < 6 → PySem.W.kitOne K (.ref (C i)) (.ref (C j)) = some (decide (i = j)) := fun j hj => T.k i j hi6 hj
  refine body_cls (j := i) (hσ _ rfl) hl X D (kk 0 (by decide)) (kk 1 (by decide)) (kk 2 (by decide)) (kk 3 (by decide)) (kk 4 (by decide)) (kk 5 (by decide)) (T.v i hi6) ?_ ?_ ?_ hi k
  · rcases i with _ | _ | _ | _ | _ | _ | i
    all_goals first | decide | omega
  · rcases i with _ | _ | _ | _ | _ | _ | i
    all_goals first | rfl | omega
  · intro m b hm hb
    rcases i with _ | _ | _ | _ | _ | _ | i
    all_goals first
      | omega
      | (rcases m with _ | _ | _ | _ | _ | m <;> first | omega | (simp at hb; exact hb.symm) | (simp at hb; exact hb))
end Dl
/-! defs called within an except suite that raise nothing: the handled exception stands as a pin, nothing is asked of its context -/
namespace Dl
open PySem L2 L2H PyProof.Rows PySem.SeqAt
structure FnC (P : Program) (w : World) (K : PySem.W.Frag) (mg : Str → Option Value) (base : Heap) (k : Nat) (f : Addr) (fd : FuncData) (ps : List Str) (sp : Sp) : Prop where
  len : ∀ vs H Q E, sp vs H Q E → vs.length = ps.length
  run : ∀ (A : Around) (outer : List PySem.Env) (s : Shared) (H : Hp) (args : Args) (us : List Value) (vs : List V) (Q : VK) (E : XK) (p : Addr × Obj), RoomH k A → PinOk outer H s p → Env0 P w K mg base A outer s H → BindsTo s fd args (ps.zip us) → Vals vs us → sp vs H Q E →
    codeAny (model P w) A (.call (.ref f) args) (CR CX0 outer P w H s Q E) s
section
variable {P : Program} {w : World} {K : PySem.W.Frag} {mg : Str → Option Value} {base : Heap}
/-- such a def, by its body -/
theorem okC {x qual : Str} {st : Stmt} {f : Addr} {fd : FuncData} {N ps : List Str} {k : Nat} {sp : Sp} (F : Fun K x qual st f fd) (S : FnScope N ps (defScope st)) (len : ∀ vs H Q E, sp vs H Q E → vs.length = ps.length)
    (hbody : ∀ (cdv : Value) (A : Around) (outer : List PySem.Env) (s : Shared) (H : Hp) (vs : List V) (Q : VK) (E : XK) (p : Addr × Obj), RoomH k (A.deeper (envOfC qual (defScope st) s.heap.objs.size f cdv)) → sp vs H Q E →
      ∃ t, PSs (cxH CX0 P w K mg base N qual (defScope st) f cdv A outer s H E p) (defBody st) t ∧ t { nx := fun _ H' => Q .non H', rt := Q } (L2.start N vs) H) : FnC P w K mg base (k + 1) f fd ps sp := by
  obtain ⟨oc, od, kV, doc, pm, an, cdv, ct, osl, rfl, lk, hcd⟩ := F.ex
  refine ⟨len, fun A outer s H args us vs Q E p hr hpin e0 hb r hsp => ?_⟩
  have stays : ∀ b o, base.get? b = some o → s.heap.get? b = some o := fun b o e => (e0.bs b o e).1
  have KX : K.In s.heap := e0.mod.kin.keeps stays
  refine codeAny_call_function hr.depth (KX _ _ lk) rfl S.co S.gen rfl (PySem.W.codeRec_of KX hcd) (hb _ _ _ _ ?_)
  refine wpAny_newFunctionEnv_cells S.kind (fun ⟨n, v⟩ hy => ?_) fun env he s1 x => ?_
  · rcases S.par n (List.of_mem_zip hy).1 with q | q
    · exact .inl q
    · exact .inr ⟨q, PySem.W.cellsFrom_some _ _ _ (.inl q)⟩
  subst he
  refine ⟨(e0.mod.nolimit.keeps stays).keeps x.toInCall.keep, codeAny_func ?_⟩
  obtain ⟨t, ht, hq⟩ := hbody cdv A outer s H vs Q E p (hr.deeper _) hsp
  refine wpAny_mono (ht.run [] s1 (L2.start N vs) H _ (inv_startH S hpin e0 (len _ _ _ _ hsp) r x) hq) (fun fl s' hs => ?_) fun e s' hs => hs
  cases fl with
  | ret u =>
    obtain ⟨v, σ', H', J, rv, q⟩ := hs
    exact ⟨v, H', J.os, J.bare, J.base, J.hok, rv, q⟩
  | next =>
    obtain ⟨σ', H', J, q⟩ := hs
    exact ⟨.non, H', J.os, J.bare, J.base, J.hok, rfl, q⟩
  | brk =>
    obtain ⟨_, _, _, q⟩ := hs
    exact False.elim q
  | cont =>
    obtain ⟨_, _, _, q⟩ := hs
    exact False.elim q
end
section
variable {X : Cx} {e : Expr} {p pos : Pos}
/-- f(n) in an except suite, n the caught exception -/
def tCallF (a : Addr) (cls : Value) (d : Option Addr) (sp : Heap → Sp) (te : TE) : TE := fun σ H Q => tCons te tNil σ H fun vs H1 => vs = [.ref a] ∧ ∀ (B : Heap) (oe : Obj), B.get? a = some oe → Zc cls d oe → (∃ vs, oe.data = .fields vs) → sp B [.ref a] H1 Q E0
theorem pe_callF {cls : Value} {d : Option Addr} {a f : Addr} {oe : Obj} {pn : List (Addr × Obj)} {k : Nat} {fd : FuncData} {x n : Str} {sp : Heap → Sp} {te : TE} {q : Str}
    (F : ∀ B : Heap, Mod X.K X.mg B → FnC X.prog X.w X.K X.mg B k f fd [q] (sp B)) (hr : RoomH k (X.suite a ((a, oe) :: pn)).A) (hg : Gl X x) (hm : X.mg x = some (.ref f)) (hk : PySem.W.keepIn X.K (.ref f) = true) (hb : Binds X.K fd [q] [])
    (hz : Zc cls d oe) (hf : ∃ vs, oe.data = .fields vs) (he : PE (X.suite a ((a, oe) :: pn)) e te) (hdb : (x == ("__debug__" : Str)) = false := by decide) (hs : starEach [e] X.env = (false, eval e X.env) :: starEach [] X.env := by rfl) (hpl : (backTo pos (starEach [] X.env)).any (·.1) = false := by rfl) :
    PE (X.suite a ((a, oe) :: pn)) (.Call (.Name x p) [e] [] pos) (tCallF a cls d sp te) := by
  refine ⟨fun pins s σ H Q I h => ?_⟩
  refine wpAny_Call_Name_kw (ld_glob (X := X.suite a ((a, oe) :: pn)) I hg hm ?_ hdb)
  refine PySem.W.callWith_K (h₀ := X.base) I.ok.mod.kin hk (thn ((pa_cons (X := X.suite a ((a, oe) :: pn)) he pa_nil hs).run pos pins s σ H _ I h) fun us s1 ⟨vs, H1, I1, r, q⟩ => ⟨I1.kIn, ?_⟩) hs hpl
  obtain ⟨ev, hq⟩ := q
  subst ev
  have eu : us = [Value.ref a] := by
    cases r with
    | cons r t =>
      cases t
      cases (show _ = Value.ref a from r)
      rfl
  subst eu
  obtain ⟨hget, hnone, hloc, hfs, hcell⟩ := I1.pin (a, oe) (List.mem_append_left _ List.mem_cons_self)
  obtain ⟨B, g1, g2, gz⟩ := restrictZ s1.heap fun b => (X.base.get? b).isSome || decide (b = a)
  have keep : ∀ b o, X.base.get? b = some o → B.get? b = some o := fun b o e => by
    rw [g1 b (by simp [e])]
    exact (I1.bs b o e).1
  have hBa : B.get? a = some oe := by
    rw [g1 a (by simp)]
    exact hget
  have of : ∀ b o, B.get? b = some o → s1.heap.get? b = some o ∧ ((∃ o', X.base.get? b = some o') ∨ b = a) := fun b o e => by
    cases w : ((X.base.get? b).isSome || decide (b = a)) with
    | false => rw [g2 b w] at e; cases e
    | true =>
      rw [g1 b w] at e
      refine ⟨e, ?_⟩
      rcases Bool.or_eq_true_iff.mp w with z | z
      · exact .inl (Option.isSome_iff_exists.mp z)
      · exact .inr (of_decide_eq_true z)
  have e0 := I1.env0
  have M : Mod X.K X.mg B := by
    obtain ⟨m1, m2, ⟨mb, m3, m4⟩, m5⟩ := I1.ok.mod
    exact ⟨m1.keeps keep, m2.keeps keep, ⟨mb, m3.keeps keep, m4⟩, m5.keeps keep⟩
  have env : Env0 X.prog X.w X.K X.mg B (X.suite a ((a, oe) :: pn)).A X.stack s1 H1 := ⟨e0.frames, M, fun b o e => by
      obtain ⟨w1, w2⟩ := of b o e
      rcases w2 with ⟨o', w2⟩ | rfl
      · exact ⟨w1, (I1.bs b o' w2).2⟩
      · exact ⟨w1, hnone⟩, gz, funFrames_none e0.funs fun L hL => by
      cases e : B.get? L with
      | none => rfl
      | some o =>
        obtain ⟨w1, w2⟩ := of L o e
        rcases w2 with ⟨o', w2⟩ | rfl
        · have := (e0.funs.mem hL).1
          rw [show (X.suite a ((a, oe) :: pn)).base.get? L = some o' from w2] at this
          cases this
        · rcases List.mem_cons.mp (I1.stkSub L hL) with z | z
          · exact absurd z hloc
          · exact absurd z hfs, e0.frf, e0.hok, e0.bare⟩
  have hbb := hb s1 [Value.ref a] I1.kIn rfl
  rw [List.append_nil] at hbb
  refine wpAny_call (codeAny_mono ((F B M).run _ X.stack s1 H1 ⟨[.ref a], []⟩ [.ref a] [.ref a] Q E0 (a, oe) hr ⟨hget, hnone, fun hL => (List.mem_cons.mp (I1.stkSub a hL)).elim hloc hfs, hcell⟩ env hbb r (hq B oe hBa hz hf)) fun r s' hr' => ?_)
  cases r with
  | error er => exact pass0 (X := X.suite a ((a, oe) :: pn)) pins σ H1 s1 er s' I1 hr'
  | ok fl =>
    cases fl with
    | ret u => exact I1.after hr'
    | next => exact False.elim hr'
    | brk => exact False.elim hr'
    | cont => exact False.elim hr'
end
theorem huH {k : Nat} {A : Around} (r : RoomH k A) : A.units + 64 < cLine := by have := r.un; omega
theorem huH65 {k : Nat} {A : Around} (r : RoomH k A) : A.units + 65 < cLine := by have := r.un; omega
end Dl
/-! try: return f(..) / except MailError as e: its class, its fields (the law's own def, by hand) -/
namespace Dl
open PySem L2 L2H PyProof.Rows PySem.SeqAt
/-- what is told of an answer, of an exception -/
def told13 : Rz → Option PyData
  | .ret c => some c
  | .exc nm [(f1, d1), (f2, .str s)] => if nm = "BadTown" ∧ f1 = "number" ∧ f2 = "word" ∧ PyData.strOk s = true then some (.tuple [.str nm, if PyData.eqv (.str s) (.str "orders") = true then d1 else .str s]) else none
  | .exc nm [(f1, d1)] => if nm = "BadText" ∧ f1 = "row" then some (.tuple [.str nm, d1]) else none
  | .exc _ _ => none
/-- a def for except suites, for its users -/
def CalleeC (P : Program) (w : World) (K : PySem.W.Frag) (mg : Str → Option Value) (x : Str) (k : Nat) (q : Str) (sp : Heap → Sp) : Prop :=
  ∃ f fd, (∀ B : Heap, L2.Mod K mg B → FnC P w K mg B k f fd [q] (sp B)) ∧ mg x = some (.ref f) ∧ PySem.W.keepIn K (.ref f) = true ∧ L2.Binds K fd [q] []
def six (a b c d e f : Addr) : Nat → Addr
  | 0 => a | 1 => b | 2 => c | 3 => d | 4 => e | _ => f
section
variable {K : PySem.W.Frag} {H : Hp} {σ : L2.St}
theorem shpS {s : Str} (h : PyData.strOk s = true) : SeqAt.shaped (.str s) = true := by simp [SeqAt.shaped, PyData.canLay0, PyData.depth, h]
theorem lk1 {a : Str} {v : V} {r : List (Str × V)} : List.lookup a ((a, v) :: r) = some v := by simp [List.lookup]
theorem lk2 {a b : Str} {v w : V} {r : List (Str × V)} (h : (a == b) = false) : List.lookup a ((b, v) :: (a, w) :: r) = some w := by simp [List.lookup, h]
theorem strOk_kinds : ∀ nm ∈ KINDS, PyData.strOk nm = true := by decide +kernel
theorem rEq_str {a b : Str} {Q : VK} (ha : PyData.strOk a = true) (hb : PyData.strOk b = true) (q : Q (.bl (PyData.eqv (.str a) (.str b))) H) : rEqD K (.str a) (.str b) H Q :=
  ⟨.str a, .str b, (Own.w0 (.str a)).dp (lay_of_shaped (shpS ha)), (Own.w0 (.str b)).dp (lay_of_shaped (shpS hb)), shpS ha, shpS hb, q⟩
abbrev tSuite13 (K : PySem.W.Frag) (CT CX : Addr) (a : Addr) (cls : Value) (d : Option Addr) : TS :=
  tSeq (tAsg (tCallF a cls d (spCls K) (tVar 2)) (gName 3))
  (tSeq (tIfS (tTest (tOp (rEqD K) (tVar 3) (tC (.str "BadTown"))))
    (tRet (tIf (tTest (tOp (rEqD K) (tXf a cls d CT "word" (tVar 2)) (tC (.str "orders")))) (tTup (tCons (tVar 3) (tCons (tXf a cls d CT "number" (tVar 2)) tNil))) (tTup (tCons (tVar 3) (tCons (tXf a cls d CT "word" (tVar 2)) tNil)))))
    (fun D σ H => D.nx σ H))
  (tRet (tTup (tCons (tVar 3) (tCons (tIf (tTest (tOp (rEqD K) (tVar 3) (tC (.str "BadText")))) (tXf a cls d CX "row" (tVar 2)) (tC (.int 0))) tNil)))))
theorem suite13 {CT CX a C : Addr} {nm : Str} {i : Nat} {d : Option Addr} {fs : List (Str × PyData)} {c : PyData} {D : Ends} (hi : KINDS[i]? = some nm) (hT : PySem.W.nsIn K mainGlobals "BadTown" = some (some (.ref CT))) (hX : PySem.W.nsIn K mainGlobals "BadText" = some (some (.ref CX)))
    (ec : ExcC K C) (hC : PySem.W.nsIn K mainGlobals nm = some (some (.ref C))) (hd : (fs = [] ∧ d = none) ∨ ∃ dd vs, d = some dd ∧ H dd = some (.xd vs) ∧ Flds K H vs fs)
    (h2 : σ[2]? = some (some (.ref a))) (hl : σ.length = 4) (ht : told13 (.exc nm fs) = some c) (k : ∀ (v : V) (H' : Hp) (fv : List Addr), Same H H' → Own K H' v c fv → (∀ x ∈ fv, H x = none) → D.rt v H') :
    tSuite13 K CT CX a (.ref C) d D σ H := by
  have hnm : nm ∈ KINDS := List.mem_of_getElem? hi
  refine ⟨.ref a, h2, rfl, fun B oe hg hz hf => ⟨a, C, i, nm, d, oe, rfl, hi, hC, ⟨hg, hz, hf, ec⟩, ?_, fun H1 s1 => ?_⟩⟩
  · rcases hd with ⟨_, e⟩ | ⟨dd, vs, e, q, _⟩
    · exact .inl e
    · exact .inr ⟨dd, vs, e, q⟩
  have g3 : (σ.set 3 (some (.str nm)))[3]? = some (some (.str nm)) := List.getElem?_set_self (by omega)
  have g2 : (σ.set 3 (some (.str nm)))[2]? = some (some (.ref a)) := by rw [List.getElem?_set_ne (by decide)]; exact h2
  refine ⟨.str nm, g3, ?_⟩
  dsimp only [tC]
  refine rEq_str (strOk_kinds _ hnm) (by decide +kernel) ⟨_, rfl, ?_⟩
  unfold told13 at ht
  split at ht
  · rename_i heq; cases heq
  · rename_i nm' f1 d1 f2 s heq
    cases heq
    split at ht
    rotate_left
    · cases ht
    rename_i hh
    obtain ⟨rfl, rfl, rfl, so⟩ := hh
    rw [hT] at hC
    cases hC
    cases ht
    rcases hd with ⟨e, _⟩ | ⟨dd, vs, rfl, q, fl⟩
    · cases e
    cases fl with
    | @cons _ vN _ vs' _ o1 r1 =>
    cases r1 with
    | @cons _ vW _ vs'' _ o2 r2 =>
    cases r2
    cases o2
    rw [show PyData.eqv (.str "BadTown") (.str "BadTown") = true from by decide +kernel]
    try dsimp only
    rw [if_pos rfl]
    have q1 : H1 dd = some (.xd [("number", vN), ("word", .str s)]) := s1 dd _ q
    refine ⟨.ref a, g2, rfl, rfl, dd, _, .str s, rfl, q1, lk2 (by decide +kernel), ?_⟩
    dsimp only [tC]
    refine rEq_str so (by decide +kernel) ⟨_, rfl, ?_⟩
    try dsimp only
    split
    · rename_i hq
      rw [if_pos hq] at k
      refine ⟨.str "BadTown", g3, .ref a, g2, rfl, rfl, dd, _, vN, rfl, q1, lk1, by show 2 ≤ sizeLine; rw [sizeLine_eq]; omega, fun p hp => ?_⟩
      have sm : Same H1 (upd H1 p (.tup [.str "BadTown", vN])) := same_upd hp
      have sa : Same H (upd H1 p (.tup [.str "BadTown", vN])) := Same.trans s1 sm
      refine k _ _ [] sa (.tup upd_same (OwnA.cons (f := []) (g := []) (.str _) (OwnA.cons (f := []) (g := []) (o1.same sa) .nil (by simp)) (by simp))) (by simp)
    · rename_i hq
      rw [if_neg hq] at k
      refine ⟨.str "BadTown", g3, .ref a, g2, rfl, rfl, dd, _, .str s, rfl, q1, lk2 (by decide +kernel), by show 2 ≤ sizeLine; rw [sizeLine_eq]; omega, fun p hp => ?_⟩
      have sm : Same H1 (upd H1 p (.tup [.str "BadTown", .str s])) := same_upd hp
      have sa : Same H (upd H1 p (.tup [.str "BadTown", .str s])) := Same.trans s1 sm
      refine k _ _ [] sa (.tup upd_same (OwnA.cons (f := []) (g := []) (.str _) (OwnA.cons (f := []) (g := []) (.str s) .nil (by simp)) (by simp))) (by simp)
  · rename_i nm' f1 d1 _ heq
    cases heq
    split at ht
    rotate_left
    · cases ht
    rename_i hh
    obtain ⟨rfl, rfl⟩ := hh
    rw [hX] at hC
    cases hC
    cases ht
    rcases hd with ⟨e, _⟩ | ⟨dd, vs, rfl, q, fl⟩
    · cases e
    cases fl with
    | @cons _ vN _ vs' _ o1 r1 =>
    cases r1
    rw [show PyData.eqv (.str "BadText") (.str "BadTown") = false from by decide +kernel]
    rw [if_neg (by decide)]
    have q1 : H1 dd = some (.xd [("row", vN)]) := s1 dd _ q
    refine ⟨.str "BadText", g3, .str "BadText", g3, ?_⟩
    dsimp only [tC]
    refine rEq_str (by decide +kernel) (by decide +kernel) ⟨_, rfl, ?_⟩
    rw [show PyData.eqv (.str "BadText") (.str "BadText") = true from by decide +kernel]
    try dsimp only
    rw [if_pos rfl]
    refine ⟨.ref a, g2, rfl, rfl, dd, _, vN, rfl, q1, lk1, by show 2 ≤ sizeLine; rw [sizeLine_eq]; omega, fun p hp => ?_⟩
    have sm : Same H1 (upd H1 p (.tup [.str "BadText", vN])) := same_upd hp
    have sa : Same H (upd H1 p (.tup [.str "BadText", vN])) := Same.trans s1 sm
    refine k _ _ [] sa (.tup upd_same (OwnA.cons (f := []) (g := []) (.str _) (OwnA.cons (f := []) (g := []) (o1.same sa) .nil (by simp)) (by simp))) (by simp)
  · cases ht
/-- what exceptions of a base that holds all six classes are asked -/
structure ExcAll (K : PySem.W.Frag) (Cm : Addr) (C : Nat → Addr) : Prop where
  n : ∀ (i : Nat) (nm : Str), KINDS[i]? = some nm → PySem.W.nsIn K mainGlobals nm = some (some (.ref (C i)))
  m : ∀ i, i < 6 → PySem.W.exmOne K (.ref (C i)) (.ref Cm) = some true
  e : ∀ i, i < 6 → ExcC K (C i)
theorem ExcAll.kind {Cm : Addr} {C : Nat → Addr} (A : ExcAll K Cm C) {i : Nat} {nm : Str} {c : Addr} (hi : KINDS[i]? = some nm) (hc : PySem.W.nsIn K mainGlobals nm = some (some (.ref c))) : PySem.W.exmOne K (.ref c) (.ref Cm) = some true ∧ ExcC K c := by
  have e := A.n i nm hi
  rw [hc] at e
  cases e
  have h6 : i < 6 := (List.getElem?_eq_some_iff.mp hi).1
  exact ⟨A.m i h6, A.e i h6⟩
theorem told13_kind {nm : Str} {fs : List (Str × PyData)} {c : PyData} (h : told13 (.exc nm fs) = some c) : ∃ i : Nat, KINDS[i]? = some nm := by
  unfold told13 at h
  split at h
  · rename_i heq; cases heq
  · rename_i heq
    cases heq
    split at h
    · rename_i hh; obtain ⟨rfl, _⟩ := hh; exact ⟨0, rfl⟩
    · cases h
  · rename_i heq
    cases heq
    split at h
    · rename_i hh; obtain ⟨rfl, _⟩ := hh; exact ⟨5, rfl⟩
    · cases h
  · cases h
theorem body_told13 {fx : List PyData → Option Rz} {Cm CT CX : Addr} {C : Nat → Addr} {vs : List V} {Q : VK} {E : XK} {N : List Str} (hN : N.length = 4) (A : ExcAll K Cm C) (hT : PySem.W.nsIn K mainGlobals "BadTown" = some (some (.ref CT))) (hX : PySem.W.nsIn K mainGlobals "BadText" = some (some (.ref CX)))
    (sp : spP K 2 (fun ds => if ds.length = 2 then (fx ds).bind told13 else none) vs H Q E) :
    tRet (tCallS (spX K 2 fx) (WE (wAs K (.ref Cm) 2 (tSuite13 K CT CX) (fun _ _ _ _ => False) { nx := fun _ H' => Q .non H', rt := Q })) (tCons (tVar 0) (tCons (tVar 1) tNil))) { nx := fun _ H' => Q .non H', rt := Q } (L2.start N vs) H := by
  obtain ⟨ds, c, hc, hl, w, k⟩ := sp
  dsimp only at hc
  rw [if_pos hl] at hc
  obtain ⟨r, hr, hc⟩ := Option.bind_eq_some_iff.mp hc
  have wl := w.length
  obtain ⟨v0, v1, rfl⟩ : ∃ v0 v1, vs = [v0, v1] := by
    match vs, wl.trans hl with
    | [a, b], _ => exact ⟨a, b, rfl⟩
  refine ⟨v0, start_get rfl, v1, start_get rfl, ds, r, hr, hl, w, ?_⟩
  cases r with
  | ret c' =>
    cases hc
    exact k
  | exc nm fs =>
    obtain ⟨i, hi⟩ := told13_kind hc
    rintro cls d H' s ⟨Cc, rfl, hC, hd⟩
    obtain ⟨h1, h2⟩ := A.kind hi hC
    refine ⟨true, h1, fun _ a _ => ?_, fun z => by cases z⟩
    have ls : (L2.start N [v0, v1]).length = 4 := by rw [start_len (by rw [hN]; simp)]; exact hN
    refine suite13 hi hT hX h2 hC hd (List.getElem?_set_self (by omega)) (by rw [List.length_set]; exact ls) hc fun v H2 fv s2 o n => k v H2 fv (Same.trans s s2) o fun x hx => ?_
    cases e : H x with
    | none => rfl
    | some u => exact absurd (s x u e) (by rw [n x hx]; simp)
end
end Dl
set_option maxRecDepth 100000
set_option maxHeartbeats 4000000
namespace Ms
open PySem PySem.Spec PyProof.Rows L2 Dl
/-! ### the box of numbers to draw from -/
def numsOf : List PyData → Option (List Int)
  | [] => some []
  | .int i :: r => (numsOf r).bind fun s => some (i :: s)
  | _ => none
theorem numsOf_some : ∀ {ds : List PyData} {ns : List Int}, numsOf ds = some ns → ds = ns.map PyData.int
  | [], ns, h => by cases h; rfl
  | .int i :: r, ns, h => by
    obtain ⟨s, h1, h2⟩ := Option.bind_eq_some_iff.mp h
    cases h2
    rw [numsOf_some h1]
    rfl
  | .none :: _, _, h => by cases h
  | .bool _ :: _, _, h => by cases h
  | .str _ :: _, _, h => by cases h
  | .list _ :: _, _, h => by cases h
  | .tuple _ :: _, _, h => by cases h
  | .dict _ :: _, _, h => by cases h
theorem numsOf_map (ns : List Int) : numsOf (ns.map PyData.int) = some ns := by
  induction ns with
  | nil => rfl
  | cons n r ih => simp [numsOf, ih]
def boxD (ns : List Int) (z : Int) : PyData := .list [.list (ns.map .int), .int z]
/-- a number is drawn -/
def drawn (ns : List Int) (z m : Int) : Int × List Int × Int := match ns with
  | [] => (z * 48271 % 2147483647 / 7 % m, [], z * 48271 % 2147483647)
  | n :: r => (n % m, if n / m = 0 ∨ n / m = -1 then r else (n / m) :: r, z)
def b__law_take (b : PyData) (ds : List PyData) : Option (PyData × PyData) := match b, ds with
  | .list [.list cs, .int z], [.int m] => (numsOf cs).bind fun ns => if 0 < m ∧ m < 1073741824 then some (.int (drawn ns z m).1, boxD (drawn ns z m).2.1 (drawn ns z m).2.2) else none
  | _, _ => none
/-- the numbers stirred -/
def stir (ns : List Int) : Int := ns.foldl (fun s c => (s * 48271 + c * 69621 + 11) % 2147483647) 0
theorem stir_take {ns : List Int} {i : Nat} {c : Int} (h : ns[i]? = some c) : stir (ns.take (i + 1)) = (stir (ns.take i) * 48271 + c * 69621 + 11) % 2147483647 := by
  unfold stir
  rw [List.take_add_one, h]
  simp [List.foldl_append]
def boxOf (ns : List Int) : PyData := boxD ns (stir ns * (if (ns.length : Int) > 2 then 1 else 0))
def m__law_days : MS := (sSeq (sAsg (mOp2 dIx (oVal (mLst (aCons (oVal (mC (.int 1))) (aCons (oVal (mC (.int 3))) (aCons (oVal (mC (.int 9))) aNil))))) (oVal (mCallB 1 b__law_take 0 (aCons (oVal (mC (.int 3))) aNil)))) (bNameW 2)) (sSeq (sAsg (mLst aNil) (bName 3)) (sSeq (sKill [2, 4] (sFor (mRng1 (aCons (oVar 1) aNil)) (bNameW 4) (sKill [4] (sApp 3 (mCall cTuple (aCons (oVal (mLc (mRng1 (aCons (oVar 1) aNil)) (bNameW 5) [5] tTrue (mIf (tBool (mOp2 dEq (oVar 5) (oVar 4))) (mC (.int 0)) (mOp2 dAdd (oVal (mC (.int 1))) (oVal (mCallB 1 b__law_take 0 (aCons (oVar 2) aNil))))))) aNil)))))) (sRet (mCall cTuple (aCons (oVar 3) aNil))))))
def b__law_days := mDefB 6 m__law_days
def m__law_homes : MS := (sSeq (sAsg (mLst (aCons (oVal (mTup (aCons (oVal (mC (.int 0))) (aCons (oVal (mCallB 1 b__law_take 0 (aCons (oVar 1) aNil))) aNil)))) aNil)) (bName 3)) (sSeq (sAsg (mOp2 dIx (oVal (mLst (aCons (oVal (mC (.int 6))) (aCons (oVal (mC (.int 40))) (aCons (oVal (mC (.int 140))) aNil))))) (oVal (mCallB 1 b__law_take 0 (aCons (oVal (mC (.int 3))) aNil)))) (bNameW 4)) (sSeq (sKill [4, 5] (sFor (mRng1 (aCons (oVal (mOp2 dMul (oVal (mCallB 1 b__law_take 0 (aCons (oVar 2) aNil))) (oVal (mCall cInt (aCons (oVal (mOp2 dGt (oVar 1) (oVal (mC (.int 1))))) aNil))))) aNil)) (bNameW 5) (sSeq (sKill [5] (sAsg (mOp2 dMod (oVal (mOp2 dAdd (oVal (mOp2 dAdd (oVal (mOp2 dIx (oVal (mOp2 dIx (oVar 3) (oVal (mOp1 dNeg (oVal (mC (.int 1))))))) (oVal (mC (.int 1))))) (oVal (mC (.int 1))))) (oVal (mCallB 1 b__law_take 0 (aCons (oVal (mOp2 dSub (oVar 1) (oVal (mC (.int 1))))) aNil))))) (oVar 1)) (bNameW 6))) (sKill [6] (sApp 3 (mTup (aCons (oVal (mOp2 dAdd (oVal (mOp2 dAdd (oVal (mOp2 dIx (oVal (mOp2 dIx (oVar 3) (oVal (mOp1 dNeg (oVal (mC (.int 1))))))) (oVal (mC (.int 0))))) (oVal (mC (.int 1))))) (oVal (mCallB 1 b__law_take 0 (aCons (oVar 4) aNil))))) (aCons (oVar 6) aNil)))))))) (sRet (mCall cTuple (aCons (oVar 3) aNil))))))
def b__law_homes := mDefB 7 m__law_homes
def m__law_order : MS := (sSeq (sAsg (mCallB 1 b__law_take 0 (aCons (oVar 2) aNil)) (bNameW 4)) (sSeq (sAsg (mOp2 dIx (oVar 3) (oVar 4)) (bNameW 5)) (sSeq (sKill [5, 6, 7] (sIf (tAndM (tBool (mOp2 dGt (oVal (mCall cLen (aCons (oVar 5) aNil))) (oVal (mC (.int 1))))) (tBool (mOp2 dGt (oVal (mCallB 1 b__law_take 0 (aCons (oVal (mC (.int 3))) aNil))) (oVal (mC (.int 0)))))) (sSeq (sAsg (mOp2 dAdd (oVal (mC (.int 1))) (oVal (mCallB 1 b__law_take 0 (aCons (oVal (mOp2 dSub (oVal (mCall cLen (aCons (oVar 5) aNil))) (oVal (mC (.int 1))))) aNil)))) (bNameW 6)) (sSeq (sAsg (mCall cMax (aCons (oVal (mC (.int 0))) (aCons (oVal (mOp2 dAdd (oVal (mOp2 dIx (oVal (mOp2 dIx (oVar 5) (oVar 6))) (oVal (mC (.int 0))))) (oVal (mOp2 dIx (oVal (mLst (aCons (oVal (mC (.int 0))) (aCons (oVal (mC (.int 0))) (aCons (oVal (mOp2 dSub (oVal (mCallB 1 b__law_take 0 (aCons (oVal (mC (.int 9))) aNil))) (oVal (mC (.int 4))))) aNil))))) (oVal (mCallB 1 b__law_take 0 (aCons (oVal (mC (.int 3))) aNil))))))) aNil))) (bNameW 7)) (sRet (mTup (aCons (oVal (mOp2 dIx (oVal (mOp2 dIx (oVar 5) (oVal (mOp2 dSub (oVar 6) (oVal (mC (.int 1))))))) (oVal (mC (.int 1))))) (aCons (oVar 4) (aCons (oVal (mOp2 dIx (oVal (mOp2 dIx (oVar 5) (oVar 6))) (oVal (mC (.int 1))))) (aCons (oVar 7) (aCons (oVal (mOp2 dAdd (oVal (mOp2 dAdd (oVar 7) (oVal (mC (.int 1))))) (oVal (mCallB 1 b__law_take 0 (aCons (oVal (mOp2 dIx (oVal (mLst (aCons (oVal (mC (.int 9))) (aCons (oVal (mC (.int 60))) (aCons (oVal (mC (.int 900))) aNil))))) (oVal (mCallB 1 b__law_take 0 (aCons (oVal (mC (.int 3))) aNil))))) aNil))))) aNil))))))))) sNil)) (sSeq (sAsg (mCallB 1 b__law_take 0 (aCons (oVar 1) aNil)) (bNameW 8)) (sSeq (sAsg (mOp2 dMod (oVal (mOp2 dAdd (oVal (mOp2 dAdd (oVar 8) (oVal (mC (.int 1))))) (oVal (mCallB 1 b__law_take 0 (aCons (oVal (mOp2 dSub (oVar 1) (oVal (mC (.int 1))))) aNil))))) (oVar 1)) (bNameW 9)) (sSeq (sAsg (mCallB 1 b__law_take 0 (aCons (oVal (mOp2 dIx (oVal (mLst (aCons (oVal (mC (.int 1))) (aCons (oVal (mC (.int 30))) (aCons (oVal (mC (.int 999))) (aCons (oVal (mC (.int 1990))) aNil)))))) (oVal (mCallB 1 b__law_take 0 (aCons (oVal (mC (.int 4))) aNil))))) aNil)) (bNameW 7)) (sSeq (sAsg (mOp2 dAdd (oVal (mC (.int 1))) (oVal (mCallB 1 b__law_take 0 (aCons (oVal (mCall cMin (aCons (oVal (mC (.int 99))) (aCons (oVal (mOp2 dSub (oVal (mC (.int 2000))) (oVar 7))) aNil)))) aNil)))) (bNameW 10)) (sRet (mTup (aCons (oVar 8) (aCons (oVar 4) (aCons (oVar 9) (aCons (oVar 7) (aCons (oVal (mOp2 dIx (oVal (mLst (aCons (oVal (mC (.int 2000))) (aCons (oVal (mOp2 dAdd (oVar 7) (oVar 10))) aNil)))) (oVal (mCallB 1 b__law_take 0 (aCons (oVal (mC (.int 2))) aNil))))) aNil))))))))))))))
def b__law_order := mDefB 11 m__law_order
def m__law_town : MS := (sSeq (sAsg (mOp2 dAdd (oVal (mC (.int 1))) (oVal (mCallB 1 b__law_take 0 (aCons (oVal (mC (.int 6))) aNil)))) (bNameW 1)) (sSeq (sAsg (mCallB 1 b__law_days 0 (aCons (oVar 1) aNil)) (bNameW 2)) (sSeq (sAsg (mOp2 dAdd (oVal (mC (.int 1))) (oVal (mCallB 1 b__law_take 0 (aCons (oVal (mOp2 dIx (oVal (mLst (aCons (oVal (mC (.int 2))) (aCons (oVal (mC (.int 6))) aNil)))) (oVal (mCallB 1 b__law_take 0 (aCons (oVal (mC (.int 2))) aNil))))) aNil)))) (bNameW 3)) (sSeq (sAsg (mCall cTuple (aCons (oVal (mLc (mRng1 (aCons (oVar 3) aNil)) (bNameW 7) [7] tTrue (mCallB 2 b__law_homes 0 (aCons (oVar 1) (aCons (oVal (mC (.int 8))) aNil))))) aNil)) (bNameW 4)) (sSeq (sAsg (mLst aNil) (bName 5)) (sSeq (sKill [1, 3, 6] (sFor (mRng1 (aCons (oVal (mOp2 dMul (oVal (mCallB 1 b__law_take 0 (aCons (oVal (mOp2 dIx (oVal (mLst (aCons (oVal (mC (.int 6))) (aCons (oVal (mC (.int 21))) aNil)))) (oVal (mCallB 1 b__law_take 0 (aCons (oVal (mC (.int 2))) aNil))))) aNil))) (oVal (mCall cInt (aCons (oVal (mOp2 dGt (oVar 1) (oVal (mC (.int 1))))) aNil))))) aNil)) (bNameW 6) (sKill [6] (sApp 5 (mCallB 3 b__law_order 0 (aCons (oVar 1) (aCons (oVar 3) (aCons (oVar 4) aNil)))))))) (sRet (mTup (aCons (oVar 2) (aCons (oVar 4) (aCons (oVal (mCall cTuple (aCons (oVar 5) aNil))) aNil)))))))))))
def b__law_town := mDefB 8 m__law_town
def m__law_row : MS := (sSeq (sAsg (mM1 dSplit (oVar 0) (oVal (mC (.str " ")))) (bNameW 1)) (sSeq (sIf (tOrM (tBool (mOp2 dNe (oVal (mCall cLen (aCons (oVar 1) aNil))) (oVal (mC (.int 6))))) (tBool (mOp2 dNe (oVal (mOp2 dIx (oVar 1) (oVal (mC (.int 0))))) (oVal (mC (.str "order")))))) (sRet (mC .none)) sNil) (sSeq (sFor (mIt (oVal (mSl (oVar 1) (pInt (oVal (mC (.int 1)))) pNo))) (bNameW 2) (sSeq (sIf (tOrM (tBool (mOp2 dEq (oVar 2) (oVal (mC (.str ""))))) (tOrM (tBool (mOp2 dGt (oVal (mCall cLen (aCons (oVar 2) aNil))) (oVal (mC (.int 4))))) (tBool (mOp2 dNe (oVal (mLc (mItS (oVar 2)) (bNameW 3) [3] (tBool (mOp2 dNotInS (oVar 3) (oVal (mC (.str "0123456789"))))) (mCopy 3))) (oVal (mLst aNil)))))) (sRet (mC .none)) sNil) (sIf (tBool (mOp2 dNe (oVal (mCall cStr (aCons (oVal (mCall cIntS (aCons (oVar 2) aNil))) aNil))) (oVar 2))) (sRet (mC .none)) sNil))) (sRet (mCall cTuple (aCons (oVal (mLc (mIt (oVal (mSl (oVar 1) (pInt (oVal (mC (.int 1)))) pNo))) (bNameW 2) [2] tTrue (mCall cIntS (aCons (oVar 2) aNil)))) aNil))))))
def f__law_row := mDef 4 m__law_row
def m__law_due : MS := (sSeq (sAsg (mIf (tBool (mOp2 dNe (oVar 1) (oVal (mC (.str ""))))) (mLc (mIt (oVal (mM1 dSplit (oVar 1) (oVal (mC (.str "\n")))))) (bNameW 10) [10] tTrue (mCall (mFn 1 f__law_row) (aCons (oVar 10) aNil))) (mLst aNil)) (bNameW 2)) (sSeq (sIf (tBool (mOp2 dIn (oVal (mC .none)) (oVar 2))) (sRet (mTup (aCons (oVal (mC (.str "BadText"))) (aCons (oVal (mIdxV (vVar 2) (vC .none))) aNil)))) sNil) (sSeq (sKill [3] (sFor (mRng1 (aCons (oVal (mCall cLen (aCons (oVar 2) aNil))) aNil)) (bNameW 3) (sSeq (sAsg (mOp2 dIx (oVar 2) (oVar 3)) (bTup 5 (bsCons (bNameW 4) (bsCons (bNameW 5) (bsCons (bNameW 6) (bsCons (bNameW 7) (bsCons (bNameW 8) bsNil))))))) (sSeq (sKill [4, 5, 6] (sAsg (mAndV (mOp2 dLt (oVal (mCall cMax (aCons (oVar 4) (aCons (oVar 6) aNil)))) (oVal (mCall cLen (aCons (oVal (mOp2 dIx (oVar 0) (oVal (mC (.int 0))))) aNil)))) (mAndV (mOp2 dLt (oVar 5) (oVal (mCall cLen (aCons (oVal (mOp2 dIx (oVar 0) (oVal (mC (.int 1))))) aNil)))) (mOp2 dNe (oVar 4) (oVar 6)))) (bNameW 9))) (sKill [3, 7, 8, 9] (sIf (tOrM (tBool (mOp2 dGt (oVar 3) (oVal (mC (.int 19))))) (tOrM (tNotM (tBool (mCopy 9))) (tNotM (tBool (mChain (fun i j => decide (i < j)) (fun i j => decide (i ≤ j)) (oVar 7) (oVar 8) (oVal (mC (.int 2000)))))))) (sRet (mTup (aCons (oVal (mC (.str "BadTown"))) (aCons (oVar 3) aNil)))) sNil)))))) (sRet (mTup (aCons (oVal (mOp2 dIx (oVar 0) (oVal (mC (.int 0))))) (aCons (oVal (mOp2 dIx (oVar 0) (oVal (mC (.int 1))))) (aCons (oVal (mCall cTuple (aCons (oVar 2) aNil))) aNil))))))))
def f__law_due := mDef 11 m__law_due
def m__law_spoilt : MS := (sSeq (sAsg (mCallB 1 b__law_take 0 (aCons (oVal (mC (.int 6))) aNil)) (bNameW 2)) (sSeq (sAsg (mCallB 1 b__law_take 0 (aCons (oVal (mOp2 dAdd (oVal (mCall cLen (aCons (oVar 1) aNil))) (oVal (mC (.int 1))))) aNil)) (bNameW 3)) (sSeq (sAsg (mM1 dSplit (oVar 1) (oVal (mC (.str "\n")))) (bNameW 4)) (sSeq (sAsg (mCallB 1 b__law_take 0 (aCons (oVal (mCall cLen (aCons (oVar 4) aNil))) aNil)) (bNameW 5)) (sSeq (sIf (tBool (mOp2 dEq (oVar 2) (oVal (mC (.int 0))))) (sRet (mM1 dJoin (oVal (mC (.str "\n"))) (oVal (mOp2 dAdd (oVal (mSl (oVar 4) pNo (pInt (oVar 5)))) (oVal (mSl (oVar 4) (pInt (oVal (mOp2 dAdd (oVar 5) (oVal (mC (.int 1)))))) pNo)))))) sNil) (sSeq (sIf (tBool (mOp2 dEq (oVar 2) (oVal (mC (.int 1))))) (sRet (mM1 dJoin (oVal (mC (.str "\n"))) (oVal (mOp2 dAdd (oVal (mSl (oVar 4) pNo (pInt (oVal (mOp2 dAdd (oVar 5) (oVal (mC (.int 1)))))))) (oVal (mSl (oVar 4) (pInt (oVar 5)) pNo)))))) sNil) (sSeq (sKill [4, 5, 6, 7] (sIf (tBool (mOp2 dEq (oVar 2) (oVal (mC (.int 2))))) (sSeq (sAsg (mM1 dSplit (oVal (mOp2 dIx (oVar 4) (oVar 5))) (oVal (mC (.str " ")))) (bName 6)) (sSeq (sAsg (mLst (aCons (oVal (mC (.str ""))) (aCons (oVal (mC (.str "order"))) (aCons (oVal (mC (.str "orders"))) (aCons (oVal (mC (.str "0"))) (aCons (oVal (mC (.str "00"))) (aCons (oVal (mC (.str "07"))) (aCons (oVal (mC (.str "-1"))) (aCons (oVal (mC (.str "9999"))) (aCons (oVal (mC (.str "10000"))) (aCons (oVal (mC (.str "6"))) (aCons (oVal (mC (.str "2000"))) (aCons (oVal (mC (.str "2001"))) (aCons (oVal (mC (.str "x"))) (aCons (oVal (mC (.str "1.0"))) aNil))))))))))))))) (bNameW 7)) (sSeq (sStore 6 (mOp2 dIx (oVar 7) (oVal (mCallB 1 b__law_take 0 (aCons (oVal (mC (.int 14))) aNil)))) (oVal (mCallB 1 b__law_take 0 (aCons (oVal (mCall cLen (aCons (oVar 6) aNil))) aNil)))) (sRet (mM1 dJoin (oVal (mC (.str "\n"))) (oVal (mOp2 dAdd (oVal (mOp2 dAdd (oVal (mSl (oVar 4) pNo (pInt (oVar 5)))) (oVal (mLst (aCons (oVal (mM1 dJoin (oVal (mC (.str " "))) (oVar 6))) aNil))))) (oVal (mSl (oVar 4) (pInt (oVal (mOp2 dAdd (oVar 5) (oVal (mC (.int 1)))))) pNo))))))))) sNil)) (sSeq (sAsg (mC (.str "0123456789 \nabcdefghijklmnopqrstuvwxyz!#$&'()*+,-./:;<=>?@ABCDEFGHIJKLMNOPQRSTUVWXYZ[]^_`{|}~")) (bNameW 8)) (sSeq (sKill [8] (sAsg (mOp2 dIx (oVal (mLst (aCons (oVal (mOp2 dIx (oVar 8) (oVal (mCallB 1 b__law_take 0 (aCons (oVal (mCall cLen (aCons (oVar 8) aNil))) aNil))))) (aCons (oVal (mC (.str ""))) (aCons (oVal (mOp2 dIx (oVar 8) (oVal (mCallB 1 b__law_take 0 (aCons (oVal (mC (.int 11))) aNil))))) aNil))))) (oVal (mOp2 dSub (oVar 2) (oVal (mC (.int 3)))))) (bNameW 9))) (sRet (mOp2 dAdd (oVal (mOp2 dAdd (oVal (mSl (oVar 1) pNo (pInt (oVar 3)))) (oVar 9))) (oVal (mSl (oVar 1) (pInt (oVal (mOp2 dAdd (oVar 3) (oVal (mCall cInt (aCons (oVal (mOp2 dGt (oVar 2) (oVal (mC (.int 3))))) aNil)))))) pNo)))))))))))))
def b__law_spoilt := mDefB 10 m__law_spoilt
def m_is_from : MS := (sRet (mChain (fun i j => decide (i ≤ j)) (fun i j => decide (i ≤ j)) (oVar 1) (oVar 0) (oVar 2)))
def f_is_from := mDef 3 m_is_from
def m_is_road : MS := (sSeq (sAsg (mOp2 dIx (oVar 0) (oVar 1)) (bNameW 2)) (sSeq (sIf (tOrM (tBool (mOp2 dNe (oVal (mCall cLen (aCons (oVar 2) aNil))) (oVal (mCall cLen (aCons (oVar 0) aNil))))) (tOrM (tBool (mOp2 dGe (oVar 1) (oVal (mC (.int 6))))) (tBool (mOp2 dNe (oVal (mOp2 dIx (oVar 2) (oVar 1))) (oVal (mC (.int 0))))))) (sRet (mC (.bool false))) sNil) (sRet (mOp2 dEq (oVal (mLc (mRng1 (aCons (oVal (mCall cLen (aCons (oVar 2) aNil))) aNil)) (bNameW 3) [3] (tAndM (tBool (mOp2 dNe (oVar 3) (oVar 1))) (tNotM (tBool (mCall (mFn 3 f_is_from) (aCons (oVal (mOp2 dIx (oVar 2) (oVar 3))) (aCons (oVal (mC (.int 1))) (aCons (oVal (mC (.int 9))) aNil))))))) (mCopy 3))) (oVal (mLst aNil))))))
def f_is_road := mDef 4 m_is_road
def m_are_homes : MS := (sSeq (sIf (tOrM (tNotM (tBool (mChain (fun i j => decide (i ≤ j)) (fun i j => decide (i ≤ j)) (oVal (mC (.int 1))) (oVal (mCall cLen (aCons (oVar 1) aNil))) (oVal (mC (.int 8)))))) (tBool (mOp2 dNe (oVal (mOp2 dIx (oVal (mOp2 dIx (oVar 1) (oVal (mC (.int 0))))) (oVal (mC (.int 0))))) (oVal (mC (.int 0)))))) (sRet (mC (.bool false))) sNil) (sSeq (sAsg (mTup (aCons (oVal (mOp1 dNeg (oVal (mC (.int 1))))) (aCons (oVal (mOp1 dNeg (oVal (mC (.int 1))))) aNil))) (bNameW 2)) (sSeq (sKill [2, 3, 4] (sFor (mIt (oVar 1)) (bTup 2 (bsCons (bNameW 3) (bsCons (bNameW 4) bsNil))) (sSeq (sKill [2] (sIf (tOrM (tNotM (tBool (mCall (mFn 3 f_is_from) (aCons (oVar 3) (aCons (oVal (mOp2 dAdd (oVal (mOp2 dIx (oVar 2) (oVal (mC (.int 0))))) (oVal (mC (.int 1))))) (aCons (oVal (mC (.int 1000))) aNil)))))) (tOrM (tNotM (tBool (mCall (mFn 3 f_is_from) (aCons (oVar 4) (aCons (oVal (mC (.int 0))) (aCons (oVal (mOp2 dSub (oVal (mCall cLen (aCons (oVar 0) aNil))) (oVal (mC (.int 1))))) aNil)))))) (tBool (mOp2 dEq (oVar 4) (oVal (mOp2 dIx (oVar 2) (oVal (mC (.int 1))))))))) (sRet (mC (.bool false))) sNil)) (sKill [3, 4] (sAsg (mTup (aCons (oVar 3) (aCons (oVar 4) aNil))) (bNameW 2)))))) (sRet (mC (.bool true))))))
def f_are_homes := mDef 5 m_are_homes
def m_is_order : MS := (sSeq (sAsg (mCopy 2) (bTup 5 (bsCons (bNameW 3) (bsCons (bNameW 4) (bsCons (bNameW 5) (bsCons (bNameW 6) (bsCons (bNameW 7) bsNil))))))) (sSeq (sKill [3, 5] (sIf (tOrM (tNotM (tBool (mCall (mFn 3 f_is_from) (aCons (oVar 3) (aCons (oVal (mC (.int 0))) (aCons (oVal (mOp2 dSub (oVal (mCall cLen (aCons (oVar 0) aNil))) (oVal (mC (.int 1))))) aNil)))))) (tOrM (tNotM (tBool (mCall (mFn 3 f_is_from) (aCons (oVar 5) (aCons (oVal (mC (.int 0))) (aCons (oVal (mOp2 dSub (oVal (mCall cLen (aCons (oVar 0) aNil))) (oVal (mC (.int 1))))) aNil)))))) (tBool (mOp2 dEq (oVar 3) (oVar 5))))) (sRet (mC (.bool false))) sNil)) (sRet (mAndV (mCall (mFn 3 f_is_from) (aCons (oVar 4) (aCons (oVal (mC (.int 0))) (aCons (oVal (mOp2 dSub (oVar 1) (oVal (mC (.int 1))))) aNil)))) (mChain3 (fun i j => decide (i ≤ j)) (fun i j => decide (i < j)) (fun i j => decide (i ≤ j)) (oVal (mC (.int 0))) (oVar 6) (oVar 7) (oVal (mOp2 dMul (oVal (mC (.int 2))) (oVal (mC (.int 1000))))))))))
def f_is_order := mDef 8 m_is_order
def xm_need_town : MSX := (xSeq (xOf (sAsg (mCopy 0) (bTup 3 (bsCons (bNameW 1) (bsCons (bNameW 2) (bsCons (bNameW 3) bsNil)))))) (xSeq (xKill [4] (xFor (mRng1 (aCons (oVal (mCall cLen (aCons (oVar 1) aNil))) aNil)) (bNameW 4) (xKill [4] (xIf (tNotM (tBool (mCall (mFn 2 f_is_road) (aCons (oVar 1) (aCons (oVar 4) aNil))))) (xRaiseI "BadTown" ["word", "number"] (aCons (oVal (mC (.str "days"))) (aCons (oVar 4) aNil))) (xOf sNil))))) (xSeq (xIf (tBool (mOp2 dEq (oVar 1) (oVal (mTup aNil)))) (xRaiseI "BadTown" ["word", "number"] (aCons (oVal (mC (.str "days"))) (aCons (oVal (mC (.int 0))) aNil))) (xOf sNil)) (xSeq (xKill [5] (xFor (mRng1 (aCons (oVal (mCall cLen (aCons (oVar 2) aNil))) aNil)) (bNameW 5) (xKill [5] (xIf (tOrM (tBool (mOp2 dGe (oVar 5) (oVal (mC (.int 6))))) (tNotM (tBool (mCall (mFn 2 f_are_homes) (aCons (oVar 1) (aCons (oVal (mOp2 dIx (oVar 2) (oVar 5))) aNil)))))) (xRaiseI "BadTown" ["word", "number"] (aCons (oVal (mC (.str "homes"))) (aCons (oVar 5) aNil))) (xOf sNil))))) (xKill [1, 2, 3, 6] (xFor (mRng1 (aCons (oVal (mCall cLen (aCons (oVar 3) aNil))) aNil)) (bNameW 6) (xKill [6] (xIf (tOrM (tBool (mOp2 dGe (oVar 6) (oVal (mC (.int 20))))) (tNotM (tBool (mCall (mFn 3 f_is_order) (aCons (oVar 1) (aCons (oVal (mCall cLen (aCons (oVar 2) aNil))) (aCons (oVal (mOp2 dIx (oVar 3) (oVar 6))) aNil))))))) (xRaiseI "BadTown" ["word", "number"] (aCons (oVal (mC (.str "orders"))) (aCons (oVar 6) aNil))) (xOf sNil)))))))))
def x_need_town := mDefX 7 xm_need_town
def m_written : MS := (sSeq (sDrop (mCall (fnR 1 x_need_town) (aCons (oVar 0) aNil))) (sRet (mM1 dJoin (oVal (mC (.str "\n"))) (oVal (mLc (mIt (oVal (mOp2 dIx (oVar 0) (oVal (mC (.int 2)))))) (bNameW 1) [1] tTrue (mOp2 dAdd (oVal (mC (.str "order "))) (oVal (mM1 dJoin (oVal (mC (.str " "))) (oVal (mLc (mIt (oVar 1)) (bNameW 2) [2] tTrue (mCall cStr (aCons (oVar 2) aNil))))))))))))
def f_written := mDef 3 m_written
def m__law_alike (f__law_alike : List PyData → Option PyData) : MS := (sSeq (sIf (tBool (mOp2 dIsN (oVar 1) (oVal (mC .none)))) (sRet (mOp2 dIsN (oVar 0) (oVal (mC .none)))) sNil) (sSeq (sIf (tBool (mIsi "bool" (oVar 1))) (sRet (mAndV (mIsi "bool" (oVar 0)) (mOp2 dEq (oVar 0) (oVar 1)))) sNil) (sSeq (sIf (tBool (mIsi "int" (oVar 1))) (sRet (mAndV (mIsi "int" (oVar 0)) (mAndV (mNotV (mIsi "bool" (oVar 0))) (mOp2 dEq (oVar 0) (oVar 1))))) sNil) (sSeq (sIf (tBool (mIsi "str" (oVar 1))) (sRet (mAndV (mIsi "str" (oVar 0)) (mOp2 dEq (oVar 0) (oVar 1)))) sNil) (sSeq (sIf (tOrM (tBool (mOp2 dNe (oVal (mIsi "tuple" (oVar 1))) (oVal (mIsi "tuple" (oVar 0))))) (tBool (mOp2 dNe (oVal (mIsi "list" (oVar 1))) (oVal (mIsi "list" (oVar 0)))))) (sRet (mC (.bool false))) sNil) (sSeq (sIf (tBool (mOp2 dNe (oVal (mCall cLen (aCons (oVar 0) aNil))) (oVal (mCall cLen (aCons (oVar 1) aNil))))) (sRet (mC (.bool false))) sNil) (sSeq (sKill [2] (sFor (mRng1 (aCons (oVal (mCall cLen (aCons (oVar 1) aNil))) aNil)) (bNameW 2) (sKill [2] (sIf (tNotM (tBool (mCallV (mFn 2 f__law_alike) (vCons (vIx (vVar 0) (vVar 2)) (vCons (vIx (vVar 1) (vVar 2)) vNil))))) (sRet (mC (.bool false))) sNil)))) (sRet (mC (.bool true))))))))))
def f__law_alike : Nat → List PyData → Option PyData
  | 0 => fun _ => none
  | n + 1 => mDef 3 (m__law_alike (f__law_alike n))
def m_number_of : MS := (sSeq (sIf (tOrM (tNotM (tBool (mChain (fun i j => decide (i ≤ j)) (fun i j => decide (i ≤ j)) (oVal (mC (.int 1))) (oVal (mCall cLen (aCons (oVar 0) aNil))) (oVal (mC (.int 4)))))) (tBool (mOp2 dNe (oVal (mLc (mItS (oVar 0)) (bNameW 1) [1] (tBool (mOp2 dNotInS (oVar 1) (oVal (mC (.str "0123456789"))))) (mCopy 1))) (oVal (mLst aNil))))) (sRet (mC .none)) sNil) (sRet (mIf (tAndM (tBool (mOp2 dEq (oVal (mOp2 dIx (oVar 0) (oVal (mC (.int 0))))) (oVal (mC (.str "0"))))) (tBool (mOp2 dNe (oVar 0) (oVal (mC (.str "0")))))) (mC .none) (mCall cIntS (aCons (oVar 0) aNil)))))
def f_number_of := mDef 2 m_number_of
def xm_with_orders : MSX := (xSeq (xCall 1 x_need_town (aCons (oVal (mTup (aCons (oVal (mOp2 dIx (oVar 0) (oVal (mC (.int 0))))) (aCons (oVal (mOp2 dIx (oVar 0) (oVal (mC (.int 1))))) (aCons (oVal (mTup aNil)) aNil))))) aNil) fun _ e => some (.o (.nx e))) (xSeq (xOf (sAsg (mLst aNil) (bName 2))) (xSeq (xKill [3, 4] (xFor (mEnumL (mIf (tBool (mOp2 dNe (oVar 1) (oVal (mC (.str ""))))) (mM1 dSplit (oVar 1) (oVal (mC (.str "\n")))) (mLst aNil))) (bTup 2 (bsCons (bNameW 3) (bsCons (bNameW 4) bsNil))) (xSeq (xKill [4] (xOf (sAsg (mM1 dSplit (oVar 4) (oVal (mC (.str " ")))) (bNameW 5)))) (xSeq (xOf (sAsg (mLc (mIt (oVal (mSl (oVar 5) (pInt (oVal (mC (.int 1)))) pNo))) (bNameW 8) [8] tTrue (mCall (mFn 1 f_number_of) (aCons (oVar 8) aNil))) (bNameW 6))) (xSeq (xKill [3, 5] (xIf (tOrM (tBool (mOp2 dNe (oVal (mCall cLen (aCons (oVar 5) aNil))) (oVal (mC (.int 6))))) (tOrM (tBool (mOp2 dNe (oVal (mOp2 dIx (oVar 5) (oVal (mC (.int 0))))) (oVal (mC (.str "order"))))) (tBool (mOp2 dIn (oVal (mC .none)) (oVar 6))))) (xRaiseI "BadText" ["row"] (aCons (oVar 3) aNil)) (xOf sNil))) (xKill [6] (xOf (sApp 2 (mCall cTuple (aCons (oVar 6) aNil)))))))))) (xSeq (xKill [2] (xOf (sAsg (mTup (aCons (oVal (mOp2 dIx (oVar 0) (oVal (mC (.int 0))))) (aCons (oVal (mOp2 dIx (oVar 0) (oVal (mC (.int 1))))) (aCons (oVal (mCall cTuple (aCons (oVar 2) aNil))) aNil)))) (bNameW 7)))) (xSeq (xCall 1 x_need_town (aCons (oVar 7) aNil) fun _ e => some (.o (.nx e))) (xOf (sRet (mCopy 7))))))))
def x_with_orders := mDefX 9 xm_with_orders
def f__law_told (ds : List PyData) : Option PyData := if ds.length = 2 then (x_with_orders ds).bind told13 else none
def m_law : MS := (sSeq (sAsg (mCallB 0 b__law_town 1 aNil) (bNameW 2)) (sSeq (sKill [1, 2, 3] (sFor (mRng1 (aCons (oVal (mC (.int 6))) aNil)) (bNameW 3) (sSeq (sKill [3] (sAsg (mLst (aCons (oVal (mC (.str ""))) (aCons (oVal (mC (.str " "))) (aCons (oVal (mC (.str "\n"))) (aCons (oVal (mC (.str "order"))) (aCons (oVal (mC (.str "order 0 0 0 0 1\n"))) (aCons (oVal (mC (.str "order 0 0 1 0  1"))) (aCons (oVal (mC (.str "Order 0 0 1 0 1"))) (aCons (oVal (mC (.str " order 0 0 1 0 1"))) aNil))))))))) (bNameW 4))) (sSeq (sKill [4] (sAsg (mOp2 dIx (oVal (mLst (aCons (oVal (mCall (mFn 1 f_written) (aCons (oVar 2) aNil))) (aCons (oVal (mCall (mFn 1 f_written) (aCons (oVar 2) aNil))) (aCons (oVal (mOp2 dIx (oVar 4) (oVal (mCallB 1 b__law_take 1 (aCons (oVal (mC (.int 8))) aNil))))) aNil))))) (oVal (mCallB 1 b__law_take 1 (aCons (oVal (mC (.int 3))) aNil)))) (bNameW 5))) (sSeq (sKill [6] (sFor (mRng1 (aCons (oVal (mCallB 1 b__law_take 1 (aCons (oVal (mC (.int 4))) aNil))) aNil)) (bNameW 6) (sKill [6] (sAsg (mCallB 1 b__law_spoilt 1 (aCons (oVar 5) aNil)) (bNameW 5))))) (sSeq (sAsg (mCall (mFn 2 f__law_due) (aCons (oVar 2) (aCons (oVar 5) aNil))) (bNameW 7)) (sKill [5, 7] (sIf (tOrM (tNotM (tBool (mCall (mFn 2 (f__law_alike 8)) (aCons (oVal (mCall (mFn 2 f__law_told) (aCons (oVar 2) (aCons (oVar 5) aNil)))) (aCons (oVar 7) aNil))))) (tNotM (tBool (mCall (mFn 2 (f__law_alike 8)) (aCons (oVal (mCall (mFn 2 f__law_told) (aCons (oVar 2) (aCons (oVar 5) aNil)))) (aCons (oVar 7) aNil)))))) (sRet (mC (.bool false))) sNil)))))))) (sRet (mC (.bool true)))))
def f_law (ns : List Int) : Option PyData := (m_law ⟨[.no, .dat (boxOf ns), .no, .no, .no, .no, .no, .no], []⟩).bind outP
def topS (i : Nat) : Stmt := PySem.Challenge.pw_mailslots_k13_texts_refused.main.body.getD i (.Pass ⟨0, 0, 0, 0⟩)
structure Mg (mg : Str → Option Value) : Prop where
  FIGURES : ∃ t, mg "FIGURES" = some (.str "0123456789" t)
  MOST_DAYS : ∃ t, mg "MOST_DAYS" = some (.int 9 t)
  MOST_FIGURES : ∃ t, mg "MOST_FIGURES" = some (.int 4 t)
  MOST_HOMES : ∃ t, mg "MOST_HOMES" = some (.int 8 t)
  MOST_OFFICES : ∃ t, mg "MOST_OFFICES" = some (.int 6 t)
  MOST_ORDERS : ∃ t, mg "MOST_ORDERS" = some (.int 20 t)
  MOST_PEOPLE : ∃ t, mg "MOST_PEOPLE" = some (.int 6 t)
  MOST_TIME : ∃ t, mg "MOST_TIME" = some (.int 1000 t)
  PARTS : ∃ t, mg "PARTS" = some (.int 6 t)
  ValueError : mg "ValueError" = none
  bool : mg "bool" = none
  enumerate : mg "enumerate" = none
  int : mg "int" = none
  isinstance : mg "isinstance" = none
  len : mg "len" = none
  list : mg "list" = none
  max : mg "max" = none
  min : mg "min" = none
  range : mg "range" = none
  str : mg "str" = none
  tuple : mg "tuple" = none
section
variable {P : Program} {w : World} {K : PySem.W.Frag} {mg : Str → Option Value} {base : Heap}
theorem ownA_ints {H : Hp} : ∀ {vs : List V} {ns : List Int} {f : List Addr}, OwnA K H vs (ns.map .int) f → vs = ns.map V.int ∧ f = []
  | _, [], _, h => by cases h; exact ⟨rfl, rfl⟩
  | _, n :: r, _, h => by
    cases h with
    | cons a b =>
      cases a
      obtain ⟨rfl, rfl⟩ := ownA_ints b
      exact ⟨rfl, rfl⟩
theorem ownA_of_ints {H : Hp} : ∀ ns : List Int, OwnA K H (ns.map V.int) (ns.map .int) []
  | [] => .nil
  | n :: r => OwnA.cons (f := []) (g := []) (.int n) (ownA_of_ints r) (by simp)
theorem box_own {H : Hp} {v : V} {ns : List Int} {z : Int} {f : List Addr} (h : Own K H v (boxD ns z) f) : ∃ b c, v = .ref b ∧ f = [b, c] ∧ b ≠ c ∧ H b = some (.lst [.ref c, .int z]) ∧ H c = some (.lst (ns.map V.int)) := by
  unfold boxD at h
  obtain ⟨b, xs, g, rfl, rfl, hb, oA, nb⟩ := h.lstI
  cases oA with
  | cons o1 o2 =>
    cases o2 with
    | cons o2 o3 =>
      cases o3
      cases o2
      obtain ⟨c, ys, g', rfl, rfl, hc, oC, nc⟩ := o1.lstI
      obtain ⟨rfl, rfl⟩ := ownA_ints oC
      exact ⟨b, c, rfl, rfl, fun z => nb (by simp [z]), hb, hc⟩
theorem own_box {H : Hp} {b c : Addr} {ns : List Int} {z : Int} (n : b ≠ c) (hb : H b = some (.lst [.ref c, .int z])) (hc : H c = some (.lst (ns.map V.int))) : Own K H (.ref b) (boxD ns z) [b, c] := by
  refine .lst hb (f := [c]) ?_ (by simpa using n)
  exact OwnA.cons (f := [c]) (g := []) (.lst hc (ownA_of_ints ns) (by simp)) (OwnA.cons (f := []) (g := []) (.int z) .nil (by simp)) (by simp)
abbrev s__law_take : Stmt := topS 29
theorem sc__law_take : FnScope ["_law_box", "_law_many", "_law_number"] ["_law_box", "_law_many"] (defScope s__law_take) := ⟨rfl, rfl, rfl, by decide +kernel, rfl, by decide +kernel, by decide +kernel⟩
theorem dp_ints {H : Hp} {c : Addr} {ns : List Int} (h : H c = some (.lst (ns.map V.int))) : Dp K H (.ref c) (.list (ns.map .int)) := .lst (SqL.of h) (((ownA_of_ints (K := K) (H := H) ns).wk (φ := fun _ => True) fun _ _ => trivial).dp (by simp [PyData.canLay0, Dl.layA]))
theorem shp_ints (ns : List Int) : shp 2 (.list (ns.map .int)) := shp_list fun d hd => by
  obtain ⟨i, _, rfl⟩ := List.mem_map.mp hd
  exact shp_int i
theorem ok__law_take {f : Addr} {fd : FuncData} (F : Fun K "_law_take" "_law_take" s__law_take f fd) : FnOk P w K mg base CX0 1 f fd ["_law_box", "_law_many"] (spB K 1 b__law_take) := by
  refine F.ok sc__law_take spB_len (fun cdv A outer s H vs Q E hr h => ?_)
  refine ⟨_, pss_cons (ps_if (pt_cmpR (r := rEqD K) (op_eqD hr.units) (pe_ix (r := rIx K) ix_seq (pv 0) pe_int (fun _ _ => rfl)) (pe_lst pa_nil) (nomark _))
      (pss_cons (ps_asg (pe_op op_mod (pe_op op_mul (pe_ix (r := rIx K) ix_seq (pv 0) pe_int (fun _ _ => rfl)) pe_int) pe_int) (pg_sub (pv 0) pe_int set_list))
        (pss_one (ps_ret (pe_op op_mod (pe_op op_fdiv (pe_ix (r := rIx K) ix_seq (pv 0) pe_int (fun _ _ => rfl)) pe_int) (pv 1))))) pss_nil)
    (pss_cons (ps_set (i := 2) sc__law_take.nd rfl (.inl rfl) (pe_ix (r := rIx K) ix_seq (pe_ix (r := rIx K) ix_seq (pv 0) pe_int (fun _ _ => rfl)) pe_int (fun _ _ => rfl)))
    (pss_cons (ps_asg (pe_op op_fdiv (pv 2) (pv 1)) (pg_sub (pe_ix (r := rIx K) ix_seq (pv 0) pe_int (fun _ _ => rfl)) pe_int set_list))
    (pss_cons (ps_if (PW.pt (pw_or (pt_cmpR (r := rEqD K) (op_eqD hr.units) (pe_ix (r := rIx K) ix_seq (pe_ix (r := rIx K) ix_seq (pv 0) pe_int (fun _ _ => rfl)) pe_int (fun _ _ => rfl)) pe_int (nomark _))
          (pw_or1 (pt_cmpR (r := rEqD K) (op_eqD hr.units) (pe_ix (r := rIx K) ix_seq (pe_ix (r := rIx K) ix_seq (pv 0) pe_int (fun _ _ => rfl)) pe_int (fun _ _ => rfl)) (pe_un un_neg pe_int) (nomark _)))))
        (pss_one (ps_expr (pe_bm PySem.F.plainAttrs_list PySem.F.slot_list_pop PySem.F.type_list_pop mt_popAt (pe_ix (r := rIx K) ix_seq (pv 0) pe_int (fun _ _ => rfl)) (pa_cons pe_int pa_nil)))) pss_nil)
    (pss_one (ps_ret (pe_op op_mod (pv 2) (pv 1))))))), ?_⟩
  obtain ⟨vb, vs', fb, b, ds, c, b', rfl, hf, hl, ob, wA, k⟩ := h
  unfold b__law_take at hf
  split at hf
  rotate_left
  · cases hf
  rename_i cs z m
  obtain ⟨ns, h1, hf⟩ := Option.bind_eq_some_iff.mp hf
  split at hf
  rotate_left
  · cases hf
  rename_i hm
  cases hf
  cases numsOf_some h1
  obtain ⟨p, q, rfl, rfl, npq, hp, hq⟩ := box_own ob
  cases wA with
  | cons w1 w2 =>
    cases w2
    cases w1.intI
    have i0 : atI [V.ref q, V.int z] 0 = some (.ref q) := rfl
    have i1 : atI [V.ref q, V.int z] 1 = some (.int z) := rfl
    refine ⟨.ref p, rfl, .inl ⟨p, _, 0, .ref q, rfl, rfl, SqL.of hp, i0, Nat.zero_le _, fun e he => ?_⟩⟩
    have hqe : (upd H e (.lst [])) q = some (.lst (ns.map V.int)) := by rw [upd_ne (ne_of_none hq he)]; exact hq
    have hpe : (upd H e (.lst [])) p = some (.lst [.ref q, .int z]) := by rw [upd_ne (ne_of_none hp he)]; exact hp
    refine ⟨.list (ns.map .int), .list [], dp_ints hqe, .lst (SqL.of upd_same) .nil, (shp_ints ns).shaped (by decide), (shp_ints []).shaped (by decide), _, rfl, ?_⟩
    generalize hH0 : upd H e (.lst []) = H0 at hqe hpe
    have sm0 : Same H H0 := by rw [← hH0]; exact same_upd he
    cases ns with
    | nil =>
      rw [show PyData.eqv (.list (List.map PyData.int [])) (.list []) = true by simp [PyData.eqv, PyData.eqvAll]]
      refine iteT ⟨.ref p, rfl, .inl ⟨p, _, 1, .int z, rfl, rfl, SqL.of hpe, i1, z, 48271, rfl, rfl, .inr ⟨by decide, by decide⟩, z * 48271, 2147483647, rfl, rfl, (show (0 : Int) < 2147483647 by decide), .ref p, rfl, p, _, 1, 1, rfl, rfl, hpe, rfl, ?_⟩⟩
      refine ⟨.ref p, rfl, .inl ⟨p, _, 1, .int (z * 48271 % 2147483647), rfl, rfl, SqL.of upd_same, rfl, z * 48271 % 2147483647, 7, rfl, rfl, (show (0 : Int) < 7 ∧ (7 : Int) < 1073741824 by decide), .int m, rfl, z * 48271 % 2147483647 / 7, m, rfl, rfl, hm.1, ?_⟩⟩
      have hq2 : (upd H0 p (.lst [.ref q, .int (z * 48271 % 2147483647)])) q = some (.lst []) := by rw [upd_ne npq.symm]; exact hqe
      refine k _ _ [p, q] [] (own_box npq upd_same hq2) (.int _) (fun a z => by cases z) ⟨fun a u hu ha => ?_, fun a z => z.elim .inl (fun z => by cases z), fun a u hu => ?_⟩
      · have hap : a ≠ p := by
          rintro rfl
          rcases ha with ha | ha
          · exact ha List.mem_cons_self
          · rw [hp] at hu; cases hu; exact ha trivial
        show (upd H0 p _) a = some u
        rw [upd_ne hap]
        exact sm0 a u hu
      · by_cases hap : a = p
        · subst hap; exact ⟨_, upd_same⟩
        · exact ⟨u, by show (upd H0 p _) a = some u; rw [upd_ne hap]; exact sm0 a u hu⟩
    | cons n r =>
      rw [show PyData.eqv (.list (List.map PyData.int (n :: r))) (.list []) = false by simp [PyData.eqv, PyData.eqvAll]]
      have j0 : ∀ (x : Int), atI (V.int x :: r.map V.int) 0 = some (.int x) := fun x => atI_nat (j := 0) rfl
      refine iteF ⟨.ref p, rfl, .inl ⟨p, _, 0, .ref q, rfl, rfl, SqL.of hpe, i0, .inl ⟨q, _, 0, .int n, rfl, rfl, SqL.of hqe, j0 n, ?_⟩⟩⟩
      refine ⟨.int n, rfl, .int m, rfl, n, m, rfl, rfl, hm, .ref p, rfl, .inl ⟨p, _, 0, .ref q, rfl, rfl, SqL.of hpe, i0, q, _, 0, 0, rfl, rfl, hqe, (by simp [ixN] <;> omega), ?_⟩⟩
      have hp1 : ∀ xs, (upd H0 q (.lst xs)) p = some (.lst [.ref q, .int z]) := fun xs => by rw [upd_ne npq]; exact hpe
      -- what is left in the end
      have fin : ∀ xs : List Int, k = k → Step (· ∈ [p, q]) H (fun a => a ∈ [p, q] ∨ a ∈ ([] : List Addr)) (upd H0 q (.lst (xs.map V.int))) := fun xs _ => by
        refine ⟨fun a u hu ha => ?_, fun a z => z.elim .inl (fun z => by cases z), fun a u hu => ?_⟩
        · have haq : a ≠ q := by
            rintro rfl
            rcases ha with ha | ha
            · exact ha (by simp)
            · rw [hq] at hu; cases hu; exact ha trivial
          rw [upd_ne haq]
          exact sm0 a u hu
        · by_cases haq : a = q
          · subst haq; exact ⟨_, upd_same⟩
          · exact ⟨u, by rw [upd_ne haq]; exact sm0 a u hu⟩
      have sx0 : ∀ (x : Int), seqIndex? 0 (V.int x :: r.map V.int).length = some 0 := fun x => (ixN_seq (n := (V.int x :: r.map V.int).length) (i := 0) (j := 0) (by simp [ixN] <;> omega)).1
      have ev : ∀ i j : Int, PyData.eqv (.int i) (.int j) = (i == j) := fun i j => by simp [PyData.eqv]
      have e1 : (List.map V.int (n :: r)).set 0 (V.int (n / m)) = V.int (n / m) :: r.map V.int := rfl
      rw [e1]
      have last : ∀ xs : List Int, (drawn (n :: r) z m).2.1 = xs → (∃ v, [some (V.ref p), some (V.int m), some (V.int n)][2]? = some (some v) ∧ ∃ u, [some (V.ref p), some (V.int m), some (V.int n)][1]? = some (some u) ∧ ∃ i j, v = .int i ∧ u = .int j ∧ 0 < j ∧ Q (.int (i % j)) (upd H0 q (.lst (xs.map V.int)))) := fun xs hx => by
        refine ⟨.int n, rfl, .int m, rfl, n, m, rfl, rfl, hm.1, ?_⟩
        refine k _ _ [p, q] [] ?_ (.int _) (fun a z => by cases z) (fin xs rfl)
        rw [hx]
        exact own_box npq (hp1 _) upd_same
      refine ⟨.ref p, rfl, .inl ⟨p, _, 0, .ref q, rfl, rfl, SqL.of (hp1 _), i0, .inl ⟨q, _, 0, .int (n / m), rfl, rfl, SqL.of upd_same, j0 _, .int (n / m), .int 0, .int _, .int _, (shp_int _).shaped (by decide), (shp_int _).shaped (by decide), _, rfl, ?_⟩⟩⟩
      rw [ev]
      by_cases h0 : n / m = 0
      · rw [show (n / m == 0) = true by simpa using h0]
        refine iteT (iteT ⟨.ref p, rfl, .inl ⟨p, _, 0, .ref q, rfl, rfl, SqL.of (hp1 _), i0, tyV_lst upd_same, q, _, 0, 0, .int (n / m), rfl, rfl, upd_same, by decide, by decide, sx0 _, rfl, ?_⟩⟩)
        rw [upd_upd]
        exact last r (by simp [drawn, h0])
      · rw [show (n / m == 0) = false by simpa using h0]
        refine iteF ⟨.ref p, rfl, .inl ⟨p, _, 0, .ref q, rfl, rfl, SqL.of (hp1 _), i0, .inl ⟨q, _, 0, .int (n / m), rfl, rfl, SqL.of upd_same, j0 _, 1, rfl, .int (n / m), .int (-1), .int _, .int _, (shp_int _).shaped (by decide), (shp_int _).shaped (by decide), _, rfl, ?_⟩⟩⟩
        rw [ev]
        by_cases h2 : n / m = -1
        · rw [show (n / m == -1) = true by simpa using h2]
          refine iteT ⟨.ref p, rfl, .inl ⟨p, _, 0, .ref q, rfl, rfl, SqL.of (hp1 _), i0, tyV_lst upd_same, q, _, 0, 0, .int (n / m), rfl, rfl, upd_same, by decide, by decide, sx0 _, rfl, ?_⟩⟩
          rw [upd_upd]
          exact last r (by simp [drawn, h2])
        · rw [show (n / m == -1) = false by simpa using h2]
          exact iteF (last ((n / m) :: r) (by simp [drawn, h0, h2]))
def spBegun (K : PySem.W.Frag) : Sp := fun vs H Q _ => ∃ (a : Addr) (ns : List Int), vs = [.ref a] ∧ SqL K H a (ns.map V.int) ∧ ns.length ≤ 63 ∧ ∀ (v : V) (H' : Hp) (fv : List Addr), Same H H' → Own K H' v (boxOf ns) fv → (∀ p ∈ fv, H p = none) → Q v H'
abbrev s__law_begun : Stmt := topS 28
theorem sc__law_begun : FnScope ["_law_script", "_law_stirred", "_law_cell"] ["_law_script"] (defScope s__law_begun) := ⟨rfl, rfl, rfl, by decide +kernel, rfl, by decide +kernel, by decide +kernel⟩
theorem ok__law_begun (M : Mg mg) {f : Addr} {fd : FuncData} (F : Fun K "_law_begun" "_law_begun" s__law_begun f fd) : FnOk P w K mg base CX0 1 f fd ["_law_script"] (spBegun K) := by
  refine F.ok sc__law_begun (fun vs H Q E h => ?_) (fun cdv A outer s H vs Q E hr h => ?_)
  · obtain ⟨a, ns, rfl, _⟩ := h
    rfl
  obtain ⟨a, ns, rfl, hS, hlen, k⟩ := h
  refine ⟨_, pss_cons (ps_set (i := 1) sc__law_begun.nd rfl (.inl rfl) pe_int)
    (pss_cons (ps_for PassesOwn.never rfl (pi_list (pv 0)) (pg_name (i := 2) sc__law_begun.nd rfl (.inl rfl))
      (pss_one (ps_set (i := 1) sc__law_begun.nd rfl (.inl rfl) (pe_op op_mod (pe_op op_add (pe_op op_add (pe_op op_mul (pv 1) pe_int) (pe_op op_mul (pv 2) pe_int)) pe_int) pe_int))))
    (pss_one (ps_ret (pe_lst (pa_cons (pe_callTy (r := Dl.rList K) call_list_of (by rfl) M.list (by decide +kernel) (pa_cons (pv 0) pa_nil))
      (pa_cons (pe_op op_mul (pv 1) (pe_callTy call_int1 (by rfl) M.int (by decide +kernel) (pa_cons (pe_cmpR op_gt (pe_callB (r := Dl.rLen K) call_len (by rfl) M.len PySem.boot_len (pa_cons (pv 0) pa_nil)) pe_int (nomark _)) pa_nil))) pa_nil)))))), ?_⟩
  refine ⟨.ref a, rfl, a, rfl, ⟨_, hS⟩, ?_⟩
  refine for_list (xs := ns.map V.int) (fun i σ H' => H' = H ∧ ∃ y, σ = [some (.ref a), some (.int (stir (ns.take i))), y]) ⟨rfl, none, rfl⟩ (fun i σ H' _ h => by rw [h.1]; exact hS) (fun i x σ H' hx h => ?_) (fun σ H' h => ?_)
  · obtain ⟨rfl, y, rfl⟩ := h
    rw [List.getElem?_map] at hx
    cases hc : ns[i]? with
    | none => rw [hc] at hx; cases hx
    | some c =>
      rw [hc] at hx
      cases hx
      refine ⟨_, rfl, _, _, rfl, rfl, .inr ⟨by decide, by decide⟩, _, rfl, _, _, rfl, rfl, .inr ⟨by decide, by decide⟩, _, _, rfl, rfl, _, _, rfl, rfl, _, _, rfl, rfl, (show (0 : Int) < 2147483647 by decide), rfl, some (.int c), ?_⟩
      rw [stir_take hc]
      rfl
  · obtain ⟨rfl, y, rfl⟩ := h
    rw [List.length_map, List.take_length]
    refine ⟨.ref a, rfl, a, _, rfl, .inl hS, fun l hl => ?_⟩
    have s1 : Same H' (upd H' l (.lst (ns.map V.int))) := same_upd hl
    refine ⟨_, rfl, .ref a, rfl, _, _, rfl, .inl ⟨_, s1.seq hS, rfl⟩, _, _, rfl, rfl, .inr ⟨_, rfl, _, _, rfl, rfl, .inr ?_, by rw [sizeLine_eq]; exact (by decide : 2 ≤ 16777216), fun p hp => ?_⟩⟩
    · split <;> exact ⟨by decide, by decide⟩
    · have npl : p ≠ l := fun z => by rw [z, upd_same] at hp; cases hp
      have s2 : Same (upd H' l (.lst (ns.map V.int))) (upd (upd H' l (.lst (ns.map V.int))) p (.lst [.ref l, .int (stir ns * (if decide ((2 : Int) < ((ns.map V.int).length : Nat)) = true then 1 else 0))])) := same_upd hp
      refine k _ _ [p, l] (s1.trans s2) ?_ fun q hq => ?_
      · have ez : stir ns * (if decide ((2 : Int) < ((ns.map V.int).length : Nat)) = true then 1 else 0) = stir ns * (if (ns.length : Int) > 2 then 1 else 0) := by
          rw [List.length_map]
          by_cases h2 : (2 : Int) < (ns.length : Int)
          · rw [if_pos (decide_eq_true h2), if_pos h2]
          · rw [if_neg (by simpa using h2), if_neg h2]
        dsimp only
        rw [ez]
        exact own_box npl upd_same (by rw [upd_ne npl.symm]; exact upd_same)
      · rcases List.mem_cons.mp hq with rfl | hq
        · cases e : H' q with
          | none => rfl
          | some u => rw [s1 q u e] at hp; cases hp
        · rw [List.mem_singleton.mp hq]; exact hl
end

section
variable {P : Program} {w : World} {K : PySem.W.Frag} {mg : Str → Option Value} {base : Heap}
abbrev s_BadTown___init__ : Stmt := inClass (topS 2) 0
theorem sc_BadTown___init__ : FnScope ["self", "word", "number"] ["self", "word", "number"] (defScope s_BadTown___init__) := ⟨rfl, rfl, rfl, by decide +kernel, rfl, by decide +kernel, by decide +kernel⟩
theorem ok_BadTown___init__ {C Cm : Addr} (gM : mg "MailError" = some (.ref Cm)) (R : ClX.CRead K Cm (.type "type")) (vV : PySem.W.findCls K (.ref Cm) (.type "type") "__init__" = some (.val (.builtin "ValueError.__init__"))) (h_word : PySem.W.findIn K (.ref C) "word" = some none) (h_number : PySem.W.findIn K (.ref C) "number" = some none) {f : Addr} {fd : FuncData} (F : Fun K "__init__" "BadTown.__init__" s_BadTown___init__ f fd) : FnOk P w K mg base CX0 1 f fd ["self", "word", "number"] (spXI K C ["word", "number"]) := by
  refine F.ok sc_BadTown___init__ (spXI_len rfl) (fun cdv A outer s H vs Q E hr h => ?_)
  refine ⟨_, (pss_cons (ps_expr (pe_meinit (by rfl) gM R vV (pa_cons (pv 0) (pa_cons pe_str pa_nil)))) (pss_cons (ps_ost (pv 0) (pv 1)) (pss_one (ps_ost (pv 0) (pv 2))))), ?_⟩
  exact body_init2 h_word h_number h (fun a y z e => by subst e; exact ⟨rfl, rfl, rfl⟩)
abbrev s_BadText___init__ : Stmt := inClass (topS 7) 0
theorem sc_BadText___init__ : FnScope ["self", "row"] ["self", "row"] (defScope s_BadText___init__) := ⟨rfl, rfl, rfl, by decide +kernel, rfl, by decide +kernel, by decide +kernel⟩
theorem ok_BadText___init__ {C Cm : Addr} (gM : mg "MailError" = some (.ref Cm)) (R : ClX.CRead K Cm (.type "type")) (vV : PySem.W.findCls K (.ref Cm) (.type "type") "__init__" = some (.val (.builtin "ValueError.__init__"))) (h_row : PySem.W.findIn K (.ref C) "row" = some none) {f : Addr} {fd : FuncData} (F : Fun K "__init__" "BadText.__init__" s_BadText___init__ f fd) : FnOk P w K mg base CX0 1 f fd ["self", "row"] (spXI K C ["row"]) := by
  refine F.ok sc_BadText___init__ (spXI_len rfl) (fun cdv A outer s H vs Q E hr h => ?_)
  refine ⟨_, (pss_cons (ps_expr (pe_meinit (by rfl) gM R vV (pa_cons (pv 0) (pa_cons pe_str pa_nil)))) (pss_one (ps_ost (pv 0) (pv 1)))), ?_⟩
  exact body_init1 h_row h (fun a y e => by subst e; exact ⟨rfl, rfl⟩)
/-! _law_days -/
abbrev s__law_days : Stmt := topS 32
theorem sc__law_days : FnScope ["_law_box", "_law_many", "_law_wide", "_law_found", "_law_office", "_law_goal"] ["_law_box", "_law_many"] (defScope s__law_days) := ⟨rfl, rfl, rfl, by decide +kernel, rfl, by decide +kernel, by decide +kernel⟩
theorem ok__law_days (M : Mg mg)  (C__law_take : Callee P w K mg base "_law_take" 1 ["_law_box", "_law_many"] (spB K 1 b__law_take)) {f : Addr} {fd : FuncData} (F : Fun K "_law_days" "_law_days" s__law_days f fd) : FnOk P w K mg base CX0 2 f fd ["_law_box", "_law_many"] (spB K 1 b__law_days) := by
  refine F.ok sc__law_days spB_len (fun cdv A outer s H vs Q E hr h => ?_)
  refine ⟨_, (pss_cons (ps_set (i := 2) sc__law_days.nd rfl (.inr rfl) (pe_ix (r := rIx K) ix_seq (pe_lst (pa_cons pe_int (pa_cons pe_int (pa_cons pe_int pa_nil)))) (pe_callC C__law_take hr (by decide) (by rfl) (pa_cons (pv 0) (pa_cons pe_int pa_nil))) (fun _ _ => rfl))) (pss_cons (ps_set (i := 3) sc__law_days.nd rfl (.inl rfl) (pe_lst pa_nil)) (pss_cons (ps_for PassesOwn.never rfl (pi_range1 (by rfl) M.range (pa_cons (pv 1) pa_nil)) (pg_name (i := 4) sc__law_days.nd rfl (.inr rfl)) (pss_one (ps_expr (pe_bm PySem.F.plainAttrs_list PySem.F.slot_list_append PySem.F.type_list_append mt_append (pv 3) (pa_cons (pe_callTy (r := Dl.rTuple K) call_tuple_of (by rfl) M.tuple (by decide +kernel) (pa_cons (pe_lc (own := [("_law_goal", 5)]) rfl sc__law_days.nd (pi_range1 (by rfl) M.range (pa_cons (pv 1) pa_nil)) (blkOk_by (own := [("_law_goal", 5)]) (N := ["_law_box", "_law_many", "_law_wide", "_law_found", "_law_office", "_law_goal"]) (sc := defScope s__law_days) (by decide +kernel)) (fun _ _ _ _ _ => (pg_name (i := 5) sc__law_days.nd rfl (.inl rfl))) (fun _ _ _ _ _ => pts_nil) (fun _ _ _ _ _ => (pe_ifExp (pt_cmpR (r := rEqD K) (op_eqD hr.units) (pv 5) (pv 4) (nomark _)) pe_int (pe_op (r := rPlus K) op_plus pe_int (pe_callC C__law_take hr (by decide) (by rfl) (pa_cons (pv 0) (pa_cons (pv 2) pa_nil))))))) pa_nil)) pa_nil))))) (pss_one (ps_ret (pe_callTy (r := Dl.rTuple K) call_tuple_of (by rfl) M.tuple (by decide +kernel) (pa_cons (pv 3) pa_nil))))))), ?_⟩
  exact body_B (m := m__law_days) (rs_seq (rs_asg (re_op2 fr_ix (ro_val (re_lst (ra_cons (ro_val re_int) (ra_cons (ro_val re_int) (ra_cons (ro_val re_int) ra_nil))))) (ro_val (re_callBor (ra_cons (ro_val re_int) ra_nil)))) rg_nameW) (rs_seq (rs_asg (re_lst ra_nil) rg_name) (rs_seq (rs_kill (is := [2, 4]) (rs_for (ri_rng1 (ra_cons ro_var ra_nil)) rg_nameW (rs_kill (is := [4]) (rs_app (re_callB fr_tuple (ra_cons (ro_val (re_lc (vs := [5]) (ri_rng1 (ra_cons ro_var ra_nil)) rg_nameW rt_yes (re_if (rt_test (re_op2 fr_eq ro_var ro_var)) re_int (re_op2 fr_plus (ro_val re_int) (ro_val (re_callBor (ra_cons ro_var ra_nil))))))) ra_nil)))))) (rs_ret (re_callB fr_tuple (ra_cons ro_var ra_nil)))))) (by decide) h
/-! _law_homes -/
abbrev s__law_homes : Stmt := topS 33
theorem sc__law_homes : FnScope ["_law_box", "_law_many", "_law_most", "_law_found", "_law_wide", "_law_turn", "_law_office"] ["_law_box", "_law_many", "_law_most"] (defScope s__law_homes) := ⟨rfl, rfl, rfl, by decide +kernel, rfl, by decide +kernel, by decide +kernel⟩
theorem ok__law_homes (M : Mg mg)  (C__law_take : Callee P w K mg base "_law_take" 1 ["_law_box", "_law_many"] (spB K 1 b__law_take)) {f : Addr} {fd : FuncData} (F : Fun K "_law_homes" "_law_homes" s__law_homes f fd) : FnOk P w K mg base CX0 2 f fd ["_law_box", "_law_many", "_law_most"] (spB K 2 b__law_homes) := by
  refine F.ok sc__law_homes spB_len (fun cdv A outer s H vs Q E hr h => ?_)
  refine ⟨_, (pss_cons (ps_set (i := 3) sc__law_homes.nd rfl (.inl rfl) (pe_lst (pa_cons (pe_tup (pa_cons pe_int (pa_cons (pe_callC C__law_take hr (by decide) (by rfl) (pa_cons (pv 0) (pa_cons (pv 1) pa_nil))) pa_nil))) pa_nil))) (pss_cons (ps_set (i := 4) sc__law_homes.nd rfl (.inl rfl) (pe_ix (r := rIx K) ix_seq (pe_lst (pa_cons pe_int (pa_cons pe_int (pa_cons pe_int pa_nil)))) (pe_callC C__law_take hr (by decide) (by rfl) (pa_cons (pv 0) (pa_cons pe_int pa_nil))) (fun _ _ => rfl))) (pss_cons (ps_for PassesOwn.never rfl (pi_range1 (by rfl) M.range (pa_cons (pe_op op_mul (pe_callC C__law_take hr (by decide) (by rfl) (pa_cons (pv 0) (pa_cons (pv 2) pa_nil))) (pe_callTy call_int1 (by rfl) M.int (by decide +kernel) (pa_cons (pe_cmpR op_gt (pv 1) pe_int (nomark _)) pa_nil))) pa_nil)) (pg_name (i := 5) sc__law_homes.nd rfl (.inl rfl)) (pss_cons (ps_set (i := 6) sc__law_homes.nd rfl (.inl rfl) (pe_op op_mod (pe_op (r := rPlus K) op_plus (pe_op (r := rPlus K) op_plus (pe_ix (r := rIx K) ix_seq (pe_ix (r := rIx K) ix_seq (pv 3) (pe_un un_neg pe_int) (fun _ _ => rfl)) pe_int (fun _ _ => rfl)) pe_int) (pe_callC C__law_take hr (by decide) (by rfl) (pa_cons (pv 0) (pa_cons (pe_op op_sub (pv 1) pe_int) pa_nil)))) (pv 1))) (pss_one (ps_expr (pe_bm PySem.F.plainAttrs_list PySem.F.slot_list_append PySem.F.type_list_append mt_append (pv 3) (pa_cons (pe_tup (pa_cons (pe_op (r := rPlus K) op_plus (pe_op (r := rPlus K) op_plus (pe_ix (r := rIx K) ix_seq (pe_ix (r := rIx K) ix_seq (pv 3) (pe_un un_neg pe_int) (fun _ _ => rfl)) pe_int (fun _ _ => rfl)) pe_int) (pe_callC C__law_take hr (by decide) (by rfl) (pa_cons (pv 0) (pa_cons (pv 4) pa_nil)))) (pa_cons (pv 6) pa_nil))) pa_nil)))))) (pss_one (ps_ret (pe_callTy (r := Dl.rTuple K) call_tuple_of (by rfl) M.tuple (by decide +kernel) (pa_cons (pv 3) pa_nil))))))), ?_⟩
  exact body_B (m := m__law_homes) (rs_seq (rs_asg (re_lst (ra_cons (ro_val (re_tup (ra_cons (ro_val re_int) (ra_cons (ro_val (re_callBor (ra_cons ro_var ra_nil))) ra_nil)))) ra_nil)) rg_name) (rs_seq (rs_asg (re_op2 fr_ix (ro_val (re_lst (ra_cons (ro_val re_int) (ra_cons (ro_val re_int) (ra_cons (ro_val re_int) ra_nil))))) (ro_val (re_callBor (ra_cons (ro_val re_int) ra_nil)))) rg_nameW) (rs_seq (rs_kill (is := [4, 5]) (rs_for (ri_rng1 (ra_cons (ro_val (re_op2 fr_mul (ro_val (re_callBor (ra_cons ro_var ra_nil))) (ro_val (re_callB fr_int1 (ra_cons (ro_val (re_op2 fr_gt ro_var (ro_val re_int))) ra_nil))))) ra_nil)) rg_nameW (rs_seq (rs_kill (is := [5]) (rs_asg (re_op2 fr_mod (ro_val (re_op2 fr_plus (ro_val (re_op2 fr_plus (ro_val (re_op2 fr_ix (ro_val (re_op2 fr_ix ro_var (ro_val (re_op1 fr_neg (ro_val re_int))))) (ro_val re_int))) (ro_val re_int))) (ro_val (re_callBor (ra_cons (ro_val (re_op2 fr_sub ro_var (ro_val re_int))) ra_nil))))) ro_var) rg_nameW)) (rs_kill (is := [6]) (rs_app (re_tup (ra_cons (ro_val (re_op2 fr_plus (ro_val (re_op2 fr_plus (ro_val (re_op2 fr_ix (ro_val (re_op2 fr_ix ro_var (ro_val (re_op1 fr_neg (ro_val re_int))))) (ro_val re_int))) (ro_val re_int))) (ro_val (re_callBor (ra_cons ro_var ra_nil))))) (ra_cons ro_var ra_nil)))))))) (rs_ret (re_callB fr_tuple (ra_cons ro_var ra_nil)))))) (by decide) h
/-! _law_order -/
abbrev s__law_order : Stmt := topS 34
theorem sc__law_order : FnScope ["_law_box", "_law_many", "_law_people", "_law_homes_here", "_law_person", "_law_rows", "_law_k", "_law_begin", "_law_office", "_law_goal", "_law_more"] ["_law_box", "_law_many", "_law_people", "_law_homes_here"] (defScope s__law_order) := ⟨rfl, rfl, rfl, by decide +kernel, rfl, by decide +kernel, by decide +kernel⟩
theorem ok__law_order (M : Mg mg)  (C__law_take : Callee P w K mg base "_law_take" 1 ["_law_box", "_law_many"] (spB K 1 b__law_take)) {f : Addr} {fd : FuncData} (F : Fun K "_law_order" "_law_order" s__law_order f fd) : FnOk P w K mg base CX0 2 f fd ["_law_box", "_law_many", "_law_people", "_law_homes_here"] (spB K 3 b__law_order) := by
  refine F.ok sc__law_order spB_len (fun cdv A outer s H vs Q E hr h => ?_)
  refine ⟨_, (pss_cons (ps_set (i := 4) sc__law_order.nd rfl (.inl rfl) (pe_callC C__law_take hr (by decide) (by rfl) (pa_cons (pv 0) (pa_cons (pv 2) pa_nil)))) (pss_cons (ps_set (i := 5) sc__law_order.nd rfl (.inl rfl) (pe_ix (r := rIx K) ix_seq (pv 3) (pv 4) (fun _ _ => rfl))) (pss_cons (ps_if (PW.pt (pw_and (pt_cmpR op_gt (pe_callB (r := Dl.rLen K) call_len (by rfl) M.len PySem.boot_len (pa_cons (pv 5) pa_nil)) pe_int (nomark _)) (pw_and1 (pt_cmpR op_gt (pe_callC C__law_take hr (by decide) (by rfl) (pa_cons (pv 0) (pa_cons pe_int pa_nil))) pe_int (nomark _))))) (pss_cons (ps_set (i := 6) sc__law_order.nd rfl (.inl rfl) (pe_op (r := rPlus K) op_plus pe_int (pe_callC C__law_take hr (by decide) (by rfl) (pa_cons (pv 0) (pa_cons (pe_op op_sub (pe_callB (r := Dl.rLen K) call_len (by rfl) M.len PySem.boot_len (pa_cons (pv 5) pa_nil)) pe_int) pa_nil))))) (pss_cons (ps_set (i := 7) sc__law_order.nd rfl (.inl rfl) (pe_callB (call_max2 rfl) (by rfl) M.max (by decide +kernel) (pa_cons pe_int (pa_cons (pe_op (r := rPlus K) op_plus (pe_ix (r := rIx K) ix_seq (pe_ix (r := rIx K) ix_seq (pv 5) (pv 6) (fun _ _ => rfl)) pe_int (fun _ _ => rfl)) (pe_ix (r := rIx K) ix_seq (pe_lst (pa_cons pe_int (pa_cons pe_int (pa_cons (pe_op op_sub (pe_callC C__law_take hr (by decide) (by rfl) (pa_cons (pv 0) (pa_cons pe_int pa_nil))) pe_int) pa_nil)))) (pe_callC C__law_take hr (by decide) (by rfl) (pa_cons (pv 0) (pa_cons pe_int pa_nil))) (fun _ _ => rfl))) pa_nil)))) (pss_one (ps_ret (pe_tup (pa_cons (pe_ix (r := rIx K) ix_seq (pe_ix (r := rIx K) ix_seq (pv 5) (pe_op op_sub (pv 6) pe_int) (fun _ _ => rfl)) pe_int (fun _ _ => rfl)) (pa_cons (pv 4) (pa_cons (pe_ix (r := rIx K) ix_seq (pe_ix (r := rIx K) ix_seq (pv 5) (pv 6) (fun _ _ => rfl)) pe_int (fun _ _ => rfl)) (pa_cons (pv 7) (pa_cons (pe_op (r := rPlus K) op_plus (pe_op (r := rPlus K) op_plus (pv 7) pe_int) (pe_callC C__law_take hr (by decide) (by rfl) (pa_cons (pv 0) (pa_cons (pe_ix (r := rIx K) ix_seq (pe_lst (pa_cons pe_int (pa_cons pe_int (pa_cons pe_int pa_nil)))) (pe_callC C__law_take hr (by decide) (by rfl) (pa_cons (pv 0) (pa_cons pe_int pa_nil))) (fun _ _ => rfl)) pa_nil)))) pa_nil)))))))))) pss_nil) (pss_cons (ps_set (i := 8) sc__law_order.nd rfl (.inl rfl) (pe_callC C__law_take hr (by decide) (by rfl) (pa_cons (pv 0) (pa_cons (pv 1) pa_nil)))) (pss_cons (ps_set (i := 9) sc__law_order.nd rfl (.inl rfl) (pe_op op_mod (pe_op (r := rPlus K) op_plus (pe_op (r := rPlus K) op_plus (pv 8) pe_int) (pe_callC C__law_take hr (by decide) (by rfl) (pa_cons (pv 0) (pa_cons (pe_op op_sub (pv 1) pe_int) pa_nil)))) (pv 1))) (pss_cons (ps_set (i := 7) sc__law_order.nd rfl (.inl rfl) (pe_callC C__law_take hr (by decide) (by rfl) (pa_cons (pv 0) (pa_cons (pe_ix (r := rIx K) ix_seq (pe_lst (pa_cons pe_int (pa_cons pe_int (pa_cons pe_int (pa_cons pe_int pa_nil))))) (pe_callC C__law_take hr (by decide) (by rfl) (pa_cons (pv 0) (pa_cons pe_int pa_nil))) (fun _ _ => rfl)) pa_nil)))) (pss_cons (ps_set (i := 10) sc__law_order.nd rfl (.inl rfl) (pe_op (r := rPlus K) op_plus pe_int (pe_callC C__law_take hr (by decide) (by rfl) (pa_cons (pv 0) (pa_cons (pe_callB (call_min2 rfl) (by rfl) M.min (by decide +kernel) (pa_cons pe_int (pa_cons (pe_op op_sub pe_int (pv 7)) pa_nil))) pa_nil))))) (pss_one (ps_ret (pe_tup (pa_cons (pv 8) (pa_cons (pv 4) (pa_cons (pv 9) (pa_cons (pv 7) (pa_cons (pe_ix (r := rIx K) ix_seq (pe_lst (pa_cons pe_int (pa_cons (pe_op (r := rPlus K) op_plus (pv 7) (pv 10)) pa_nil))) (pe_callC C__law_take hr (by decide) (by rfl) (pa_cons (pv 0) (pa_cons pe_int pa_nil))) (fun _ _ => rfl)) pa_nil))))))))))))))), ?_⟩
  exact body_B (m := m__law_order) (rs_seq (rs_asg (re_callBor (ra_cons ro_var ra_nil)) rg_nameW) (rs_seq (rs_asg (re_op2 fr_ix ro_var ro_var) rg_nameW) (rs_seq (rs_kill (is := [5, 6, 7]) (rs_if (rt_and (rt_test (re_op2 fr_gt (ro_val (re_callB fr_len (ra_cons ro_var ra_nil))) (ro_val re_int))) (rt_test (re_op2 fr_gt (ro_val (re_callBor (ra_cons (ro_val re_int) ra_nil))) (ro_val re_int)))) (rs_seq (rs_asg (re_op2 fr_plus (ro_val re_int) (ro_val (re_callBor (ra_cons (ro_val (re_op2 fr_sub (ro_val (re_callB fr_len (ra_cons ro_var ra_nil))) (ro_val re_int))) ra_nil)))) rg_nameW) (rs_seq (rs_asg (re_callB fr_max2 (ra_cons (ro_val re_int) (ra_cons (ro_val (re_op2 fr_plus (ro_val (re_op2 fr_ix (ro_val (re_op2 fr_ix ro_var ro_var)) (ro_val re_int))) (ro_val (re_op2 fr_ix (ro_val (re_lst (ra_cons (ro_val re_int) (ra_cons (ro_val re_int) (ra_cons (ro_val (re_op2 fr_sub (ro_val (re_callBor (ra_cons (ro_val re_int) ra_nil))) (ro_val re_int))) ra_nil))))) (ro_val (re_callBor (ra_cons (ro_val re_int) ra_nil))))))) ra_nil))) rg_nameW) (rs_ret (re_tup (ra_cons (ro_val (re_op2 fr_ix (ro_val (re_op2 fr_ix ro_var (ro_val (re_op2 fr_sub ro_var (ro_val re_int))))) (ro_val re_int))) (ra_cons ro_var (ra_cons (ro_val (re_op2 fr_ix (ro_val (re_op2 fr_ix ro_var ro_var)) (ro_val re_int))) (ra_cons ro_var (ra_cons (ro_val (re_op2 fr_plus (ro_val (re_op2 fr_plus ro_var (ro_val re_int))) (ro_val (re_callBor (ra_cons (ro_val (re_op2 fr_ix (ro_val (re_lst (ra_cons (ro_val re_int) (ra_cons (ro_val re_int) (ra_cons (ro_val re_int) ra_nil))))) (ro_val (re_callBor (ra_cons (ro_val re_int) ra_nil))))) ra_nil))))) ra_nil))))))))) rs_nil)) (rs_seq (rs_asg (re_callBor (ra_cons ro_var ra_nil)) rg_nameW) (rs_seq (rs_asg (re_op2 fr_mod (ro_val (re_op2 fr_plus (ro_val (re_op2 fr_plus ro_var (ro_val re_int))) (ro_val (re_callBor (ra_cons (ro_val (re_op2 fr_sub ro_var (ro_val re_int))) ra_nil))))) ro_var) rg_nameW) (rs_seq (rs_asg (re_callBor (ra_cons (ro_val (re_op2 fr_ix (ro_val (re_lst (ra_cons (ro_val re_int) (ra_cons (ro_val re_int) (ra_cons (ro_val re_int) (ra_cons (ro_val re_int) ra_nil)))))) (ro_val (re_callBor (ra_cons (ro_val re_int) ra_nil))))) ra_nil)) rg_nameW) (rs_seq (rs_asg (re_op2 fr_plus (ro_val re_int) (ro_val (re_callBor (ra_cons (ro_val (re_callB fr_min2 (ra_cons (ro_val re_int) (ra_cons (ro_val (re_op2 fr_sub (ro_val re_int) ro_var)) ra_nil)))) ra_nil)))) rg_nameW) (rs_ret (re_tup (ra_cons ro_var (ra_cons ro_var (ra_cons ro_var (ra_cons ro_var (ra_cons (ro_val (re_op2 fr_ix (ro_val (re_lst (ra_cons (ro_val re_int) (ra_cons (ro_val (re_op2 fr_plus ro_var ro_var)) ra_nil)))) (ro_val (re_callBor (ra_cons (ro_val re_int) ra_nil))))) ra_nil)))))))))))))) (by decide) h
/-! _law_town -/
abbrev s__law_town : Stmt := topS 35
theorem sc__law_town : FnScope ["_law_box", "_law_many", "_law_days_here", "_law_people", "_law_homes_here", "_law_orders", "_law_turn", "_law_person"] ["_law_box"] (defScope s__law_town) := ⟨rfl, rfl, rfl, by decide +kernel, rfl, by decide +kernel, by decide +kernel⟩
theorem ok__law_town (M : Mg mg)  (C__law_days : Callee P w K mg base "_law_days" 2 ["_law_box", "_law_many"] (spB K 1 b__law_days)) (C__law_take : Callee P w K mg base "_law_take" 1 ["_law_box", "_law_many"] (spB K 1 b__law_take)) (C__law_homes : Callee P w K mg base "_law_homes" 2 ["_law_box", "_law_many", "_law_most"] (spB K 2 b__law_homes)) (C__law_order : Callee P w K mg base "_law_order" 2 ["_law_box", "_law_many", "_law_people", "_law_homes_here"] (spB K 3 b__law_order)) {f : Addr} {fd : FuncData} (F : Fun K "_law_town" "_law_town" s__law_town f fd) : FnOk P w K mg base CX0 3 f fd ["_law_box"] (spB K 0 b__law_town) := by
  refine F.ok sc__law_town spB_len (fun cdv A outer s H vs Q E hr h => ?_)
  refine ⟨_, (pss_cons (ps_set (i := 1) sc__law_town.nd rfl (.inr rfl) (pe_op (r := rPlus K) op_plus pe_int (pe_callC C__law_take hr (by decide) (by rfl) (pa_cons (pv 0) (pa_cons pe_int pa_nil))))) (pss_cons (ps_set (i := 2) sc__law_town.nd rfl (.inl rfl) (pe_callC C__law_days hr (by decide) (by rfl) (pa_cons (pv 0) (pa_cons (pv 1) pa_nil)))) (pss_cons (ps_set (i := 3) sc__law_town.nd rfl (.inl rfl) (pe_op (r := rPlus K) op_plus pe_int (pe_callC C__law_take hr (by decide) (by rfl) (pa_cons (pv 0) (pa_cons (pe_ix (r := rIx K) ix_seq (pe_lst (pa_cons pe_int (pa_cons pe_int pa_nil))) (pe_callC C__law_take hr (by decide) (by rfl) (pa_cons (pv 0) (pa_cons pe_int pa_nil))) (fun _ _ => rfl)) pa_nil))))) (pss_cons (ps_set (i := 4) sc__law_town.nd rfl (.inl rfl) (pe_callTy (r := Dl.rTuple K) call_tuple_of (by rfl) M.tuple (by decide +kernel) (pa_cons (pe_lc (own := [("_law_person", 7)]) rfl sc__law_town.nd (pi_range1 (by rfl) M.range (pa_cons (pv 3) pa_nil)) (blkOk_by (own := [("_law_person", 7)]) (N := ["_law_box", "_law_many", "_law_days_here", "_law_people", "_law_homes_here", "_law_orders", "_law_turn", "_law_person"]) (sc := defScope s__law_town) (by decide +kernel)) (fun _ _ _ _ _ => (pg_name (i := 7) sc__law_town.nd rfl (.inl rfl))) (fun _ _ _ _ _ => pts_nil) (fun _ _ _ _ _ => (pe_callC C__law_homes hr (by decide) (by rfl) (pa_cons (pv 0) (pa_cons (pv 1) (pa_cons pe_int pa_nil)))))) pa_nil))) (pss_cons (ps_set (i := 5) sc__law_town.nd rfl (.inl rfl) (pe_lst pa_nil)) (pss_cons (ps_for PassesOwn.never rfl (pi_range1 (by rfl) M.range (pa_cons (pe_op op_mul (pe_callC C__law_take hr (by decide) (by rfl) (pa_cons (pv 0) (pa_cons (pe_ix (r := rIx K) ix_seq (pe_lst (pa_cons pe_int (pa_cons pe_int pa_nil))) (pe_callC C__law_take hr (by decide) (by rfl) (pa_cons (pv 0) (pa_cons pe_int pa_nil))) (fun _ _ => rfl)) pa_nil))) (pe_callTy call_int1 (by rfl) M.int (by decide +kernel) (pa_cons (pe_cmpR op_gt (pv 1) pe_int (nomark _)) pa_nil))) pa_nil)) (pg_name (i := 6) sc__law_town.nd rfl (.inl rfl)) (pss_one (ps_expr (pe_bm PySem.F.plainAttrs_list PySem.F.slot_list_append PySem.F.type_list_append mt_append (pv 5) (pa_cons (pe_callC C__law_order hr (by decide) (by rfl) (pa_cons (pv 0) (pa_cons (pv 1) (pa_cons (pv 3) (pa_cons (pv 4) pa_nil))))) pa_nil))))) (pss_one (ps_ret (pe_tup (pa_cons (pv 2) (pa_cons (pv 4) (pa_cons (pe_callTy (r := Dl.rTuple K) call_tuple_of (by rfl) M.tuple (by decide +kernel) (pa_cons (pv 5) pa_nil)) pa_nil)))))))))))), ?_⟩
  exact body_B (m := m__law_town) (rs_seq (rs_asg (re_op2 fr_plus (ro_val re_int) (ro_val (re_callBor (ra_cons (ro_val re_int) ra_nil)))) rg_nameW) (rs_seq (rs_asg (re_callBor (ra_cons ro_var ra_nil)) rg_nameW) (rs_seq (rs_asg (re_op2 fr_plus (ro_val re_int) (ro_val (re_callBor (ra_cons (ro_val (re_op2 fr_ix (ro_val (re_lst (ra_cons (ro_val re_int) (ra_cons (ro_val re_int) ra_nil)))) (ro_val (re_callBor (ra_cons (ro_val re_int) ra_nil))))) ra_nil)))) rg_nameW) (rs_seq (rs_asg (re_callB fr_tuple (ra_cons (ro_val (re_lc (vs := [7]) (ri_rng1 (ra_cons ro_var ra_nil)) rg_nameW rt_yes (re_callBor (ra_cons ro_var (ra_cons (ro_val re_int) ra_nil))))) ra_nil)) rg_nameW) (rs_seq (rs_asg (re_lst ra_nil) rg_name) (rs_seq (rs_kill (is := [1, 3, 6]) (rs_for (ri_rng1 (ra_cons (ro_val (re_op2 fr_mul (ro_val (re_callBor (ra_cons (ro_val (re_op2 fr_ix (ro_val (re_lst (ra_cons (ro_val re_int) (ra_cons (ro_val re_int) ra_nil)))) (ro_val (re_callBor (ra_cons (ro_val re_int) ra_nil))))) ra_nil))) (ro_val (re_callB fr_int1 (ra_cons (ro_val (re_op2 fr_gt ro_var (ro_val re_int))) ra_nil))))) ra_nil)) rg_nameW (rs_kill (is := [6]) (rs_app (re_callBor (ra_cons ro_var (ra_cons ro_var (ra_cons ro_var ra_nil)))))))) (rs_ret (re_tup (ra_cons ro_var (ra_cons ro_var (ra_cons (ro_val (re_callB fr_tuple (ra_cons ro_var ra_nil))) ra_nil))))))))))) (by decide) h
/-! _law_row -/
abbrev s__law_row : Stmt := topS 38
theorem sc__law_row : FnScope ["_law_row_here", "_law_words", "_law_word", "_law_sign"] ["_law_row_here"] (defScope s__law_row) := ⟨rfl, rfl, rfl, by decide +kernel, rfl, by decide +kernel, by decide +kernel⟩
theorem ok__law_row (M : Mg mg)   {f : Addr} {fd : FuncData} (F : Fun K "_law_row" "_law_row" s__law_row f fd) : FnOk P w K mg base CX0 1 f fd ["_law_row_here"] (spP K 1 f__law_row) := by
  refine F.ok sc__law_row spP_len (fun cdv A outer s H vs Q E hr h => ?_)
  refine ⟨_, (pss_cons (ps_set (i := 1) sc__law_row.nd rfl (.inl rfl) (pe_split (pv 0) pe_str)) (pss_cons (ps_if (PW.pt (pw_or (pt_cmpR (r := rNeD K) (op_neD hr.units) (pe_callB (r := Dl.rLen K) call_len (by rfl) M.len PySem.boot_len (pa_cons (pv 1) pa_nil)) pe_int (nomark _)) (pw_or1 (pt_cmpR (r := rNeD K) (op_neD hr.units) (pe_ix (r := rIx K) ix_seq (pv 1) pe_int (fun _ _ => rfl)) pe_str (nomark _))))) (pss_one (ps_ret pe_non)) pss_nil) (pss_cons (ps_for PassesOwn.never rfl (pi_seqK (K := K) rfl (pe_slice (r := rSl K) sl_seq (pv 1) (po_some pe_int) po_none)) (pg_name (i := 2) sc__law_row.nd rfl (.inl rfl)) (pss_cons (ps_if (PW.pt (pw_or (pt_cmpR (r := rEqD K) (op_eqD hr.units) (pv 2) pe_str (nomark _)) (pw_or (pt_cmpR op_gt (pe_callB (r := Dl.rLen K) call_len (by rfl) M.len PySem.boot_len (pa_cons (pv 2) pa_nil)) pe_int (nomark _)) (pw_or1 (pt_cmpR (r := rNeD K) (op_neD hr.units) (pe_lc (own := [("_law_sign", 3)]) rfl sc__law_row.nd (pi_str (pv 2)) (blkOk_by (own := [("_law_sign", 3)]) (N := ["_law_row_here", "_law_words", "_law_word", "_law_sign"]) (sc := defScope s__law_row) (by decide +kernel)) (fun _ _ _ _ _ => (pg_name (i := 3) sc__law_row.nd rfl (.inl rfl))) (fun _ _ _ _ _ => (pts_one (pt_cmpR op_notIn_sign (pv 3) pe_str (by rfl)))) (fun _ _ _ _ _ => (pv 3))) (pe_lst pa_nil) (nomark _)))))) (pss_one (ps_ret pe_non)) pss_nil) (pss_one (ps_if (pt_cmpR (r := rNeD K) (op_neD hr.units) (pe_callTy call_str_int (by rfl) M.str (by decide +kernel) (pa_cons (pe_callTy call_int_str (by rfl) M.int (by decide +kernel) (pa_cons (pv 2) pa_nil)) pa_nil)) (pv 2) (nomark _)) (pss_one (ps_ret pe_non)) pss_nil)))) (pss_one (ps_ret (pe_callTy (r := Dl.rTuple K) call_tuple_of (by rfl) M.tuple (by decide +kernel) (pa_cons (pe_lc (own := [("_law_word", 2)]) rfl sc__law_row.nd (pi_seqK (K := K) rfl (pe_slice (r := rSl K) sl_seq (pv 1) (po_some pe_int) po_none)) (blkOk_by (own := [("_law_word", 2)]) (N := ["_law_row_here", "_law_words", "_law_word", "_law_sign"]) (sc := defScope s__law_row) (by decide +kernel)) (fun _ _ _ _ _ => (pg_name (i := 2) sc__law_row.nd rfl (.inl rfl))) (fun _ _ _ _ _ => pts_nil) (fun _ _ _ _ _ => (pe_callTy call_int_str (by rfl) M.int (by decide +kernel) (pa_cons (pv 2) pa_nil)))) pa_nil))))))), ?_⟩
  exact body_P (m := m__law_row) (rs_seq (rs_asg (re_m1 fr_split ro_var (ro_val re_str)) rg_nameW) (rs_seq (rs_if (rt_or (rt_test (re_op2 fr_ne (ro_val (re_callB fr_len (ra_cons ro_var ra_nil))) (ro_val re_int))) (rt_test (re_op2 fr_ne (ro_val (re_op2 fr_ix ro_var (ro_val re_int))) (ro_val re_str)))) (rs_ret re_non) rs_nil) (rs_seq (rs_for (ri_seq (ro_val (re_slice ro_var (rp_int (ro_val re_int)) rp_no))) rg_nameW (rs_seq (rs_if (rt_or (rt_test (re_op2 fr_eq ro_var (ro_val re_str))) (rt_or (rt_test (re_op2 fr_gt (ro_val (re_callB fr_len (ra_cons ro_var ra_nil))) (ro_val re_int))) (rt_test (re_op2 fr_ne (ro_val (re_lc (vs := [3]) (ri_str ro_var) rg_nameW (rt_test (re_op2 fr_notInS ro_var (ro_val re_str))) re_copy)) (ro_val (re_lst ra_nil)))))) (rs_ret re_non) rs_nil) (rs_if (rt_test (re_op2 fr_ne (ro_val (re_callB fr_str (ra_cons (ro_val (re_callB fr_intS (ra_cons ro_var ra_nil))) ra_nil))) ro_var)) (rs_ret re_non) rs_nil))) (rs_ret (re_callB fr_tuple (ra_cons (ro_val (re_lc (vs := [2]) (ri_seq (ro_val (re_slice ro_var (rp_int (ro_val re_int)) rp_no))) rg_nameW rt_yes (re_callB fr_intS (ra_cons ro_var ra_nil)))) ra_nil)))))) (by decide) h
/-! _law_due -/
abbrev s__law_due : Stmt := topS 39
theorem sc__law_due : FnScope ["_law_town_here", "_law_text", "_law_rows", "_law_k", "_law_office", "_law_person", "_law_goal", "_law_begin", "_law_end", "_law_good", "_law_row_here"] ["_law_town_here", "_law_text"] (defScope s__law_due) := ⟨rfl, rfl, rfl, by decide +kernel, rfl, by decide +kernel, by decide +kernel⟩
theorem ok__law_due (M : Mg mg)  (C__law_row : Callee P w K mg base "_law_row" 1 ["_law_row_here"] (spP K 1 f__law_row)) {f : Addr} {fd : FuncData} (F : Fun K "_law_due" "_law_due" s__law_due f fd) : FnOk P w K mg base CX0 2 f fd ["_law_town_here", "_law_text"] (spP K 2 f__law_due) := by
  refine F.ok sc__law_due spP_len (fun cdv A outer s H vs Q E hr h => ?_)
  refine ⟨_, (pss_cons (ps_set (i := 2) sc__law_due.nd rfl (.inl rfl) (pe_ifExp (pt_cmpR (r := rNeD K) (op_neD hr.units) (pv 1) pe_str (nomark _)) (pe_lc (own := [("_law_row_here", 10)]) rfl sc__law_due.nd (pi_seqK (K := K) rfl (pe_split (pv 1) pe_str)) (blkOk_by (own := [("_law_row_here", 10)]) (N := ["_law_town_here", "_law_text", "_law_rows", "_law_k", "_law_office", "_law_person", "_law_goal", "_law_begin", "_law_end", "_law_good", "_law_row_here"]) (sc := defScope s__law_due) (by decide +kernel)) (fun _ _ _ _ _ => (pg_name (i := 10) sc__law_due.nd rfl (.inl rfl))) (fun _ _ _ _ _ => pts_nil) (fun _ _ _ _ _ => (pe_callC C__law_row hr (by decide) (by rfl) (pa_cons (pv 10) pa_nil)))) (pe_lst pa_nil))) (pss_cons (ps_if (pt_cmpR (r := rInD K) (op_inD (hu65 hr)) pe_non (pv 2) (by rfl)) (pss_one (ps_ret (pe_tup (pa_cons pe_str (pa_cons (pe_bm (r := rIndexD K) PySem.F.plainAttrs_list PySem.F.slot_list_index PySem.F.type_list_index (mt_indexD (hu65 hr)) (pv 2) (pa_cons pe_non pa_nil)) pa_nil))))) pss_nil) (pss_cons (ps_for PassesOwn.never rfl (pi_range1 (by rfl) M.range (pa_cons (pe_callB (r := Dl.rLen K) call_len (by rfl) M.len PySem.boot_len (pa_cons (pv 2) pa_nil)) pa_nil)) (pg_name (i := 3) sc__law_due.nd rfl (.inl rfl)) (pss_cons (ps_asg (pe_ix (r := rIx K) ix_seq (pv 2) (pv 3) (fun _ _ => rfl)) (pg_tupK (K := K) (n := 5) rfl rfl (pgs_cons (pg_name (i := 4) sc__law_due.nd rfl (.inl rfl)) (pgs_cons (pg_name (i := 5) sc__law_due.nd rfl (.inl rfl)) (pgs_cons (pg_name (i := 6) sc__law_due.nd rfl (.inl rfl)) (pgs_cons (pg_name (i := 7) sc__law_due.nd rfl (.inl rfl)) (pgs_cons (pg_name (i := 8) sc__law_due.nd rfl (.inl rfl)) pgs_nil))))))) (pss_cons (ps_set (i := 9) sc__law_due.nd rfl (.inl rfl) (pe_and (pe_cmpR op_lt (pe_callB (call_max2 rfl) (by rfl) M.max (by decide +kernel) (pa_cons (pv 4) (pa_cons (pv 6) pa_nil))) (pe_callB (r := Dl.rLen K) call_len (by rfl) M.len PySem.boot_len (pa_cons (pe_ix (r := rIx K) ix_seq (pv 0) pe_int (fun _ _ => rfl)) pa_nil)) (nomark _)) (pe_and (pe_cmpR op_lt (pv 5) (pe_callB (r := Dl.rLen K) call_len (by rfl) M.len PySem.boot_len (pa_cons (pe_ix (r := rIx K) ix_seq (pv 0) pe_int (fun _ _ => rfl)) pa_nil)) (nomark _)) (pe_one (pe_cmpR (r := rNeD K) (op_neD hr.units) (pv 4) (pv 6) (nomark _)))))) (pss_one (ps_if (PW.pt (pw_or (pt_cmpR op_gt (pv 3) pe_int (nomark _)) (pw_or (pt_not (pt_val (pv 9))) (pw_or1 (pt_not (pt_chain op_lt op_le (pv 7) (pv 8) pe_int)))))) (pss_one (ps_ret (pe_tup (pa_cons pe_str (pa_cons (pv 3) pa_nil))))) pss_nil))))) (pss_one (ps_ret (pe_tup (pa_cons (pe_ix (r := rIx K) ix_seq (pv 0) pe_int (fun _ _ => rfl)) (pa_cons (pe_ix (r := rIx K) ix_seq (pv 0) pe_int (fun _ _ => rfl)) (pa_cons (pe_callTy (r := Dl.rTuple K) call_tuple_of (by rfl) M.tuple (by decide +kernel) (pa_cons (pv 2) pa_nil)) pa_nil))))))))), ?_⟩
  exact body_P (m := m__law_due) (rs_seq (rs_asg (re_if (rt_test (re_op2 fr_ne ro_var (ro_val re_str))) (re_lc (vs := [10]) (ri_seq (ro_val (re_m1 fr_split ro_var (ro_val re_str)))) rg_nameW rt_yes (re_call (ra_cons ro_var ra_nil))) (re_lst ra_nil)) rg_nameW) (rs_seq (rs_if (rt_test (re_op2 fr_in (ro_val re_non) ro_var)) (rs_ret (re_tup (ra_cons (ro_val re_str) (ra_cons (ro_val (re_idxV rv_var rv_non)) ra_nil)))) rs_nil) (rs_seq (rs_kill (is := [3]) (rs_for (ri_rng1 (ra_cons (ro_val (re_callB fr_len (ra_cons ro_var ra_nil))) ra_nil)) rg_nameW (rs_seq (rs_asg (re_op2 fr_ix ro_var ro_var) (rg_tup (rgs_cons rg_nameW (rgs_cons rg_nameW (rgs_cons rg_nameW (rgs_cons rg_nameW (rgs_cons rg_nameW rgs_nil))))))) (rs_seq (rs_kill (is := [4, 5, 6]) (rs_asg (re_andV (re_op2 fr_lt (ro_val (re_callB fr_max2 (ra_cons ro_var (ra_cons ro_var ra_nil)))) (ro_val (re_callB fr_len (ra_cons (ro_val (re_op2 fr_ix ro_var (ro_val re_int))) ra_nil)))) (re_andV (re_op2 fr_lt ro_var (ro_val (re_callB fr_len (ra_cons (ro_val (re_op2 fr_ix ro_var (ro_val re_int))) ra_nil)))) (re_op2 fr_ne ro_var ro_var))) rg_nameW)) (rs_kill (is := [3, 7, 8, 9]) (rs_if (rt_or (rt_test (re_op2 fr_gt ro_var (ro_val re_int))) (rt_or (rt_not (rt_tB re_copy)) (rt_not (rt_test (re_chain ro_var ro_var (ro_val re_int)))))) (rs_ret (re_tup (ra_cons (ro_val re_str) (ra_cons ro_var ra_nil)))) rs_nil)))))) (rs_ret (re_tup (ra_cons (ro_val (re_op2 fr_ix ro_var (ro_val re_int))) (ra_cons (ro_val (re_op2 fr_ix ro_var (ro_val re_int))) (ra_cons (ro_val (re_callB fr_tuple (ra_cons ro_var ra_nil))) ra_nil)))))))) (by decide) h
/-! _law_spoilt -/
abbrev s__law_spoilt : Stmt := topS 37
theorem sc__law_spoilt : FnScope ["_law_box", "_law_text", "_law_deed", "_law_place", "_law_rows", "_law_k", "_law_words", "_law_odd", "_law_signs", "_law_sign"] ["_law_box", "_law_text"] (defScope s__law_spoilt) := ⟨rfl, rfl, rfl, by decide +kernel, rfl, by decide +kernel, by decide +kernel⟩
theorem ok__law_spoilt (M : Mg mg)  (C__law_take : Callee P w K mg base "_law_take" 1 ["_law_box", "_law_many"] (spB K 1 b__law_take)) {f : Addr} {fd : FuncData} (F : Fun K "_law_spoilt" "_law_spoilt" s__law_spoilt f fd) : FnOk P w K mg base CX0 2 f fd ["_law_box", "_law_text"] (spB K 1 b__law_spoilt) := by
  refine F.ok sc__law_spoilt spB_len (fun cdv A outer s H vs Q E hr h => ?_)
  refine ⟨_, (pss_cons (ps_set (i := 2) sc__law_spoilt.nd rfl (.inl rfl) (pe_callC C__law_take hr (by decide) (by rfl) (pa_cons (pv 0) (pa_cons pe_int pa_nil)))) (pss_cons (ps_set (i := 3) sc__law_spoilt.nd rfl (.inl rfl) (pe_callC C__law_take hr (by decide) (by rfl) (pa_cons (pv 0) (pa_cons (pe_op (r := rPlus K) op_plus (pe_callB (r := Dl.rLen K) call_len (by rfl) M.len PySem.boot_len (pa_cons (pv 1) pa_nil)) pe_int) pa_nil)))) (pss_cons (ps_set (i := 4) sc__law_spoilt.nd rfl (.inl rfl) (pe_split (pv 1) pe_str)) (pss_cons (ps_set (i := 5) sc__law_spoilt.nd rfl (.inl rfl) (pe_callC C__law_take hr (by decide) (by rfl) (pa_cons (pv 0) (pa_cons (pe_callB (r := Dl.rLen K) call_len (by rfl) M.len PySem.boot_len (pa_cons (pv 4) pa_nil)) pa_nil)))) (pss_cons (ps_if (pt_cmpR (r := rEqD K) (op_eqD hr.units) (pv 2) pe_int (nomark _)) (pss_one (ps_ret (pe_joinK (K := K) rfl pe_str (pe_op (r := rPlus K) op_plus (pe_slice (r := rSl K) sl_seq (pv 4) po_none (po_some (pv 5))) (pe_slice (r := rSl K) sl_seq (pv 4) (po_some (pe_op (r := rPlus K) op_plus (pv 5) pe_int)) po_none))))) pss_nil) (pss_cons (ps_if (pt_cmpR (r := rEqD K) (op_eqD hr.units) (pv 2) pe_int (nomark _)) (pss_one (ps_ret (pe_joinK (K := K) rfl pe_str (pe_op (r := rPlus K) op_plus (pe_slice (r := rSl K) sl_seq (pv 4) po_none (po_some (pe_op (r := rPlus K) op_plus (pv 5) pe_int))) (pe_slice (r := rSl K) sl_seq (pv 4) (po_some (pv 5)) po_none))))) pss_nil) (pss_cons (ps_if (pt_cmpR (r := rEqD K) (op_eqD hr.units) (pv 2) pe_int (nomark _)) (pss_cons (ps_set (i := 6) sc__law_spoilt.nd rfl (.inl rfl) (pe_split (pe_ix (r := rIx K) ix_seq (pv 4) (pv 5) (fun _ _ => rfl)) pe_str)) (pss_cons (ps_set (i := 7) sc__law_spoilt.nd rfl (.inl rfl) (pe_lst (pa_cons pe_str (pa_cons pe_str (pa_cons pe_str (pa_cons pe_str (pa_cons pe_str (pa_cons pe_str (pa_cons pe_str (pa_cons pe_str (pa_cons pe_str (pa_cons pe_str (pa_cons pe_str (pa_cons pe_str (pa_cons pe_str (pa_cons pe_str pa_nil)))))))))))))))) (pss_cons (ps_asg (pe_ix (r := rIx K) ix_seq (pv 7) (pe_callC C__law_take hr (by decide) (by rfl) (pa_cons (pv 0) (pa_cons pe_int pa_nil))) (fun _ _ => rfl)) (pg_sub (pv 6) (pe_callC C__law_take hr (by decide) (by rfl) (pa_cons (pv 0) (pa_cons (pe_callB (r := Dl.rLen K) call_len (by rfl) M.len PySem.boot_len (pa_cons (pv 6) pa_nil)) pa_nil))) set_list)) (pss_one (ps_ret (pe_joinK (K := K) rfl pe_str (pe_op (r := rPlus K) op_plus (pe_op (r := rPlus K) op_plus (pe_slice (r := rSl K) sl_seq (pv 4) po_none (po_some (pv 5))) (pe_lst (pa_cons (pe_joinK (K := K) rfl pe_str (pv 6)) pa_nil))) (pe_slice (r := rSl K) sl_seq (pv 4) (po_some (pe_op (r := rPlus K) op_plus (pv 5) pe_int)) po_none)))))))) pss_nil) (pss_cons (ps_set (i := 8) sc__law_spoilt.nd rfl (.inl rfl) pe_str) (pss_cons (ps_set (i := 9) sc__law_spoilt.nd rfl (.inl rfl) (pe_ix (r := rIx K) ix_seq (pe_lst (pa_cons (pe_ix (r := rIx K) ix_seq (pv 8) (pe_callC C__law_take hr (by decide) (by rfl) (pa_cons (pv 0) (pa_cons (pe_callB (r := Dl.rLen K) call_len (by rfl) M.len PySem.boot_len (pa_cons (pv 8) pa_nil)) pa_nil))) (fun _ _ => rfl)) (pa_cons pe_str (pa_cons (pe_ix (r := rIx K) ix_seq (pv 8) (pe_callC C__law_take hr (by decide) (by rfl) (pa_cons (pv 0) (pa_cons pe_int pa_nil))) (fun _ _ => rfl)) pa_nil)))) (pe_op op_sub (pv 2) pe_int) (fun _ _ => rfl))) (pss_one (ps_ret (pe_op (r := rPlus K) op_plus (pe_op (r := rPlus K) op_plus (pe_slice (r := rSl K) sl_seq (pv 1) po_none (po_some (pv 3))) (pv 9)) (pe_slice (r := rSl K) sl_seq (pv 1) (po_some (pe_op (r := rPlus K) op_plus (pv 3) (pe_callTy call_int1 (by rfl) M.int (by decide +kernel) (pa_cons (pe_cmpR op_gt (pv 2) pe_int (nomark _)) pa_nil)))) po_none))))))))))))), ?_⟩
  exact body_B (m := m__law_spoilt) (rs_seq (rs_asg (re_callBor (ra_cons (ro_val re_int) ra_nil)) rg_nameW) (rs_seq (rs_asg (re_callBor (ra_cons (ro_val (re_op2 fr_plus (ro_val (re_callB fr_len (ra_cons ro_var ra_nil))) (ro_val re_int))) ra_nil)) rg_nameW) (rs_seq (rs_asg (re_m1 fr_split ro_var (ro_val re_str)) rg_nameW) (rs_seq (rs_asg (re_callBor (ra_cons (ro_val (re_callB fr_len (ra_cons ro_var ra_nil))) ra_nil)) rg_nameW) (rs_seq (rs_if (rt_test (re_op2 fr_eq ro_var (ro_val re_int))) (rs_ret (re_m1 fr_join (ro_val re_str) (ro_val (re_op2 fr_plus (ro_val (re_slice ro_var rp_no (rp_int ro_var))) (ro_val (re_slice ro_var (rp_int (ro_val (re_op2 fr_plus ro_var (ro_val re_int)))) rp_no)))))) rs_nil) (rs_seq (rs_if (rt_test (re_op2 fr_eq ro_var (ro_val re_int))) (rs_ret (re_m1 fr_join (ro_val re_str) (ro_val (re_op2 fr_plus (ro_val (re_slice ro_var rp_no (rp_int (ro_val (re_op2 fr_plus ro_var (ro_val re_int)))))) (ro_val (re_slice ro_var (rp_int ro_var) rp_no)))))) rs_nil) (rs_seq (rs_kill (is := [4, 5, 6, 7]) (rs_if (rt_test (re_op2 fr_eq ro_var (ro_val re_int))) (rs_seq (rs_asg (re_m1 fr_split (ro_val (re_op2 fr_ix ro_var ro_var)) (ro_val re_str)) rg_name) (rs_seq (rs_asg (re_lst (ra_cons (ro_val re_str) (ra_cons (ro_val re_str) (ra_cons (ro_val re_str) (ra_cons (ro_val re_str) (ra_cons (ro_val re_str) (ra_cons (ro_val re_str) (ra_cons (ro_val re_str) (ra_cons (ro_val re_str) (ra_cons (ro_val re_str) (ra_cons (ro_val re_str) (ra_cons (ro_val re_str) (ra_cons (ro_val re_str) (ra_cons (ro_val re_str) (ra_cons (ro_val re_str) ra_nil))))))))))))))) rg_nameW) (rs_seq (rs_store (re_op2 fr_ix ro_var (ro_val (re_callBor (ra_cons (ro_val re_int) ra_nil)))) (ro_val (re_callBor (ra_cons (ro_val (re_callB fr_len (ra_cons ro_var ra_nil))) ra_nil)))) (rs_ret (re_m1 fr_join (ro_val re_str) (ro_val (re_op2 fr_plus (ro_val (re_op2 fr_plus (ro_val (re_slice ro_var rp_no (rp_int ro_var))) (ro_val (re_lst (ra_cons (ro_val (re_m1 fr_join (ro_val re_str) ro_var)) ra_nil))))) (ro_val (re_slice ro_var (rp_int (ro_val (re_op2 fr_plus ro_var (ro_val re_int)))) rp_no))))))))) rs_nil)) (rs_seq (rs_asg re_str rg_nameW) (rs_seq (rs_kill (is := [8]) (rs_asg (re_op2 fr_ix (ro_val (re_lst (ra_cons (ro_val (re_op2 fr_ix ro_var (ro_val (re_callBor (ra_cons (ro_val (re_callB fr_len (ra_cons ro_var ra_nil))) ra_nil))))) (ra_cons (ro_val re_str) (ra_cons (ro_val (re_op2 fr_ix ro_var (ro_val (re_callBor (ra_cons (ro_val re_int) ra_nil))))) ra_nil))))) (ro_val (re_op2 fr_sub ro_var (ro_val re_int)))) rg_nameW)) (rs_ret (re_op2 fr_plus (ro_val (re_op2 fr_plus (ro_val (re_slice ro_var rp_no (rp_int ro_var))) ro_var)) (ro_val (re_slice ro_var (rp_int (ro_val (re_op2 fr_plus ro_var (ro_val (re_callB fr_int1 (ra_cons (ro_val (re_op2 fr_gt ro_var (ro_val re_int))) ra_nil)))))) rp_no))))))))))))) (by decide) h
/-! is_from -/
abbrev s_is_from : Stmt := topS 15
theorem sc_is_from : FnScope ["number", "least", "most"] ["number", "least", "most"] (defScope s_is_from) := ⟨rfl, rfl, rfl, by decide +kernel, rfl, by decide +kernel, by decide +kernel⟩
theorem ok_is_from (M : Mg mg)   {f : Addr} {fd : FuncData} (F : Fun K "is_from" "is_from" s_is_from f fd) : FnOk P w K mg base CX0 1 f fd ["number", "least", "most"] (spP K 3 f_is_from) := by
  refine F.ok sc_is_from spP_len (fun cdv A outer s H vs Q E hr h => ?_)
  refine ⟨_, (pss_one (ps_ret (pe_chain op_le op_le (pv 1) (pv 0) (pv 2)))), ?_⟩
  exact body_P (m := m_is_from) (rs_ret (re_chain ro_var ro_var ro_var)) (by decide) h
/-! is_road -/
abbrev s_is_road : Stmt := topS 16
theorem sc_is_road : FnScope ["days", "office", "row", "goal"] ["days", "office"] (defScope s_is_road) := ⟨rfl, rfl, rfl, by decide +kernel, rfl, by decide +kernel, by decide +kernel⟩
theorem ok_is_road (M : Mg mg)  (C_is_from : Callee P w K mg base "is_from" 1 ["number", "least", "most"] (spP K 3 f_is_from)) {f : Addr} {fd : FuncData} (F : Fun K "is_road" "is_road" s_is_road f fd) : FnOk P w K mg base CX0 2 f fd ["days", "office"] (spP K 2 f_is_road) := by
  refine F.ok sc_is_road spP_len (fun cdv A outer s H vs Q E hr h => ?_)
  refine ⟨_, (pss_cons (ps_set (i := 2) sc_is_road.nd rfl (.inr rfl) (pe_ix (r := rIx K) ix_seq (pv 0) (pv 1) (fun _ _ => rfl))) (pss_cons (ps_if (PW.pt (pw_or (pt_cmpR (r := rNeD K) (op_neD hr.units) (pe_callB (r := Dl.rLen K) call_len (by rfl) M.len PySem.boot_len (pa_cons (pv 2) pa_nil)) (pe_callB (r := Dl.rLen K) call_len (by rfl) M.len PySem.boot_len (pa_cons (pv 0) pa_nil)) (nomark _)) (pw_or (pt_cmpR op_ge (pv 1) (pe_globI M.MOST_OFFICES (by rfl)) (nomark _)) (pw_or1 (pt_cmpR (r := rNeD K) (op_neD hr.units) (pe_ix (r := rIx K) ix_seq (pv 2) (pv 1) (fun _ _ => rfl)) pe_int (nomark _)))))) (pss_one (ps_ret pe_bl)) pss_nil) (pss_one (ps_ret (pe_cmpR (r := rEqD K) (op_eqD hr.units) (pe_lc (own := [("goal", 3)]) rfl sc_is_road.nd (pi_range1 (by rfl) M.range (pa_cons (pe_callB (r := Dl.rLen K) call_len (by rfl) M.len PySem.boot_len (pa_cons (pv 2) pa_nil)) pa_nil)) (blkOk_by (own := [("goal", 3)]) (N := ["days", "office", "row", "goal"]) (sc := defScope s_is_road) (by decide +kernel)) (fun _ _ _ _ _ => (pg_name (i := 3) sc_is_road.nd rfl (.inl rfl))) (fun _ _ _ _ _ => (pts_one (PW.pt (pw_and (pt_cmpR (r := rNeD K) (op_neD hr.units) (pv 3) (pv 1) (nomark _)) (pw_and1 (pt_not (pt_val (pe_callC C_is_from hr (by decide) (by rfl) (pa_cons (pe_ix (r := rIx K) ix_seq (pv 2) (pv 3) (fun _ _ => rfl)) (pa_cons pe_int (pa_cons (pe_globI M.MOST_DAYS (by rfl)) pa_nil))))))))))) (fun _ _ _ _ _ => (pv 3))) (pe_lst pa_nil) (nomark _)))))), ?_⟩
  exact body_P (m := m_is_road) (rs_seq (rs_asg (re_op2 fr_ix ro_var ro_var) rg_nameW) (rs_seq (rs_if (rt_or (rt_test (re_op2 fr_ne (ro_val (re_callB fr_len (ra_cons ro_var ra_nil))) (ro_val (re_callB fr_len (ra_cons ro_var ra_nil))))) (rt_or (rt_test (re_op2 fr_ge ro_var (ro_val re_int))) (rt_test (re_op2 fr_ne (ro_val (re_op2 fr_ix ro_var ro_var)) (ro_val re_int))))) (rs_ret re_bl) rs_nil) (rs_ret (re_op2 fr_eq (ro_val (re_lc (vs := [3]) (ri_rng1 (ra_cons (ro_val (re_callB fr_len (ra_cons ro_var ra_nil))) ra_nil)) rg_nameW (rt_and (rt_test (re_op2 fr_ne ro_var ro_var)) (rt_not (rt_tB (re_call (ra_cons (ro_val (re_op2 fr_ix ro_var ro_var)) (ra_cons (ro_val re_int) (ra_cons (ro_val re_int) ra_nil))))))) re_copy)) (ro_val (re_lst ra_nil)))))) (by decide) h
/-! are_homes -/
abbrev s_are_homes : Stmt := topS 17
theorem sc_are_homes : FnScope ["days", "homes", "last", "time", "office"] ["days", "homes"] (defScope s_are_homes) := ⟨rfl, rfl, rfl, by decide +kernel, rfl, by decide +kernel, by decide +kernel⟩
theorem ok_are_homes (M : Mg mg)  (C_is_from : Callee P w K mg base "is_from" 1 ["number", "least", "most"] (spP K 3 f_is_from)) {f : Addr} {fd : FuncData} (F : Fun K "are_homes" "are_homes" s_are_homes f fd) : FnOk P w K mg base CX0 2 f fd ["days", "homes"] (spP K 2 f_are_homes) := by
  refine F.ok sc_are_homes spP_len (fun cdv A outer s H vs Q E hr h => ?_)
  refine ⟨_, (pss_cons (ps_if (PW.pt (pw_or (pt_not (pt_chain op_le op_le pe_int (pe_callB (r := Dl.rLen K) call_len (by rfl) M.len PySem.boot_len (pa_cons (pv 1) pa_nil)) (pe_globI M.MOST_HOMES (by rfl)))) (pw_or1 (pt_cmpR (r := rNeD K) (op_neD hr.units) (pe_ix (r := rIx K) ix_seq (pe_ix (r := rIx K) ix_seq (pv 1) pe_int (fun _ _ => rfl)) pe_int (fun _ _ => rfl)) pe_int (nomark _))))) (pss_one (ps_ret pe_bl)) pss_nil) (pss_cons (ps_set (i := 2) sc_are_homes.nd rfl (.inl rfl) (pe_tup (pa_cons (pe_un un_neg pe_int) (pa_cons (pe_un un_neg pe_int) pa_nil)))) (pss_cons (ps_for PassesOwn.never rfl (pi_seqK (K := K) rfl (pv 1)) (pg_tupK (K := K) (n := 2) rfl rfl (pgs_cons (pg_name (i := 3) sc_are_homes.nd rfl (.inl rfl)) (pgs_cons (pg_name (i := 4) sc_are_homes.nd rfl (.inl rfl)) pgs_nil))) (pss_cons (ps_if (PW.pt (pw_or (pt_not (pt_val (pe_callC C_is_from hr (by decide) (by rfl) (pa_cons (pv 3) (pa_cons (pe_op (r := rPlus K) op_plus (pe_ix (r := rIx K) ix_seq (pv 2) pe_int (fun _ _ => rfl)) pe_int) (pa_cons (pe_globI M.MOST_TIME (by rfl)) pa_nil)))))) (pw_or (pt_not (pt_val (pe_callC C_is_from hr (by decide) (by rfl) (pa_cons (pv 4) (pa_cons pe_int (pa_cons (pe_op op_sub (pe_callB (r := Dl.rLen K) call_len (by rfl) M.len PySem.boot_len (pa_cons (pv 0) pa_nil)) pe_int) pa_nil)))))) (pw_or1 (pt_cmpR (r := rEqD K) (op_eqD hr.units) (pv 4) (pe_ix (r := rIx K) ix_seq (pv 2) pe_int (fun _ _ => rfl)) (nomark _)))))) (pss_one (ps_ret pe_bl)) pss_nil) (pss_one (ps_set (i := 2) sc_are_homes.nd rfl (.inl rfl) (pe_tup (pa_cons (pv 3) (pa_cons (pv 4) pa_nil))))))) (pss_one (ps_ret pe_bl))))), ?_⟩
  exact body_P (m := m_are_homes) (rs_seq (rs_if (rt_or (rt_not (rt_test (re_chain (ro_val re_int) (ro_val (re_callB fr_len (ra_cons ro_var ra_nil))) (ro_val re_int)))) (rt_test (re_op2 fr_ne (ro_val (re_op2 fr_ix (ro_val (re_op2 fr_ix ro_var (ro_val re_int))) (ro_val re_int))) (ro_val re_int)))) (rs_ret re_bl) rs_nil) (rs_seq (rs_asg (re_tup (ra_cons (ro_val (re_op1 fr_neg (ro_val re_int))) (ra_cons (ro_val (re_op1 fr_neg (ro_val re_int))) ra_nil))) rg_nameW) (rs_seq (rs_kill (is := [2, 3, 4]) (rs_for (ri_seq ro_var) (rg_tup (rgs_cons rg_nameW (rgs_cons rg_nameW rgs_nil))) (rs_seq (rs_kill (is := [2]) (rs_if (rt_or (rt_not (rt_tB (re_call (ra_cons ro_var (ra_cons (ro_val (re_op2 fr_plus (ro_val (re_op2 fr_ix ro_var (ro_val re_int))) (ro_val re_int))) (ra_cons (ro_val re_int) ra_nil)))))) (rt_or (rt_not (rt_tB (re_call (ra_cons ro_var (ra_cons (ro_val re_int) (ra_cons (ro_val (re_op2 fr_sub (ro_val (re_callB fr_len (ra_cons ro_var ra_nil))) (ro_val re_int))) ra_nil)))))) (rt_test (re_op2 fr_eq ro_var (ro_val (re_op2 fr_ix ro_var (ro_val re_int))))))) (rs_ret re_bl) rs_nil)) (rs_kill (is := [3, 4]) (rs_asg (re_tup (ra_cons ro_var (ra_cons ro_var ra_nil))) rg_nameW))))) (rs_ret re_bl)))) (by decide) h
/-! is_order -/
abbrev s_is_order : Stmt := topS 18
theorem sc_is_order : FnScope ["days", "people", "order", "office", "person", "goal", "begin", "end"] ["days", "people", "order"] (defScope s_is_order) := ⟨rfl, rfl, rfl, by decide +kernel, rfl, by decide +kernel, by decide +kernel⟩
theorem ok_is_order (M : Mg mg)  (C_is_from : Callee P w K mg base "is_from" 1 ["number", "least", "most"] (spP K 3 f_is_from)) {f : Addr} {fd : FuncData} (F : Fun K "is_order" "is_order" s_is_order f fd) : FnOk P w K mg base CX0 2 f fd ["days", "people", "order"] (spP K 3 f_is_order) := by
  refine F.ok sc_is_order spP_len (fun cdv A outer s H vs Q E hr h => ?_)
  refine ⟨_, (pss_cons (ps_asg (pv 2) (pg_tupK (K := K) (n := 5) rfl rfl (pgs_cons (pg_name (i := 3) sc_is_order.nd rfl (.inl rfl)) (pgs_cons (pg_name (i := 4) sc_is_order.nd rfl (.inl rfl)) (pgs_cons (pg_name (i := 5) sc_is_order.nd rfl (.inl rfl)) (pgs_cons (pg_name (i := 6) sc_is_order.nd rfl (.inl rfl)) (pgs_cons (pg_name (i := 7) sc_is_order.nd rfl (.inl rfl)) pgs_nil))))))) (pss_cons (ps_if (PW.pt (pw_or (pt_not (pt_val (pe_callC C_is_from hr (by decide) (by rfl) (pa_cons (pv 3) (pa_cons pe_int (pa_cons (pe_op op_sub (pe_callB (r := Dl.rLen K) call_len (by rfl) M.len PySem.boot_len (pa_cons (pv 0) pa_nil)) pe_int) pa_nil)))))) (pw_or (pt_not (pt_val (pe_callC C_is_from hr (by decide) (by rfl) (pa_cons (pv 5) (pa_cons pe_int (pa_cons (pe_op op_sub (pe_callB (r := Dl.rLen K) call_len (by rfl) M.len PySem.boot_len (pa_cons (pv 0) pa_nil)) pe_int) pa_nil)))))) (pw_or1 (pt_cmpR (r := rEqD K) (op_eqD hr.units) (pv 3) (pv 5) (nomark _)))))) (pss_one (ps_ret pe_bl)) pss_nil) (pss_one (ps_ret (pe_and (pe_callC C_is_from hr (by decide) (by rfl) (pa_cons (pv 4) (pa_cons pe_int (pa_cons (pe_op op_sub (pv 1) pe_int) pa_nil)))) (pe_one (pe_chain3 op_le op_lt op_le pe_int (pv 6) (pv 7) (pe_op op_mul pe_int (pe_globI M.MOST_TIME (by rfl)))))))))), ?_⟩
  exact body_P (m := m_is_order) (rs_seq (rs_asg re_copy (rg_tup (rgs_cons rg_nameW (rgs_cons rg_nameW (rgs_cons rg_nameW (rgs_cons rg_nameW (rgs_cons rg_nameW rgs_nil))))))) (rs_seq (rs_kill (is := [3, 5]) (rs_if (rt_or (rt_not (rt_tB (re_call (ra_cons ro_var (ra_cons (ro_val re_int) (ra_cons (ro_val (re_op2 fr_sub (ro_val (re_callB fr_len (ra_cons ro_var ra_nil))) (ro_val re_int))) ra_nil)))))) (rt_or (rt_not (rt_tB (re_call (ra_cons ro_var (ra_cons (ro_val re_int) (ra_cons (ro_val (re_op2 fr_sub (ro_val (re_callB fr_len (ra_cons ro_var ra_nil))) (ro_val re_int))) ra_nil)))))) (rt_test (re_op2 fr_eq ro_var ro_var)))) (rs_ret re_bl) rs_nil)) (rs_ret (re_andV (re_call (ra_cons ro_var (ra_cons (ro_val re_int) (ra_cons (ro_val (re_op2 fr_sub ro_var (ro_val re_int))) ra_nil)))) (re_chain3 (ro_val re_int) ro_var ro_var (ro_val (re_op2 fr_mul (ro_val re_int) (ro_val re_int)))))))) (by decide) h
/-! need_town -/
abbrev s_need_town : Stmt := topS 19
theorem sc_need_town : FnScope ["town", "days", "homes", "orders", "office", "person", "number"] ["town"] (defScope s_need_town) := ⟨rfl, rfl, rfl, by decide +kernel, rfl, by decide +kernel, by decide +kernel⟩
theorem ok_need_town (M : Mg mg) {C_BadTown : Addr} (E_BadTown : ExcIn P w K mg base "BadTown" C_BadTown 1 ["self", "word", "number"] ["word", "number"]) (C_is_road : Callee P w K mg base "is_road" 2 ["days", "office"] (spP K 2 f_is_road)) (C_are_homes : Callee P w K mg base "are_homes" 2 ["days", "homes"] (spP K 2 f_are_homes)) (C_is_order : Callee P w K mg base "is_order" 2 ["days", "people", "order"] (spP K 3 f_is_order)) {f : Addr} {fd : FuncData} (F : Fun K "need_town" "need_town" s_need_town f fd) : FnOk P w K mg base (L2.CX P w) 3 f fd ["town"] (spX K 1 x_need_town) := by
  refine F.okX sc_need_town spX_len (fun cdv A outer s H vs Q E hr h => ?_)
  refine ⟨_, (pss_cons (ps_asg (pv 0) (pg_tupK (K := K) (n := 3) rfl rfl (pgs_cons (pg_name (i := 1) sc_need_town.nd rfl (.inl rfl)) (pgs_cons (pg_name (i := 2) sc_need_town.nd rfl (.inl rfl)) (pgs_cons (pg_name (i := 3) sc_need_town.nd rfl (.inl rfl)) pgs_nil))))) (pss_cons (ps_for (passes_of rfl) rfl (pi_range1 (by rfl) M.range (pa_cons (pe_callB (r := Dl.rLen K) call_len (by rfl) M.len PySem.boot_len (pa_cons (pv 1) pa_nil)) pa_nil)) (pg_name (i := 4) sc_need_town.nd rfl (.inl rfl)) (pss_one (ps_if (pt_not (pt_val (pe_callC C_is_road hr (by decide) (by rfl) (pa_cons (pv 1) (pa_cons (pv 4) pa_nil))))) (pss_one (ps_raiseIn E_BadTown rfl (takes_of rfl rfl rfl rfl) hr (by decide) (by rfl) (pa_cons pe_str (pa_cons (pv 4) pa_nil)))) pss_nil))) (pss_cons (ps_if (pt_cmpR (r := rEqD K) (op_eqD hr.units) (pv 1) (pe_tup pa_nil) (nomark _)) (pss_one (ps_raiseIn E_BadTown rfl (takes_of rfl rfl rfl rfl) hr (by decide) (by rfl) (pa_cons pe_str (pa_cons pe_int pa_nil)))) pss_nil) (pss_cons (ps_for (passes_of rfl) rfl (pi_range1 (by rfl) M.range (pa_cons (pe_callB (r := Dl.rLen K) call_len (by rfl) M.len PySem.boot_len (pa_cons (pv 2) pa_nil)) pa_nil)) (pg_name (i := 5) sc_need_town.nd rfl (.inl rfl)) (pss_one (ps_if (PW.pt (pw_or (pt_cmpR op_ge (pv 5) (pe_globI M.MOST_PEOPLE (by rfl)) (nomark _)) (pw_or1 (pt_not (pt_val (pe_callC C_are_homes hr (by decide) (by rfl) (pa_cons (pv 1) (pa_cons (pe_ix (r := rIx K) ix_seq (pv 2) (pv 5) (fun _ _ => rfl)) pa_nil)))))))) (pss_one (ps_raiseIn E_BadTown rfl (takes_of rfl rfl rfl rfl) hr (by decide) (by rfl) (pa_cons pe_str (pa_cons (pv 5) pa_nil)))) pss_nil))) (pss_one (ps_for (passes_of rfl) rfl (pi_range1 (by rfl) M.range (pa_cons (pe_callB (r := Dl.rLen K) call_len (by rfl) M.len PySem.boot_len (pa_cons (pv 3) pa_nil)) pa_nil)) (pg_name (i := 6) sc_need_town.nd rfl (.inl rfl)) (pss_one (ps_if (PW.pt (pw_or (pt_cmpR op_ge (pv 6) (pe_globI M.MOST_ORDERS (by rfl)) (nomark _)) (pw_or1 (pt_not (pt_val (pe_callC C_is_order hr (by decide) (by rfl) (pa_cons (pv 1) (pa_cons (pe_callB (r := Dl.rLen K) call_len (by rfl) M.len PySem.boot_len (pa_cons (pv 2) pa_nil)) (pa_cons (pe_ix (r := rIx K) ix_seq (pv 3) (pv 6) (fun _ _ => rfl)) pa_nil))))))))) (pss_one (ps_raiseIn E_BadTown rfl (takes_of rfl rfl rfl rfl) hr (by decide) (by rfl) (pa_cons pe_str (pa_cons (pv 6) pa_nil)))) pss_nil)))))))), ?_⟩
  exact body_X (m := xm_need_town) (rsx_seq (rsx_of (rs_asg re_copy (rg_tup (rgs_cons rg_nameW (rgs_cons rg_nameW (rgs_cons rg_nameW rgs_nil)))))) (rsx_seq (rsx_kill (is := [4]) (rsx_for (ri_rng1 (ra_cons (ro_val (re_callB fr_len (ra_cons ro_var ra_nil))) ra_nil)) rg_nameW (rsx_kill (is := [4]) (rsx_if (rt_not (rt_tB (re_call (ra_cons ro_var (ra_cons ro_var ra_nil))))) (rsx_raiseI E_BadTown.n E_BadTown.T (ra_cons (ro_val re_str) (ra_cons ro_var ra_nil))) (rsx_of rs_nil))))) (rsx_seq (rsx_if (rt_test (re_op2 fr_eq ro_var (ro_val (re_tup ra_nil)))) (rsx_raiseI E_BadTown.n E_BadTown.T (ra_cons (ro_val re_str) (ra_cons (ro_val re_int) ra_nil))) (rsx_of rs_nil)) (rsx_seq (rsx_kill (is := [5]) (rsx_for (ri_rng1 (ra_cons (ro_val (re_callB fr_len (ra_cons ro_var ra_nil))) ra_nil)) rg_nameW (rsx_kill (is := [5]) (rsx_if (rt_or (rt_test (re_op2 fr_ge ro_var (ro_val re_int))) (rt_not (rt_tB (re_call (ra_cons ro_var (ra_cons (ro_val (re_op2 fr_ix ro_var ro_var)) ra_nil)))))) (rsx_raiseI E_BadTown.n E_BadTown.T (ra_cons (ro_val re_str) (ra_cons ro_var ra_nil))) (rsx_of rs_nil))))) (rsx_kill (is := [1, 2, 3, 6]) (rsx_for (ri_rng1 (ra_cons (ro_val (re_callB fr_len (ra_cons ro_var ra_nil))) ra_nil)) rg_nameW (rsx_kill (is := [6]) (rsx_if (rt_or (rt_test (re_op2 fr_ge ro_var (ro_val re_int))) (rt_not (rt_tB (re_call (ra_cons ro_var (ra_cons (ro_val (re_callB fr_len (ra_cons ro_var ra_nil))) (ra_cons (ro_val (re_op2 fr_ix ro_var ro_var)) ra_nil))))))) (rsx_raiseI E_BadTown.n E_BadTown.T (ra_cons (ro_val re_str) (ra_cons ro_var ra_nil))) (rsx_of rs_nil))))))))) (by decide) h
/-! written -/
abbrev s_written : Stmt := topS 24
theorem sc_written : FnScope ["town", "order", "number"] ["town"] (defScope s_written) := ⟨rfl, rfl, rfl, by decide +kernel, rfl, by decide +kernel, by decide +kernel⟩
theorem ok_written (M : Mg mg)  (C_need_town : CalleeX P w K mg base "need_town" 3 ["town"] (spX K 1 x_need_town)) {f : Addr} {fd : FuncData} (F : Fun K "written" "written" s_written f fd) : FnOk P w K mg base CX0 4 f fd ["town"] (spP K 1 f_written) := by
  refine F.ok sc_written spP_len (fun cdv A outer s H vs Q E hr h => ?_)
  refine ⟨_, (pss_cons (ps_expr (pe_callR C_need_town hr (by decide) (by rfl) (pa_cons (pv 0) pa_nil))) (pss_one (ps_ret (pe_joinK (K := K) rfl pe_str (pe_lc (own := [("order", 1)]) rfl sc_written.nd (pi_seqK (K := K) rfl (pe_ix (r := rIx K) ix_seq (pv 0) pe_int (fun _ _ => rfl))) (blkOk_by (own := [("order", 1)]) (N := ["town", "order", "number"]) (sc := defScope s_written) (by decide +kernel)) (fun _ _ _ _ _ => (pg_name (i := 1) sc_written.nd rfl (.inl rfl))) (fun _ _ _ _ _ => pts_nil) (fun _ _ _ _ _ => (pe_op (r := rPlus K) op_plus pe_str (pe_joinK (K := K) rfl pe_str (by exact pe_lc (own := [("number", 2)]) rfl sc_written.nd (pi_seqK (K := K) rfl (pv 1)) (blkOk_by (own := [("number", 2)]) (N := ["town", "order", "number"]) (by first | rfl | exact id (by with_unfolding_all decide))) (fun _ _ _ _ _ => (pg_name (i := 2) sc_written.nd rfl (.inl rfl))) (fun _ _ _ _ _ => pts_nil) (fun _ _ _ _ _ => (pe_callTy call_str_int (by rfl) M.str (by decide +kernel) (pa_cons (pv 2) pa_nil)))))))))))), ?_⟩
  exact body_P (m := m_written) (rs_seq (rs_drop (re_callR (ra_cons ro_var ra_nil))) (rs_ret (re_m1 fr_join (ro_val re_str) (ro_val (re_lc (vs := [1]) (ri_seq (ro_val (re_op2 fr_ix ro_var (ro_val re_int)))) rg_nameW rt_yes (re_op2 fr_plus (ro_val re_str) (ro_val (re_m1 fr_join (ro_val re_str) (ro_val (re_lc (vs := [2]) (ri_seq ro_var) rg_nameW rt_yes (re_callB fr_str (ra_cons ro_var ra_nil)))))))))))) (by decide) h
/-! _law_alike -/
abbrev s__law_alike : Stmt := topS 30
theorem sc__law_alike : FnScope ["_law_found", "_law_due_here", "_law_k"] ["_law_found", "_law_due_here"] (defScope s__law_alike) := ⟨rfl, rfl, rfl, by decide +kernel, rfl, by decide +kernel, by decide +kernel⟩
theorem ok__law_alike (M : Mg mg)  {f : Addr} {fd : FuncData} (F : Fun K "_law_alike" "_law_alike" s__law_alike f fd) (hm : mg "_law_alike" = some (.ref f)) (hb : Binds K fd ["_law_found", "_law_due_here"] []) : ∀ n : Nat, FnOk P w K mg base CX0 (n + 1) f fd ["_law_found", "_law_due_here"] (spP K 2 (f__law_alike n))
  | 0 => ⟨fun vs H Q E h => (by obtain ⟨_, _, h, _⟩ := h; cases h), fun _ _ _ _ _ _ _ _ _ _ _ _ _ h => (by obtain ⟨_, _, h, _⟩ := h; cases h)⟩
  | n + 1 => by
    have C__law_alike : Callee P w K mg base "_law_alike" (n + 1) ["_law_found", "_law_due_here"] (spP K 2 (f__law_alike n)) := ⟨f, fd, ok__law_alike M  F hm hb n, hm, F.kp, hb⟩
    refine F.ok (k := n + 1) sc__law_alike spP_len (fun cdv A outer s H vs Q E hr h => ?_)
    refine ⟨_, (pss_cons (ps_if (pt_cmpR op_isN (pv 1) pe_non (nomark _)) (pss_one (ps_ret (pe_cmpR op_isN (pv 0) pe_non (nomark _)))) pss_nil) (pss_cons (ps_if (pt_val (pe_callB (r := rIsi K) call_isi (by rfl) M.isinstance (by decide +kernel) (pa_cons (pv 1) (pa_cons (pe_bltn (v := .ty "bool") (by rfl) M.bool (by decide +kernel) rfl) pa_nil)))) (pss_one (ps_ret (pe_and (pe_callB (r := rIsi K) call_isi (by rfl) M.isinstance (by decide +kernel) (pa_cons (pv 0) (pa_cons (pe_bltn (v := .ty "bool") (by rfl) M.bool (by decide +kernel) rfl) pa_nil))) (pe_one (pe_cmpR (r := rEqD K) (op_eqD hr.units) (pv 0) (pv 1) (nomark _)))))) pss_nil) (pss_cons (ps_if (pt_val (pe_callB (r := rIsi K) call_isi (by rfl) M.isinstance (by decide +kernel) (pa_cons (pv 1) (pa_cons (pe_bltn (v := .ty "int") (by rfl) M.int (by decide +kernel) rfl) pa_nil)))) (pss_one (ps_ret (pe_and (pe_callB (r := rIsi K) call_isi (by rfl) M.isinstance (by decide +kernel) (pa_cons (pv 0) (pa_cons (pe_bltn (v := .ty "int") (by rfl) M.int (by decide +kernel) rfl) pa_nil))) (pe_and (pe_not (pe_callB (r := rIsi K) call_isi (by rfl) M.isinstance (by decide +kernel) (pa_cons (pv 0) (pa_cons (pe_bltn (v := .ty "bool") (by rfl) M.bool (by decide +kernel) rfl) pa_nil)))) (pe_one (pe_cmpR (r := rEqD K) (op_eqD hr.units) (pv 0) (pv 1) (nomark _))))))) pss_nil) (pss_cons (ps_if (pt_val (pe_callB (r := rIsi K) call_isi (by rfl) M.isinstance (by decide +kernel) (pa_cons (pv 1) (pa_cons (pe_bltn (v := .ty "str") (by rfl) M.str (by decide +kernel) rfl) pa_nil)))) (pss_one (ps_ret (pe_and (pe_callB (r := rIsi K) call_isi (by rfl) M.isinstance (by decide +kernel) (pa_cons (pv 0) (pa_cons (pe_bltn (v := .ty "str") (by rfl) M.str (by decide +kernel) rfl) pa_nil))) (pe_one (pe_cmpR (r := rEqD K) (op_eqD hr.units) (pv 0) (pv 1) (nomark _)))))) pss_nil) (pss_cons (ps_if (PW.pt (pw_or (pt_cmpR (r := rNeD K) (op_neD hr.units) (pe_callB (r := rIsi K) call_isi (by rfl) M.isinstance (by decide +kernel) (pa_cons (pv 1) (pa_cons (pe_bltn (v := .ty "tuple") (by rfl) M.tuple (by decide +kernel) rfl) pa_nil))) (pe_callB (r := rIsi K) call_isi (by rfl) M.isinstance (by decide +kernel) (pa_cons (pv 0) (pa_cons (pe_bltn (v := .ty "tuple") (by rfl) M.tuple (by decide +kernel) rfl) pa_nil))) (nomark _)) (pw_or1 (pt_cmpR (r := rNeD K) (op_neD hr.units) (pe_callB (r := rIsi K) call_isi (by rfl) M.isinstance (by decide +kernel) (pa_cons (pv 1) (pa_cons (pe_bltn (v := .ty "list") (by rfl) M.list (by decide +kernel) rfl) pa_nil))) (pe_callB (r := rIsi K) call_isi (by rfl) M.isinstance (by decide +kernel) (pa_cons (pv 0) (pa_cons (pe_bltn (v := .ty "list") (by rfl) M.list (by decide +kernel) rfl) pa_nil))) (nomark _))))) (pss_one (ps_ret pe_bl)) pss_nil) (pss_cons (ps_if (pt_cmpR (r := rNeD K) (op_neD hr.units) (pe_callB (r := Dl.rLen K) call_len (by rfl) M.len PySem.boot_len (pa_cons (pv 0) pa_nil)) (pe_callB (r := Dl.rLen K) call_len (by rfl) M.len PySem.boot_len (pa_cons (pv 1) pa_nil)) (nomark _)) (pss_one (ps_ret pe_bl)) pss_nil) (pss_cons (ps_for PassesOwn.never rfl (pi_range1 (by rfl) M.range (pa_cons (pe_callB (r := Dl.rLen K) call_len (by rfl) M.len PySem.boot_len (pa_cons (pv 1) pa_nil)) pa_nil)) (pg_name (i := 2) sc__law_alike.nd rfl (.inl rfl)) (pss_one (ps_if (pt_not (pt_val (pe_callC C__law_alike hr (Nat.le_refl _) (by rfl) (pa_cons (pe_ix (r := rIx K) ix_seq (pv 0) (pv 2) (fun _ _ => rfl)) (pa_cons (pe_ix (r := rIx K) ix_seq (pv 1) (pv 2) (fun _ _ => rfl)) pa_nil))))) (pss_one (ps_ret pe_bl)) pss_nil))) (pss_one (ps_ret pe_bl))))))))), ?_⟩
    exact body_P (m := m__law_alike (f__law_alike n)) (rs_seq (rs_if (rt_test (re_op2 fr_isN ro_var (ro_val re_non))) (rs_ret (re_op2 fr_isN ro_var (ro_val re_non))) rs_nil) (rs_seq (rs_if (rt_tB (re_isi (T := "bool") ro_var)) (rs_ret (re_andV (re_isi (T := "bool") ro_var) (re_op2 fr_eq ro_var ro_var))) rs_nil) (rs_seq (rs_if (rt_tB (re_isi (T := "int") ro_var)) (rs_ret (re_andV (re_isi (T := "int") ro_var) (re_andV (re_notV (re_isi (T := "bool") ro_var)) (re_op2 fr_eq ro_var ro_var)))) rs_nil) (rs_seq (rs_if (rt_tB (re_isi (T := "str") ro_var)) (rs_ret (re_andV (re_isi (T := "str") ro_var) (re_op2 fr_eq ro_var ro_var))) rs_nil) (rs_seq (rs_if (rt_or (rt_test (re_op2 fr_ne (ro_val (re_isi (T := "tuple") ro_var)) (ro_val (re_isi (T := "tuple") ro_var)))) (rt_test (re_op2 fr_ne (ro_val (re_isi (T := "list") ro_var)) (ro_val (re_isi (T := "list") ro_var))))) (rs_ret re_bl) rs_nil) (rs_seq (rs_if (rt_test (re_op2 fr_ne (ro_val (re_callB fr_len (ra_cons ro_var ra_nil))) (ro_val (re_callB fr_len (ra_cons ro_var ra_nil))))) (rs_ret re_bl) rs_nil) (rs_seq (rs_kill (is := [2]) (rs_for (ri_rng1 (ra_cons (ro_val (re_callB fr_len (ra_cons ro_var ra_nil))) ra_nil)) rg_nameW (rs_kill (is := [2]) (rs_if (rt_not (rt_tB (re_callV (rvs_cons (rv_ix rv_var rv_var) (rvs_cons (rv_ix rv_var rv_var) rvs_nil))))) (rs_ret re_bl) rs_nil)))) (rs_ret re_bl)))))))) (by decide) h
/-! number_of -/
abbrev s_number_of : Stmt := topS 25
theorem sc_number_of : FnScope ["word", "sign"] ["word"] (defScope s_number_of) := ⟨rfl, rfl, rfl, by decide +kernel, rfl, by decide +kernel, by decide +kernel⟩
theorem ok_number_of (M : Mg mg)   {f : Addr} {fd : FuncData} (F : Fun K "number_of" "number_of" s_number_of f fd) : FnOk P w K mg base CX0 1 f fd ["word"] (spP K 1 f_number_of) := by
  refine F.ok sc_number_of spP_len (fun cdv A outer s H vs Q E hr h => ?_)
  refine ⟨_, (pss_cons (ps_if (PW.pt (pw_or (pt_not (pt_chain op_le op_le pe_int (pe_callB (r := Dl.rLen K) call_len (by rfl) M.len PySem.boot_len (pa_cons (pv 0) pa_nil)) (pe_globI M.MOST_FIGURES (by rfl)))) (pw_or1 (pt_cmpR (r := rNeD K) (op_neD hr.units) (pe_lc (own := [("sign", 1)]) rfl sc_number_of.nd (pi_str (pv 0)) (blkOk_by (own := [("sign", 1)]) (N := ["word", "sign"]) (sc := defScope s_number_of) (by decide +kernel)) (fun _ _ _ _ _ => (pg_name (i := 1) sc_number_of.nd rfl (.inl rfl))) (fun _ _ _ _ _ => (pts_one (pt_cmpR op_notIn_sign (pv 1) (pe_globS M.FIGURES (by rfl)) (by rfl)))) (fun _ _ _ _ _ => (pv 1))) (pe_lst pa_nil) (nomark _))))) (pss_one (ps_ret pe_non)) pss_nil) (pss_one (ps_ret (pe_ifExp (PW.pt (pw_and (pt_cmpR (r := rEqD K) (op_eqD hr.units) (pe_ix (r := rIx K) ix_seq (pv 0) pe_int (fun _ _ => rfl)) pe_str (nomark _)) (pw_and1 (pt_cmpR (r := rNeD K) (op_neD hr.units) (pv 0) pe_str (nomark _))))) pe_non (pe_callTy call_int_str (by rfl) M.int (by decide +kernel) (pa_cons (pv 0) pa_nil)))))), ?_⟩
  exact body_P (m := m_number_of) (rs_seq (rs_if (rt_or (rt_not (rt_test (re_chain (ro_val re_int) (ro_val (re_callB fr_len (ra_cons ro_var ra_nil))) (ro_val re_int)))) (rt_test (re_op2 fr_ne (ro_val (re_lc (vs := [1]) (ri_str ro_var) rg_nameW (rt_test (re_op2 fr_notInS ro_var (ro_val re_str))) re_copy)) (ro_val (re_lst ra_nil))))) (rs_ret re_non) rs_nil) (rs_ret (re_if (rt_and (rt_test (re_op2 fr_eq (ro_val (re_op2 fr_ix ro_var (ro_val re_int))) (ro_val re_str))) (rt_test (re_op2 fr_ne ro_var (ro_val re_str)))) re_non (re_callB fr_intS (ra_cons ro_var ra_nil))))) (by decide) h
/-! with_orders -/
abbrev s_with_orders : Stmt := topS 26
theorem sc_with_orders : FnScope ["town", "text", "found", "row", "part", "words", "numbers", "other", "word"] ["town", "text"] (defScope s_with_orders) := ⟨rfl, rfl, rfl, by decide +kernel, rfl, by decide +kernel, by decide +kernel⟩
theorem ok_with_orders (M : Mg mg) {C_BadText : Addr} (E_BadText : ExcIn P w K mg base "BadText" C_BadText 1 ["self", "row"] ["row"]) (C_need_town : CalleeX P w K mg base "need_town" 3 ["town"] (spX K 1 x_need_town)) (C_number_of : Callee P w K mg base "number_of" 1 ["word"] (spP K 1 f_number_of)) {f : Addr} {fd : FuncData} (F : Fun K "with_orders" "with_orders" s_with_orders f fd) : FnOk P w K mg base (L2.CX P w) 4 f fd ["town", "text"] (spX K 2 x_with_orders) := by
  refine F.okX sc_with_orders spX_len (fun cdv A outer s H vs Q E hr h => ?_)
  refine ⟨_, (pss_cons (ps_expr (pe_callT C_need_town (takes_of rfl rfl rfl rfl) hr (by decide) (by rfl) (pa_cons (pe_tup (pa_cons (pe_ix (r := rIx K) ix_seq (pv 0) pe_int (fun _ _ => rfl)) (pa_cons (pe_ix (r := rIx K) ix_seq (pv 0) pe_int (fun _ _ => rfl)) (pa_cons (pe_tup pa_nil) pa_nil)))) pa_nil))) (pss_cons (ps_set (i := 2) sc_with_orders.nd rfl (.inl rfl) (pe_lst pa_nil)) (pss_cons (ps_for (passes_of rfl) rfl (pi_enum (by rfl) M.enumerate (pa_cons (pe_ifExp (pt_cmpR (r := rNeD K) (op_neD hr.units) (pv 1) pe_str (nomark _)) (pe_split (pv 1) pe_str) (pe_lst pa_nil)) pa_nil)) (pg_tupK (K := K) (n := 2) rfl rfl (pgs_cons (pg_name (i := 3) sc_with_orders.nd rfl (.inl rfl)) (pgs_cons (pg_name (i := 4) sc_with_orders.nd rfl (.inl rfl)) pgs_nil))) (pss_cons (ps_set (i := 5) sc_with_orders.nd rfl (.inl rfl) (pe_split (pv 4) pe_str)) (pss_cons (ps_setLc (i := 6) (own := [("word", 8)]) rfl sc_with_orders.nd rfl rfl (sw_true rfl rfl rfl (by decide +kernel)) (pi_seqK (K := K) rfl (pe_slice (r := rSl K) sl_seq (pv 5) (po_some pe_int) po_none)) (blkOk_by (own := [("word", 8)]) (N := ["town", "text", "found", "row", "part", "words", "numbers", "other", "word"]) (sc := defScope s_with_orders) (by decide +kernel)) (fun _ _ _ _ _ => (pg_name (i := 8) sc_with_orders.nd rfl (.inl rfl))) (fun _ _ _ _ _ => pts_nil) (fun _ _ _ _ _ => (pe_callC C_number_of hr (by decide) (by rfl) (pa_cons (pv 8) pa_nil)))) (pss_cons (ps_if (PW.pt (pw_or (pt_cmpR (r := rNeD K) (op_neD hr.units) (pe_callB (r := Dl.rLen K) call_len (by rfl) M.len PySem.boot_len (pa_cons (pv 5) pa_nil)) (pe_globI M.PARTS (by rfl)) (nomark _)) (pw_or (pt_cmpR (r := rNeD K) (op_neD hr.units) (pe_ix (r := rIx K) ix_seq (pv 5) pe_int (fun _ _ => rfl)) pe_str (nomark _)) (pw_or1 (pt_cmpR (r := rInD K) (op_inD (hu65 hr)) pe_non (pv 6) (by rfl)))))) (pss_one (ps_raiseIn E_BadText rfl (takes_of rfl rfl rfl rfl) hr (by decide) (by rfl) (pa_cons (pv 3) pa_nil))) pss_nil) (pss_one (ps_expr (pe_bm PySem.F.plainAttrs_list PySem.F.slot_list_append PySem.F.type_list_append mt_append (pv 2) (pa_cons (pe_callTy (r := Dl.rTuple K) call_tuple_of (by rfl) M.tuple (by decide +kernel) (pa_cons (pv 6) pa_nil)) pa_nil)))))))) (pss_cons (ps_set (i := 7) sc_with_orders.nd rfl (.inl rfl) (pe_tup (pa_cons (pe_ix (r := rIx K) ix_seq (pv 0) pe_int (fun _ _ => rfl)) (pa_cons (pe_ix (r := rIx K) ix_seq (pv 0) pe_int (fun _ _ => rfl)) (pa_cons (pe_callTy (r := Dl.rTuple K) call_tuple_of (by rfl) M.tuple (by decide +kernel) (pa_cons (pv 2) pa_nil)) pa_nil))))) (pss_cons (ps_expr (pe_callT C_need_town (takes_of rfl rfl rfl rfl) hr (by decide) (by rfl) (pa_cons (pv 7) pa_nil))) (pss_one (ps_ret (pv 7)))))))), ?_⟩
  exact body_X (m := xm_with_orders) (rsx_seq (rsx_drop (ra_cons (ro_val (re_tup (ra_cons (ro_val (re_op2 fr_ix ro_var (ro_val re_int))) (ra_cons (ro_val (re_op2 fr_ix ro_var (ro_val re_int))) (ra_cons (ro_val (re_tup ra_nil)) ra_nil))))) ra_nil)) (rsx_seq (rsx_of (rs_asg (re_lst ra_nil) rg_name)) (rsx_seq (rsx_kill (is := [3, 4]) (rsx_for (ri_enumL (re_if (rt_test (re_op2 fr_ne ro_var (ro_val re_str))) (re_m1 fr_split ro_var (ro_val re_str)) (re_lst ra_nil))) (rg_tup (rgs_cons rg_nameW (rgs_cons rg_nameW rgs_nil))) (rsx_seq (rsx_kill (is := [4]) (rsx_of (rs_asg (re_m1 fr_split ro_var (ro_val re_str)) rg_nameW))) (rsx_seq (rsx_of (rs_asg (re_lc (vs := [8]) (ri_seq (ro_val (re_slice ro_var (rp_int (ro_val re_int)) rp_no))) rg_nameW rt_yes (re_call (ra_cons ro_var ra_nil))) rg_nameW)) (rsx_seq (rsx_kill (is := [3, 5]) (rsx_if (rt_or (rt_test (re_op2 fr_ne (ro_val (re_callB fr_len (ra_cons ro_var ra_nil))) (ro_val re_int))) (rt_or (rt_test (re_op2 fr_ne (ro_val (re_op2 fr_ix ro_var (ro_val re_int))) (ro_val re_str))) (rt_test (re_op2 fr_in (ro_val re_non) ro_var)))) (rsx_raiseI E_BadText.n E_BadText.T (ra_cons ro_var ra_nil)) (rsx_of rs_nil))) (rsx_kill (is := [6]) (rsx_of (rs_app (re_callB fr_tuple (ra_cons ro_var ra_nil)))))))))) (rsx_seq (rsx_kill (is := [2]) (rsx_of (rs_asg (re_tup (ra_cons (ro_val (re_op2 fr_ix ro_var (ro_val re_int))) (ra_cons (ro_val (re_op2 fr_ix ro_var (ro_val re_int))) (ra_cons (ro_val (re_callB fr_tuple (ra_cons ro_var ra_nil))) ra_nil)))) rg_nameW))) (rsx_seq (rsx_drop (ra_cons ro_var ra_nil)) (rsx_of (rs_ret re_copy))))))) (by decide) h
/-! _law_class -/
abbrev s__law_class : Stmt := topS 31
theorem sc__law_class : FnScope ["_law_e", "_law_kinds", "_law_words"] ["_law_e"] (defScope s__law_class) := ⟨rfl, rfl, rfl, by decide +kernel, rfl, by decide +kernel, by decide +kernel⟩
theorem ok__law_class (M : Mg mg) {C : Nat → Addr} (T : Kinds K mg C) {f : Addr} {fd : FuncData} (F : Fun K "_law_class" "_law_class" s__law_class f fd) : FnC P w K mg base 1 f fd ["_law_e"] (spCls K base) := by
  refine okC F sc__law_class spCls_len (fun cdv A outer s H vs Q E p hr h => ?_)
  refine ⟨_, (pss_cons (ps_set (i := 1) sc__law_class.nd rfl (.inl rfl) (pe_lst (pa_cons (pe_callB (r := rIsB K base) call_isB (by rfl) M.isinstance (by decide +kernel) (pa_cons (pv 0) (pa_cons (pe_glob (v := .ref (C 0)) (by rfl) (T.g 0 "BadTown" rfl) rfl) pa_nil))) (pa_cons (pe_callB (r := rIsB K base) call_isB (by rfl) M.isinstance (by decide +kernel) (pa_cons (pv 0) (pa_cons (pe_glob (v := .ref (C 1)) (by rfl) (T.g 1 "BadLetter" rfl) rfl) pa_nil))) (pa_cons (pe_callB (r := rIsB K base) call_isB (by rfl) M.isinstance (by decide +kernel) (pa_cons (pv 0) (pa_cons (pe_glob (v := .ref (C 2)) (by rfl) (T.g 2 "BadTime" rfl) rfl) pa_nil))) (pa_cons (pe_callB (r := rIsB K base) call_isB (by rfl) M.isinstance (by decide +kernel) (pa_cons (pv 0) (pa_cons (pe_glob (v := .ref (C 3)) (by rfl) (T.g 3 "BadPerson" rfl) rfl) pa_nil))) pa_nil)))))) (pss_cons (ps_set (i := 1) sc__law_class.nd rfl (.inl rfl) (pe_op (r := rPlus K) op_plus (pv 1) (pe_lst (pa_cons (pe_callB (r := rIsB K base) call_isB (by rfl) M.isinstance (by decide +kernel) (pa_cons (pv 0) (pa_cons (pe_glob (v := .ref (C 4)) (by rfl) (T.g 4 "BadKeep" rfl) rfl) pa_nil))) (pa_cons (pe_callB (r := rIsB K base) call_isB (by rfl) M.isinstance (by decide +kernel) (pa_cons (pv 0) (pa_cons (pe_glob (v := .ref (C 5)) (by rfl) (T.g 5 "BadText" rfl) rfl) pa_nil))) pa_nil))))) (pss_cons (ps_set (i := 2) sc__law_class.nd rfl (.inl rfl) (pe_lst (pa_cons pe_str (pa_cons pe_str (pa_cons pe_str (pa_cons pe_str (pa_cons pe_str (pa_cons pe_str pa_nil)))))))) (pss_one (ps_ret (pe_ifExp (PW.pt (pw_and (pt_cmpR (r := rEqD K) (op_eqD (huH hr)) (pe_bm (r := rCntB K) PySem.F.plainAttrs_list PySem.F.slot_list_count PySem.F.type_list_count mt_bcount (pv 1) (pa_cons pe_bl pa_nil)) pe_int (nomark _)) (pw_and1 (pt_val (pe_callB (r := rIsB K base) call_isB (by rfl) M.isinstance (by decide +kernel) (pa_cons (pv 0) (pa_cons (pe_bltn (v := .ty "ValueError") (by rfl) M.ValueError (by decide +kernel) rfl) pa_nil))))))) (pe_ix (r := rIx K) ix_seq (pv 2) (pe_bm (r := rIndexD K) PySem.F.plainAttrs_list PySem.F.slot_list_index PySem.F.type_list_index (mt_indexD (huH65 hr)) (pv 1) (pa_cons pe_bl pa_nil)) (fun _ _ => rfl)) pe_str)))))), ?_⟩
  exact body_kinds T h (fun v e => by subst e; rfl) (by obtain ⟨_, _, _, _, _, _, rfl, _⟩ := h; rfl)
/-! _law_told -/
abbrev s__law_told : Stmt := topS 40
theorem sc__law_told : FnScope ["_law_town_here", "_law_text", "_law_e", "_law_word"] ["_law_town_here", "_law_text"] (defScope s__law_told) := ⟨rfl, rfl, rfl, by decide +kernel, rfl, by decide +kernel, by decide +kernel⟩
theorem ok__law_told (M : Mg mg) {Cm CT CX : Addr} {C : Nat → Addr} (gM : mg "MailError" = some (.ref Cm)) (EA : ExcAll K Cm C) (hT : PySem.W.nsIn K mainGlobals "BadTown" = some (some (.ref CT))) (hX : PySem.W.nsIn K mainGlobals "BadText" = some (some (.ref CX))) (X_BadTown : XfC K CT) (X_BadText : XfC K CX) (h_word : PySem.W.findIn K (.ref CT) "word" = some none) (h_number : PySem.W.findIn K (.ref CT) "number" = some none) (h_row : PySem.W.findIn K (.ref CX) "row" = some none)
  (C_with_orders : CalleeX P w K mg base "with_orders" 4 ["town", "text"] (spX K 2 x_with_orders)) (C__law_class : CalleeC P w K mg "_law_class" 1 "_law_e" (spCls K)) {f : Addr} {fd : FuncData} (F : Fun K "_law_told" "_law_told" s__law_told f fd) : FnOk P w K mg base CX0 5 f fd ["_law_town_here", "_law_text"] (spP K 2 f__law_told) := by
  obtain ⟨fc, fdc, FC, mC, kC, bC⟩ := C__law_class
  refine F.ok sc__law_told spP_len (fun cdv A outer s H vs Q E hr h => ?_)
  have hu : (A.deeper (envOfC "_law_told" (defScope s__law_told) s.heap.objs.size f cdv)).units + 64 < cLine := hr.units
  refine ⟨_, (pss_one (ps_try_as (i := 2) rfl rfl sc__law_told.nd rfl rfl ⟨rfl, by decide, .inl gM⟩ takes0 (fun W pn xe tk _ => (pss_one (ps_ret (pe_callT C_with_orders tk hr (by decide) (by rfl) (pa_cons (pv 0) (pa_cons (pv 1) pa_nil)))))) (fun a oe cls d pn hz hf => by
    have hr0 : Room 1 (A.deeper (envOfC "_law_told" (defScope s__law_told) s.heap.objs.size f cdv)) := hr.mono (by decide)
    have hr' : L2H.RoomH 1 ((A.deeper (envOfC "_law_told" (defScope s__law_told) s.heap.objs.size f cdv)).mark (some (.ref a))) := ⟨hr0.dp, hr0.un⟩
    have hu' : ((A.deeper (envOfC "_law_told" (defScope s__law_told) s.heap.objs.size f cdv)).mark (some (.ref a))).units + 64 < cLine := hu
    exact (pss_cons (ps_set (i := 3) sc__law_told.nd rfl (.inl rfl) (pe_callF (X := (cxOf CX0 P w K mg base ["_law_town_here", "_law_text", "_law_e", "_law_word"] "_law_told" (defScope s__law_told) f cdv A outer s H E).nox) (a := a) (oe := oe) (pn := pn) (sp := spCls K) (n := "_law_e") FC hr' (by rfl) mC kC bC hz hf (pv 2)))
    (pss_cons (ps_if (pt_cmpR (r := rEqD K) (op_eqD hu') (pv 3) pe_str (nomark _)) (pss_one (ps_ret (pe_ifExp (pt_cmpR (r := rEqD K) (op_eqD hu') (pe_xf (X := (cxOf CX0 P w K mg base ["_law_town_here", "_law_text", "_law_e", "_law_word"] "_law_told" (defScope s__law_told) f cdv A outer s H E).nox) (a := a) (oe := oe) (pn := pn) X_BadTown h_word hz hf (pv 2)) pe_str (nomark _)) (pe_tup (pa_cons (pv 3) (pa_cons (pe_xf (X := (cxOf CX0 P w K mg base ["_law_town_here", "_law_text", "_law_e", "_law_word"] "_law_told" (defScope s__law_told) f cdv A outer s H E).nox) (a := a) (oe := oe) (pn := pn) X_BadTown h_number hz hf (pv 2)) pa_nil))) (pe_tup (pa_cons (pv 3) (pa_cons (pe_xf (X := (cxOf CX0 P w K mg base ["_law_town_here", "_law_text", "_law_e", "_law_word"] "_law_told" (defScope s__law_told) f cdv A outer s H E).nox) (a := a) (oe := oe) (pn := pn) X_BadTown h_word hz hf (pv 2)) pa_nil)))))) pss_nil)
    (pss_one (ps_ret (pe_tup (pa_cons (pv 3) (pa_cons (pe_ifExp (pt_cmpR (r := rEqD K) (op_eqD hu') (pv 3) pe_str (nomark _)) (pe_xf (X := (cxOf CX0 P w K mg base ["_law_town_here", "_law_text", "_law_e", "_law_word"] "_law_told" (defScope s__law_told) f cdv A outer s H E).nox) (a := a) (oe := oe) (pn := pn) X_BadText h_row hz hf (pv 2)) pe_int) pa_nil)))))))))), ?_⟩
  exact body_told13 rfl EA hT hX h
abbrev s_law : Stmt := topS 41
theorem sc_law : FnScope ["_law_script", "_law_box", "_law_town_here", "_law_turn", "_law_odd", "_law_text", "_law_deed", "_law_due_here"] ["_law_script"] (defScope s_law) := ⟨rfl, rfl, rfl, by decide +kernel, rfl, by decide +kernel, by decide +kernel⟩
def spLaw (K : PySem.W.Frag) : Sp := fun vs H Q _ => ∃ (a : Addr) (ns : List Int), vs = [.ref a] ∧ SqL K H a (ns.map V.int) ∧ ns.length ≤ 63 ∧ ∀ H', Q (.bl true) H'
theorem ok_law (hl : ∀ ns : List Int, ns.length ≤ 63 → f_law ns = some (.bool true)) (M : Mg mg)  (C__law_begun : Callee P w K mg base "_law_begun" 1 ["_law_script"] (spBegun K)) (C__law_town : Callee P w K mg base "_law_town" 3 ["_law_box"] (spB K 0 b__law_town)) (C__law_due : Callee P w K mg base "_law_due" 2 ["_law_town_here", "_law_text"] (spP K 2 f__law_due)) (C__law_take : Callee P w K mg base "_law_take" 1 ["_law_box", "_law_many"] (spB K 1 b__law_take)) (C__law_spoilt : Callee P w K mg base "_law_spoilt" 2 ["_law_box", "_law_text"] (spB K 1 b__law_spoilt)) (C_written : Callee P w K mg base "written" 4 ["town"] (spP K 1 f_written)) (C__law_alike : Callee P w K mg base "_law_alike" 9 ["_law_found", "_law_due_here"] (spP K 2 (f__law_alike 8))) (C__law_told : Callee P w K mg base "_law_told" 5 ["_law_town_here", "_law_text"] (spP K 2 f__law_told)) {f : Addr} {fd : FuncData} (F : Fun K "law" "law" s_law f fd) : FnOk P w K mg base CX0 10 f fd ["_law_script"] (spLaw K) := by
  refine F.ok sc_law (fun vs H Q E h => ?_) (fun cdv A outer s H vs Q E hr h => ?_)
  · obtain ⟨a, ns, rfl, _⟩ := h; rfl
  obtain ⟨a, ns, rfl, hS, hlen, q⟩ := h
  refine ⟨_, (pss_cons (ps_set (i := 1) sc_law.nd rfl (.inl rfl) (pe_callC C__law_begun hr (by decide) (by rfl) (pa_cons (pv 0) pa_nil))) (pss_cons (ps_set (i := 2) sc_law.nd rfl (.inl rfl) (pe_callC C__law_town hr (by decide) (by rfl) (pa_cons (pv 1) pa_nil))) (pss_cons (ps_for PassesOwn.never rfl (pi_range1 (by rfl) M.range (pa_cons pe_int pa_nil)) (pg_name (i := 3) sc_law.nd rfl (.inl rfl)) (pss_cons (ps_set (i := 4) sc_law.nd rfl (.inl rfl) (pe_lst (pa_cons pe_str (pa_cons pe_str (pa_cons pe_str (pa_cons pe_str (pa_cons pe_str (pa_cons pe_str (pa_cons pe_str (pa_cons pe_str pa_nil)))))))))) (pss_cons (ps_set (i := 5) sc_law.nd rfl (.inl rfl) (pe_ix (r := rIx K) ix_seq (pe_lst (pa_cons (pe_callC C_written hr (by decide) (by rfl) (pa_cons (pv 2) pa_nil)) (pa_cons (pe_callC C_written hr (by decide) (by rfl) (pa_cons (pv 2) pa_nil)) (pa_cons (pe_ix (r := rIx K) ix_seq (pv 4) (pe_callC C__law_take hr (by decide) (by rfl) (pa_cons (pv 1) (pa_cons pe_int pa_nil))) (fun _ _ => rfl)) pa_nil)))) (pe_callC C__law_take hr (by decide) (by rfl) (pa_cons (pv 1) (pa_cons pe_int pa_nil))) (fun _ _ => rfl))) (pss_cons (ps_for PassesOwn.never rfl (pi_range1 (by rfl) M.range (pa_cons (pe_callC C__law_take hr (by decide) (by rfl) (pa_cons (pv 1) (pa_cons pe_int pa_nil))) pa_nil)) (pg_name (i := 6) sc_law.nd rfl (.inl rfl)) (pss_one (ps_set (i := 5) sc_law.nd rfl (.inl rfl) (pe_callC C__law_spoilt hr (by decide) (by rfl) (pa_cons (pv 1) (pa_cons (pv 5) pa_nil)))))) (pss_cons (ps_set (i := 7) sc_law.nd rfl (.inl rfl) (pe_callC C__law_due hr (by decide) (by rfl) (pa_cons (pv 2) (pa_cons (pv 5) pa_nil)))) (pss_one (ps_if (PW.pt (pw_or (pt_not (pt_val (pe_callC C__law_alike hr (by decide) (by rfl) (pa_cons (pe_callC C__law_told hr (by decide) (by rfl) (pa_cons (pv 2) (pa_cons (pv 5) pa_nil))) (pa_cons (pv 7) pa_nil))))) (pw_or1 (pt_not (pt_val (pe_callC C__law_alike hr (by decide) (by rfl) (pa_cons (pe_callC C__law_told hr (by decide) (by rfl) (pa_cons (pv 2) (pa_cons (pv 5) pa_nil))) (pa_cons (pv 7) pa_nil)))))))) (pss_one (ps_ret pe_bl)) pss_nil))))))) (pss_one (ps_ret pe_bl))))), ?_⟩
  refine ⟨.ref a, rfl, a, ns, rfl, hS, hlen, fun v H1 fv sm ow nw => ?_⟩
  exact body_L (m := m_law) (n := 8) (rs_seq (rs_asg (re_callBor ra_nil) rg_nameW) (rs_seq (rs_kill (is := [1, 2, 3]) (rs_for (ri_rng1 (ra_cons (ro_val re_int) ra_nil)) rg_nameW (rs_seq (rs_kill (is := [3]) (rs_asg (re_lst (ra_cons (ro_val re_str) (ra_cons (ro_val re_str) (ra_cons (ro_val re_str) (ra_cons (ro_val re_str) (ra_cons (ro_val re_str) (ra_cons (ro_val re_str) (ra_cons (ro_val re_str) (ra_cons (ro_val re_str) ra_nil))))))))) rg_nameW)) (rs_seq (rs_kill (is := [4]) (rs_asg (re_op2 fr_ix (ro_val (re_lst (ra_cons (ro_val (re_call (ra_cons ro_var ra_nil))) (ra_cons (ro_val (re_call (ra_cons ro_var ra_nil))) (ra_cons (ro_val (re_op2 fr_ix ro_var (ro_val (re_callBor (ra_cons (ro_val re_int) ra_nil))))) ra_nil))))) (ro_val (re_callBor (ra_cons (ro_val re_int) ra_nil)))) rg_nameW)) (rs_seq (rs_kill (is := [6]) (rs_for (ri_rng1 (ra_cons (ro_val (re_callBor (ra_cons (ro_val re_int) ra_nil))) ra_nil)) rg_nameW (rs_kill (is := [6]) (rs_asg (re_callBor (ra_cons ro_var ra_nil)) rg_nameW)))) (rs_seq (rs_asg (re_call (ra_cons ro_var (ra_cons ro_var ra_nil))) rg_nameW) (rs_kill (is := [5, 7]) (rs_if (rt_or (rt_not (rt_tB (re_call (ra_cons (ro_val (re_call (ra_cons ro_var (ra_cons ro_var ra_nil)))) (ra_cons ro_var ra_nil))))) (rt_not (rt_tB (re_call (ra_cons (ro_val (re_call (ra_cons ro_var (ra_cons ro_var ra_nil)))) (ra_cons ro_var ra_nil)))))) (rs_ret re_bl) rs_nil)))))))) (rs_ret re_bl))) ow (hl ns hlen) fun H' => q H'
end
theorem all_mk (hl : ∀ ns : List Int, ns.length ≤ 63 → f_law ns = some (.bool true)) {l : PySem.W.OpenLaw} {w : World} {K : PySem.W.Frag} {h : Heap} {mg : Str → Option Value} {fa : Addr} (X : K.In h) (G : h.Ns mainGlobals mg) (hfa : mg "law" = some (.ref fa))
    {f0 : Addr} {od0 an0 : Option Addr} {sl0 : Array (Option Value)} {oc0 kV0 dc0 pm0 cd0 ct0 : Value} (a0 : PySem.W.nsIn K mainGlobals "_law_begun" = some (some (.ref f0))) (l0 : K.lookup f0 = some ⟨oc0, od0, .func (PySem.W.fnOf "_law_begun" "_law_begun" (defArgs s__law_begun) (defBody s__law_begun) (defScope s__law_begun) .none kV0 dc0 pm0 an0 cd0 ct0), sl0⟩) (c0 : PySem.W.codeIn K cd0 "_law_begun" = true) (k0 : PySem.W.keepIn K (.ref f0) = true)
    {f1 : Addr} {od1 an1 : Option Addr} {sl1 : Array (Option Value)} {oc1 kV1 dc1 pm1 cd1 ct1 : Value} (a1 : PySem.W.nsIn K mainGlobals "_law_take" = some (some (.ref f1))) (l1 : K.lookup f1 = some ⟨oc1, od1, .func (PySem.W.fnOf "_law_take" "_law_take" (defArgs s__law_take) (defBody s__law_take) (defScope s__law_take) .none kV1 dc1 pm1 an1 cd1 ct1), sl1⟩) (c1 : PySem.W.codeIn K cd1 "_law_take" = true) (k1 : PySem.W.keepIn K (.ref f1) = true)
    {f2 : Addr} {od2 an2 : Option Addr} {sl2 : Array (Option Value)} {oc2 kV2 dc2 pm2 cd2 ct2 : Value} (a2 : PySem.W.nsIn K mainGlobals "_law_days" = some (some (.ref f2))) (l2 : K.lookup f2 = some ⟨oc2, od2, .func (PySem.W.fnOf "_law_days" "_law_days" (defArgs s__law_days) (defBody s__law_days) (defScope s__law_days) .none kV2 dc2 pm2 an2 cd2 ct2), sl2⟩) (c2 : PySem.W.codeIn K cd2 "_law_days" = true) (k2 : PySem.W.keepIn K (.ref f2) = true)
    {f3 : Addr} {od3 an3 : Option Addr} {sl3 : Array (Option Value)} {oc3 kV3 dc3 pm3 cd3 ct3 : Value} (a3 : PySem.W.nsIn K mainGlobals "_law_homes" = some (some (.ref f3))) (l3 : K.lookup f3 = some ⟨oc3, od3, .func (PySem.W.fnOf "_law_homes" "_law_homes" (defArgs s__law_homes) (defBody s__law_homes) (defScope s__law_homes) .none kV3 dc3 pm3 an3 cd3 ct3), sl3⟩) (c3 : PySem.W.codeIn K cd3 "_law_homes" = true) (k3 : PySem.W.keepIn K (.ref f3) = true)
    {f4 : Addr} {od4 an4 : Option Addr} {sl4 : Array (Option Value)} {oc4 kV4 dc4 pm4 cd4 ct4 : Value} (a4 : PySem.W.nsIn K mainGlobals "_law_order" = some (some (.ref f4))) (l4 : K.lookup f4 = some ⟨oc4, od4, .func (PySem.W.fnOf "_law_order" "_law_order" (defArgs s__law_order) (defBody s__law_order) (defScope s__law_order) .none kV4 dc4 pm4 an4 cd4 ct4), sl4⟩) (c4 : PySem.W.codeIn K cd4 "_law_order" = true) (k4 : PySem.W.keepIn K (.ref f4) = true)
    {f5 : Addr} {od5 an5 : Option Addr} {sl5 : Array (Option Value)} {oc5 kV5 dc5 pm5 cd5 ct5 : Value} (a5 : PySem.W.nsIn K mainGlobals "_law_town" = some (some (.ref f5))) (l5 : K.lookup f5 = some ⟨oc5, od5, .func (PySem.W.fnOf "_law_town" "_law_town" (defArgs s__law_town) (defBody s__law_town) (defScope s__law_town) .none kV5 dc5 pm5 an5 cd5 ct5), sl5⟩) (c5 : PySem.W.codeIn K cd5 "_law_town" = true) (k5 : PySem.W.keepIn K (.ref f5) = true)
    {f6 : Addr} {od6 an6 : Option Addr} {sl6 : Array (Option Value)} {oc6 kV6 dc6 pm6 cd6 ct6 : Value} (a6 : PySem.W.nsIn K mainGlobals "_law_row" = some (some (.ref f6))) (l6 : K.lookup f6 = some ⟨oc6, od6, .func (PySem.W.fnOf "_law_row" "_law_row" (defArgs s__law_row) (defBody s__law_row) (defScope s__law_row) .none kV6 dc6 pm6 an6 cd6 ct6), sl6⟩) (c6 : PySem.W.codeIn K cd6 "_law_row" = true) (k6 : PySem.W.keepIn K (.ref f6) = true)
    {f7 : Addr} {od7 an7 : Option Addr} {sl7 : Array (Option Value)} {oc7 kV7 dc7 pm7 cd7 ct7 : Value} (a7 : PySem.W.nsIn K mainGlobals "_law_due" = some (some (.ref f7))) (l7 : K.lookup f7 = some ⟨oc7, od7, .func (PySem.W.fnOf "_law_due" "_law_due" (defArgs s__law_due) (defBody s__law_due) (defScope s__law_due) .none kV7 dc7 pm7 an7 cd7 ct7), sl7⟩) (c7 : PySem.W.codeIn K cd7 "_law_due" = true) (k7 : PySem.W.keepIn K (.ref f7) = true)
    {f8 : Addr} {od8 an8 : Option Addr} {sl8 : Array (Option Value)} {oc8 kV8 dc8 pm8 cd8 ct8 : Value} (a8 : PySem.W.nsIn K mainGlobals "_law_spoilt" = some (some (.ref f8))) (l8 : K.lookup f8 = some ⟨oc8, od8, .func (PySem.W.fnOf "_law_spoilt" "_law_spoilt" (defArgs s__law_spoilt) (defBody s__law_spoilt) (defScope s__law_spoilt) .none kV8 dc8 pm8 an8 cd8 ct8), sl8⟩) (c8 : PySem.W.codeIn K cd8 "_law_spoilt" = true) (k8 : PySem.W.keepIn K (.ref f8) = true)
    {f9 : Addr} {od9 an9 : Option Addr} {sl9 : Array (Option Value)} {oc9 kV9 dc9 pm9 cd9 ct9 : Value} (a9 : PySem.W.nsIn K mainGlobals "is_from" = some (some (.ref f9))) (l9 : K.lookup f9 = some ⟨oc9, od9, .func (PySem.W.fnOf "is_from" "is_from" (defArgs s_is_from) (defBody s_is_from) (defScope s_is_from) .none kV9 dc9 pm9 an9 cd9 ct9), sl9⟩) (c9 : PySem.W.codeIn K cd9 "is_from" = true) (k9 : PySem.W.keepIn K (.ref f9) = true)
    {f10 : Addr} {od10 an10 : Option Addr} {sl10 : Array (Option Value)} {oc10 kV10 dc10 pm10 cd10 ct10 : Value} (a10 : PySem.W.nsIn K mainGlobals "is_road" = some (some (.ref f10))) (l10 : K.lookup f10 = some ⟨oc10, od10, .func (PySem.W.fnOf "is_road" "is_road" (defArgs s_is_road) (defBody s_is_road) (defScope s_is_road) .none kV10 dc10 pm10 an10 cd10 ct10), sl10⟩) (c10 : PySem.W.codeIn K cd10 "is_road" = true) (k10 : PySem.W.keepIn K (.ref f10) = true)
    {f11 : Addr} {od11 an11 : Option Addr} {sl11 : Array (Option Value)} {oc11 kV11 dc11 pm11 cd11 ct11 : Value} (a11 : PySem.W.nsIn K mainGlobals "are_homes" = some (some (.ref f11))) (l11 : K.lookup f11 = some ⟨oc11, od11, .func (PySem.W.fnOf "are_homes" "are_homes" (defArgs s_are_homes) (defBody s_are_homes) (defScope s_are_homes) .none kV11 dc11 pm11 an11 cd11 ct11), sl11⟩) (c11 : PySem.W.codeIn K cd11 "are_homes" = true) (k11 : PySem.W.keepIn K (.ref f11) = true)
    {f12 : Addr} {od12 an12 : Option Addr} {sl12 : Array (Option Value)} {oc12 kV12 dc12 pm12 cd12 ct12 : Value} (a12 : PySem.W.nsIn K mainGlobals "is_order" = some (some (.ref f12))) (l12 : K.lookup f12 = some ⟨oc12, od12, .func (PySem.W.fnOf "is_order" "is_order" (defArgs s_is_order) (defBody s_is_order) (defScope s_is_order) .none kV12 dc12 pm12 an12 cd12 ct12), sl12⟩) (c12 : PySem.W.codeIn K cd12 "is_order" = true) (k12 : PySem.W.keepIn K (.ref f12) = true)
    {f13 : Addr} {od13 an13 : Option Addr} {sl13 : Array (Option Value)} {oc13 kV13 dc13 pm13 cd13 ct13 : Value} (a13 : PySem.W.nsIn K mainGlobals "need_town" = some (some (.ref f13))) (l13 : K.lookup f13 = some ⟨oc13, od13, .func (PySem.W.fnOf "need_town" "need_town" (defArgs s_need_town) (defBody s_need_town) (defScope s_need_town) .none kV13 dc13 pm13 an13 cd13 ct13), sl13⟩) (c13 : PySem.W.codeIn K cd13 "need_town" = true) (k13 : PySem.W.keepIn K (.ref f13) = true)
    {f14 : Addr} {od14 an14 : Option Addr} {sl14 : Array (Option Value)} {oc14 kV14 dc14 pm14 cd14 ct14 : Value} (a14 : PySem.W.nsIn K mainGlobals "written" = some (some (.ref f14))) (l14 : K.lookup f14 = some ⟨oc14, od14, .func (PySem.W.fnOf "written" "written" (defArgs s_written) (defBody s_written) (defScope s_written) .none kV14 dc14 pm14 an14 cd14 ct14), sl14⟩) (c14 : PySem.W.codeIn K cd14 "written" = true) (k14 : PySem.W.keepIn K (.ref f14) = true)
    {f15 : Addr} {od15 an15 : Option Addr} {sl15 : Array (Option Value)} {oc15 kV15 dc15 pm15 cd15 ct15 : Value} (a15 : PySem.W.nsIn K mainGlobals "_law_alike" = some (some (.ref f15))) (l15 : K.lookup f15 = some ⟨oc15, od15, .func (PySem.W.fnOf "_law_alike" "_law_alike" (defArgs s__law_alike) (defBody s__law_alike) (defScope s__law_alike) .none kV15 dc15 pm15 an15 cd15 ct15), sl15⟩) (c15 : PySem.W.codeIn K cd15 "_law_alike" = true) (k15 : PySem.W.keepIn K (.ref f15) = true)
    {f16 : Addr} {od16 an16 : Option Addr} {sl16 : Array (Option Value)} {oc16 kV16 dc16 pm16 cd16 ct16 : Value} (a16 : PySem.W.nsIn K mainGlobals "number_of" = some (some (.ref f16))) (l16 : K.lookup f16 = some ⟨oc16, od16, .func (PySem.W.fnOf "number_of" "number_of" (defArgs s_number_of) (defBody s_number_of) (defScope s_number_of) .none kV16 dc16 pm16 an16 cd16 ct16), sl16⟩) (c16 : PySem.W.codeIn K cd16 "number_of" = true) (k16 : PySem.W.keepIn K (.ref f16) = true)
    {f17 : Addr} {od17 an17 : Option Addr} {sl17 : Array (Option Value)} {oc17 kV17 dc17 pm17 cd17 ct17 : Value} (a17 : PySem.W.nsIn K mainGlobals "with_orders" = some (some (.ref f17))) (l17 : K.lookup f17 = some ⟨oc17, od17, .func (PySem.W.fnOf "with_orders" "with_orders" (defArgs s_with_orders) (defBody s_with_orders) (defScope s_with_orders) .none kV17 dc17 pm17 an17 cd17 ct17), sl17⟩) (c17 : PySem.W.codeIn K cd17 "with_orders" = true) (k17 : PySem.W.keepIn K (.ref f17) = true)
    {f18 : Addr} {od18 an18 : Option Addr} {sl18 : Array (Option Value)} {oc18 kV18 dc18 pm18 cd18 ct18 : Value} (a18 : PySem.W.nsIn K mainGlobals "_law_class" = some (some (.ref f18))) (l18 : K.lookup f18 = some ⟨oc18, od18, .func (PySem.W.fnOf "_law_class" "_law_class" (defArgs s__law_class) (defBody s__law_class) (defScope s__law_class) .none kV18 dc18 pm18 an18 cd18 ct18), sl18⟩) (c18 : PySem.W.codeIn K cd18 "_law_class" = true) (k18 : PySem.W.keepIn K (.ref f18) = true)
    {f19 : Addr} {od19 an19 : Option Addr} {sl19 : Array (Option Value)} {oc19 kV19 dc19 pm19 cd19 ct19 : Value} (a19 : PySem.W.nsIn K mainGlobals "_law_told" = some (some (.ref f19))) (l19 : K.lookup f19 = some ⟨oc19, od19, .func (PySem.W.fnOf "_law_told" "_law_told" (defArgs s__law_told) (defBody s__law_told) (defScope s__law_told) .none kV19 dc19 pm19 an19 cd19 ct19), sl19⟩) (c19 : PySem.W.codeIn K cd19 "_law_told" = true) (k19 : PySem.W.keepIn K (.ref f19) = true)
    {f20 : Addr} {od20 an20 : Option Addr} {sl20 : Array (Option Value)} {oc20 kV20 dc20 pm20 cd20 ct20 : Value} (a20 : PySem.W.nsIn K mainGlobals "law" = some (some (.ref f20))) (l20 : K.lookup f20 = some ⟨oc20, od20, .func (PySem.W.fnOf "law" "law" (defArgs s_law) (defBody s_law) (defScope s_law) .none kV20 dc20 pm20 an20 cd20 ct20), sl20⟩) (c20 : PySem.W.codeIn K cd20 "law" = true) (k20 : PySem.W.keepIn K (.ref f20) = true)
    {t_FIGURES : Tok} (z_FIGURES : PySem.W.nsIn K mainGlobals "FIGURES" = some (some (.str "0123456789" t_FIGURES)))
    {t_MOST_DAYS : Tok} (z_MOST_DAYS : PySem.W.nsIn K mainGlobals "MOST_DAYS" = some (some (.int 9 t_MOST_DAYS)))
    {t_MOST_FIGURES : Tok} (z_MOST_FIGURES : PySem.W.nsIn K mainGlobals "MOST_FIGURES" = some (some (.int 4 t_MOST_FIGURES)))
    {t_MOST_HOMES : Tok} (z_MOST_HOMES : PySem.W.nsIn K mainGlobals "MOST_HOMES" = some (some (.int 8 t_MOST_HOMES)))
    {t_MOST_OFFICES : Tok} (z_MOST_OFFICES : PySem.W.nsIn K mainGlobals "MOST_OFFICES" = some (some (.int 6 t_MOST_OFFICES)))
    {t_MOST_ORDERS : Tok} (z_MOST_ORDERS : PySem.W.nsIn K mainGlobals "MOST_ORDERS" = some (some (.int 20 t_MOST_ORDERS)))
    {t_MOST_PEOPLE : Tok} (z_MOST_PEOPLE : PySem.W.nsIn K mainGlobals "MOST_PEOPLE" = some (some (.int 6 t_MOST_PEOPLE)))
    {t_MOST_TIME : Tok} (z_MOST_TIME : PySem.W.nsIn K mainGlobals "MOST_TIME" = some (some (.int 1000 t_MOST_TIME)))
    {t_PARTS : Tok} (z_PARTS : PySem.W.nsIn K mainGlobals "PARTS" = some (some (.int 6 t_PARTS)))
    (z_ValueError : PySem.W.nsIn K mainGlobals "ValueError" = some none)
    (z_bool : PySem.W.nsIn K mainGlobals "bool" = some none)
    (z_enumerate : PySem.W.nsIn K mainGlobals "enumerate" = some none)
    (z_int : PySem.W.nsIn K mainGlobals "int" = some none)
    (z_isinstance : PySem.W.nsIn K mainGlobals "isinstance" = some none)
    (z_len : PySem.W.nsIn K mainGlobals "len" = some none)
    (z_list : PySem.W.nsIn K mainGlobals "list" = some none)
    (z_max : PySem.W.nsIn K mainGlobals "max" = some none)
    (z_min : PySem.W.nsIn K mainGlobals "min" = some none)
    (z_range : PySem.W.nsIn K mainGlobals "range" = some none)
    (z_str : PySem.W.nsIn K mainGlobals "str" = some none)
    (z_tuple : PySem.W.nsIn K mainGlobals "tuple" = some none)
    {C_MailError : Addr} (z_MailError : PySem.W.nsIn K mainGlobals "MailError" = some (some (.ref C_MailError))) (rd_MailError : PySem.W.readsIn K C_MailError (.type "type") = true) (sp_MailError : PySem.W.specialIn K (.ref C_MailError) "__getattribute__" = some (some (.builtin "type.__getattribute__"))) (vV_MailError : PySem.W.findCls K (.ref C_MailError) (.type "type") "__init__" = some (.val (.builtin "ValueError.__init__"))) (oc_get : PySem.W.specialIn K (.builtin "object.__class__") "__get__" = some (some (.builtin "getset_descriptor.__get__"))) (oc_tk : PySem.W.takesIn K (.builtin "object.__class__") = some true)
    {C_BadTown : Addr} {C_BadLetter : Addr} {C_BadTime : Addr} {C_BadPerson : Addr} {C_BadKeep : Addr} {C_BadText : Addr}
    (z_BadTown : PySem.W.nsIn K mainGlobals "BadTown" = some (some (.ref C_BadTown))) (kv_BadTown : PySem.W.kitOne K (.ref C_BadTown) (.type "ValueError") = some true) (ga_BadTown : PySem.W.findIn K (.ref C_BadTown) "__getattribute__" = some (some (.builtin "BaseException.__getattribute__"))) (gg_BadTown : PySem.W.findIn K (.ref C_BadTown) "__getattr__" = some none) (sb_BadTown : PySem.W.subIn K (.ref C_BadTown) (.type "BaseException") = some true) (hd_BadTown : PySem.W.hasDictIn K C_BadTown = true) (ca_BadTown : PySem.W.findIn K (.ref C_BadTown) "__class__" = some (some (.builtin "object.__class__"))) (mo_BadTown : PySem.W.mroIn K C_BadTown (.type "object") = some true) (ex_BadTown : PySem.W.exmOne K (.ref C_BadTown) (.ref C_MailError) = some true) (ty_BadTown : PySem.W.typeIn K (.ref C_BadTown) = some (.type "type")) (kp_BadTown : PySem.W.keepIn K (.ref C_BadTown) = true) (kk_BadTown_BadTown : PySem.W.kitOne K (.ref C_BadTown) (.ref C_BadTown) = some true) (kk_BadTown_BadLetter : PySem.W.kitOne K (.ref C_BadTown) (.ref C_BadLetter) = some false) (kk_BadTown_BadTime : PySem.W.kitOne K (.ref C_BadTown) (.ref C_BadTime) = some false) (kk_BadTown_BadPerson : PySem.W.kitOne K (.ref C_BadTown) (.ref C_BadPerson) = some false) (kk_BadTown_BadKeep : PySem.W.kitOne K (.ref C_BadTown) (.ref C_BadKeep) = some false) (kk_BadTown_BadText : PySem.W.kitOne K (.ref C_BadTown) (.ref C_BadText) = some false)
    {nm_BadTown q_BadTown : Str} {N_BadTown : Addr} {bs_BadTown : List Value} {sn_BadTown : List Str} {sub_BadTown : List Value} {ab_BadTown : Bool} {col_BadTown : Option Bool} {dd_BadTown : Option Addr} {m0_BadTown m1_BadTown m2_BadTown m3_BadTown m5_BadTown : Option Value} (xc_BadTown : K.lookup C_BadTown = some (excClassObj nm_BadTown q_BadTown C_BadTown N_BadTown bs_BadTown [.ref C_MailError, .type "ValueError", .type "Exception", .type "BaseException", .type "object"] true sn_BadTown sub_BadTown ab_BadTown col_BadTown dd_BadTown m0_BadTown m1_BadTown m2_BadTown m3_BadTown m5_BadTown "ValueError.__new__")) (sa_BadTown : PySem.W.findIn K (.ref C_BadTown) "__setattr__" = some (some (.builtin "object.__setattr__"))) (fw_BadTown_word : PySem.W.findIn K (.ref C_BadTown) "word" = some none) (fw_BadTown_number : PySem.W.findIn K (.ref C_BadTown) "number" = some none)
    {fi_BadTown : Addr} {od_BadTown an_BadTown : Option Addr} {sl_BadTown : Array (Option Value)} {oc_BadTown kV_BadTown dc_BadTown pm_BadTown cd_BadTown ct_BadTown : Value} (ai_BadTown : PySem.W.findIn K (.ref C_BadTown) "__init__" = some (some (.ref fi_BadTown))) (ti_BadTown : PySem.W.typeIn K (.ref fi_BadTown) = some (.type "function")) (li_BadTown : K.lookup fi_BadTown = some ⟨oc_BadTown, od_BadTown, .func (PySem.W.fnOf "__init__" "BadTown.__init__" (defArgs s_BadTown___init__) (defBody s_BadTown___init__) (defScope s_BadTown___init__) .none kV_BadTown dc_BadTown pm_BadTown an_BadTown cd_BadTown ct_BadTown), sl_BadTown⟩) (ci_BadTown : PySem.W.codeIn K cd_BadTown "BadTown.__init__" = true) (ki_BadTown : PySem.W.keepIn K (.ref fi_BadTown) = true)
    (z_BadLetter : PySem.W.nsIn K mainGlobals "BadLetter" = some (some (.ref C_BadLetter))) (kv_BadLetter : PySem.W.kitOne K (.ref C_BadLetter) (.type "ValueError") = some true) (ga_BadLetter : PySem.W.findIn K (.ref C_BadLetter) "__getattribute__" = some (some (.builtin "BaseException.__getattribute__"))) (gg_BadLetter : PySem.W.findIn K (.ref C_BadLetter) "__getattr__" = some none) (sb_BadLetter : PySem.W.subIn K (.ref C_BadLetter) (.type "BaseException") = some true) (hd_BadLetter : PySem.W.hasDictIn K C_BadLetter = true) (ca_BadLetter : PySem.W.findIn K (.ref C_BadLetter) "__class__" = some (some (.builtin "object.__class__"))) (mo_BadLetter : PySem.W.mroIn K C_BadLetter (.type "object") = some true) (ex_BadLetter : PySem.W.exmOne K (.ref C_BadLetter) (.ref C_MailError) = some true) (ty_BadLetter : PySem.W.typeIn K (.ref C_BadLetter) = some (.type "type")) (kp_BadLetter : PySem.W.keepIn K (.ref C_BadLetter) = true) (kk_BadLetter_BadTown : PySem.W.kitOne K (.ref C_BadLetter) (.ref C_BadTown) = some false) (kk_BadLetter_BadLetter : PySem.W.kitOne K (.ref C_BadLetter) (.ref C_BadLetter) = some true) (kk_BadLetter_BadTime : PySem.W.kitOne K (.ref C_BadLetter) (.ref C_BadTime) = some false) (kk_BadLetter_BadPerson : PySem.W.kitOne K (.ref C_BadLetter) (.ref C_BadPerson) = some false) (kk_BadLetter_BadKeep : PySem.W.kitOne K (.ref C_BadLetter) (.ref C_BadKeep) = some false) (kk_BadLetter_BadText : PySem.W.kitOne K (.ref C_BadLetter) (.ref C_BadText) = some false)
    (z_BadTime : PySem.W.nsIn K mainGlobals "BadTime" = some (some (.ref C_BadTime))) (kv_BadTime : PySem.W.kitOne K (.ref C_BadTime) (.type "ValueError") = some true) (ga_BadTime : PySem.W.findIn K (.ref C_BadTime) "__getattribute__" = some (some (.builtin "BaseException.__getattribute__"))) (gg_BadTime : PySem.W.findIn K (.ref C_BadTime) "__getattr__" = some none) (sb_BadTime : PySem.W.subIn K (.ref C_BadTime) (.type "BaseException") = some true) (hd_BadTime : PySem.W.hasDictIn K C_BadTime = true) (ca_BadTime : PySem.W.findIn K (.ref C_BadTime) "__class__" = some (some (.builtin "object.__class__"))) (mo_BadTime : PySem.W.mroIn K C_BadTime (.type "object") = some true) (ex_BadTime : PySem.W.exmOne K (.ref C_BadTime) (.ref C_MailError) = some true) (ty_BadTime : PySem.W.typeIn K (.ref C_BadTime) = some (.type "type")) (kp_BadTime : PySem.W.keepIn K (.ref C_BadTime) = true) (kk_BadTime_BadTown : PySem.W.kitOne K (.ref C_BadTime) (.ref C_BadTown) = some false) (kk_BadTime_BadLetter : PySem.W.kitOne K (.ref C_BadTime) (.ref C_BadLetter) = some false) (kk_BadTime_BadTime : PySem.W.kitOne K (.ref C_BadTime) (.ref C_BadTime) = some true) (kk_BadTime_BadPerson : PySem.W.kitOne K (.ref C_BadTime) (.ref C_BadPerson) = some false) (kk_BadTime_BadKeep : PySem.W.kitOne K (.ref C_BadTime) (.ref C_BadKeep) = some false) (kk_BadTime_BadText : PySem.W.kitOne K (.ref C_BadTime) (.ref C_BadText) = some false)
    (z_BadPerson : PySem.W.nsIn K mainGlobals "BadPerson" = some (some (.ref C_BadPerson))) (kv_BadPerson : PySem.W.kitOne K (.ref C_BadPerson) (.type "ValueError") = some true) (ga_BadPerson : PySem.W.findIn K (.ref C_BadPerson) "__getattribute__" = some (some (.builtin "BaseException.__getattribute__"))) (gg_BadPerson : PySem.W.findIn K (.ref C_BadPerson) "__getattr__" = some none) (sb_BadPerson : PySem.W.subIn K (.ref C_BadPerson) (.type "BaseException") = some true) (hd_BadPerson : PySem.W.hasDictIn K C_BadPerson = true) (ca_BadPerson : PySem.W.findIn K (.ref C_BadPerson) "__class__" = some (some (.builtin "object.__class__"))) (mo_BadPerson : PySem.W.mroIn K C_BadPerson (.type "object") = some true) (ex_BadPerson : PySem.W.exmOne K (.ref C_BadPerson) (.ref C_MailError) = some true) (ty_BadPerson : PySem.W.typeIn K (.ref C_BadPerson) = some (.type "type")) (kp_BadPerson : PySem.W.keepIn K (.ref C_BadPerson) = true) (kk_BadPerson_BadTown : PySem.W.kitOne K (.ref C_BadPerson) (.ref C_BadTown) = some false) (kk_BadPerson_BadLetter : PySem.W.kitOne K (.ref C_BadPerson) (.ref C_BadLetter) = some false) (kk_BadPerson_BadTime : PySem.W.kitOne K (.ref C_BadPerson) (.ref C_BadTime) = some false) (kk_BadPerson_BadPerson : PySem.W.kitOne K (.ref C_BadPerson) (.ref C_BadPerson) = some true) (kk_BadPerson_BadKeep : PySem.W.kitOne K (.ref C_BadPerson) (.ref C_BadKeep) = some false) (kk_BadPerson_BadText : PySem.W.kitOne K (.ref C_BadPerson) (.ref C_BadText) = some false)
    (z_BadKeep : PySem.W.nsIn K mainGlobals "BadKeep" = some (some (.ref C_BadKeep))) (kv_BadKeep : PySem.W.kitOne K (.ref C_BadKeep) (.type "ValueError") = some true) (ga_BadKeep : PySem.W.findIn K (.ref C_BadKeep) "__getattribute__" = some (some (.builtin "BaseException.__getattribute__"))) (gg_BadKeep : PySem.W.findIn K (.ref C_BadKeep) "__getattr__" = some none) (sb_BadKeep : PySem.W.subIn K (.ref C_BadKeep) (.type "BaseException") = some true) (hd_BadKeep : PySem.W.hasDictIn K C_BadKeep = true) (ca_BadKeep : PySem.W.findIn K (.ref C_BadKeep) "__class__" = some (some (.builtin "object.__class__"))) (mo_BadKeep : PySem.W.mroIn K C_BadKeep (.type "object") = some true) (ex_BadKeep : PySem.W.exmOne K (.ref C_BadKeep) (.ref C_MailError) = some true) (ty_BadKeep : PySem.W.typeIn K (.ref C_BadKeep) = some (.type "type")) (kp_BadKeep : PySem.W.keepIn K (.ref C_BadKeep) = true) (kk_BadKeep_BadTown : PySem.W.kitOne K (.ref C_BadKeep) (.ref C_BadTown) = some false) (kk_BadKeep_BadLetter : PySem.W.kitOne K (.ref C_BadKeep) (.ref C_BadLetter) = some false) (kk_BadKeep_BadTime : PySem.W.kitOne K (.ref C_BadKeep) (.ref C_BadTime) = some false) (kk_BadKeep_BadPerson : PySem.W.kitOne K (.ref C_BadKeep) (.ref C_BadPerson) = some false) (kk_BadKeep_BadKeep : PySem.W.kitOne K (.ref C_BadKeep) (.ref C_BadKeep) = some true) (kk_BadKeep_BadText : PySem.W.kitOne K (.ref C_BadKeep) (.ref C_BadText) = some false)
    (z_BadText : PySem.W.nsIn K mainGlobals "BadText" = some (some (.ref C_BadText))) (kv_BadText : PySem.W.kitOne K (.ref C_BadText) (.type "ValueError") = some true) (ga_BadText : PySem.W.findIn K (.ref C_BadText) "__getattribute__" = some (some (.builtin "BaseException.__getattribute__"))) (gg_BadText : PySem.W.findIn K (.ref C_BadText) "__getattr__" = some none) (sb_BadText : PySem.W.subIn K (.ref C_BadText) (.type "BaseException") = some true) (hd_BadText : PySem.W.hasDictIn K C_BadText = true) (ca_BadText : PySem.W.findIn K (.ref C_BadText) "__class__" = some (some (.builtin "object.__class__"))) (mo_BadText : PySem.W.mroIn K C_BadText (.type "object") = some true) (ex_BadText : PySem.W.exmOne K (.ref C_BadText) (.ref C_MailError) = some true) (ty_BadText : PySem.W.typeIn K (.ref C_BadText) = some (.type "type")) (kp_BadText : PySem.W.keepIn K (.ref C_BadText) = true) (kk_BadText_BadTown : PySem.W.kitOne K (.ref C_BadText) (.ref C_BadTown) = some false) (kk_BadText_BadLetter : PySem.W.kitOne K (.ref C_BadText) (.ref C_BadLetter) = some false) (kk_BadText_BadTime : PySem.W.kitOne K (.ref C_BadText) (.ref C_BadTime) = some false) (kk_BadText_BadPerson : PySem.W.kitOne K (.ref C_BadText) (.ref C_BadPerson) = some false) (kk_BadText_BadKeep : PySem.W.kitOne K (.ref C_BadText) (.ref C_BadKeep) = some false) (kk_BadText_BadText : PySem.W.kitOne K (.ref C_BadText) (.ref C_BadText) = some true)
    {nm_BadText q_BadText : Str} {N_BadText : Addr} {bs_BadText : List Value} {sn_BadText : List Str} {sub_BadText : List Value} {ab_BadText : Bool} {col_BadText : Option Bool} {dd_BadText : Option Addr} {m0_BadText m1_BadText m2_BadText m3_BadText m5_BadText : Option Value} (xc_BadText : K.lookup C_BadText = some (excClassObj nm_BadText q_BadText C_BadText N_BadText bs_BadText [.ref C_MailError, .type "ValueError", .type "Exception", .type "BaseException", .type "object"] true sn_BadText sub_BadText ab_BadText col_BadText dd_BadText m0_BadText m1_BadText m2_BadText m3_BadText m5_BadText "ValueError.__new__")) (sa_BadText : PySem.W.findIn K (.ref C_BadText) "__setattr__" = some (some (.builtin "object.__setattr__"))) (fw_BadText_row : PySem.W.findIn K (.ref C_BadText) "row" = some none)
    {fi_BadText : Addr} {od_BadText an_BadText : Option Addr} {sl_BadText : Array (Option Value)} {oc_BadText kV_BadText dc_BadText pm_BadText cd_BadText ct_BadText : Value} (ai_BadText : PySem.W.findIn K (.ref C_BadText) "__init__" = some (some (.ref fi_BadText))) (ti_BadText : PySem.W.typeIn K (.ref fi_BadText) = some (.type "function")) (li_BadText : K.lookup fi_BadText = some ⟨oc_BadText, od_BadText, .func (PySem.W.fnOf "__init__" "BadText.__init__" (defArgs s_BadText___init__) (defBody s_BadText___init__) (defScope s_BadText___init__) .none kV_BadText dc_BadText pm_BadText an_BadText cd_BadText ct_BadText), sl_BadText⟩) (ci_BadText : PySem.W.codeIn K cd_BadText "BadText.__init__" = true) (ki_BadText : PySem.W.keepIn K (.ref fi_BadText) = true) :
    ∃ fd : FuncData, (∀ (s : Shared) (v : Value), BindsTo s fd ⟨[v], []⟩ [("_law_script", v)]) ∧ ∀ base : Heap, K.In base → base.Ns mainGlobals mg → FnOk l.prog w K mg base CX0 10 fa fd ["_law_script"] (spLaw K) := by
  have e := hfa.symm.trans (PySem.W.mg_of X G a20)
  cases e
  have M : Mg mg := ⟨⟨_, PySem.W.mg_of X G z_FIGURES⟩, ⟨_, PySem.W.mg_of X G z_MOST_DAYS⟩, ⟨_, PySem.W.mg_of X G z_MOST_FIGURES⟩, ⟨_, PySem.W.mg_of X G z_MOST_HOMES⟩, ⟨_, PySem.W.mg_of X G z_MOST_OFFICES⟩, ⟨_, PySem.W.mg_of X G z_MOST_ORDERS⟩, ⟨_, PySem.W.mg_of X G z_MOST_PEOPLE⟩, ⟨_, PySem.W.mg_of X G z_MOST_TIME⟩, ⟨_, PySem.W.mg_of X G z_PARTS⟩, PySem.W.mg_none_of X G z_ValueError, PySem.W.mg_none_of X G z_bool, PySem.W.mg_none_of X G z_enumerate, PySem.W.mg_none_of X G z_int, PySem.W.mg_none_of X G z_isinstance, PySem.W.mg_none_of X G z_len, PySem.W.mg_none_of X G z_list, PySem.W.mg_none_of X G z_max, PySem.W.mg_none_of X G z_min, PySem.W.mg_none_of X G z_range, PySem.W.mg_none_of X G z_str, PySem.W.mg_none_of X G z_tuple⟩
  have F0 := fun_mk (st := s__law_begun) l0 c0 k0
  have b0 := F0.binds (ps := ["_law_script"]) fun _ _ _ _ _ _ us hl => match us, hl with | [_], _ => rfl
  have F1 := fun_mk (st := s__law_take) l1 c1 k1
  have b1 := F1.binds (ps := ["_law_box", "_law_many"]) fun _ _ _ _ _ _ us hl => match us, hl with | [_, _], _ => rfl
  have F2 := fun_mk (st := s__law_days) l2 c2 k2
  have b2 := F2.binds (ps := ["_law_box", "_law_many"]) fun _ _ _ _ _ _ us hl => match us, hl with | [_, _], _ => rfl
  have F3 := fun_mk (st := s__law_homes) l3 c3 k3
  have b3 := F3.binds (ps := ["_law_box", "_law_many", "_law_most"]) fun _ _ _ _ _ _ us hl => match us, hl with | [_, _, _], _ => rfl
  have F4 := fun_mk (st := s__law_order) l4 c4 k4
  have b4 := F4.binds (ps := ["_law_box", "_law_many", "_law_people", "_law_homes_here"]) fun _ _ _ _ _ _ us hl => match us, hl with | [_, _, _, _], _ => rfl
  have F5 := fun_mk (st := s__law_town) l5 c5 k5
  have b5 := F5.binds (ps := ["_law_box"]) fun _ _ _ _ _ _ us hl => match us, hl with | [_], _ => rfl
  have F6 := fun_mk (st := s__law_row) l6 c6 k6
  have b6 := F6.binds (ps := ["_law_row_here"]) fun _ _ _ _ _ _ us hl => match us, hl with | [_], _ => rfl
  have F7 := fun_mk (st := s__law_due) l7 c7 k7
  have b7 := F7.binds (ps := ["_law_town_here", "_law_text"]) fun _ _ _ _ _ _ us hl => match us, hl with | [_, _], _ => rfl
  have F8 := fun_mk (st := s__law_spoilt) l8 c8 k8
  have b8 := F8.binds (ps := ["_law_box", "_law_text"]) fun _ _ _ _ _ _ us hl => match us, hl with | [_, _], _ => rfl
  have F9 := fun_mk (st := s_is_from) l9 c9 k9
  have b9 := F9.binds (ps := ["number", "least", "most"]) fun _ _ _ _ _ _ us hl => match us, hl with | [_, _, _], _ => rfl
  have F10 := fun_mk (st := s_is_road) l10 c10 k10
  have b10 := F10.binds (ps := ["days", "office"]) fun _ _ _ _ _ _ us hl => match us, hl with | [_, _], _ => rfl
  have F11 := fun_mk (st := s_are_homes) l11 c11 k11
  have b11 := F11.binds (ps := ["days", "homes"]) fun _ _ _ _ _ _ us hl => match us, hl with | [_, _], _ => rfl
  have F12 := fun_mk (st := s_is_order) l12 c12 k12
  have b12 := F12.binds (ps := ["days", "people", "order"]) fun _ _ _ _ _ _ us hl => match us, hl with | [_, _, _], _ => rfl
  have F13 := fun_mk (st := s_need_town) l13 c13 k13
  have b13 := F13.binds (ps := ["town"]) fun _ _ _ _ _ _ us hl => match us, hl with | [_], _ => rfl
  have F14 := fun_mk (st := s_written) l14 c14 k14
  have b14 := F14.binds (ps := ["town"]) fun _ _ _ _ _ _ us hl => match us, hl with | [_], _ => rfl
  have F15 := fun_mk (st := s__law_alike) l15 c15 k15
  have b15 := F15.binds (ps := ["_law_found", "_law_due_here"]) fun _ _ _ _ _ _ us hl => match us, hl with | [_, _], _ => rfl
  have F16 := fun_mk (st := s_number_of) l16 c16 k16
  have b16 := F16.binds (ps := ["word"]) fun _ _ _ _ _ _ us hl => match us, hl with | [_], _ => rfl
  have F17 := fun_mk (st := s_with_orders) l17 c17 k17
  have b17 := F17.binds (ps := ["town", "text"]) fun _ _ _ _ _ _ us hl => match us, hl with | [_, _], _ => rfl
  have F18 := fun_mk (st := s__law_class) l18 c18 k18
  have b18 := F18.binds (ps := ["_law_e"]) fun _ _ _ _ _ _ us hl => match us, hl with | [_], _ => rfl
  have F19 := fun_mk (st := s__law_told) l19 c19 k19
  have b19 := F19.binds (ps := ["_law_town_here", "_law_text"]) fun _ _ _ _ _ _ us hl => match us, hl with | [_, _], _ => rfl
  have F20 := fun_mk (st := s_law) l20 c20 k20
  have Fi_BadTown := fun_mk (st := s_BadTown___init__) li_BadTown ci_BadTown ki_BadTown
  have bi_BadTown := Fi_BadTown.binds (ps := ["self", "word", "number"]) fun _ _ _ _ _ _ us hl => match us, hl with | [_, _, _], _ => rfl
  have T_BadTown : OexC K C_BadTown := ⟨⟨_, _, _, _, _, _, _, _, _, _, _, _, _, _, _, xc_BadTown, by first | rfl | decide +kernel | simp [PySem.HandSPX.refsVE]⟩, sa_BadTown, sb_BadTown, ty_BadTown, kp_BadTown⟩
  have XF_BadTown : XfC K C_BadTown := ⟨ga_BadTown, gg_BadTown, sb_BadTown, hd_BadTown⟩
  have Fi_BadText := fun_mk (st := s_BadText___init__) li_BadText ci_BadText ki_BadText
  have bi_BadText := Fi_BadText.binds (ps := ["self", "row"]) fun _ _ _ _ _ _ us hl => match us, hl with | [_, _], _ => rfl
  have T_BadText : OexC K C_BadText := ⟨⟨_, _, _, _, _, _, _, _, _, _, _, _, _, _, _, xc_BadText, by first | rfl | decide +kernel | simp [PySem.HandSPX.refsVE]⟩, sa_BadText, sb_BadText, ty_BadText, kp_BadText⟩
  have XF_BadText : XfC K C_BadText := ⟨ga_BadText, gg_BadText, sb_BadText, hd_BadText⟩
  have KD : Kinds K mg (six C_BadTown C_BadLetter C_BadTime C_BadPerson C_BadKeep C_BadText) := by
    refine ⟨fun i nm h => ?_, fun i nm h => ?_, fun i j hi hj => ?_, fun i hi => ?_⟩
    · rcases i with _ | _ | _ | _ | _ | _ | i <;> cases h
      · exact PySem.W.mg_of X G z_BadTown
      · exact PySem.W.mg_of X G z_BadLetter
      · exact PySem.W.mg_of X G z_BadTime
      · exact PySem.W.mg_of X G z_BadPerson
      · exact PySem.W.mg_of X G z_BadKeep
      · exact PySem.W.mg_of X G z_BadText
    · rcases i with _ | _ | _ | _ | _ | _ | i <;> cases h <;> assumption
    · rcases i with _ | _ | _ | _ | _ | _ | i <;> first | omega | (rcases j with _ | _ | _ | _ | _ | _ | j <;> first | omega | assumption)
    · rcases i with _ | _ | _ | _ | _ | _ | i <;> first | omega | assumption
  have AD : ExcAll K C_MailError (six C_BadTown C_BadLetter C_BadTime C_BadPerson C_BadKeep C_BadText) := by
    refine ⟨KD.n, fun i hi => ?_, fun i hi => ?_⟩
    · rcases i with _ | _ | _ | _ | _ | _ | i <;> first | omega | assumption
    · rcases i with _ | _ | _ | _ | _ | _ | i
      · exact ⟨ga_BadTown, gg_BadTown, sb_BadTown, hd_BadTown, ca_BadTown, oc_get, oc_tk, mo_BadTown⟩
      · exact ⟨ga_BadLetter, gg_BadLetter, sb_BadLetter, hd_BadLetter, ca_BadLetter, oc_get, oc_tk, mo_BadLetter⟩
      · exact ⟨ga_BadTime, gg_BadTime, sb_BadTime, hd_BadTime, ca_BadTime, oc_get, oc_tk, mo_BadTime⟩
      · exact ⟨ga_BadPerson, gg_BadPerson, sb_BadPerson, hd_BadPerson, ca_BadPerson, oc_get, oc_tk, mo_BadPerson⟩
      · exact ⟨ga_BadKeep, gg_BadKeep, sb_BadKeep, hd_BadKeep, ca_BadKeep, oc_get, oc_tk, mo_BadKeep⟩
      · exact ⟨ga_BadText, gg_BadText, sb_BadText, hd_BadText, ca_BadText, oc_get, oc_tk, mo_BadText⟩
      · omega
  refine ⟨PySem.W.fnOf "law" "law" (defArgs s_law) (defBody s_law) (defScope s_law) .none kV20 dc20 pm20 an20 cd20 ct20, fun s v => .of_eq rfl, fun base _ _ => ?_⟩
  have E_BadTown : ExcIn l.prog w K mg base "BadTown" C_BadTown 1 ["self", "word", "number"] ["word", "number"] := ⟨⟨fi_BadTown, _, ok_BadTown___init__ (PySem.W.mg_of X G z_MailError) ⟨rd_MailError, sp_MailError⟩ vV_MailError fw_BadTown_word fw_BadTown_number Fi_BadTown, bi_BadTown, ai_BadTown, ti_BadTown⟩, T_BadTown, PySem.W.mg_of X G z_BadTown, z_BadTown⟩
  have E_BadText : ExcIn l.prog w K mg base "BadText" C_BadText 1 ["self", "row"] ["row"] := ⟨⟨fi_BadText, _, ok_BadText___init__ (PySem.W.mg_of X G z_MailError) ⟨rd_MailError, sp_MailError⟩ vV_MailError fw_BadText_row Fi_BadText, bi_BadText, ai_BadText, ti_BadText⟩, T_BadText, PySem.W.mg_of X G z_BadText, z_BadText⟩
  have C__law_begun : Callee l.prog w K mg base "_law_begun" 1 ["_law_script"] (spBegun K) := ⟨f0, _, ok__law_begun M  F0, PySem.W.mg_of X G a0, F0.kp, b0⟩
  have C__law_take : Callee l.prog w K mg base "_law_take" 1 ["_law_box", "_law_many"] (spB K 1 b__law_take) := ⟨f1, _, ok__law_take  F1, PySem.W.mg_of X G a1, F1.kp, b1⟩
  have C__law_days : Callee l.prog w K mg base "_law_days" 2 ["_law_box", "_law_many"] (spB K 1 b__law_days) := ⟨f2, _, ok__law_days M   C__law_take F2, PySem.W.mg_of X G a2, F2.kp, b2⟩
  have C__law_homes : Callee l.prog w K mg base "_law_homes" 2 ["_law_box", "_law_many", "_law_most"] (spB K 2 b__law_homes) := ⟨f3, _, ok__law_homes M   C__law_take F3, PySem.W.mg_of X G a3, F3.kp, b3⟩
  have C__law_order : Callee l.prog w K mg base "_law_order" 2 ["_law_box", "_law_many", "_law_people", "_law_homes_here"] (spB K 3 b__law_order) := ⟨f4, _, ok__law_order M   C__law_take F4, PySem.W.mg_of X G a4, F4.kp, b4⟩
  have C__law_town : Callee l.prog w K mg base "_law_town" 3 ["_law_box"] (spB K 0 b__law_town) := ⟨f5, _, ok__law_town M   C__law_days C__law_take C__law_homes C__law_order F5, PySem.W.mg_of X G a5, F5.kp, b5⟩
  have C__law_row : Callee l.prog w K mg base "_law_row" 1 ["_law_row_here"] (spP K 1 f__law_row) := ⟨f6, _, ok__law_row M    F6, PySem.W.mg_of X G a6, F6.kp, b6⟩
  have C__law_due : Callee l.prog w K mg base "_law_due" 2 ["_law_town_here", "_law_text"] (spP K 2 f__law_due) := ⟨f7, _, ok__law_due M   C__law_row F7, PySem.W.mg_of X G a7, F7.kp, b7⟩
  have C__law_spoilt : Callee l.prog w K mg base "_law_spoilt" 2 ["_law_box", "_law_text"] (spB K 1 b__law_spoilt) := ⟨f8, _, ok__law_spoilt M   C__law_take F8, PySem.W.mg_of X G a8, F8.kp, b8⟩
  have C_is_from : Callee l.prog w K mg base "is_from" 1 ["number", "least", "most"] (spP K 3 f_is_from) := ⟨f9, _, ok_is_from M    F9, PySem.W.mg_of X G a9, F9.kp, b9⟩
  have C_is_road : Callee l.prog w K mg base "is_road" 2 ["days", "office"] (spP K 2 f_is_road) := ⟨f10, _, ok_is_road M   C_is_from F10, PySem.W.mg_of X G a10, F10.kp, b10⟩
  have C_are_homes : Callee l.prog w K mg base "are_homes" 2 ["days", "homes"] (spP K 2 f_are_homes) := ⟨f11, _, ok_are_homes M   C_is_from F11, PySem.W.mg_of X G a11, F11.kp, b11⟩
  have C_is_order : Callee l.prog w K mg base "is_order" 2 ["days", "people", "order"] (spP K 3 f_is_order) := ⟨f12, _, ok_is_order M   C_is_from F12, PySem.W.mg_of X G a12, F12.kp, b12⟩
  have C_need_town : CalleeX l.prog w K mg base "need_town" 3 ["town"] (spX K 1 x_need_town) := ⟨f13, _, ok_need_town M  E_BadTown C_is_road C_are_homes C_is_order F13, PySem.W.mg_of X G a13, F13.kp, b13⟩
  have C_written : Callee l.prog w K mg base "written" 4 ["town"] (spP K 1 f_written) := ⟨f14, _, ok_written M   C_need_town F14, PySem.W.mg_of X G a14, F14.kp, b14⟩
  have C__law_alike : Callee l.prog w K mg base "_law_alike" 9 ["_law_found", "_law_due_here"] (spP K 2 (f__law_alike 8)) := ⟨f15, _, ok__law_alike M    F15 (PySem.W.mg_of X G a15) b15 8, PySem.W.mg_of X G a15, F15.kp, b15⟩
  have C_number_of : Callee l.prog w K mg base "number_of" 1 ["word"] (spP K 1 f_number_of) := ⟨f16, _, ok_number_of M    F16, PySem.W.mg_of X G a16, F16.kp, b16⟩
  have C_with_orders : CalleeX l.prog w K mg base "with_orders" 4 ["town", "text"] (spX K 2 x_with_orders) := ⟨f17, _, ok_with_orders M  E_BadText C_need_town C_number_of F17, PySem.W.mg_of X G a17, F17.kp, b17⟩
  have C__law_class : CalleeC l.prog w K mg "_law_class" 1 "_law_e" (spCls K) := ⟨f18, _, fun B _ => ok__law_class M  KD  F18, PySem.W.mg_of X G a18, F18.kp, b18⟩
  have C__law_told : Callee l.prog w K mg base "_law_told" 5 ["_law_town_here", "_law_text"] (spP K 2 f__law_told) := ⟨f19, _, ok__law_told M  (PySem.W.mg_of X G z_MailError) AD z_BadTown z_BadText XF_BadTown XF_BadText fw_BadTown_word fw_BadTown_number fw_BadText_row C_with_orders C__law_class F19, PySem.W.mg_of X G a19, F19.kp, b19⟩
  exact ok_law hl M  C__law_begun C__law_town C__law_due C__law_take C__law_spoilt C_written C__law_alike C__law_told F20
local macro_rules | `(tactic| walk_at "ev") => `(tactic| simp only [mCallV, mOp2V, mOp1V, mView, vVar, vC, vIx, vCons, vNil, vNeg, mTupT, mLstT, mSlO, opdsT, mDef, mDefB, envP, envB, outP, outB, sNil, sSeq, sAsg, sIf, sKill, sRet, sRetN, sDrop, sPar, sFor, sApp, sStore, Out.kills, Env.kills, mC, mCopy, mMove, mOp1, mOp2, mCall, mCallB, mFn, mTup, mLst, mIf, mAndV, mOrV, mNotV, mChain, mChain3, mLc, mSl, mIsi, mPop, okArg, nix_n, List.all_cons, List.all_nil,
  aNil, aCons, oVar, oVal, Opd.look, looks, opdV, opdsV, opInt, tBool, tAndM, tOrM, tNotM, tTrue, bName, bNameW, bTup, bsNil, bsCons, mIt, mRng1, mRng2, mEnumT, mZip, pNo, pInt,
  Env.look, Env.set, Env.ix, Dl.Env.own, Env.put, theL, imm, immA, isLst, List.length_cons, List.length_nil, List.map_cons, List.map_nil, List.cons_append, List.nil_append, List.replicate, List.getElem?_cons_zero, List.getElem?_cons_succ, List.set_cons_zero, List.set_cons_succ, ob, Option.bind_none, Option.bind_assoc,
  Nat.reduceAdd, Nat.reduceSub, Nat.reduceLT, Nat.reduceLeDiff, if_true, if_false, reduceCtorEq, Bool.and_true, Bool.true_and, Bool.and_self, dAdd_int, dSub_int, dMul_int, dMod_int, dDiv_int, dLt_int, dLe_int, dGt_int, dGe_int, dNeg_int, cInt_int, cInt_bool, cMax_ii, cMin_ii, dIsN_n, dNotN_n, cLen_lst, isN_n, isN_b, isN_i, isN_s, isN_l, isN_t, dEq_int, dNe_int, beq_iff_eq, Nat.zero_lt_succ, ite_andV, ite_orV, ite_andB, ite_orB, decide_eq_true_eq, Bool.decide_eq_true, Bool.true_or, Bool.false_eq_true, true_and, and_true])
local macro_rules | `(tactic| walk_at "evo") => `(tactic| simp (disch := omega) only [if_pos, rngD_len, mCallV, mOp2V, mOp1V, mView, vVar, vC, vIx, vCons, vNil, vNeg, mTupT, mLstT, mSlO, opdsT, mDef, mDefB, envP, envB, outP, outB, sNil, sSeq, sAsg, sIf, sKill, sRet, sRetN, sDrop, sPar, sFor, sApp, sStore, Out.kills, Env.kills, mC, mCopy, mMove, mOp1, mOp2, mCall, mCallB, mFn, mTup, mLst, mIf, mAndV, mOrV, mNotV, mChain, mChain3, mLc, mSl, mIsi, mPop, okArg, nix_n, List.all_cons, List.all_nil,
  aNil, aCons, oVar, oVal, Opd.look, looks, opdV, opdsV, opInt, tBool, tAndM, tOrM, tNotM, tTrue, bName, bNameW, bTup, bsNil, bsCons, mIt, mRng1, mRng2, mEnumT, mZip, pNo, pInt,
  Env.look, Env.set, Env.ix, Dl.Env.own, Env.put, theL, imm, immA, isLst, List.length_cons, List.length_nil, List.map_cons, List.map_nil, List.cons_append, List.nil_append, List.replicate, List.getElem?_cons_zero, List.getElem?_cons_succ, List.set_cons_zero, List.set_cons_succ, ob, Option.bind_none, Option.bind_assoc,
  Nat.reduceAdd, Nat.reduceSub, Nat.reduceLT, Nat.reduceLeDiff, if_true, if_false, reduceCtorEq, Bool.and_true, Bool.true_and, Bool.and_self, dAdd_int, dSub_int, dMul_int, dMod_int, dDiv_int, dLt_int, dLe_int, dGt_int, dGe_int, dNeg_int, cInt_int, cInt_bool, cMax_ii, cMin_ii, dIsN_n, dNotN_n, cLen_lst, isN_n, isN_b, isN_i, isN_s, isN_l, isN_t, dEq_int, dNe_int, beq_iff_eq, Nat.zero_lt_succ, ite_andV, ite_orV, ite_andB, ite_orB, decide_eq_true_eq, Bool.decide_eq_true, Bool.true_or, Bool.false_eq_true, true_and, and_true])

theorem is_from_ok (a l m : Int) : f_is_from [.int a, .int l, .int m] = some (.bool (decide (l ≤ a) && decide (a ≤ m))) := by
  simp only [f_is_from, m_is_from]
  walk_at "ev"

/-! ### the box -/
def IsBox (b : PyData) : Prop := ∃ ns z, b = boxD ns z
theorem Ev.take {β : Type} {b : PyData} {m : Int} {f : PyData × PyData → Option β} {Q : β → Prop} (hb : IsBox b) (h0 : 0 < m) (h1 : m < 1073741824) (k : ∀ r b', IsBox b' → 0 ≤ r → r < m → Ev (f (.int r, b')) Q) : Ev ((b__law_take b [.int m]).bind f) Q := by
  obtain ⟨ns, z, rfl⟩ := hb
  unfold b__law_take boxD
  simp only [numsOf_map, ob]
  rw [if_pos ⟨h0, h1⟩]
  simp only [ob]
  refine k _ _ ⟨_, _, rfl⟩ ?_ ?_
  · unfold drawn
    split
    · exact Int.emod_nonneg _ (by omega)
    · exact Int.emod_nonneg _ (by omega)
  · unfold drawn
    split
    · exact Int.emod_lt_of_pos _ h0
    · exact Int.emod_lt_of_pos _ h0
/-- a list of draws, by a comprehension -/
theorem Ev.lcDraw {α : Type} {b : PyData → Dl.Env → Option Dl.Env} {vs : List Nat} {me : ME} {Q : List PyData × Dl.Env → Prop} (enc : α → PyData) (st : PyData → Dl.Env) (P : Nat → α → Prop) (ds : List PyData) (bx : PyData) (hb : IsBox bx)
    (hs : ∀ (i : Nat) (d : PyData) (bx : PyData), ds[i]? = some d → IsBox bx → Ev ((b d (st bx)).bind me) (fun q => ∃ x b', IsBox b' ∧ P i x ∧ q.1 = enc x ∧ q.2.kills vs = st b'))
    (hd : ∀ (xs : List α) (b' : PyData), IsBox b' → xs.length = ds.length → (∀ (i : Nat) (x : α), xs[i]? = some x → P i x) → Q (xs.map enc, st b')) : Ev (Dl.lcL b vs tTrue me ds (st bx)) Q := by
  refine Ev.lcL ds (fun i acc e => ∃ (xs : List α) (b' : PyData), IsBox b' ∧ xs.length = i ∧ (∀ (i : Nat) (x : α), xs[i]? = some x → P i x) ∧ acc = xs.map enc ∧ e = st b') [] _ ⟨[], bx, hb, rfl, fun i x h => by simp at h, rfl, rfl⟩ ?_ ?_
  · rintro i d acc e hi ⟨xs, b', hb', hl, hx, rfl, rfl⟩
    obtain ⟨⟨c, e2⟩, h1, x, b2, hb2, hp, h2, h3⟩ := hs i d b' hi hb'
    obtain ⟨e1, h4, h5⟩ := Option.bind_eq_some_iff.mp h1
    refine ⟨(true, e1), by rw [h4]; rfl, fun _ => ⟨(c, e2), h5, xs ++ [x], b2, hb2, by simp [hl], fun j y hy => ?_, ?_, h3⟩, fun z => by cases z⟩
    · rw [List.getElem?_append] at hy
      split at hy
      · exact hx j y hy
      · have hj : j = i := by
          have := (List.getElem?_eq_some_iff.mp hy).1
          simp at this
          omega
        subst hj
        simp [hl] at hy
        subst hy
        exact hp
    · have h2' : c = enc x := h2
      simp [h2']
  · rintro out e ⟨xs, b', hb', hl, hx, ho, rfl⟩
    rw [List.nil_append] at ho
    subst ho
    exact hd xs b' hb' hl hx
/-- .. by a loop -/
theorem Ev.forDraw {α : Type} {b : PyData → Dl.Env → Option Dl.Env} {body : MS} {Q : Out → Prop} (st : PyData → List α → Dl.Env) (P : Nat → List α → α → Prop) (ds : List PyData) (bx : PyData) (hb : IsBox bx)
    (hs : ∀ (i : Nat) (d : PyData) (bx : PyData) (xs : List α), ds[i]? = some d → IsBox bx → xs.length = i → (∀ (i : Nat) (x : α), xs[i]? = some x → P i (xs.take i) x) → Ev ((b d (st bx xs)).bind body) (fun o => ∃ x b', IsBox b' ∧ P i xs x ∧ o = .nx (st b' (xs ++ [x]))))
    (hd : ∀ (xs : List α) (b' : PyData), IsBox b' → xs.length = ds.length → (∀ (i : Nat) (x : α), xs[i]? = some x → P i (xs.take i) x) → Q (.nx (st b' xs))) : Ev (Dl.forL b body ds (st bx [])) Q := by
  refine Ev.forL ds (fun i e => ∃ (xs : List α) (b' : PyData), IsBox b' ∧ xs.length = i ∧ (∀ (i : Nat) (x : α), xs[i]? = some x → P i (xs.take i) x) ∧ e = st b' xs) _ ⟨[], bx, hb, rfl, fun i x h => by simp at h, rfl⟩ ?_ ?_
  · rintro i d e hi ⟨xs, b', hb', hl, hx, rfl⟩
    refine (hs i d b' xs hi hb' hl hx).mono ?_
    rintro o ⟨x, b2, hb2, hp, rfl⟩
    refine ⟨xs ++ [x], b2, hb2, by simp [hl], fun j y hy => ?_, rfl⟩
    rw [List.getElem?_append] at hy
    split at hy
    · rw [List.take_append_of_le_length (by omega)]
      exact hx j y hy
    · have hj : j = i := by
        have := (List.getElem?_eq_some_iff.mp hy).1
        simp at this
        omega
      subst hj
      simp [hl] at hy
      subst hy
      rw [show j = xs.length from hl.symm, List.take_left]
      rw [hl]
      exact hp
  · rintro e ⟨xs, b', hb', hl, hx, rfl⟩
    exact hd xs b' hb' hl hx

/-! ### towns -/
def eRow (r : List Int) : PyData := .tuple (r.map .int)
def eDays (ds : List (List Int)) : PyData := .tuple (ds.map eRow)
theorem imm_ints (r : List Int) : immA (r.map .int) = true := by
  induction r with
  | nil => simp [immA]
  | cons a r ih => simp [immA, imm, ih]
theorem immA_map {α : Type} {f : α → PyData} (h : ∀ x, imm (f x) = true) (xs : List α) : immA (xs.map f) = true := by
  induction xs with
  | nil => simp [immA]
  | cons a r ih => simp [immA, h, ih]
theorem imm_eRow (r : List Int) : imm (eRow r) = true := by simp [eRow, imm, imm_ints]
theorem imm_eDays (ds : List (List Int)) : imm (eDays ds) = true := by simp [eDays, imm, immA_map imm_eRow]
/-- n rows of n: 0 to itself, else 1 to 9 -/
def GoodDays (n : Nat) (ds : List (List Int)) : Prop := ds.length = n ∧ ∀ (i : Nat) (r : List Int), ds[i]? = some r → r.length = n ∧ ∀ (j : Nat) (x : Int), r[j]? = some x → (i = j → x = 0) ∧ (i ≠ j → 1 ≤ x ∧ x ≤ 9)
abbrev Home := Int × Int
structure Ord where
  of : Int
  pe : Int
  go : Int
  be : Int
  en : Int
structure Town where
  days : List (List Int)
  homes : List (List Home)
  orders : List Ord
def eHome (h : Home) : PyData := .tuple [.int h.1, .int h.2]
def eHomes (hs : List Home) : PyData := .tuple (hs.map eHome)
def ePeople (ps : List (List Home)) : PyData := .tuple (ps.map eHomes)
def eOrd (o : Ord) : PyData := .tuple [.int o.of, .int o.pe, .int o.go, .int o.be, .int o.en]
def eOrds (os : List Ord) : PyData := .tuple (os.map eOrd)
def eTown (t : Town) : PyData := .tuple [eDays t.days, ePeople t.homes, eOrds t.orders]
theorem imm_eHome (h : Home) : imm (eHome h) = true := by simp [eHome, imm, immA]
theorem imm_eHomes (hs : List Home) : imm (eHomes hs) = true := by simp [eHomes, imm, immA_map imm_eHome]
theorem imm_ePeople (ps : List (List Home)) : imm (ePeople ps) = true := by simp [ePeople, imm, immA_map imm_eHomes]
theorem imm_eOrd (o : Ord) : imm (eOrd o) = true := by simp [eOrd, imm, immA]
theorem imm_eOrds (os : List Ord) : imm (eOrds os) = true := by simp [eOrds, imm, immA_map imm_eOrd]
theorem imm_eTown (t : Town) : imm (eTown t) = true := by simp [eTown, imm, immA, imm_eDays, imm_ePeople, imm_eOrds]
structure GoodHomes (n : Int) (hs : List Home) : Prop where
  pos : 0 < hs.length
  few : hs.length ≤ 8
  zero : ∀ x : Home, hs[0]? = some x → x.1 = 0
  off : ∀ (i : Nat) (x : Home), hs[i]? = some x → 0 ≤ x.2 ∧ x.2 < n
  next : ∀ (i : Nat) (x y : Home), hs[i]? = some x → hs[i + 1]? = some y → x.1 < y.1 ∧ y.1 ≤ 1000 ∧ x.2 ≠ y.2
/-- as they are drawn -/
structure GoodHomes140 (n : Int) (hs : List Home) : Prop where
  pos : 0 < hs.length
  few : hs.length ≤ 8
  zero : ∀ x : Home, hs[0]? = some x → x.1 = 0
  off : ∀ (i : Nat) (x : Home), hs[i]? = some x → 0 ≤ x.2 ∧ x.2 < n
  next : ∀ (i : Nat) (x y : Home), hs[i]? = some x → hs[i + 1]? = some y → x.1 < y.1 ∧ y.1 ≤ x.1 + 140 ∧ x.2 ≠ y.2
theorem GoodHomes140.time {n : Int} {hs : List Home} (g : GoodHomes140 n hs) : ∀ (i : Nat) (x : Home), hs[i]? = some x → 0 ≤ x.1 ∧ x.1 ≤ 140 * i
  | 0, x, h => by have := g.zero x h; omega
  | i + 1, x, h => by
    have hi : i < hs.length := by have := (List.getElem?_eq_some_iff.mp h).1; omega
    have h1 : hs[i]? = some hs[i] := List.getElem?_eq_getElem hi
    have := g.time i _ h1
    have := g.next i _ x h1 h
    omega
theorem GoodHomes140.good {n : Int} {hs : List Home} (g : GoodHomes140 n hs) : GoodHomes n hs := by
  refine ⟨g.pos, g.few, g.zero, g.off, fun i x y hx hy => ?_⟩
  have h1 := g.next i x y hx hy
  have h2 := g.time (i + 1) y hy
  have h3 := (List.getElem?_eq_some_iff.mp hy).1
  have h4 := g.few
  exact ⟨h1.1, by omega, h1.2.2⟩
structure GoodOrd (n p : Int) (o : Ord) : Prop where
  of : 0 ≤ o.of ∧ o.of < n
  pe : 0 ≤ o.pe ∧ o.pe < p
  go : 0 ≤ o.go ∧ o.go < n
  ne : o.of ≠ o.go
  be : 0 ≤ o.be
  en : o.be < o.en ∧ o.en ≤ 2000
structure GoodTown (t : Town) : Prop where
  pos : 1 ≤ t.days.length
  few : t.days.length ≤ 6
  days : GoodDays t.days.length t.days
  pos2 : 1 ≤ t.homes.length
  few2 : t.homes.length ≤ 6
  homes : ∀ h ∈ t.homes, GoodHomes t.days.length h
  few3 : t.orders.length ≤ 20
  orders : ∀ o ∈ t.orders, GoodOrd t.days.length t.homes.length o
theorem GoodHomes.time {n : Int} {hs : List Home} (g : GoodHomes n hs) : ∀ (i : Nat) (x : Home), hs[i]? = some x → 0 ≤ x.1 ∧ x.1 ≤ 1000
  | 0, x, h => by have := g.zero x h; omega
  | i + 1, x, h => by
    have hi : i < hs.length := by have := (List.getElem?_eq_some_iff.mp h).1; omega
    have h1 : hs[i]? = some hs[i] := List.getElem?_eq_getElem hi
    have := g.time i _ h1
    have := g.next i _ x h1 h
    omega
theorem GoodHomes.time_le {n : Int} {hs : List Home} (g : GoodHomes n hs) {x : Home} (h : x ∈ hs) : 0 ≤ x.1 ∧ x.1 ≤ 1000 := by
  obtain ⟨i, hi⟩ := List.getElem?_of_mem h
  exact g.time i x hi
/-! ### items of what is encoded -/
theorem atI_map {α : Type} {xs : List α} (f : α → PyData) (i : Int) : atI (xs.map f) i = (atI xs i).map f := by
  unfold atI
  rw [List.length_map]
  cases ixN xs.length i with
  | none => rfl
  | some j => simp
theorem dIx_tup {α : Type} {xs : List α} {f : α → PyData} (hf : ∀ x, imm (f x) = true) {i : Int} {x : α} (h : atI xs i = some x) : dIx (.tuple (xs.map f)) (.int i) = some (f x) := by
  simp [dIx, atI_map, h, hf]
theorem dIx_lst {α : Type} {xs : List α} {f : α → PyData} (hf : ∀ x, imm (f x) = true) {i : Int} {x : α} (h : atI xs i = some x) : dIx (.list (xs.map f)) (.int i) = some (f x) := by
  simp [dIx, atI_map, h, hf]
theorem atI_ofNat {α : Type} {xs : List α} {i : Int} {x : α} (h0 : 0 ≤ i) (h : xs[i.toNat]? = some x) : atI xs i = some x := by
  have := atI_nat h
  rwa [Int.toNat_of_nonneg h0] at this
theorem atI_neg1 {α : Type} {xs : List α} (h : xs ≠ []) : atI xs (-1) = some (xs.getLast h) := by
  have := atI_last xs.dropLast (xs.getLast h)
  rwa [List.dropLast_concat_getLast] at this
theorem atI_in {α : Type} {xs : List α} {i : Int} (h0 : 0 ≤ i) (h1 : i < xs.length) : ∃ x, xs[i.toNat]? = some x ∧ atI xs i = some x := by
  have : i.toNat < xs.length := by omega
  exact ⟨_, List.getElem?_eq_getElem this, atI_ofNat h0 (List.getElem?_eq_getElem this)⟩
theorem dIx_eDays {ds : List (List Int)} {i : Int} {x : List Int} (h : atI ds i = some x) : dIx (eDays ds) (.int i) = some (eRow x) := dIx_tup imm_eRow h
theorem dIx_eRow {r : List Int} {i x : Int} (h : atI r i = some x) : dIx (eRow r) (.int i) = some (.int x) := dIx_tup (fun _ => by simp [imm]) h
theorem dIx_ePeople {ps : List (List Home)} {i : Int} {x : List Home} (h : atI ps i = some x) : dIx (ePeople ps) (.int i) = some (eHomes x) := dIx_tup imm_eHomes h
theorem dIx_eHomes {hs : List Home} {i : Int} {x : Home} (h : atI hs i = some x) : dIx (eHomes hs) (.int i) = some (eHome x) := dIx_tup imm_eHome h
theorem dIx_eOrds {os : List Ord} {i : Int} {x : Ord} (h : atI os i = some x) : dIx (eOrds os) (.int i) = some (eOrd x) := dIx_tup imm_eOrd h
theorem dIx_eHome0 (h : Home) : dIx (eHome h) (.int 0) = some (.int h.1) := rfl
theorem dIx_eHome1 (h : Home) : dIx (eHome h) (.int 1) = some (.int h.2) := rfl
theorem dIx_eOrd0 (o : Ord) : dIx (eOrd o) (.int 0) = some (.int o.of) := rfl
theorem dIx_eOrd1 (o : Ord) : dIx (eOrd o) (.int 1) = some (.int o.pe) := rfl
theorem dIx_eOrd2 (o : Ord) : dIx (eOrd o) (.int 2) = some (.int o.go) := rfl
theorem dIx_eOrd3 (o : Ord) : dIx (eOrd o) (.int 3) = some (.int o.be) := rfl
theorem dIx_eOrd4 (o : Ord) : dIx (eOrd o) (.int 4) = some (.int o.en) := rfl
theorem atI3_0 {α : Type} (a b c : α) : atI [a, b, c] 0 = some a := rfl
theorem atI3_1 {α : Type} (a b c : α) : atI [a, b, c] 1 = some b := rfl
theorem atI3_2 {α : Type} (a b c : α) : atI [a, b, c] 2 = some c := rfl
theorem dIx_eTown0 (t : Town) : dIx (eTown t) (.int 0) = some (eDays t.days) := by simp [eTown, dIx, atI3_0, imm_eDays]
theorem dIx_eTown1 (t : Town) : dIx (eTown t) (.int 1) = some (ePeople t.homes) := by simp [eTown, dIx, atI3_1, imm_ePeople]
theorem dIx_eTown2 (t : Town) : dIx (eTown t) (.int 2) = some (eOrds t.orders) := by simp [eTown, dIx, atI3_2, imm_eOrds]
theorem len_eDays (ds : List (List Int)) : cLen [eDays ds] = some (.int ds.length) := by simp [cLen, eDays]
theorem len_eRow (ds : List Int) : cLen [eRow ds] = some (.int ds.length) := by simp [cLen, eRow]
theorem len_ePeople (ds : List (List Home)) : cLen [ePeople ds] = some (.int ds.length) := by simp [cLen, ePeople]
theorem len_eHomes (ds : List Home) : cLen [eHomes ds] = some (.int ds.length) := by simp [cLen, eHomes]
theorem len_eOrds (ds : List Ord) : cLen [eOrds ds] = some (.int ds.length) := by simp [cLen, eOrds]
theorem pick3 {a b c r : Int} {P : Int → Prop} (h0 : 0 ≤ r) (h1 : r < 3) (ha : P a) (hb : P b) (hc : P c) : ∃ x, dIx (.list [.int a, .int b, .int c]) (.int r) = some (.int x) ∧ P x := by
  have : r = 0 ∨ r = 1 ∨ r = 2 := by omega
  rcases this with rfl | rfl | rfl
  · exact ⟨a, rfl, ha⟩
  · exact ⟨b, rfl, hb⟩
  · exact ⟨c, rfl, hc⟩
theorem pick2 {a b r : Int} {P : Int → Prop} (h0 : 0 ≤ r) (h1 : r < 2) (ha : P a) (hb : P b) : ∃ x, dIx (.list [.int a, .int b]) (.int r) = some (.int x) ∧ P x := by
  have : r = 0 ∨ r = 1 := by omega
  rcases this with rfl | rfl
  · exact ⟨a, rfl, ha⟩
  · exact ⟨b, rfl, hb⟩
theorem pick4 {a b c d r : Int} {P : Int → Prop} (h0 : 0 ≤ r) (h1 : r < 4) (ha : P a) (hb : P b) (hc : P c) (hd : P d) : ∃ x, dIx (.list [.int a, .int b, .int c, .int d]) (.int r) = some (.int x) ∧ P x := by
  have : r = 0 ∨ r = 1 ∨ r = 2 ∨ r = 3 := by omega
  rcases this with rfl | rfl | rfl | rfl
  · exact ⟨a, rfl, ha⟩
  · exact ⟨b, rfl, hb⟩
  · exact ⟨c, rfl, hc⟩
  · exact ⟨d, rfl, hd⟩
theorem mulOk_r {a b : Int} (h0 : -100 < b) (h1 : b < 100) : mulOk a b = true := by
  unfold mulOk
  simp only [Bool.or_eq_true, Bool.and_eq_true, decide_eq_true_eq]
  omega
theorem itD_eDays (ds : List (List Int)) : itD (eDays ds) = some (ds.map eRow) := by simp [itD, eDays, immL, immA_map imm_eRow]
theorem itD_eHomes (hs : List Home) : itD (eHomes hs) = some (hs.map eHome) := by simp [itD, eHomes, immL, immA_map imm_eHome]
theorem itD_ePeople (hs : List (List Home)) : itD (ePeople hs) = some (hs.map eHomes) := by simp [itD, ePeople, immL, immA_map imm_eHomes]
theorem itD_eOrds (hs : List Ord) : itD (eOrds hs) = some (hs.map eOrd) := by simp [itD, eOrds, immL, immA_map imm_eOrd]
theorem get_map {α : Type} {f : α → PyData} {xs : List α} {i : Nat} {d : PyData} (h : (xs.map f)[i]? = some d) : ∃ x, xs[i]? = some x ∧ d = f x := by
  rw [List.getElem?_map] at h
  obtain ⟨x, h1, h2⟩ := Option.map_eq_some_iff.mp h
  exact ⟨x, h1, h2.symm⟩
theorem get_in {α : Type} {xs : List α} {i : Nat} (h : i < xs.length) : ∃ x, xs[i]? = some x := ⟨_, List.getElem?_eq_getElem h⟩
theorem get_lt {α : Type} {xs : List α} {i : Nat} {x : α} (h : xs[i]? = some x) : i < xs.length := (List.getElem?_eq_some_iff.mp h).1
theorem atI_mem {α : Type} {xs : List α} {i : Int} {x : α} (h : atI xs i = some x) : x ∈ xs := by
  unfold atI at h
  obtain ⟨j, _, h⟩ := Option.bind_eq_some_iff.mp h
  exact List.mem_of_getElem? h

theorem Ev.days {β : Type} {b : PyData} {n : Int} {f : PyData × PyData → Option β} {Q : β → Prop} (hb : IsBox b) (h0 : 1 ≤ n) (h1 : n ≤ 6) (k : ∀ ds b', IsBox b' → GoodDays n.toNat ds → Ev (f (eDays ds, b')) Q) : Ev ((b__law_days b [.int n]).bind f) Q := by
  have hw : ∀ r : Int, 0 ≤ r → r < 3 → ∃ x : Int, dIx (.list [.int 1, .int 3, .int 9]) (.int r) = some (.int x) ∧ 1 ≤ x ∧ x ≤ 9 := fun r a b => by
    have : r = 0 ∨ r = 1 ∨ r = 2 := by omega
    rcases this with rfl | rfl | rfl
    · exact ⟨1, rfl, by decide, by decide⟩
    · exact ⟨3, rfl, by decide, by decide⟩
    · exact ⟨9, rfl, by decide, by decide⟩
  simp only [b__law_days, m__law_days]
  walk_at "ev"
  refine Ev.take hb (by decide) (by decide) fun r b1 hb1 g0 g1 => ?_
  obtain ⟨wd, e1, w0, w1⟩ := hw r g0 g1
  simp only [e1]
  walk_at "evo"
  refine Ev.bind (Ev.forDraw (Q := fun o => ∃ (b' : PyData) (ds : List (List Int)), IsBox b' ∧ GoodDays n.toNat ds ∧ o = .nx ⟨[.bor 0, .wk (.int n), .wk (.int wd), .dat (.list (ds.map eRow)), .no, .no], [b']⟩)
    (fun bx (ds : List (List Int)) => ⟨[.bor 0, .wk (.int n), .wk (.int wd), .dat (.list (ds.map eRow)), .no, .no], [bx]⟩) (fun i _ r => r.length = n.toNat ∧ ∀ (j : Nat) (x : Int), r[j]? = some x → (i = j → x = 0) ∧ (i ≠ j → 1 ≤ x ∧ x ≤ 9)) (rngD 0 n.toNat) b1 hb1 ?_ ?_) ?_
  · intro i d b2 ds hd hb2 hl hg
    obtain ⟨hi, rfl⟩ := rngD_get hd
    walk_at "evo"
    refine Ev.bind (Ev.lcDraw (Q := fun q => ∃ (b' : PyData) (row : List Int), IsBox b' ∧ row.length = n.toNat ∧ (∀ (j : Nat) (x : Int), row[j]? = some x → (i = j → x = 0) ∧ (i ≠ j → 1 ≤ x ∧ x ≤ 9)) ∧ q = (row.map PyData.int, ⟨[.bor 0, .wk (.int n), .wk (.int wd), .dat (.list (ds.map eRow)), .wk (.int (0 + i)), .no], [b']⟩))
      PyData.int (fun bx => ⟨[.bor 0, .wk (.int n), .wk (.int wd), .dat (.list (ds.map eRow)), .wk (.int (0 + i)), .no], [bx]⟩) (fun j x => (i = j → x = 0) ∧ (i ≠ j → 1 ≤ x ∧ x ≤ 9)) (rngD 0 n.toNat) b2 hb2 ?_ ?_) ?_
    · intro k d b3 hd hb3
      obtain ⟨hk, rfl⟩ := rngD_get hd
      walk_at "evo"
      refine Ev.ite (fun h => ?_) (fun h => ?_)
      · exact Ev.ret ⟨0, b3, hb3, ⟨fun _ => rfl, fun z => absurd (by omega) z⟩, rfl, rfl⟩
      · refine Ev.take hb3 (by omega) (by omega) fun q b4 hb4 q0 q1 => ?_
        walk_at "ev"
        exact Ev.ret ⟨1 + q, b4, hb4, ⟨fun z => absurd (by omega) h, fun _ => by omega⟩, rfl, rfl⟩
    · intro row b' h1 h2 h3
      rw [rngD_len] at h2
      exact ⟨b', row, h1, h2, h3, rfl⟩
    · rintro q ⟨b5, row, hb5, hrl, hrg, rfl⟩
      walk_at "ev"
      simp only [cTuple, imm_ints, if_true]
      walk_at "ev"
      rw [if_pos (by simp [hl]; omega)]
      walk_at "ev"
      exact Ev.ret ⟨row, b5, hb5, ⟨hrl, hrg⟩, by simp [eRow]⟩
  · intro ds b' h1 h2 h3
    rw [rngD_len] at h2
    exact ⟨b', ds, h1, ⟨h2, h3⟩, rfl⟩
  · rintro o ⟨b', ds, h1, h2, rfl⟩
    walk_at "ev"
    simp only [cTuple, immA_map imm_eRow, if_true]
    walk_at "ev"
    exact k ds b' h1 h2

theorem Ev.homes {β : Type} {b : PyData} {n : Int} {f : PyData × PyData → Option β} {Q : β → Prop} (hb : IsBox b) (h0 : 1 ≤ n) (h1 : n ≤ 6) (k : ∀ hs b', IsBox b' → GoodHomes n hs → Ev (f (eHomes hs, b')) Q) : Ev ((b__law_homes b [.int n, .int 8]).bind f) Q := by
  simp only [b__law_homes, m__law_homes]
  walk_at "ev"
  refine Ev.take hb (by omega) (by omega) fun o b1 hb1 o0 o1 => ?_
  refine Ev.take hb1 (by omega) (by omega) fun r b2 hb2 r0 r1 => ?_
  obtain ⟨wd, e1, w0, w1⟩ := pick3 (a := 6) (b := 40) (c := 140) (P := fun x => 1 ≤ x ∧ x ≤ 140) r0 r1 (by omega) (by omega) (by omega)
  simp only [e1, ob]
  refine Ev.take hb2 (by omega) (by omega) fun q b3 hb3 q0 q1 => ?_
  have hi : (if 1 < n then (1 : Int) else 0) = 1 ∧ 1 < n ∨ (if 1 < n then (1 : Int) else 0) = 0 := by
    split
    · exact .inl ⟨rfl, by assumption⟩
    · exact .inr rfl
  generalize hg : (if 1 < n then (1 : Int) else 0) = g at hi
  have hg01 : g = 0 ∨ g = 1 := by omega
  have hqg : 0 ≤ q * g ∧ q * g < 8 ∧ (g = 0 → q * g = 0) := by
    rcases hg01 with rfl | rfl <;> simp <;> omega
  generalize hq2 : q * g = t at hqg
  walk_at "ev"
  refine Ev.guard (mulOk_r (by omega) (by omega)) ?_
  walk_at "ev"
  rw [hq2]
  refine Ev.guard ⟨by omega, by omega⟩ ?_
  refine Ev.bind (Ev.forDraw (Q := fun y => ∃ (b' : PyData) (hs : List Home), IsBox b' ∧ GoodHomes n hs ∧ y = .nx ⟨[.bor 0, .wk (.int n), .wk (.int 8), .dat (.list (hs.map eHome)), .wk (.int wd), .no, .no], [b']⟩)
    (fun bx (hs : List Home) => ⟨[.bor 0, .wk (.int n), .wk (.int 8), .dat (.list (((0, o) :: hs).map eHome)), .wk (.int wd), .no, .no], [bx]⟩)
    (fun i hs x => (let l := (((0, o) : Home) :: hs).getLast (by simp); l.1 < x.1 ∧ x.1 ≤ l.1 + 140 ∧ l.2 ≠ x.2) ∧ 0 ≤ x.2 ∧ x.2 < n) (rngD 0 t.toNat) b3 hb3 ?_ ?_) ?_
  · intro i d b4 hs hd hb4 hl hP
    obtain ⟨hi2, rfl⟩ := rngD_get hd
    have hn : 1 < n := by omega
    have e2 : dIx (.list (eHome (0, o) :: hs.map eHome)) (.int (-1)) = some (eHome ((((0, o) : Home) :: hs).getLast (by simp))) := dIx_lst (xs := (0, o) :: hs) imm_eHome (atI_neg1 (by simp))
    generalize hL : (((0, o) : Home) :: hs).getLast (by simp) = L at e2
    have hLm : L ∈ ((0, o) : Home) :: hs := hL ▸ List.getLast_mem _
    have hL2 : 0 ≤ L.2 ∧ L.2 < n := by
      rcases List.mem_cons.mp hLm with z | z
      · rw [z]; exact ⟨o0, o1⟩
      · obtain ⟨j, hj⟩ := List.getElem?_of_mem z
        exact (hP j L hj).2
    walk_at "ev"
    simp only [e2, ob, dIx_eHome0, dIx_eHome1]
    walk_at "ev"
    refine Ev.take hb4 (by omega) (by omega) fun u b5 hb5 u0 u1 => ?_
    walk_at "ev"
    refine Ev.guard (by omega) ?_
    try walk_at "ev"
    refine Ev.take hb5 (by omega) (by omega) fun x b6 hb6 x0 x1 => ?_
    walk_at "ev"
    refine Ev.guard (by simp [hl]; omega) ?_
    have hm := Int.emod_nonneg (L.2 + 1 + u) (show n ≠ 0 by omega)
    have hm2 := Int.emod_lt_of_pos (L.2 + 1 + u) (show 0 < n by omega)
    refine Ev.ret ⟨(L.1 + 1 + x, (L.2 + 1 + u) % n), b6, hb6, ⟨⟨by simp [hL]; omega, by simp [hL]; omega, ?_⟩, hm, hm2⟩, by simp [eHome]⟩
    simp only [hL]
    intro z
    have hc : L.2 + 1 + u = n * ((L.2 + 1 + u) / n) + (L.2 + 1 + u) % n := (Int.mul_ediv_add_emod _ _).symm
    have hd1 : 0 ≤ (L.2 + 1 + u) / n := Int.ediv_nonneg (by omega) (by omega)
    have hd2 : (L.2 + 1 + u) / n < 2 := Int.ediv_lt_of_lt_mul (by omega) (by omega)
    have : (L.2 + 1 + u) / n = 0 ∨ (L.2 + 1 + u) / n = 1 := by omega
    rcases this with y | y <;> (rw [y] at hc; omega)
  · intro hs b' hb' hl hP
    rw [rngD_len] at hl
    refine ⟨b', (0, o) :: hs, hb', GoodHomes140.good ⟨by simp, by simp; omega, fun x hx => ?_, fun i x hx => ?_, fun i x y hx hy => ?_⟩, rfl⟩
    · simp at hx
      rw [← hx]
    · cases i with
      | zero => simp at hx; rw [← hx]; exact ⟨o0, o1⟩
      | succ i => exact (hP i x (by simpa using hx)).2
    · have h2 := (hP i y (by simpa using hy)).1
      have e3 : (((0, o) : Home) :: hs.take i).getLast (by simp) = x := by
        have hi' : i < hs.length := (List.getElem?_eq_some_iff.mp (show hs[i]? = some y by simpa using hy)).1
        rw [List.getLast_eq_getElem]
        have hlen : (((0, o) : Home) :: hs.take i).length - 1 = i := by simp; omega
        have hx' : (((0, o) : Home) :: hs)[i]? = some x := hx
        have : (((0, o) : Home) :: hs.take i)[i]? = some x := by
          cases i with
          | zero => simpa using hx'
          | succ i =>
            rw [List.getElem?_cons_succ] at hx' ⊢
            rw [List.getElem?_take_of_lt (by omega)]
            exact hx'
        have hlt : i < (((0, o) : Home) :: hs.take i).length := by simp; omega
        rw [List.getElem?_eq_getElem hlt] at this
        simp only [hlen]
        exact Option.some.inj this
      simp only [e3] at h2
      exact h2
  · rintro y ⟨b', hs, hb', hg', rfl⟩
    walk_at "ev"
    simp only [cTuple, immA_map imm_eHome, if_true]
    walk_at "ev"
    exact k hs b' hb' hg'

local macro_rules | `(tactic| walk_at "et") => `(tactic| try simp only [is_from_ok, itD_eDays, itD_eHomes, itD_ePeople, itD_eOrds, imm_eHome, imm_eHomes, imm_ePeople, imm_eOrd, imm_eOrds, imm_eTown, imm_eRow, imm_eDays, len_eDays, len_eRow, len_ePeople, len_eHomes, len_eOrds, dIx_eHome0, dIx_eHome1, dIx_eOrd0, dIx_eOrd1, dIx_eOrd2, dIx_eOrd3, dIx_eOrd4, dIx_eTown0, dIx_eTown1, dIx_eTown2, mCallV, mOp2V, mOp1V, mView, vVar, vC, vIx, vCons, vNil, vNeg, mTupT, mLstT, mSlO, opdsT, mDef, mDefB, envP, envB, outP, outB, sNil, sSeq, sAsg, sIf, sKill, sRet, sRetN, sDrop, sPar, sFor, sApp, sStore, Out.kills, Env.kills, mC, mCopy, mMove, mOp1, mOp2, mCall, mCallB, mFn, mTup, mLst, mIf, mAndV, mOrV, mNotV, mChain, mChain3, mLc, mSl, mIsi, mPop, okArg, nix_n, List.all_cons, List.all_nil,
  aNil, aCons, oVar, oVal, Opd.look, looks, opdV, opdsV, opInt, tBool, tAndM, tOrM, tNotM, tTrue, bName, bNameW, bTup, bsNil, bsCons, mIt, mRng1, mRng2, mEnumT, mZip, pNo, pInt,
  Env.look, Env.set, Env.ix, Dl.Env.own, Env.put, theL, imm, immA, isLst, List.length_cons, List.length_nil, List.map_cons, List.map_nil, List.cons_append, List.nil_append, List.replicate, List.getElem?_cons_zero, List.getElem?_cons_succ, List.set_cons_zero, List.set_cons_succ, ob, Option.bind_none, Option.bind_assoc,
  Nat.reduceAdd, Nat.reduceSub, Nat.reduceLT, Nat.reduceLeDiff, if_true, if_false, reduceCtorEq, Bool.and_true, Bool.true_and, Bool.and_self, dAdd_int, dSub_int, dMul_int, dMod_int, dDiv_int, dLt_int, dLe_int, dGt_int, dGe_int, dNeg_int, cInt_int, cInt_bool, cMax_ii, cMin_ii, dIsN_n, dNotN_n, cLen_lst, isN_n, isN_b, isN_i, isN_s, isN_l, isN_t, dEq_int, dNe_int, beq_iff_eq, Nat.zero_lt_succ, ite_andV, ite_orV, ite_andB, ite_orB, decide_eq_true_eq, Bool.decide_eq_true, Bool.true_or, Bool.false_eq_true, true_and, and_true])

local macro_rules | `(tactic| walk_at "ex") => `(tactic| try simp only [mDefX, xOf, xSeq, xIf, xKill, xFor, xRaise, xRaiseI, xCall, outX, OutX.kills, fnR, ob])
local macro_rules | `(tactic| walk_at "ez") => `(tactic| (walk_at "et"; walk_at "ex"; walk_at "et"))

theorem immA_ints3 (a b c : Int) : immA [PyData.int a, .int b, .int c] = true := rfl
theorem other_mod {a n u : Int} (ha : 0 ≤ a) (ha' : a < n) (u0 : 0 ≤ u) (u1 : u < n - 1) : 0 ≤ (a + 1 + u) % n ∧ (a + 1 + u) % n < n ∧ a ≠ (a + 1 + u) % n := by
  have hm := Int.emod_nonneg (a + 1 + u) (show n ≠ 0 by omega)
  have hm2 := Int.emod_lt_of_pos (a + 1 + u) (show 0 < n by omega)
  refine ⟨hm, hm2, fun z => ?_⟩
  have hc : a + 1 + u = n * ((a + 1 + u) / n) + (a + 1 + u) % n := (Int.mul_ediv_add_emod _ _).symm
  have hd1 : 0 ≤ (a + 1 + u) / n := Int.ediv_nonneg (by omega) (by omega)
  have hd2 : (a + 1 + u) / n < 2 := Int.ediv_lt_of_lt_mul (by omega) (by omega)
  have : (a + 1 + u) / n = 0 ∨ (a + 1 + u) / n = 1 := by omega
  rcases this with y | y <;> (rw [y] at hc; omega)
theorem Ev.order {β : Type} {b : PyData} {n p : Int} {hss : List (List Home)} {f : PyData × PyData → Option β} {Q : β → Prop} (hb : IsBox b) (h0 : 2 ≤ n) (h1 : n ≤ 6) (hp : p = hss.length) (hp0 : 1 ≤ p) (hp1 : p ≤ 6) (hg : ∀ h ∈ hss, GoodHomes n h)
    (k : ∀ o b', IsBox b' → GoodOrd n p o → Ev (f (eOrd o, b')) Q) : Ev ((b__law_order b [.int n, .int p, ePeople hss]).bind f) Q := by
  simp only [b__law_order, m__law_order]
  try walk_at "ev"
  refine Ev.take hb (by omega) (by omega) fun pe b1 hb1 pe0 pe1 => ?_
  obtain ⟨rows, hr1, hr2⟩ := atI_in (xs := hss) pe0 (by omega)
  have hgr := hg rows (List.mem_of_getElem? hr1)
  simp only [dIx_ePeople hr2, ob, len_eHomes]
  try walk_at "ev"
  refine Ev.bind (R := fun y => ∃ b', IsBox b' ∧ (y.1 = true → 1 < rows.length) ∧ y.2 = ⟨[Sl.bor 0, Sl.wk (PyData.int n), Sl.wk (PyData.int p), Sl.wk (ePeople hss), Sl.wk (PyData.int pe), Sl.wk (eHomes rows), Sl.no, Sl.no, Sl.no, Sl.no, Sl.no], [b']⟩) ?_ ?_
  · refine Ev.ite (fun h => ?_) (fun h => Ev.ret ⟨b1, hb1, fun z => (by cases z), rfl⟩)
    refine Ev.take hb1 (by omega) (by omega) fun t b2 hb2 t0 t1 => ?_
    try walk_at "ev"
    exact Ev.ret ⟨b2, hb2, fun _ => by omega, rfl⟩
  · rintro ⟨c, e⟩ ⟨b2, hb2, hc, rfl⟩
    cases c with
    | true =>
      rw [if_pos rfl]
      have hl := hc rfl
      try walk_at "ev"
      simp only [len_eHomes]
      try walk_at "ev"
      refine Ev.take hb2 (by omega) (by have := hgr.few; omega) fun j b3 hb3 j0 j1 => ?_
      have hlt : (1 + j).toNat < rows.length := by omega
      have hlt' : j.toNat < rows.length := by omega
      obtain ⟨x, hx1, hx2⟩ := atI_in (xs := rows) (i := 1 + j) (by omega) (by omega)
      obtain ⟨w, hw1, hw2⟩ := atI_in (xs := rows) (i := 1 + j - 1) (by omega) (by omega)
      have hnx := hgr.next j.toNat w x (by rw [← hw1]; congr 1; omega) (by rw [← hx1]; congr 1; omega)
      have hxo := hgr.off _ x hx1
      have hwo := hgr.off _ w hw1
      have hxt := hgr.time_le (List.mem_of_getElem? hx1)
      try walk_at "ev"
      simp only [dIx_eHomes hx2, ob, dIx_eHome0]
      try walk_at "ev"
      refine Ev.take hb3 (by omega) (by omega) fun s b4 hb4 s0 s1 => ?_
      try walk_at "ev"
      refine Ev.take hb4 (by omega) (by omega) fun r b5 hb5 r0 r1 => ?_
      obtain ⟨y, e1, y0⟩ := pick3 (a := 0) (b := 0) (c := s - 4) (P := fun x => x ≤ 4) r0 r1 (by omega) (by omega) (by omega)
      simp only [e1, ob]
      try walk_at "ev"
      simp only [dIx_eHomes hw2, dIx_eHomes hx2, ob, dIx_eHome1]
      try walk_at "ev"
      refine Ev.take hb5 (by omega) (by omega) fun q b6 hb6 q0 q1 => ?_
      obtain ⟨z, e2, z0, z1⟩ := pick3 (a := 9) (b := 60) (c := 900) (P := fun x => 1 ≤ x ∧ x ≤ 900) q0 q1 (by omega) (by omega) (by omega)
      simp only [e2, ob]
      refine Ev.take hb6 (by omega) (by omega) fun u b7 hb7 u0 u1 => ?_
      try walk_at "ev"
      refine k ⟨w.2, pe, x.2, (if 0 < x.1 + y then x.1 + y else 0), (if 0 < x.1 + y then x.1 + y else 0) + 1 + u⟩ b7 hb7 ⟨hwo, ⟨pe0, pe1⟩, hxo, hnx.2.2, ?_, ?_, ?_⟩
      all_goals (simp only; split <;> omega)
    | false =>
      rw [if_neg (by simp)]
      try walk_at "ev"
      refine Ev.take hb2 (by omega) (by omega) fun a b3 hb3 a0 a1 => ?_
      try walk_at "ev"
      refine Ev.take hb3 (by omega) (by omega) fun u b4 hb4 u0 u1 => ?_
      try walk_at "ev"
      refine Ev.guard (by omega) ?_
      try walk_at "ev"
      refine Ev.take hb4 (by omega) (by omega) fun q b5 hb5 q0 q1 => ?_
      obtain ⟨z, e2, z0, z1⟩ := pick4 (a := 1) (b := 30) (c := 999) (d := 1990) (P := fun x => 1 ≤ x ∧ x ≤ 1990) q0 q1 (by omega) (by omega) (by omega) (by omega)
      simp only [e2, ob]
      refine Ev.take hb5 (by omega) (by omega) fun g b6 hb6 g0 g1 => ?_
      try walk_at "ev"
      refine Ev.take hb6 (by split <;> omega) (by split <;> omega) fun m b7 hb7 m0 m1 => ?_
      try walk_at "ev"
      refine Ev.take hb7 (by omega) (by omega) fun v b8 hb8 v0 v1 => ?_
      have hm : g < g + (1 + m) ∧ g + (1 + m) ≤ 2000 := by
        constructor
        · omega
        · revert m1; split <;> intro m1 <;> omega
      obtain ⟨y, e3, y0⟩ := pick2 (a := 2000) (b := g + (1 + m)) (P := fun x => g < x ∧ x ≤ 2000) v0 v1 (by omega) hm
      simp only [e3, ob]
      try walk_at "ev"
      have ho := other_mod a0 a1 u0 u1
      exact k ⟨a, pe, (a + 1 + u) % n, g, y⟩ b8 hb8 ⟨⟨a0, a1⟩, ⟨pe0, pe1⟩, ⟨ho.1, ho.2.1⟩, ho.2.2, g0, y0⟩

theorem pick2' {a b r : Int} {P : Int → Prop} (h0 : 0 ≤ r) (h1 : r < 2) (ha : P a) (hb : P b) : ∃ x, dIx (.list [.int a, .int b]) (.int r) = some (.int x) ∧ P x := pick2 h0 h1 ha hb
theorem Ev.town {β : Type} {b : PyData} {f : PyData × PyData → Option β} {Q : β → Prop} (hb : IsBox b) (k : ∀ t b', IsBox b' → GoodTown t → Ev (f (eTown t, b')) Q) : Ev ((b__law_town b []).bind f) Q := by
  simp only [b__law_town, m__law_town]
  try walk_at "ev"
  refine Ev.take hb (by omega) (by omega) fun n0 b1 hb1 n00 n01 => ?_
  try walk_at "ev"
  generalize hn : 1 + n0 = n
  refine Ev.days hb1 (by omega) (by omega) fun ds b2 hb2 hds => ?_
  try walk_at "ev"
  refine Ev.take hb2 (by omega) (by omega) fun r b3 hb3 r0 r1 => ?_
  obtain ⟨z, e2, z0, z1⟩ := pick2 (a := 2) (b := 6) (P := fun x => 1 ≤ x ∧ x ≤ 6) r0 r1 (by omega) (by omega)
  simp only [e2, ob]
  refine Ev.take hb3 (by omega) (by omega) fun p0 b4 hb4 p00 p01 => ?_
  try walk_at "ev"
  generalize hp : 1 + p0 = p
  refine Ev.guard (by omega) ?_
  try walk_at "ev"
  refine Ev.guardB (by rw [rngD_len]; omega) ?_
  simp only [Option.bind_assoc, ob]
  refine Ev.bind (Ev.lcDraw (Q := fun q => ∃ (b' : PyData) (hs : List (List Home)), IsBox b' ∧ hs.length = p.toNat ∧ (∀ h ∈ hs, GoodHomes n h) ∧ q = (hs.map eHomes, ⟨[.bor 0, .wk (.int n), .wk (eDays ds), .wk (.int p), .no, .no, .no, .no], [b']⟩))
      eHomes (fun bx => ⟨[.bor 0, .wk (.int n), .wk (eDays ds), .wk (.int p), .no, .no, .no, .no], [bx]⟩) (fun j x => GoodHomes n x) (rngD 0 p.toNat) b4 hb4 ?_ ?_) ?_
  · intro i d b5 hd hb5
    obtain ⟨hi, rfl⟩ := rngD_get hd
    try walk_at "ev"
    refine Ev.homes hb5 (by omega) (by omega) fun hs b6 hb6 hh => ?_
    try walk_at "ev"
    exact Ev.ret ⟨hs, b6, hb6, hh, rfl, rfl⟩
  · intro hs b' h1 h2 h3
    rw [rngD_len] at h2
    refine ⟨b', hs, h1, h2, fun h hh => ?_, rfl⟩
    obtain ⟨j, hj⟩ := List.getElem?_of_mem hh
    exact h3 j h hj
  rintro q ⟨b5, hs, hb5, hl, hgood, rfl⟩
  walk_at "et"
  simp only [cTuple, immA_map imm_eHomes, if_true]
  walk_at "et"
  refine Ev.take hb5 (by omega) (by omega) fun q b6 hb6 q0 q1 => ?_
  obtain ⟨z, e2, z0, z1⟩ := pick2 (a := 6) (b := 21) (P := fun x => 1 ≤ x ∧ x ≤ 21) q0 q1 (by omega) (by omega)
  simp only [e2, ob]
  refine Ev.take hb6 (by omega) (by omega) fun o b7 hb7 o0 o1 => ?_
  have hi : (if 1 < n then (1 : Int) else 0) = 1 ∧ 1 < n ∨ (if 1 < n then (1 : Int) else 0) = 0 := by
    split
    · exact .inl ⟨rfl, by assumption⟩
    · exact .inr rfl
  generalize hg : (if 1 < n then (1 : Int) else 0) = g at hi
  have hg01 : g = 0 ∨ g = 1 := by omega
  have hqg : 0 ≤ o * g ∧ o * g < 21 ∧ (g = 0 → o * g = 0) := by
    rcases hg01 with rfl | rfl <;> simp <;> omega
  generalize hq2 : o * g = t at hqg
  walk_at "et"
  refine Ev.guard (mulOk_r (by omega) (by omega)) ?_
  walk_at "et"
  rw [hq2]
  refine Ev.guard (by omega) ?_
  refine Ev.bind (Ev.forDraw (Q := fun y => ∃ (b' : PyData) (os : List Ord), IsBox b' ∧ os.length ≤ 20 ∧ (∀ o ∈ os, GoodOrd n p o) ∧ y = .nx ⟨[.bor 0, .wk (.int n), .wk (eDays ds), .wk (.int p), .wk (ePeople hs), .dat (.list (os.map eOrd)), .no, .no], [b']⟩)
    (fun bx (os : List Ord) => ⟨[.bor 0, .wk (.int n), .wk (eDays ds), .wk (.int p), .wk (ePeople hs), .dat (.list (os.map eOrd)), .no, .no], [bx]⟩)
    (fun i os x => GoodOrd n p x) (rngD 0 t.toNat) b7 hb7 ?_ ?_) ?_
  · intro i d b8 os hd hb8 hlo hP
    obtain ⟨hi2, rfl⟩ := rngD_get hd
    have hn : 1 < n := by omega
    walk_at "et"
    refine Ev.order (n := n) (p := p) (hss := hs) hb8 (by omega) (by omega) (by omega) (by omega) (by omega) hgood fun o b9 hb9 ho => ?_
    walk_at "et"
    refine Ev.guard (by simp [hlo]; omega) ?_
    exact Ev.ret ⟨o, b9, hb9, ho, by simp⟩
  · intro os b' h1 h2 h3
    rw [rngD_len] at h2
    refine ⟨b', os, h1, by omega, fun o ho => ?_, rfl⟩
    obtain ⟨j, hj⟩ := List.getElem?_of_mem ho
    exact h3 j o hj
  rintro y ⟨b8, os, hb8, hlo, hos, rfl⟩
  walk_at "et"
  simp only [cTuple, immA_map imm_eOrd, if_true]
  walk_at "et"
  have e1 : n.toNat = ds.length := hds.1.symm
  refine k ⟨ds, hs, os⟩ b8 hb8 ⟨by show 1 ≤ ds.length; omega, by show ds.length ≤ 6; omega, e1 ▸ hds, by show 1 ≤ hs.length; omega, by show hs.length ≤ 6; omega, fun h hh => ?_, hlo, fun o ho => ?_⟩
  · rw [show ((⟨ds, hs, os⟩ : Town).days.length : Int) = n by simp only; omega]
    exact hgood h hh
  · rw [show ((⟨ds, hs, os⟩ : Town).days.length : Int) = n by simp only; omega, show ((⟨ds, hs, os⟩ : Town).homes.length : Int) = p by simp only; omega]
    exact hos o ho

/-! ### what needs hold -/
theorem shp_nums (r : List Int) : ∀ d ∈ r.map PyData.int, shp 1 d := fun d hd => by
  obtain ⟨x, _, rfl⟩ := List.mem_map.mp hd
  exact shp_int x
theorem shp_map {α : Type} {f : α → PyData} {n : Nat} (h : ∀ x, shp n (f x)) (r : List α) : ∀ d ∈ r.map f, shp n d := fun d hd => by
  obtain ⟨x, _, rfl⟩ := List.mem_map.mp hd
  exact h x
theorem shp_eRow (r : List Int) : shp 2 (eRow r) := shp_tup (shp_nums r)
theorem shp_eDays (r : List (List Int)) : shp 3 (eDays r) := shp_tup (shp_map shp_eRow r)
theorem shp_eHome (h : Home) : shp 2 (eHome h) := shp_tup (shp_nums [h.1, h.2])
theorem shp_eHomes (h : List Home) : shp 3 (eHomes h) := shp_tup (shp_map shp_eHome h)
theorem shp_ePeople (h : List (List Home)) : shp 4 (ePeople h) := shp_tup (shp_map shp_eHomes h)
theorem shp_eOrd (o : Ord) : shp 2 (eOrd o) := shp_tup (shp_nums [o.of, o.pe, o.go, o.be, o.en])
theorem shp_eOrds (h : List Ord) : shp 3 (eOrds h) := shp_tup (shp_map shp_eOrd h)
theorem dEq_empT {α : Type} {f : α → PyData} {n : Nat} (h : ∀ x, shp n (f x)) (hn : n < 64) (xs : List α) : dEq (.tuple (xs.map f)) (.tuple []) = some (.bool xs.isEmpty) := by
  unfold dEq
  rw [if_pos ⟨(shp_tup (shp_map h xs)).shaped (by omega), by decide⟩]
  cases xs <;> simp [PyData.eqv, PyData.eqvAll]
theorem dNe_empT {α : Type} {f : α → PyData} {n : Nat} (h : ∀ x, shp n (f x)) (hn : n < 64) (xs : List α) : dNe (.tuple (xs.map f)) (.tuple []) = some (.bool (!xs.isEmpty)) := by
  unfold dNe
  rw [if_pos ⟨(shp_tup (shp_map h xs)).shaped (by omega), by decide⟩]
  cases xs <;> simp [PyData.eqv, PyData.eqvAll]
theorem dEq_empL {α : Type} {f : α → PyData} {n : Nat} (h : ∀ x, shp n (f x)) (hn : n < 64) (xs : List α) : dEq (.list (xs.map f)) (.list []) = some (.bool xs.isEmpty) := by
  unfold dEq
  rw [if_pos ⟨(shp_list (shp_map h xs)).shaped (by omega), by decide⟩]
  cases xs <;> simp [PyData.eqv, PyData.eqvAll]
theorem dNe_empL {α : Type} {f : α → PyData} {n : Nat} (h : ∀ x, shp n (f x)) (hn : n < 64) (xs : List α) : dNe (.list (xs.map f)) (.list []) = some (.bool (!xs.isEmpty)) := by
  unfold dNe
  rw [if_pos ⟨(shp_list (shp_map h xs)).shaped (by omega), by decide⟩]
  cases xs <;> simp [PyData.eqv, PyData.eqvAll]
theorem is_road_ok {n : Nat} {ds : List (List Int)} (g : GoodDays n ds) (hn : n ≤ 6) {i : Nat} (hi : i < n) : f_is_road [eDays ds, .int i] = some (.bool true) := by
  have hl := g.1
  obtain ⟨r, hr⟩ := get_in (xs := ds) (i := i) (by omega)
  have gr := g.2 i r hr
  obtain ⟨x, hx⟩ := get_in (xs := r) (i := i) (by omega)
  have h0 : r[i]? = some 0 := by rw [hx, (gr.2 i _ hx).1 rfl]
  have hlr := gr.1
  simp only [f_is_road, m_is_road]
  walk_at "et"
  simp only [dIx_eDays (atI_nat hr), dIx_eRow (atI_nat h0), ob]
  walk_at "et"
  rw [if_neg (by simp [gr.1, hl]), if_neg (by omega)]
  walk_at "et"
  simp only [dIx_eRow (atI_nat h0), ob]
  walk_at "et"
  rw [if_neg (by simp)]
  walk_at "et"
  rw [if_pos (by omega)]
  walk_at "et"
  rw [if_pos (by rw [rngD_len]; omega)]
  walk_at "et"
  rw [lcL_none _ fun d hd => ?_]
  · simp only [ob]
    rfl
  · obtain ⟨j, hj, rfl⟩ := rngD_mem hd
    obtain ⟨y, hy⟩ := get_in (xs := r) (i := j) (by omega)
    have g2 := (gr.2 j y hy).2
    walk_at "et"
    rw [Int.zero_add]
    by_cases h : j = i
    · subst h
      rw [if_neg (by simp)]
      exact Ev.ret ⟨rfl, rfl⟩
    · rw [if_pos (by simp; omega)]
      simp only [dIx_eRow (atI_nat hy), ob, is_from_ok]
      walk_at "et"
      refine Ev.ret ⟨?_, rfl⟩
      have := g2 (fun z => h z.symm)
      simp [this]
theorem are_homes_ok {n : Nat} {ds : List (List Int)} (hl : ds.length = n) {hs : List Home} (g : GoodHomes n hs) : f_are_homes [eDays ds, eHomes hs] = some (.bool true) := by
  have hp := g.pos
  have hf := g.few
  obtain ⟨x, hx⟩ := get_in (xs := hs) (i := 0) (by omega)
  have hx0 := g.zero x hx
  simp only [f_are_homes, m_are_homes]
  walk_at "et"
  rw [if_neg (by simp; omega)]
  simp only [show dIx (eHomes hs) (.int 0) = some (eHome x) from dIx_eHomes (atI_nat hx), ob, dIx_eHome0]
  walk_at "et"
  rw [if_neg (by simp [hx0])]
  walk_at "et"
  refine Ev.eq (Ev.bind (Ev.forL (Q := fun o => ∃ e, o = .nx e) _ (fun i e => ∃ w : Home, (i = 0 → w = (-1, -1)) ∧ (∀ j, i = j + 1 → hs[j]? = some w) ∧ e = ⟨[.wk (eDays ds), .wk (eHomes hs), .wk (eHome w), .no, .no], []⟩) _ ⟨(-1, -1), fun _ => rfl, fun j z => (by cases z), rfl⟩ ?_ ?_) ?_)
  · rintro i d e hd ⟨w, hw1, hw2, rfl⟩
    obtain ⟨y, hy, rfl⟩ := get_map hd
    have ho := g.off i y hy
    have ht := g.time_le (List.mem_of_getElem? hy)
    have hn : w.1 < y.1 ∧ w.2 ≠ y.2 := by
      cases i with
      | zero =>
        have := g.zero y hy
        rw [hw1 rfl]
        exact ⟨by simp only; omega, by simp only; omega⟩
      | succ j =>
        have := g.next j w y (hw2 j rfl) hy
        exact ⟨this.1, this.2.2⟩
    simp only [eHome]
    walk_at "et"
    simp only [show dIx (.tuple [.int w.1, .int w.2]) (.int 0) = some (.int w.1) from rfl, show dIx (.tuple [.int w.1, .int w.2]) (.int 1) = some (.int w.2) from rfl]
    walk_at "et"
    rw [if_neg (by simp; omega)]
    simp only [show dIx (.tuple [.int w.1, .int w.2]) (.int 1) = some (.int w.2) from rfl]
    walk_at "et"
    rw [if_neg (by simp; omega)]
    walk_at "et"
    refine Ev.nx ?_
    exact ⟨y, fun z => (by cases z), fun j z => by cases z; exact hy, rfl⟩
  · rintro e ⟨w, _, _, rfl⟩
    exact ⟨_, rfl⟩
  · rintro o ⟨e, rfl⟩
    exact Ev.ret rfl
theorem is_order_ok {n p : Nat} {ds : List (List Int)} (hl : ds.length = n) {o : Ord} (g : GoodOrd n p o) : f_is_order [eDays ds, .int p, eOrd o] = some (.bool true) := by
  have h1 := g.of
  have h2 := g.pe
  have h3 := g.go
  have h4 := g.ne
  have h5 := g.be
  have h6 := g.en
  simp only [f_is_order, m_is_order]
  walk_at "et"
  simp only [eOrd]
  walk_at "et"
  rw [if_neg (by simp; omega)]
  walk_at "et"
  rw [if_pos (by simp; omega), if_pos (by omega), if_pos (by omega), if_pos (by decide)]
  walk_at "et"
  simp; omega
/-! ### loops that may raise -/
def OutXI (I : Dl.Env → Prop) (Q : OutX → Prop) : OutX → Prop
  | .o (.nx e) => I e
  | .o _ => False
  | .ex nm fs => Q (.ex nm fs)
theorem Ev.nxX {I : Dl.Env → Prop} {Q : OutX → Prop} {e : Dl.Env} (h : I e) : Ev (some (OutX.o (.nx e))) (OutXI I Q) := ⟨_, rfl, h⟩
theorem Ev.exX {I : Dl.Env → Prop} {Q : OutX → Prop} {nm : Str} {fs : List (Str × PyData)} (h : Q (.ex nm fs)) : Ev (some (OutX.ex nm fs)) (OutXI I Q) := ⟨_, rfl, h⟩
theorem Ev.forX {b : PyData → Dl.Env → Option Dl.Env} {body : MSX} {Q : OutX → Prop} : ∀ (ds : List PyData) (I : Nat → Dl.Env → Prop) (e : Dl.Env), I 0 e → (∀ (i : Nat) (d : PyData) (e : Dl.Env), ds[i]? = some d → I i e → Ev ((b d e).bind body) (OutXI (I (i + 1)) Q)) → (∀ e, I ds.length e → Q (.o (.nx e))) → Ev (forX b body ds e) Q
  | [], I, e, h0, _, hd => ⟨_, rfl, hd e h0⟩
  | d :: r, I, e, h0, hs, hd => by
    obtain ⟨o, h1, h2⟩ := hs 0 d e rfl h0
    obtain ⟨e1, h3, h4⟩ := Option.bind_eq_some_iff.mp h1
    show Ev ((b d e).bind fun e1 => (body e1).bind fun o => _) Q
    rw [h3]
    show Ev ((body e1).bind fun o => _) Q
    rw [h4]
    cases o with
    | ex nm fs => exact ⟨_, rfl, h2⟩
    | o x =>
      cases x with
      | nx e2 => exact Ev.forX r (fun i => I (i + 1)) e2 h2 (fun i c e hc hi => hs (i + 1) c e (by simpa using hc) hi) hd
      | ct e2 => exact False.elim h2
      | bk e2 => exact False.elim h2
      | ret d bo => exact False.elim h2
theorem forX_find {α : Type} {b : PyData → Dl.Env → Option Dl.Env} {body : MSX} {e0 : Dl.Env} (enc : α → PyData) (p : α → Bool) (nm : Str) (fs : α → List (Str × PyData)) : ∀ xs : List α, (∀ x ∈ xs, (b (enc x) e0).bind body = some (if p x = true then .ex nm (fs x) else .o (.nx e0))) →
    forX b body (xs.map enc) e0 = some (match xs.find? p with | some x => .ex nm (fs x) | none => .o (.nx e0))
  | [], _ => rfl
  | x :: r, h => by
    have ih := forX_find enc p nm fs r fun y hy => h y (List.mem_cons_of_mem _ hy)
    have hx := h x List.mem_cons_self
    rw [List.map_cons]
    obtain ⟨e1, q1, q2⟩ := Option.bind_eq_some_iff.mp hx
    simp only [forX, q1, q2, Option.bind_some, List.find?_cons]
    cases hp : p x with
    | true => rfl
    | false => simpa [hp] using ih
theorem forX_same {b : PyData → Dl.Env → Option Dl.Env} {body : MSX} {e0 : Dl.Env} : ∀ (ds : List PyData), (∀ d ∈ ds, (b d e0).bind body = some (.o (.nx e0))) → forX b body ds e0 = some (.o (.nx e0))
  | [], _ => rfl
  | d :: r, h => by
    have ih := forX_same r fun y hy => h y (List.mem_cons_of_mem _ hy)
    obtain ⟨e1, q1, q2⟩ := Option.bind_eq_some_iff.mp (h d List.mem_cons_self)
    simp only [forX, q1, q2, Option.bind_some]
    exact ih
/-! ### need_town, whatever the orders -/
def ordB (n p : Int) (o : Ord) : Bool := (decide (0 ≤ o.of) && decide (o.of ≤ n - 1)) && ((decide (0 ≤ o.go) && decide (o.go ≤ n - 1)) && (!decide (o.of = o.go) && ((decide (0 ≤ o.pe) && decide (o.pe ≤ p - 1)) && (decide (0 ≤ o.be) && (decide (o.be < o.en) && decide (o.en ≤ 2000))))))
theorem is_order_all {n p : Nat} {ds : List (List Int)} (hl : ds.length = n) (o : Ord) : f_is_order [eDays ds, .int p, eOrd o] = some (.bool (ordB n p o)) := by
  subst hl
  simp only [f_is_order, m_is_order]
  walk_at "et"
  simp only [eOrd]
  walk_at "et"
  unfold ordB
  generalize h1 : (decide (0 ≤ o.of) && decide (o.of ≤ (ds.length : Int) - 1)) = c1
  generalize h2 : (decide (0 ≤ o.go) && decide (o.go ≤ (ds.length : Int) - 1)) = c2
  rw [show (o.of == o.go) = decide (o.of = o.go) from rfl]
  generalize h3 : decide (o.of = o.go) = c3
  cases c1
  · simp [outP]
  cases c2
  · simp [outP]
  cases c3
  rotate_left
  · simp [outP]
  rw [if_neg (by simp)]
  walk_at "et"
  generalize h4 : (decide (0 ≤ o.pe) && decide (o.pe ≤ (p : Int) - 1)) = c4
  cases c4
  · simp
  rw [if_pos rfl]
  walk_at "et"
  by_cases h5 : 0 ≤ o.be
  · rw [if_pos h5]
    by_cases h6 : o.be < o.en
    · rw [if_pos h6, if_pos (by decide)]
      walk_at "et"
      simp [h5, h6]
    · rw [if_neg h6]
      simp [h5, h6]
  · rw [if_neg h5]
    simp [h5]
/-- the first order that can't be -/
def badO (n p : Int) (os : List Ord) (k : Nat) : Bool := decide (20 ≤ k) || (match os[k]? with | some o => !ordB n p o | none => false)
def fbad (n p : Int) (os : List Ord) : Option Nat := (List.range os.length).find? (badO n p os)
def needR (t : Town) : Rz := match fbad t.days.length t.homes.length t.orders with
  | some k => .exc "BadTown" [("number", .int (k : Int)), ("word", .str "orders")]
  | none => .ret .none
theorem rngD_map (n : Nat) : rngD 0 n = (List.range n).map fun (k : Nat) => PyData.int (k : Int) := by
  unfold rngD
  refine List.map_congr_left fun k _ => ?_
  rw [Int.zero_add]
theorem bare_good {t : Town} (g : GoodTown t) : GoodTown { t with orders := [] } := ⟨g.pos, g.few, g.days, g.pos2, g.few2, g.homes, Nat.zero_le _, fun _ h => by cases h⟩
theorem x_need {t : Town} (g : GoodTown { t with orders := [] }) (hm : t.orders.length ≤ 16777216) : x_need_town [eTown t] = some (needR t) := by
  have h1 : t.days.length ≤ 6 := g.few
  have h2 : t.homes.length ≤ 6 := g.few2
  have h4 : 1 ≤ t.days.length := g.pos
  have gd : GoodDays t.days.length t.days := g.days
  have gh : ∀ h ∈ t.homes, GoodHomes t.days.length h := g.homes
  simp only [x_need_town, xm_need_town]
  walk_at "ez"
  simp only [eTown]
  walk_at "et"
  rw [if_pos (by omega)]
  walk_at "ez"
  rw [forX_same _ fun d hd => ?_]
  rotate_left
  · obtain ⟨j, hj, rfl⟩ := rngD_mem hd
    rw [Int.zero_add]
    walk_at "ez"
    simp only [is_road_ok gd h1 (show j < t.days.length by omega)]
    walk_at "et"
    rfl
  walk_at "ez"
  simp only [show dEq (eDays t.days) (.tuple []) = some (.bool t.days.isEmpty) from dEq_empT shp_eRow (by omega) _]
  walk_at "et"
  rw [if_neg (by cases hd : t.days with | nil => rw [hd] at h4; simp at h4 | cons _ _ => simp)]
  walk_at "ez"
  rw [if_pos (by omega)]
  walk_at "ez"
  rw [forX_same _ fun d hd => ?_]
  rotate_left
  · obtain ⟨j, hj, rfl⟩ := rngD_mem hd
    obtain ⟨y, hy⟩ := get_in (xs := t.homes) (i := j) (by omega)
    rw [Int.zero_add]
    walk_at "ez"
    rw [if_neg (by omega)]
    simp only [dIx_ePeople (atI_nat hy), ob]
    walk_at "et"
    simp only [are_homes_ok rfl (gh y (List.mem_of_getElem? hy))]
    walk_at "et"
    rfl
  walk_at "ez"
  rw [if_pos (by omega)]
  walk_at "et"
  rw [Int.toNat_natCast, rngD_map]
  rw [forX_find (fun (k : Nat) => PyData.int (k : Int)) (badO t.days.length t.homes.length t.orders) "BadTown" (fun k => [("number", .int (k : Int)), ("word", .str "orders")]) _ fun k hk => ?_]
  · unfold needR
    rw [show fbad t.days.length t.homes.length t.orders = (List.range t.orders.length).find? (badO t.days.length t.homes.length t.orders) from rfl]
    cases (List.range t.orders.length).find? (badO t.days.length t.homes.length t.orders) with
    | some k => rfl
    | none => rfl
  · have hk := List.mem_range.mp hk
    obtain ⟨y, hy⟩ := get_in (xs := t.orders) (i := k) hk
    walk_at "ez"
    unfold badO
    rw [hy]
    by_cases h20 : 20 ≤ k
    · rw [if_pos (by omega)]
      walk_at "ez"
      simp [h20]
    · rw [if_neg (by omega)]
      simp only [dIx_eOrds (atI_nat hy), ob]
      walk_at "et"
      simp only [is_order_all rfl]
      walk_at "et"
      by_cases hb : (!ordB t.days.length t.homes.length y) = true
      · rw [if_pos hb, if_pos (by simp only [hb, Bool.or_true])]
        rfl
      · rw [if_neg hb, if_neg (by simp only [Bool.or_eq_true, decide_eq_true_eq, not_or]; exact ⟨h20, hb⟩)]
        rfl
theorem fbad_none {t : Town} (g : GoodTown t) : fbad t.days.length t.homes.length t.orders = none := by
  unfold fbad
  rw [List.find?_eq_none]
  intro k hk
  have hk := List.mem_range.mp hk
  obtain ⟨y, hy⟩ := get_in (xs := t.orders) (i := k) hk
  have go := g.orders y (List.mem_of_getElem? hy)
  have h1 := go.of
  have h2 := go.pe
  have h3 := go.go
  have h4 := go.ne
  have h5 := go.be
  have h6 := go.en
  have hf := g.few3
  unfold badO
  rw [hy]
  simp [ordB]
  omega
theorem x_need_good {t : Town} (g : GoodTown t) : x_need_town [eTown t] = some (.ret .none) := by
  have hf := g.few3
  rw [x_need (bare_good g) (by omega)]
  unfold needR
  rw [fbad_none g]

/-! ### words -/
def digs (l : List Nat) : Bool := l.all fun c => decide (48 ≤ c) && decide (c ≤ 57)
def wOf (l : List Nat) : Str := ⟨l.toArray⟩
/-- no needless figure -/
def canon (l : List Nat) : Bool := match l with
  | [] => false
  | [_] => true
  | c :: _ => !decide (c = 48)
def chkW (l : List Nat) : Bool := match PySem.intText? (wOf l) with
  | some n => decide (0 ≤ n) && (decide (n ≤ 9999) && (PyData.strOk (toString n : String) && (decide (((toString n : String) : Str) = wOf l) == canon l)))
  | none => false
def chk4 (k : Nat) : Bool := (List.range 100).all fun m => chkW [48 + k / 10, 48 + k % 10, 48 + m / 10, 48 + m % 10]
def chk3 (k : Nat) : Bool := (List.range 100).all fun m => chkW [48 + k, 48 + m / 10, 48 + m % 10]
theorem w4_0 : chk4 0 = true := by decide +kernel
theorem w4_1 : chk4 1 = true := by decide +kernel
theorem w4_2 : chk4 2 = true := by decide +kernel
theorem w4_3 : chk4 3 = true := by decide +kernel
theorem w4_4 : chk4 4 = true := by decide +kernel
theorem w4_5 : chk4 5 = true := by decide +kernel
theorem w4_6 : chk4 6 = true := by decide +kernel
theorem w4_7 : chk4 7 = true := by decide +kernel
theorem w4_8 : chk4 8 = true := by decide +kernel
theorem w4_9 : chk4 9 = true := by decide +kernel
theorem w4_10 : chk4 10 = true := by decide +kernel
theorem w4_11 : chk4 11 = true := by decide +kernel
theorem w4_12 : chk4 12 = true := by decide +kernel
theorem w4_13 : chk4 13 = true := by decide +kernel
theorem w4_14 : chk4 14 = true := by decide +kernel
theorem w4_15 : chk4 15 = true := by decide +kernel
theorem w4_16 : chk4 16 = true := by decide +kernel
theorem w4_17 : chk4 17 = true := by decide +kernel
theorem w4_18 : chk4 18 = true := by decide +kernel
theorem w4_19 : chk4 19 = true := by decide +kernel
theorem w4_20 : chk4 20 = true := by decide +kernel
theorem w4_21 : chk4 21 = true := by decide +kernel
theorem w4_22 : chk4 22 = true := by decide +kernel
theorem w4_23 : chk4 23 = true := by decide +kernel
theorem w4_24 : chk4 24 = true := by decide +kernel
theorem w4_25 : chk4 25 = true := by decide +kernel
theorem w4_26 : chk4 26 = true := by decide +kernel
theorem w4_27 : chk4 27 = true := by decide +kernel
theorem w4_28 : chk4 28 = true := by decide +kernel
theorem w4_29 : chk4 29 = true := by decide +kernel
theorem w4_30 : chk4 30 = true := by decide +kernel
theorem w4_31 : chk4 31 = true := by decide +kernel
theorem w4_32 : chk4 32 = true := by decide +kernel
theorem w4_33 : chk4 33 = true := by decide +kernel
theorem w4_34 : chk4 34 = true := by decide +kernel
theorem w4_35 : chk4 35 = true := by decide +kernel
theorem w4_36 : chk4 36 = true := by decide +kernel
theorem w4_37 : chk4 37 = true := by decide +kernel
theorem w4_38 : chk4 38 = true := by decide +kernel
theorem w4_39 : chk4 39 = true := by decide +kernel
theorem w4_40 : chk4 40 = true := by decide +kernel
theorem w4_41 : chk4 41 = true := by decide +kernel
theorem w4_42 : chk4 42 = true := by decide +kernel
theorem w4_43 : chk4 43 = true := by decide +kernel
theorem w4_44 : chk4 44 = true := by decide +kernel
theorem w4_45 : chk4 45 = true := by decide +kernel
theorem w4_46 : chk4 46 = true := by decide +kernel
theorem w4_47 : chk4 47 = true := by decide +kernel
theorem w4_48 : chk4 48 = true := by decide +kernel
theorem w4_49 : chk4 49 = true := by decide +kernel
theorem w4_50 : chk4 50 = true := by decide +kernel
theorem w4_51 : chk4 51 = true := by decide +kernel
theorem w4_52 : chk4 52 = true := by decide +kernel
theorem w4_53 : chk4 53 = true := by decide +kernel
theorem w4_54 : chk4 54 = true := by decide +kernel
theorem w4_55 : chk4 55 = true := by decide +kernel
theorem w4_56 : chk4 56 = true := by decide +kernel
theorem w4_57 : chk4 57 = true := by decide +kernel
theorem w4_58 : chk4 58 = true := by decide +kernel
theorem w4_59 : chk4 59 = true := by decide +kernel
theorem w4_60 : chk4 60 = true := by decide +kernel
theorem w4_61 : chk4 61 = true := by decide +kernel
theorem w4_62 : chk4 62 = true := by decide +kernel
theorem w4_63 : chk4 63 = true := by decide +kernel
theorem w4_64 : chk4 64 = true := by decide +kernel
theorem w4_65 : chk4 65 = true := by decide +kernel
theorem w4_66 : chk4 66 = true := by decide +kernel
theorem w4_67 : chk4 67 = true := by decide +kernel
theorem w4_68 : chk4 68 = true := by decide +kernel
theorem w4_69 : chk4 69 = true := by decide +kernel
theorem w4_70 : chk4 70 = true := by decide +kernel
theorem w4_71 : chk4 71 = true := by decide +kernel
theorem w4_72 : chk4 72 = true := by decide +kernel
theorem w4_73 : chk4 73 = true := by decide +kernel
theorem w4_74 : chk4 74 = true := by decide +kernel
theorem w4_75 : chk4 75 = true := by decide +kernel
theorem w4_76 : chk4 76 = true := by decide +kernel
theorem w4_77 : chk4 77 = true := by decide +kernel
theorem w4_78 : chk4 78 = true := by decide +kernel
theorem w4_79 : chk4 79 = true := by decide +kernel
theorem w4_80 : chk4 80 = true := by decide +kernel
theorem w4_81 : chk4 81 = true := by decide +kernel
theorem w4_82 : chk4 82 = true := by decide +kernel
theorem w4_83 : chk4 83 = true := by decide +kernel
theorem w4_84 : chk4 84 = true := by decide +kernel
theorem w4_85 : chk4 85 = true := by decide +kernel
theorem w4_86 : chk4 86 = true := by decide +kernel
theorem w4_87 : chk4 87 = true := by decide +kernel
theorem w4_88 : chk4 88 = true := by decide +kernel
theorem w4_89 : chk4 89 = true := by decide +kernel
theorem w4_90 : chk4 90 = true := by decide +kernel
theorem w4_91 : chk4 91 = true := by decide +kernel
theorem w4_92 : chk4 92 = true := by decide +kernel
theorem w4_93 : chk4 93 = true := by decide +kernel
theorem w4_94 : chk4 94 = true := by decide +kernel
theorem w4_95 : chk4 95 = true := by decide +kernel
theorem w4_96 : chk4 96 = true := by decide +kernel
theorem w4_97 : chk4 97 = true := by decide +kernel
theorem w4_98 : chk4 98 = true := by decide +kernel
theorem w4_99 : chk4 99 = true := by decide +kernel
theorem w3_0 : chk3 0 = true := by decide +kernel
theorem w3_1 : chk3 1 = true := by decide +kernel
theorem w3_2 : chk3 2 = true := by decide +kernel
theorem w3_3 : chk3 3 = true := by decide +kernel
theorem w3_4 : chk3 4 = true := by decide +kernel
theorem w3_5 : chk3 5 = true := by decide +kernel
theorem w3_6 : chk3 6 = true := by decide +kernel
theorem w3_7 : chk3 7 = true := by decide +kernel
theorem w3_8 : chk3 8 = true := by decide +kernel
theorem w3_9 : chk3 9 = true := by decide +kernel
theorem w2_0 : ((List.range 100).all fun m => chkW [48 + m / 10, 48 + m % 10]) = true := by decide +kernel
theorem w1_0 : ((List.range 10).all fun m => chkW [48 + m]) = true := by decide +kernel
theorem w4_all : ∀ k : Nat, k < 100 → chk4 k = true
  | 0, _ => w4_0
  | 1, _ => w4_1
  | 2, _ => w4_2
  | 3, _ => w4_3
  | 4, _ => w4_4
  | 5, _ => w4_5
  | 6, _ => w4_6
  | 7, _ => w4_7
  | 8, _ => w4_8
  | 9, _ => w4_9
  | 10, _ => w4_10
  | 11, _ => w4_11
  | 12, _ => w4_12
  | 13, _ => w4_13
  | 14, _ => w4_14
  | 15, _ => w4_15
  | 16, _ => w4_16
  | 17, _ => w4_17
  | 18, _ => w4_18
  | 19, _ => w4_19
  | 20, _ => w4_20
  | 21, _ => w4_21
  | 22, _ => w4_22
  | 23, _ => w4_23
  | 24, _ => w4_24
  | 25, _ => w4_25
  | 26, _ => w4_26
  | 27, _ => w4_27
  | 28, _ => w4_28
  | 29, _ => w4_29
  | 30, _ => w4_30
  | 31, _ => w4_31
  | 32, _ => w4_32
  | 33, _ => w4_33
  | 34, _ => w4_34
  | 35, _ => w4_35
  | 36, _ => w4_36
  | 37, _ => w4_37
  | 38, _ => w4_38
  | 39, _ => w4_39
  | 40, _ => w4_40
  | 41, _ => w4_41
  | 42, _ => w4_42
  | 43, _ => w4_43
  | 44, _ => w4_44
  | 45, _ => w4_45
  | 46, _ => w4_46
  | 47, _ => w4_47
  | 48, _ => w4_48
  | 49, _ => w4_49
  | 50, _ => w4_50
  | 51, _ => w4_51
  | 52, _ => w4_52
  | 53, _ => w4_53
  | 54, _ => w4_54
  | 55, _ => w4_55
  | 56, _ => w4_56
  | 57, _ => w4_57
  | 58, _ => w4_58
  | 59, _ => w4_59
  | 60, _ => w4_60
  | 61, _ => w4_61
  | 62, _ => w4_62
  | 63, _ => w4_63
  | 64, _ => w4_64
  | 65, _ => w4_65
  | 66, _ => w4_66
  | 67, _ => w4_67
  | 68, _ => w4_68
  | 69, _ => w4_69
  | 70, _ => w4_70
  | 71, _ => w4_71
  | 72, _ => w4_72
  | 73, _ => w4_73
  | 74, _ => w4_74
  | 75, _ => w4_75
  | 76, _ => w4_76
  | 77, _ => w4_77
  | 78, _ => w4_78
  | 79, _ => w4_79
  | 80, _ => w4_80
  | 81, _ => w4_81
  | 82, _ => w4_82
  | 83, _ => w4_83
  | 84, _ => w4_84
  | 85, _ => w4_85
  | 86, _ => w4_86
  | 87, _ => w4_87
  | 88, _ => w4_88
  | 89, _ => w4_89
  | 90, _ => w4_90
  | 91, _ => w4_91
  | 92, _ => w4_92
  | 93, _ => w4_93
  | 94, _ => w4_94
  | 95, _ => w4_95
  | 96, _ => w4_96
  | 97, _ => w4_97
  | 98, _ => w4_98
  | 99, _ => w4_99
  | k + 100, h => absurd h (by omega)
theorem w3_all : ∀ k : Nat, k < 10 → chk3 k = true
  | 0, _ => w3_0
  | 1, _ => w3_1
  | 2, _ => w3_2
  | 3, _ => w3_3
  | 4, _ => w3_4
  | 5, _ => w3_5
  | 6, _ => w3_6
  | 7, _ => w3_7
  | 8, _ => w3_8
  | 9, _ => w3_9
  | k + 10, h => absurd h (by omega)
theorem word_all : ∀ l : List Nat, digs l = true → 1 ≤ l.length → l.length ≤ 4 → chkW l = true
  | [], _, h, _ => absurd h (by decide)
  | [a], hd, _, _ => by
    simp only [digs, List.all_cons, List.all_nil, Bool.and_true, Bool.and_eq_true, decide_eq_true_eq] at hd
    have h := List.all_eq_true.mp w1_0 (a - 48) (List.mem_range.mpr (by omega))
    rwa [show 48 + (a - 48) = a by omega] at h
  | [a, b], hd, _, _ => by
    simp only [digs, List.all_cons, List.all_nil, Bool.and_true, Bool.and_eq_true, decide_eq_true_eq] at hd
    have h := List.all_eq_true.mp w2_0 ((a - 48) * 10 + (b - 48)) (List.mem_range.mpr (by omega))
    rwa [show 48 + ((a - 48) * 10 + (b - 48)) / 10 = a by omega, show 48 + ((a - 48) * 10 + (b - 48)) % 10 = b by omega] at h
  | [a, b, c], hd, _, _ => by
    simp only [digs, List.all_cons, List.all_nil, Bool.and_true, Bool.and_eq_true, decide_eq_true_eq] at hd
    have h := List.all_eq_true.mp (w3_all (a - 48) (by omega)) ((b - 48) * 10 + (c - 48)) (List.mem_range.mpr (by omega))
    rwa [show 48 + (a - 48) = a by omega, show 48 + ((b - 48) * 10 + (c - 48)) / 10 = b by omega, show 48 + ((b - 48) * 10 + (c - 48)) % 10 = c by omega] at h
  | [a, b, c, d], hd, _, _ => by
    simp only [digs, List.all_cons, List.all_nil, Bool.and_true, Bool.and_eq_true, decide_eq_true_eq] at hd
    have h := List.all_eq_true.mp (w4_all ((a - 48) * 10 + (b - 48)) (by omega)) ((c - 48) * 10 + (d - 48)) (List.mem_range.mpr (by omega))
    rwa [show 48 + ((a - 48) * 10 + (b - 48)) / 10 = a by omega, show 48 + ((a - 48) * 10 + (b - 48)) % 10 = b by omega, show 48 + ((c - 48) * 10 + (d - 48)) / 10 = c by omega, show 48 + ((c - 48) * 10 + (d - 48)) % 10 = d by omega] at h
  | _ :: _ :: _ :: _ :: _ :: _, _, _, h => absurd h (by simp)

/-! ### number_of -/
theorem str_ok (s : Str) : PyData.strOk s = (TL.tl s).all fun c => decide (c < 0x110000) := by
  show s.cps.all _ = s.cps.toList.all _
  rw [Array.all_toList]
theorem shp_str {s : Str} (h : PyData.strOk s = true) : SeqAt.shaped (.str s) = true := by simp [SeqAt.shaped, PyData.canLay0, PyData.depth, h]
theorem shp_str1 {s : Str} (h : PyData.strOk s = true) : shp 1 (.str s) := ⟨by simp [PyData.canLay0, h], by simp [PyData.depth]⟩
theorem eqv_str (s z : Str) : PyData.eqv (.str s) (.str z) = decide (s = z) := by
  simp only [PyData.eqv]
  by_cases h : s = z
  · subst h; simp
  · simp [h]
theorem dNe_str {s z : Str} (h : PyData.strOk s = true) (h2 : PyData.strOk z = true) : dNe (.str s) (.str z) = some (.bool (!decide (s = z))) := by
  unfold dNe
  rw [if_pos ⟨shp_str h, shp_str h2⟩, eqv_str]
theorem dEq_str {s z : Str} (h : PyData.strOk s = true) (h2 : PyData.strOk z = true) : dEq (.str s) (.str z) = some (.bool (decide (s = z))) := by
  unfold dEq
  rw [if_pos ⟨shp_str h, shp_str h2⟩, eqv_str]
def optD : Option Int → PyData
  | some n => .int n
  | none => .none
def wordN (w : Str) : Option Int := if (1 ≤ (TL.tl w).length ∧ (TL.tl w).length ≤ 4) ∧ digs (TL.tl w) = true ∧ canon (TL.tl w) = true then PySem.intText? w else none
theorem figs_tl : TL.tl ("0123456789" : Str) = [48, 49, 50, 51, 52, 53, 54, 55, 56, 57] := by decide +kernel
theorem mem_figs (c : Nat) : c ∈ TL.tl ("0123456789" : Str) ↔ 48 ≤ c ∧ c ≤ 57 := by
  rw [figs_tl]
  simp only [List.mem_cons, List.not_mem_nil, or_false]
  omega
def notFig (c : Nat) : Bool := !decide (c ∈ TL.tl ("0123456789" : Str))
theorem digs_filter (l : List Nat) : (l.filter notFig).isEmpty = digs l := by
  induction l with
  | nil => rfl
  | cons c r ih =>
    rw [List.filter_cons]
    have e : notFig c = !(decide (48 ≤ c) && decide (c ≤ 57)) := by
      unfold notFig
      congr 1
      rw [← Bool.decide_and]
      exact decide_eq_decide.mpr (mem_figs c)
    rw [e]
    show _ = ((decide (48 ≤ c) && decide (c ≤ 57)) && digs r)
    cases (decide (48 ≤ c) && decide (c ≤ 57))
    · simp
    · simpa using ih
def sgD (c : Nat) : PyData := .str ⟨#[c]⟩
theorem dNe_sgs {l : List Nat} (h : ∀ c ∈ l, c < 0x110000) : dNe (.list (l.map sgD)) (.list []) = some (.bool (!l.isEmpty)) := by
  have hs : SeqAt.shaped (.list (l.map sgD)) = true := (shp_list (n := 1) fun d hd => by
    obtain ⟨c, hc, rfl⟩ := List.mem_map.mp hd
    refine shp_str1 ?_
    rw [str_ok]
    show ([c].all fun c => decide (c < 0x110000)) = true
    simpa using h c hc).shaped (by omega)
  unfold dNe
  rw [if_pos ⟨hs, by decide⟩]
  cases l <;> simp [PyData.eqv, PyData.eqvAll]
theorem notIn_sg (c : Nat) : dNotInS (sgD c) (.str "0123456789") = some (.bool (notFig c)) := rfl
theorem canon_txt {w : Str} (h : 1 ≤ (TL.tl w).length) : canon (TL.tl w) = !(decide ((TL.tl w)[0]? = some 48) && !decide (w = "0")) := by
  have e0 : TL.tl ("0" : Str) = [48] := by decide +kernel
  have ew : (w = "0") ↔ TL.tl w = [48] := ⟨fun z => by rw [z, e0], fun z => TL.ext_tl (by rw [z, e0])⟩
  match hl : TL.tl w with
  | [] => rw [hl] at h; simp at h
  | [c] =>
    by_cases hc : c = 48
    · subst hc
      have : w = "0" := ew.mpr hl
      simp [canon, this]
    · simp [canon, hc]
  | c :: d :: r =>
    have : ¬ w = "0" := fun z => by rw [ew.mp z] at hl; cases hl
    simp [canon, this]
structure WordF (w : Str) (n : Int) : Prop where
  txt : PySem.intText? w = some n
  lo : 0 ≤ n
  hi : n ≤ 9999
  ok : PyData.strOk ((toString n : String) : Str) = true
  can : (((toString n : String) : Str) = w) ↔ canon (TL.tl w) = true
theorem word_facts {w : Str} (hd : digs (TL.tl w) = true) (h1 : 1 ≤ (TL.tl w).length) (h4 : (TL.tl w).length ≤ 4) : ∃ n, WordF w n := by
  have hch := word_all _ hd h1 h4
  rw [chkW, show wOf (TL.tl w) = w from TL.mk_tl w] at hch
  split at hch
  · rename_i n hn
    simp only [Bool.and_eq_true, decide_eq_true_eq, beq_iff_eq] at hch
    obtain ⟨a, b, c, d⟩ := hch
    refine ⟨n, hn, a, b, c, ?_⟩
    rw [← d, decide_eq_true_iff]
  · cases hch
theorem number_ok {w : Str} (hs : PyData.strOk w = true) (hm : w.length ≤ 16777216) : f_number_of [.str w] = some (optD (wordN w)) := by
  have hc : ∀ c ∈ TL.tl w, c < 0x110000 := fun c hc => by
    rw [str_ok] at hs
    simpa using List.all_eq_true.mp hs c hc
  simp only [f_number_of, m_number_of]
  walk_at "et"
  simp only [cLen, if_pos hm, ob]
  walk_at "et"
  have hl := TL.len_tl w
  by_cases h14 : 1 ≤ (TL.tl w).length ∧ (TL.tl w).length ≤ 4
  rotate_left
  · rw [if_pos (by simp; omega)]
    walk_at "et"
    rw [wordN, if_neg (fun z => h14 z.1)]
    rfl
  rw [if_neg (by simp; omega)]
  simp only [mItS]
  walk_at "et"
  rw [if_pos (by rw [Dl.signs, List.length_map]; show (TL.tl w).length ≤ _; omega)]
  rw [show Dl.signs w = (TL.tl w).map sgD from rfl, lcL_eq sgD notFig sgD (TL.tl w) fun c hc => ?_]
  rotate_left
  · walk_at "et"
    simp only [notIn_sg, ob]
    walk_at "et"
    refine Ev.ret ⟨rfl, rfl, fun _ => ?_⟩
    walk_at "et"
    exact Ev.ret ⟨rfl, rfl⟩
  walk_at "et"
  rw [dNe_sgs (fun c hc' => hc c (List.mem_filter.mp hc').1), digs_filter]
  walk_at "et"
  obtain ⟨c0, r, hw⟩ : ∃ c0 r, TL.tl w = c0 :: r := by
    cases e : TL.tl w with
    | nil => rw [e] at h14; simp at h14
    | cons c0 r => exact ⟨c0, r, rfl⟩
  have e0 : dIx (.str w) (.int 0) = some (sgD c0) := by
    have h0 : atI w.cps.toList 0 = some c0 := atI_ofNat (i := 0) (by omega) (by rw [show w.cps.toList = c0 :: r from hw]; rfl)
    simp only [dIx, if_pos hm, h0, ob]
    rfl
  have e1 : dEq (sgD c0) (.str "0") = some (.bool (decide (c0 = 48))) := by
    have hk : PyData.strOk ⟨#[c0]⟩ = true := by
      rw [str_ok]
      show ([c0].all fun c => decide (c < 0x110000)) = true
      simpa using hc c0 (by rw [hw]; exact List.mem_cons_self)
    rw [show sgD c0 = .str ⟨#[c0]⟩ from rfl, dEq_str hk (by decide +kernel)]
    congr 2
    refine decide_eq_decide.mpr ⟨fun z => ?_, fun z => ?_⟩
    · have := congrArg TL.tl z
      rw [show TL.tl ("0" : Str) = [48] by decide +kernel] at this
      exact List.head_eq_of_cons_eq this
    · subst z
      decide +kernel
  have e2 := dNe_str hs (show PyData.strOk ("0" : Str) = true by decide +kernel)
  by_cases hd : digs (TL.tl w) = true
  rotate_left
  · rw [if_pos (by simp only [Bool.not_eq_true', Bool.not_eq_true] at hd ⊢; exact hd)]
    walk_at "et"
    rw [wordN, if_neg (fun z => hd z.2.1)]
    rfl
  rw [if_neg (by simp only [hd, Bool.not_true]; exact Bool.false_ne_true)]
  walk_at "et"
  simp only [e0, e1, e2, ob]
  walk_at "et"
  have hcan := canon_txt h14.1
  have h0 : (TL.tl w)[0]? = some c0 := by rw [hw]; rfl
  rw [h0] at hcan
  obtain ⟨n, hn⟩ := word_facts hd h14.1 h14.2
  have e3 : cIntS [.str w] = some (.int n) := by
    simp only [cIntS, if_pos (show w.length ≤ 640 by omega), hn.txt, ob]
  by_cases hz : c0 = 48
  · rw [if_pos hz, e2]
    walk_at "et"
    by_cases hw0 : w = "0"
    · rw [if_neg (by simp [hw0])]
      walk_at "et"
      rw [wordN, if_pos ⟨h14, hd, by rw [hcan]; simp [hw0]⟩, hn.txt]
      simp only [e3, ob]
      rfl
    · rw [if_pos (by simp [hw0])]
      walk_at "et"
      rw [wordN, if_neg (fun z => by have := z.2.2; rw [hcan] at this; simp [hz, hw0] at this)]
      rfl
  · rw [if_neg hz]
    walk_at "et"
    rw [wordN, if_pos ⟨h14, hd, by rw [hcan]; simp [hz]⟩, hn.txt]
    simp only [e3, ob]
    rfl

/-! ### texts cut at one sign -/
theorem pre1 (s c : Nat) (r : List Nat) : TL.pre [s] (c :: r) = decide (c = s) := by
  unfold TL.pre
  simp only [List.length_singleton, List.take_succ_cons, List.take_zero]
  by_cases h : c = s
  · subst h; simp
  · simp [h]
theorem spl1_ne (s : Nat) : ∀ (l acc : List Nat), TL.spl [s] 0 acc l ≠ []
  | [], acc => by rw [TL.spl_nil]; simp
  | c :: r, acc => by
    by_cases h : c = s
    · rw [TL.spl_hit (by rw [pre1]; simpa using h)]; simp
    · rw [TL.spl_miss (by rw [pre1]; simpa using h)]; exact spl1_ne s r _
theorem spl1_len (s : Nat) : ∀ (l acc : List Nat), ((TL.spl [s] 0 acc l).map List.length).sum + (TL.spl [s] 0 acc l).length = acc.length + l.length + 1
  | [], acc => by rw [TL.spl_nil]; simp
  | c :: r, acc => by
    by_cases h : c = s
    · rw [TL.spl_hit (by rw [pre1]; simpa using h)]
      have := spl1_len s r []
      simp only [List.length_singleton, Nat.sub_self, List.map_cons, List.sum_cons, List.length_cons, List.length_nil] at this ⊢
      omega
    · rw [TL.spl_miss (by rw [pre1]; simpa using h)]
      have := spl1_len s r (acc ++ [c])
      simp only [List.length_append, List.length_cons, List.length_nil] at this ⊢
      omega
theorem spl1_mem (s : Nat) : ∀ (l acc p : List Nat), p ∈ TL.spl [s] 0 acc l → ∀ c ∈ p, c ∈ acc ∨ c ∈ l
  | [], acc, p, hp, c, hc => by
    rw [TL.spl_nil, List.mem_singleton] at hp
    subst hp
    exact .inl hc
  | d :: r, acc, p, hp, c, hc => by
    by_cases h : d = s
    · rw [TL.spl_hit (by rw [pre1]; simpa using h)] at hp
      rcases List.mem_cons.mp hp with rfl | hp
      · exact .inl hc
      · rcases spl1_mem s r [] p hp c hc with z | z
        · cases z
        · exact .inr (List.mem_cons_of_mem _ z)
    · rw [TL.spl_miss (by rw [pre1]; simpa using h)] at hp
      rcases spl1_mem s r _ p hp c hc with z | z
      · rcases List.mem_append.mp z with z | z
        · exact .inl z
        · exact .inr (by rw [List.mem_singleton.mp z]; exact List.mem_cons_self)
      · exact .inr (List.mem_cons_of_mem _ z)
/-- a sign that cuts -/
structure Sg (y : Str) (s : Nat) : Prop where
  tl : TL.tl y = [s]
  lo : s < 256
theorem sg_sp : Sg " " 32 := ⟨by decide +kernel, by decide⟩
theorem sg_nl : Sg "\n" 10 := ⟨by decide +kernel, by decide⟩
theorem Sg.split {y : Str} {s : Nat} (h : Sg y s) (x : Str) : (Txt.split x y).map TL.tl = TL.spl [s] 0 [] (TL.tl x) := by
  have := TL.split_spl x y (by rw [h.tl]; simp) (TL.kind_ok (by
    have e : y.cps = #[s] := by
      apply Array.toList_inj.mp
      exact h.tl
    rw [e]
    simpa using h.lo))
  rw [h.tl] at this
  exact this
theorem Sg.len {y : Str} {s : Nat} (h : Sg y s) : y.length = 1 := by rw [TL.len_tl, h.tl]; rfl
theorem sum_map_tl (l : List Str) : ((l.map TL.tl).map List.length).sum = (l.map (·.length)).sum := by
  congr 1
  rw [List.map_map]
  exact List.map_congr_left fun x _ => (TL.len_tl x).symm
theorem Sg.total {y : Str} {s : Nat} (h : Sg y s) (x : Str) : ((Txt.split x y).map (·.length)).sum + (Txt.split x y).length = x.length + 1 := by
  have := spl1_len s (TL.tl x) []
  rw [← h.split x, sum_map_tl, List.length_map, List.length_nil, Nat.zero_add, ← TL.len_tl] at this
  exact this
theorem Sg.ne {y : Str} {s : Nat} (h : Sg y s) (x : Str) : Txt.split x y ≠ [] := fun z => by
  have := spl1_ne s (TL.tl x) []
  rw [← h.split x, z] at this
  exact this rfl
theorem sum_mem_le : ∀ {l : List Str} {p : Str}, p ∈ l → p.length ≤ (l.map (·.length)).sum
  | x :: r, p, h => by
    rw [List.map_cons, List.sum_cons]
    rcases List.mem_cons.mp h with rfl | h
    · omega
    · have := sum_mem_le h
      omega
theorem Sg.part {y : Str} {s : Nat} (h : Sg y s) {x p : Str} (hp : p ∈ Txt.split x y) : p.length ≤ x.length ∧ ∀ c ∈ TL.tl p, c ∈ TL.tl x := by
  constructor
  · have h1 := h.total x
    have h2 := sum_mem_le hp
    have h3 : 1 ≤ (Txt.split x y).length := List.length_pos_iff.mpr (h.ne x)
    omega
  · intro c hc
    have hm : TL.tl p ∈ TL.spl [s] 0 [] (TL.tl x) := by
      rw [← h.split x]
      exact List.mem_map.mpr ⟨p, hp, rfl⟩
    rcases spl1_mem s _ _ _ hm c hc with z | z
    · cases z
    · exact z
theorem strOk_sub {x p : Str} (hs : PyData.strOk x = true) (h : ∀ c ∈ TL.tl p, c ∈ TL.tl x) : PyData.strOk p = true := by
  rw [str_ok, List.all_eq_true] at hs ⊢
  exact fun c hc => hs c (h c hc)
theorem Sg.many {y : Str} {s : Nat} (h : Sg y s) (x : Str) : (Txt.split x y).length ≤ x.length + 1 := by
  have := h.total x
  omega
theorem Sg.d {y : Str} {s : Nat} (h : Sg y s) {x : Str} (hm : x.length ≤ 16777000) : dSplit (.str x) (.str y) = some (.list ((Txt.split x y).map .str)) := by
  show (if _ then _ else _) = _
  rw [if_pos ⟨by rw [h.len]; rfl, by omega⟩]
/-! ### rows -/
def allN (ws : List Str) : Bool := ws.all fun w => (wordN w).isSome
def getN (ws : List Str) : List Int := ws.map fun w => (wordN w).getD 0
def ordOf : List Int → Ord
  | [a, b, c, d, e] => ⟨a, b, c, d, e⟩
  | _ => ⟨0, 0, 0, 0, 0⟩
theorem ordOf_e {l : List Int} (h : l.length = 5) : PyData.tuple (l.map .int) = eOrd (ordOf l) := by
  match l, h with
  | [a, b, c, d, e], _ => rfl
/-- a text's words, the first one apart -/
def rowO (s : Str) : Option Ord := match Txt.split s " " with
  | [] => none
  | h :: ws => if (ws.length = 5 ∧ h = "order") ∧ allN ws = true then some (ordOf (getN ws)) else none
def rowD : Option Ord → PyData
  | some o => eOrd o
  | none => .none
theorem imm_strL (ws : List Str) : immA (ws.map .str) = true := by
  induction ws with
  | nil => simp [immA]
  | cons a r ih => simp [immA, imm, ih]
theorem tail_cut (h : Str) (ws : List Str) : dSl (.list ((h :: ws).map .str)) (some 1) none = some (.list (ws.map .str)) := by
  have hi := imm_strL (h :: ws)
  simp only [dSl, hi, if_true]
  congr 2
  unfold Dl.cutD
  simp only [HT.sIx, List.length_map, List.length_cons]
  rw [if_neg (by omega)]
  rw [show min (Int.toNat 1) (ws.length + 1) = 1 by simp]
  rw [List.map_cons, List.drop_succ_cons, List.drop_zero, List.take_of_length_le (by rw [List.length_map]; omega)]

/-! ### the row readers -/
theorem tl_nil (w : Str) : w = "" ↔ (TL.tl w).length = 0 := by
  have e0 : TL.tl ("" : Str) = [] := by decide +kernel
  constructor
  · intro z; rw [z, e0]; rfl
  · intro z; exact TL.ext_tl (by rw [e0]; exact List.length_eq_zero_iff.mp z)
theorem wordN_none {w : Str} (h : ¬ ((1 ≤ (TL.tl w).length ∧ (TL.tl w).length ≤ 4) ∧ digs (TL.tl w) = true ∧ canon (TL.tl w) = true)) : wordN w = none := if_neg h
theorem wordN_some {w : Str} {n : Int} (h : (1 ≤ (TL.tl w).length ∧ (TL.tl w).length ≤ 4) ∧ digs (TL.tl w) = true ∧ canon (TL.tl w) = true) (hn : WordF w n) : wordN w = some n := (if_pos h).trans hn.txt
def wEnv (x : Str) (ws : List Str) (s2 : Sl) : Dl.Env := ⟨[.wk (.str x), .wk (.list (ws.map .str)), s2, .no], []⟩
theorem allN_of {ws : List Str} (h : ∀ j : Nat, j < ws.length → ∀ w, ws[j]? = some w → (wordN w).isSome = true) : allN ws = true := by
  unfold allN
  rw [List.all_eq_true]
  intro w hw
  obtain ⟨j, hj⟩ := List.getElem?_of_mem hw
  exact h j (List.getElem?_eq_some_iff.mp hj).1 w hj
theorem allN_no {ws : List Str} {w : Str} (hw : w ∈ ws) (h : wordN w = none) : allN ws = false := by
  cases e : allN ws with
  | false => rfl
  | true =>
    have := List.all_eq_true.mp e w hw
    rw [h] at this
    cases this
theorem allN_get {ws : List Str} (h : allN ws = true) {w : Str} (hw : w ∈ ws) : ∃ n, wordN w = some n := Option.isSome_iff_exists.mp (List.all_eq_true.mp h w hw)
theorem digs_of {w : Str} {n : Int} (h : wordN w = some n) : ((1 ≤ (TL.tl w).length ∧ (TL.tl w).length ≤ 4) ∧ digs (TL.tl w) = true ∧ canon (TL.tl w) = true) ∧ WordF w n := by
  unfold wordN at h
  split at h
  · rename_i hc
    obtain ⟨m, hm⟩ := word_facts hc.2.1 hc.1.1 hc.1.2
    rw [hm.txt] at h
    cases h
    exact ⟨hc, hm⟩
  · cases h
theorem log_small {n : Int} (h0 : 0 ≤ n) (h : n ≤ 9999) : n.natAbs.log2 < 1920 := by
  have hn : n.natAbs < 2 ^ 14 := by omega
  rcases Nat.eq_zero_or_pos n.natAbs with z | z
  · rw [z]; decide
  · have := (Nat.log2_lt (by omega)).mpr hn
    omega
theorem cStr_ok {w : Str} {n : Int} (h : WordF w n) : cStr [.int n] = some (.str ((toString n : String) : Str)) := if_pos (log_small h.lo h.hi)
theorem cIntS_ok {w : Str} {n : Int} (h : WordF w n) (h4 : (TL.tl w).length ≤ 4) : cIntS [.str w] = some (.int n) := by
  have hl := TL.len_tl w
  simp only [cIntS, if_pos (show w.length ≤ 640 by omega), h.txt, ob]
abbrev wBody : MS := (sSeq (sIf (tOrM (tBool (mOp2 dEq (oVar 2) (oVal (mC (.str ""))))) (tOrM (tBool (mOp2 dGt (oVal (mCall cLen (aCons (oVar 2) aNil))) (oVal (mC (.int 4))))) (tBool (mOp2 dNe (oVal (mLc (mItS (oVar 2)) (bNameW 3) [3] (tBool (mOp2 dNotInS (oVar 3) (oVal (mC (.str "0123456789"))))) (mCopy 3))) (oVal (mLst aNil)))))) (sRet (mC .none)) sNil) (sIf (tBool (mOp2 dNe (oVal (mCall cStr (aCons (oVal (mCall cIntS (aCons (oVar 2) aNil))) aNil))) (oVar 2))) (sRet (mC .none)) sNil))
/-- one word of a row -/
theorem word_step {x w : Str} {ws : List Str} (hs : PyData.strOk w = true) (hm : w.length ≤ 16777216) (s2 : Sl) :
    (bNameW 2 (.str w) (wEnv x ws s2)).bind wBody
    = some (if (wordN w).isSome = true then .nx (wEnv x ws (.wk (.str w))) else .ret .none []) := by
  have hl := TL.len_tl w
  have hc : ∀ c ∈ TL.tl w, c < 0x110000 := fun c hc => by
    rw [str_ok] at hs
    simpa using List.all_eq_true.mp hs c hc
  simp only [wEnv]
  walk_at "et"
  rw [dEq_str hs (show PyData.strOk "" = true by decide +kernel)]
  walk_at "et"
  by_cases h0 : w = ""
  · rw [if_pos h0]
    walk_at "et"
    have := (tl_nil w).mp h0
    rw [wordN_none (by omega)]
    simp
  rw [if_neg h0]
  simp only [cLen, if_pos hm, ob]
  walk_at "et"
  have h1 : 1 ≤ (TL.tl w).length := by
    have : ¬ (TL.tl w).length = 0 := fun z => h0 ((tl_nil w).mpr z)
    omega
  by_cases h4 : (4 : Int) < w.length
  · rw [if_pos h4]
    walk_at "et"
    rw [wordN_none (by omega)]
    simp
  rw [if_neg h4]
  have h4' : (TL.tl w).length ≤ 4 := by omega
  simp only [mItS]
  walk_at "et"
  rw [if_pos (by rw [Dl.signs, List.length_map]; show (TL.tl w).length ≤ _; omega)]
  rw [show Dl.signs w = (TL.tl w).map sgD from rfl, lcL_eq sgD notFig sgD (TL.tl w) fun c hc => ?_]
  rotate_left
  · walk_at "et"
    simp only [notIn_sg, ob]
    walk_at "et"
    refine Ev.ret ⟨rfl, rfl, fun _ => ?_⟩
    walk_at "et"
    exact Ev.ret ⟨rfl, rfl⟩
  walk_at "et"
  rw [dNe_sgs (fun c hc' => hc c (List.mem_filter.mp hc').1), digs_filter]
  walk_at "et"
  by_cases hd : digs (TL.tl w) = true
  rotate_left
  · rw [if_pos (by simp only [Bool.not_eq_true', Bool.not_eq_true] at hd ⊢; exact hd)]
    walk_at "et"
    rw [wordN_none (fun z => hd z.2.1)]
    simp
  rw [if_neg (by simp only [hd, Bool.not_true]; exact Bool.false_ne_true)]
  walk_at "et"
  obtain ⟨n, hn⟩ := word_facts hd h1 h4'
  simp only [cIntS_ok hn h4', cStr_ok hn, dNe_str hn.ok hs, ob]
  walk_at "et"
  by_cases hcn : canon (TL.tl w) = true
  · rw [if_neg (by simp only [hn.can.mpr hcn, decide_true, Bool.not_true]; exact Bool.false_ne_true), wordN_some ⟨⟨h1, h4'⟩, hd, hcn⟩ hn]
    simp
  · rw [if_pos (by simp only [Bool.not_eq_true', decide_eq_false_iff_not]; exact fun z => hcn (hn.can.mp z)), wordN_none (fun z => hcn z.2.2)]
    simp
theorem words_loop {x : Str} {W : List Str} : ∀ (ws : List Str) (s2 : Sl), (∀ w ∈ ws, PyData.strOk w = true ∧ w.length ≤ 16777216) → ∃ s2', forL (bNameW 2) wBody (ws.map .str) (wEnv x W s2) = some (if allN ws = true then .nx (wEnv x W s2') else .ret .none [])
  | [], s2, _ => ⟨s2, rfl⟩
  | w :: r, s2, h => by
    obtain ⟨h1, h2⟩ := h w List.mem_cons_self
    have hw := word_step (x := x) (ws := W) h1 h2 s2
    obtain ⟨e1, q1, q2⟩ := Option.bind_eq_some_iff.mp hw
    by_cases hn : (wordN w).isSome = true
    · rw [if_pos hn] at q2
      obtain ⟨s3, ih⟩ := words_loop (x := x) (W := W) r (.wk (.str w)) fun y hy => h y (List.mem_cons_of_mem _ hy)
      refine ⟨s3, ?_⟩
      rw [List.map_cons]
      simp only [forL, q1, q2, Option.bind_some, ih]
      have : allN (w :: r) = allN r := by
        show ((wordN w).isSome && allN r) = _
        rw [hn, Bool.true_and]
      rw [this]
    · rw [if_neg hn] at q2
      refine ⟨.no, ?_⟩
      rw [List.map_cons]
      simp only [forL, q1, q2, Option.bind_some]
      have : allN (w :: r) = false := by
        show ((wordN w).isSome && allN r) = _
        simp only [Bool.not_eq_true] at hn
        rw [hn, Bool.false_and]
      rw [this]
      rfl
theorem get_ints {ws : List Str} (h : allN ws = true) {w : Str} (hw : w ∈ ws) : cIntS [.str w] = some (.int ((wordN w).getD 0)) := by
  obtain ⟨n, hn⟩ := allN_get h hw
  obtain ⟨hc, hf⟩ := digs_of hn
  rw [hn]
  exact cIntS_ok hf hc.1.2
theorem law_row_ok {x : Str} (hs : PyData.strOk x = true) (hm : x.length ≤ 16000000) : f__law_row [.str x] = some (rowD (rowO x)) := by
  simp only [f__law_row, m__law_row]
  walk_at "et"
  simp only [mM1]
  walk_at "et"
  simp only [isStr, if_true, sg_sp.d (show x.length ≤ 16777000 by omega), ob]
  walk_at "et"
  have hpart := fun p (hp : p ∈ Txt.split x " ") => sg_sp.part hp
  unfold rowO
  cases hsp : Txt.split x " " with
  | nil => exact absurd hsp (sg_sp.ne x)
  | cons h ws =>
  rw [hsp] at hpart
  have hh := hpart h List.mem_cons_self
  have e0 : dIx (.list ((h :: ws).map .str)) (.int 0) = some (.str h) := by
    have h0 : atI ((h :: ws).map PyData.str) 0 = some (.str h) := atI_ofNat (i := 0) (by omega) rfl
    simp only [dIx, h0, ob, imm, if_true]
  rw [e0, ob, dNe_str (strOk_sub hs hh.2) (show PyData.strOk ("order" : Str) = true by decide +kernel)]
  rw [List.length_map, List.length_cons]
  walk_at "et"
  by_cases hg : ws.length = 5 ∧ h = "order"
  rotate_left
  · rw [if_pos (by
      simp only [Bool.or_eq_true, bne_iff_ne, Bool.not_eq_true', decide_eq_false_iff_not]
      by_cases h5 : ws.length = 5
      · exact .inr fun z => hg ⟨h5, z⟩
      · exact .inl (by omega))]
    walk_at "et"
    rw [if_neg (fun z => hg z.1)]
    rfl
  rw [if_neg (by simp [hg.1, hg.2])]
  walk_at "et"
  have hws : ∀ w ∈ ws, PyData.strOk w = true ∧ w.length ≤ 16777216 := fun w hw => by
    have := hpart w (List.mem_cons_of_mem _ hw)
    exact ⟨strOk_sub hs this.2, by omega⟩
  have ht := tail_cut h ws
  rw [List.map_cons] at ht
  have hi : itD (.list (ws.map .str)) = some (ws.map .str) := by simp [itD, immL, imm_strL]
  simp only [ht, hi, ob]
  obtain ⟨s3, hlp⟩ := words_loop (x := x) (W := h :: ws) ws .no hws
  simp only [wEnv, List.map_cons] at hlp
  rw [hlp]
  by_cases ha : allN ws = true
  rotate_left
  · rw [if_neg ha, if_neg (fun z => ha z.2)]
    walk_at "et"
    rfl
  rw [if_pos ha, if_pos ⟨hg, ha⟩]
  walk_at "et"
  simp only [ht, hi, ob]
  rw [if_pos (by rw [List.length_map]; omega)]
  rw [lcL_map PyData.str (fun w => PyData.int ((wordN w).getD 0)) ws fun w hw => ?_]
  rotate_left
  · walk_at "et"
    simp only [get_ints ha hw, ob]
    exact Ev.ret ⟨rfl, rfl⟩
  walk_at "et"
  have hi2 : immA (ws.map fun w => PyData.int ((wordN w).getD 0)) = true := immA_map (fun _ => by simp [imm]) ws
  simp only [cTuple, hi2, if_true, ob]
  congr 1
  have h5 : (getN ws).length = 5 := by rw [getN, List.length_map]; exact hg.1
  rw [rowD, ← ordOf_e h5, getN, List.map_map]
  rfl

/-! ### with_orders, whatever the text -/
def rowsT (x : Str) : List Str := if x = "" then [] else Txt.split x "\n"
/-- the first row that is none -/
def firstN : Nat → List Str → Option Nat
  | _, [] => none
  | k, r :: rs => if (rowO r).isNone = true then some k else firstN (k + 1) rs
def withR (t : Town) (x : Str) : Rz := match firstN 0 (rowsT x) with
  | some k => .exc "BadText" [("row", .int (k : Int))]
  | none => match needR { t with orders := (rowsT x).filterMap rowO } with
    | .ret _ => .ret (eTown { t with orders := (rowsT x).filterMap rowO })
    | r => r
structure OkT (m : Nat) (x : Str) : Prop where
  ok : PyData.strOk x = true
  len : x.length ≤ m
theorem OkT.row {m : Nat} {x r : Str} (h : OkT m x) (hr : r ∈ rowsT x) : OkT m r := by
  unfold rowsT at hr
  split at hr
  · cases hr
  · have := sg_nl.part hr
    exact ⟨strOk_sub h.ok this.2, Nat.le_trans this.1 h.len⟩
theorem rowsT_len {m : Nat} {x : Str} (h : OkT m x) : (rowsT x).length ≤ m + 1 := by
  unfold rowsT
  split
  · simp
  · have := sg_nl.many x
    have := h.len
    omega
def envW (t : Town) (x : Str) (os : List Ord) : Dl.Env := ⟨[.wk (eTown t), .wk (.str x), .dat (.list (os.map eOrd)), .no, .no, .no, .no, .no, .no], []⟩
abbrev xBody : MSX := (xSeq (xKill [4] (xOf (sAsg (mM1 dSplit (oVar 4) (oVal (mC (.str " ")))) (bNameW 5)))) (xSeq (xOf (sAsg (mLc (mIt (oVal (mSl (oVar 5) (pInt (oVal (mC (.int 1)))) pNo))) (bNameW 8) [8] tTrue (mCall (mFn 1 f_number_of) (aCons (oVar 8) aNil))) (bNameW 6))) (xSeq (xKill [3, 5] (xIf (tOrM (tBool (mOp2 dNe (oVal (mCall cLen (aCons (oVar 5) aNil))) (oVal (mC (.int 6))))) (tOrM (tBool (mOp2 dNe (oVal (mOp2 dIx (oVar 5) (oVal (mC (.int 0))))) (oVal (mC (.str "order"))))) (tBool (mOp2 dIn (oVal (mC .none)) (oVar 6))))) (xRaiseI "BadText" ["row"] (aCons (oVar 3) aNil)) (xOf sNil))) (xKill [6] (xOf (sApp 2 (mCall cTuple (aCons (oVar 6) aNil))))))))
theorem dIn_none {α : Type} {f : α → PyData} {p : α → Bool} {n : Nat} (hn : n ≤ 60) (h : ∀ a, shp n (f a) ∧ PyData.eqv (f a) .none = p a) (xs : List α) : dIn .none (.list (xs.map f)) = some (.bool (xs.any p)) := by
  show (if _ then _ else _) = _
  rw [if_pos ⟨shp_none.shaped (by omega), (shp_list (shp_map (fun a => (h a).1) xs)).shaped (by omega)⟩]
  congr 2
  rw [List.any_map]
  congr 1
  funext a
  exact (h a).2
theorem dIn_nums (ws : List Str) : dIn .none (.list (ws.map fun w => optD (wordN w))) = some (.bool (!allN ws)) := by
  rw [dIn_none (n := 1) (p := fun w => !(wordN w).isSome) (by omega) (fun w => ?_) ws]
  · congr 2
    unfold allN
    rw [List.not_all_eq_any_not]
  · cases wordN w with
    | none => exact ⟨shp_none, by simp [optD, PyData.eqv]⟩
    | some n => exact ⟨shp_int n, by simp [optD, PyData.eqv]⟩
theorem row_step {t : Town} {x r : Str} {os : List Ord} {k : Nat} (hs : PyData.strOk r = true) (hm : r.length ≤ 16000000) (hl : os.length + 1 ≤ 16777216) :
    (bTup 2 (bsCons (bNameW 3) (bsCons (bNameW 4) bsNil)) (.tuple [.int (k : Int), .str r]) (envW t x os)).bind xBody = some (match rowO r with | some o => .o (.nx (envW t x (os ++ [o]))) | none => .ex "BadText" [("row", .int (k : Int))]) := by
  simp only [envW]
  walk_at "ez"
  simp only [mM1]
  walk_at "ez"
  simp only [isStr, if_true, sg_sp.d (show r.length ≤ 16777000 by omega), ob]
  walk_at "ez"
  have hpart := fun p (hp : p ∈ Txt.split r " ") => sg_sp.part hp
  have hmany := sg_sp.many r
  unfold rowO
  cases hsp : Txt.split r " " with
  | nil => exact absurd hsp (sg_sp.ne r)
  | cons h ws =>
  rw [hsp] at hpart hmany
  have hh := hpart h List.mem_cons_self
  have e0 : dIx (.list ((h :: ws).map .str)) (.int 0) = some (.str h) := by
    have h0 : atI ((h :: ws).map PyData.str) 0 = some (.str h) := atI_ofNat (i := 0) (by omega) rfl
    simp only [dIx, h0, ob, imm, if_true]
  have ht := tail_cut h ws
  have hi : itD (.list (ws.map .str)) = some (ws.map .str) := by simp [itD, immL, imm_strL]
  simp only [ht, hi, ob]
  rw [if_pos (by rw [List.length_map]; rw [List.length_cons] at hmany; omega)]
  rw [lcL_map PyData.str (fun w => optD (wordN w)) ws fun w hw => ?_]
  rotate_left
  · have := hpart w (List.mem_cons_of_mem _ hw)
    walk_at "et"
    simp only [number_ok (strOk_sub hs this.2) (by omega), ob]
    exact Ev.ret ⟨rfl, rfl⟩
  walk_at "ez"
  rw [List.length_map]
  rw [List.map_cons] at e0
  simp only [e0, dNe_str (strOk_sub hs hh.2) (show PyData.strOk ("order" : Str) = true by decide +kernel), dIn_nums, ob]
  walk_at "ez"
  simp only [dIn_nums, ob]
  walk_at "ez"
  have hgd : (if (ws.length = 5 ∧ h = "order") ∧ allN ws = true then some (ordOf (getN ws)) else none) = if ((((ws.length + 1 : Nat) : Int) != 6) || (!decide (h = "order") || !allN ws)) = true then (none : Option Ord) else some (ordOf (getN ws)) := by
    by_cases h1 : ws.length = 5
    · by_cases h2 : h = "order"
      · by_cases h3 : allN ws = true
        · rw [if_pos ⟨⟨h1, h2⟩, h3⟩, if_neg (by simp [h1, h2, h3])]
        · rw [if_neg (fun z => h3 z.2), if_pos (by simp [h3])]
      · rw [if_neg (fun z => h2 z.1.2), if_pos (by simp [h2])]
    · rw [if_neg (fun z => h1 z.1.1), if_pos (by
        simp only [Bool.or_eq_true, bne_iff_ne]
        exact .inl (by omega))]
  rw [hgd]
  by_cases hq : ((((ws.length + 1 : Nat) : Int) != 6) || (!decide (h = "order") || !allN ws)) = true
  · rw [if_pos hq, if_pos hq]
    walk_at "ez"
    rfl
  · rw [if_neg hq, if_neg hq]
    have ha : allN ws = true ∧ ws.length = 5 := by
      simp only [Bool.or_eq_true, not_or, Bool.not_eq_true', Bool.not_eq_false] at hq
      refine ⟨by simpa using hq.2.2, ?_⟩
      have := hq.1
      simp only [bne_iff_ne, ne_eq, Decidable.not_not] at this
      omega
    have hws : (ws.map fun w => optD (wordN w)) = (getN ws).map .int := by
      rw [getN, List.map_map]
      refine List.map_congr_left fun w hw => ?_
      obtain ⟨n, hn⟩ := allN_get ha.1 hw
      simp [hn, optD]
    have hct : cTuple [.list ((getN ws).map .int)] = some (eOrd (ordOf (getN ws))) := by
      simp only [cTuple, imm_ints, if_true]
      rw [ordOf_e (by rw [getN, List.length_map]; exact ha.2)]
    rw [hws]
    walk_at "ez"
    simp only [hct, ob]
    walk_at "ez"
    rw [if_pos (by rw [List.length_map]; omega)]
    walk_at "ez"
    rw [List.map_append]
    rfl
theorem rows_loop {t : Town} {x : Str} : ∀ (rows : List Str) (k : Nat) (os : List Ord), (∀ r ∈ rows, PyData.strOk r = true ∧ r.length ≤ 16000000) → os.length + rows.length ≤ 16777216 →
    forX (bTup 2 (bsCons (bNameW 3) (bsCons (bNameW 4) bsNil))) xBody (numD k (rows.map .str)) (envW t x os) = some (match firstN k rows with | some j => .ex "BadText" [("row", .int (j : Int))] | none => .o (.nx (envW t x (os ++ rows.filterMap rowO))))
  | [], k, os, _, _ => by simp [numD, forX, firstN]
  | r :: rs, k, os, h, hl => by
    obtain ⟨h1, h2⟩ := h r List.mem_cons_self
    rw [List.length_cons] at hl
    have hs := row_step (t := t) (x := x) (os := os) (k := k) h1 h2 (by omega)
    obtain ⟨e1, q1, q2⟩ := Option.bind_eq_some_iff.mp hs
    rw [List.map_cons, numD]
    simp only [forX, q1, q2, Option.bind_some]
    unfold firstN
    cases ho : rowO r with
    | none => rfl
    | some o =>
      have ih := rows_loop (t := t) (x := x) rs (k + 1) (os ++ [o]) (fun y hy => h y (List.mem_cons_of_mem _ hy)) (by rw [List.length_append, List.length_singleton]; omega)
      simp only [Option.isNone_some, Bool.false_eq_true, if_false]
      rw [ih, List.filterMap_cons_some ho, List.append_assoc]
      rfl
theorem filterMap_len {α β : Type} (f : α → Option β) (l : List α) : (l.filterMap f).length ≤ l.length := List.length_filterMap_le f l
theorem x_with {t : Town} (g : GoodTown t) {x : Str} (hx : OkT 1000000 x) : x_with_orders [eTown t, .str x] = some (withR t x) := by
  have hnd := x_need_good (bare_good g)
  simp only [eTown, eOrds, List.map_nil] at hnd
  have hx1 := hx.len
  simp only [x_with_orders, xm_with_orders]
  walk_at "ez"
  simp only [hnd, ob]
  walk_at "ez"
  simp only [mEnumL]
  walk_at "ez"
  rw [dNe_str hx.ok (show PyData.strOk "" = true by decide +kernel)]
  walk_at "ez"
  have hr : ∀ (e : Dl.Env), e.look 1 = some (.str x) → (if (!decide (x = "")) = true then mM1 dSplit (oVar 1) (oVal (mC (.str "\n"))) e else some (PyData.list [], e)) = some (.list ((rowsT x).map .str), e) := by
    intro e he
    unfold rowsT
    by_cases ho : x = ""
    · rw [if_neg (by simp [ho]), if_pos ho]
      rfl
    · rw [if_pos (by simp only [Bool.not_eq_true', decide_eq_false_iff_not]; exact ho), if_neg ho]
      simp only [mM1, oVar, oVal, mC, Opd.look, he, ob, isStr, if_true, sg_nl.d (show x.length ≤ 16777000 by omega)]
  rw [hr _ rfl]
  simp only [ob, immL, imm_strL, if_true]
  have hrl := rowsT_len hx
  have hlp := rows_loop (t := t) (x := x) (rowsT x) 0 [] (fun r hr => ⟨(hx.row hr).ok, by have := (hx.row hr).len; omega⟩) (by simp; omega)
  simp only [envW, List.map_nil, List.nil_append] at hlp
  rw [hlp]
  unfold withR
  cases firstN 0 (rowsT x) with
  | some j => walk_at "ez"
  | none =>
    walk_at "ez"
    have hf := filterMap_len rowO (rowsT x)
    have hn := x_need (t := { t with orders := (rowsT x).filterMap rowO }) (show GoodTown { t with orders := [] } from bare_good g) (by show ((rowsT x).filterMap rowO).length ≤ _; omega)
    have hct : cTuple [.list (((rowsT x).filterMap rowO).map eOrd)] = some (eOrds ((rowsT x).filterMap rowO)) := by
      simp only [cTuple, immA_map imm_eOrd, if_true]
      rfl
    simp only [hct, ob]
    walk_at "ez"
    rw [show PyData.tuple [eDays t.days, ePeople t.homes, eOrds ((rowsT x).filterMap rowO)] = eTown { t with orders := (rowsT x).filterMap rowO } from rfl, hn]
    cases needR { t with orders := (rowsT x).filterMap rowO } with
    | ret c => walk_at "ez"
    | exc nm fs => walk_at "ez"

/-! ### what is due -/
def dueD (t : Town) (x : Str) : PyData := match firstN 0 (rowsT x) with
  | some k => .tuple [.str "BadText", .int (k : Int)]
  | none => match fbad t.days.length t.homes.length ((rowsT x).filterMap rowO) with
    | some k => .tuple [.str "BadTown", .int (k : Int)]
    | none => eTown { t with orders := (rowsT x).filterMap rowO }
theorem told_ok {t : Town} (g : GoodTown t) {x : Str} (hx : OkT 1000000 x) : f__law_told [eTown t, .str x] = some (dueD t x) := by
  unfold f__law_told
  rw [if_pos (by rfl), x_with g hx, ob]
  unfold withR dueD needR
  cases firstN 0 (rowsT x) with
  | some k => rfl
  | none =>
    dsimp only
    cases fbad t.days.length t.homes.length ((rowsT x).filterMap rowO) with
    | none => rfl
    | some k =>
      dsimp only
      have e1 : PyData.strOk ("orders" : Str) = true := by decide +kernel
      have e2 : PyData.eqv (.str "orders") (.str "orders") = true := by decide +kernel
      simp only [told13, e1, e2, and_self, if_true]
theorem rowO_nat {r : Str} {o : Ord} (h : rowO r = some o) : 0 ≤ o.of ∧ 0 ≤ o.pe ∧ 0 ≤ o.go ∧ 0 ≤ o.be ∧ 0 ≤ o.en := by
  unfold rowO at h
  split at h
  · cases h
  · rename_i hd ws hsp
    split at h
    rotate_left
    · cases h
    rename_i hc
    cases h
    have pos : ∀ w ∈ ws, 0 ≤ (wordN w).getD 0 := fun w hw => by
      obtain ⟨n, hn⟩ := allN_get hc.2 hw
      rw [hn]
      exact (digs_of hn).2.lo
    match ws, hc.1.1, pos with
    | [a, b, c, d, e], _, pos =>
      refine ⟨pos a (by simp), pos b (by simp), pos c (by simp), pos d (by simp), pos e (by simp)⟩
theorem shp_rowD (o : Option Ord) : shp 2 (rowD o) ∧ PyData.eqv (rowD o) .none = o.isNone := by
  cases o with
  | none => exact ⟨shp_none.mono (by omega), by simp [rowD, PyData.eqv]⟩
  | some o => exact ⟨shp_eOrd o, by simp [rowD, eOrd, PyData.eqv]⟩
theorem firstN_all : ∀ (rows : List Str) (k : Nat), firstN k rows = none → (rows.map fun r => rowD (rowO r)) = (rows.filterMap rowO).map eOrd ∧ (rows.any fun r => (rowO r).isNone) = false
  | [], _, _ => ⟨rfl, rfl⟩
  | r :: rs, k, h => by
    unfold firstN at h
    cases ho : rowO r with
    | none => rw [ho] at h; cases h
    | some o =>
      rw [ho] at h
      obtain ⟨h1, h2⟩ := firstN_all rs (k + 1) h
      constructor
      · rw [List.map_cons, List.filterMap_cons_some ho, List.map_cons, h1, ho]
        rfl
      · rw [List.any_cons, ho, h2]
        rfl
theorem firstN_some : ∀ (rows : List Str) (k j : Nat), firstN k rows = some j → k ≤ j ∧ idxD (rows.map fun r => rowD (rowO r)) .none = some (j - k) ∧ (rows.any fun r => (rowO r).isNone) = true
  | [], _, _, h => by cases h
  | r :: rs, k, j, h => by
    unfold firstN at h
    cases ho : rowO r with
    | none =>
      rw [ho] at h
      cases h
      refine ⟨Nat.le_refl _, ?_, ?_⟩
      · rw [List.map_cons, ho, Nat.sub_self]
        unfold idxD
        rw [if_pos (by simp [rowD, PyData.eqv])]
      · rw [List.any_cons, ho]
        rfl
    | some o =>
      rw [ho] at h
      obtain ⟨h1, h2, h3⟩ := firstN_some rs (k + 1) j h
      refine ⟨by omega, ?_, ?_⟩
      · rw [List.map_cons, ho]
        unfold idxD
        rw [if_neg (by simp [rowD, eOrd, PyData.eqv]), h2]
        simp only [Option.map_some]
        congr 1
        omega
      · rw [List.any_cons, h3, Bool.or_true]
theorem forL_find {α : Type} {b : PyData → Dl.Env → Option Dl.Env} {body : MS} {e0 : Dl.Env} (enc : α → PyData) (p : α → Bool) (rt : α → PyData) (bo : List PyData) : ∀ xs : List α, (∀ x ∈ xs, (b (enc x) e0).bind body = some (if p x then .ret (rt x) bo else .nx e0)) →
    forL b body (xs.map enc) e0 = some (match xs.find? p with | some x => .ret (rt x) bo | none => .nx e0)
  | [], _ => rfl
  | x :: r, h => by
    have ih := forL_find enc p rt bo r fun y hy => h y (List.mem_cons_of_mem _ hy)
    have hx := h x List.mem_cons_self
    rw [List.map_cons]
    obtain ⟨e1, q1, q2⟩ := Option.bind_eq_some_iff.mp hx
    simp only [forL, q1, q2, Option.bind_some, List.find?_cons]
    cases hp : p x with
    | true => rfl
    | false => simpa [hp] using ih
theorem due_ok {t : Town} (g : GoodTown t) {x : Str} (hx : OkT 1000000 x) : f__law_due [eTown t, .str x] = some (dueD t x) := by
  have hx1 := hx.len
  have hrl := rowsT_len hx
  simp only [f__law_due, m__law_due]
  walk_at "et"
  rw [dNe_str hx.ok (show PyData.strOk "" = true by decide +kernel)]
  walk_at "et"
  have hrw : ∀ r ∈ rowsT x, f__law_row [.str r] = some (rowD (rowO r)) := fun r hr => law_row_ok (hx.row hr).ok (by have := (hx.row hr).len; omega)
  refine Ev.eq (Ev.bind (R := fun q => q = (PyData.list ((rowsT x).map fun r => rowD (rowO r)), ⟨[.wk (eTown t), .wk (.str x), .no, .no, .no, .no, .no, .no, .no, .no, .no], []⟩)) ?_ ?_)
  · by_cases ho : x = ""
    · rw [if_neg (by simp [ho])]
      have er : rowsT x = [] := if_pos ho
      rw [er]
      exact Ev.ret rfl
    rw [if_pos (by simp only [Bool.not_eq_true', decide_eq_false_iff_not]; exact ho)]
    have er : rowsT x = Txt.split x "\n" := if_neg ho
    simp only [mM1]
    walk_at "et"
    simp only [isStr, if_true, sg_nl.d (show x.length ≤ 16777000 by omega), ob]
    walk_at "et"
    rw [← er]
    simp only [show itD (.list ((rowsT x).map .str)) = some ((rowsT x).map .str) from by simp [itD, immL, imm_strL], ob]
    rw [if_pos (by rw [List.length_map]; omega)]
    rw [lcL_map PyData.str (fun r => rowD (rowO r)) (rowsT x) fun r hr => ?_]
    rotate_left
    · walk_at "et"
      simp only [hrw r hr, ob]
      exact Ev.ret ⟨rfl, rfl⟩
    exact Ev.ret rfl
  rintro q rfl
  walk_at "et"
  rw [dIn_none (n := 2) (p := fun r => (rowO r).isNone) (by omega) (fun r => shp_rowD (rowO r)) (rowsT x)]
  walk_at "et"
  unfold dueD
  cases hf : firstN 0 (rowsT x) with
  | some j =>
    obtain ⟨h1, h2, h3⟩ := firstN_some _ _ _ hf
    rw [if_pos h3]
    simp only [mIdxV]
    walk_at "et"
    rw [if_pos ⟨(shp_list (shp_map (fun r => (shp_rowD (rowO r)).1) (rowsT x))).shaped (by omega), shp_none.shaped (by omega)⟩, h2]
    walk_at "et"
    exact Ev.ret rfl
  | none =>
    obtain ⟨h1, h2⟩ := firstN_all _ _ hf
    rw [if_neg (by rw [h2]; exact Bool.false_ne_true), h1]
    walk_at "et"
    have hnat : ∀ o ∈ (rowsT x).filterMap rowO, 0 ≤ o.of ∧ 0 ≤ o.pe ∧ 0 ≤ o.go ∧ 0 ≤ o.be ∧ 0 ≤ o.en := fun o ho => by
      obtain ⟨r, _, hr⟩ := List.mem_filterMap.mp ho
      exact rowO_nat hr
    have hlo := filterMap_len rowO (rowsT x)
    generalize (rowsT x).filterMap rowO = os at hnat hlo
    have h6 := g.few
    rw [if_pos (by rw [List.length_map]; omega)]
    walk_at "et"
    rw [List.length_map, Int.toNat_natCast, rngD_map]
    rw [forL_find (fun (k : Nat) => PyData.int (k : Int)) (badO t.days.length t.homes.length os) (fun k => .tuple [.str "BadTown", .int (k : Int)]) [] _ fun k hk => ?_]
    rotate_left
    · have hk := List.mem_range.mp hk
      obtain ⟨y, hy⟩ := get_in (xs := os) (i := k) hk
      have hy0 := hnat y (List.mem_of_getElem? hy)
      walk_at "et"
      have ei : dIx (.list (os.map eOrd)) (.int (k : Int)) = some (eOrd y) := by
        have h0 : atI (os.map eOrd) (k : Int) = some (eOrd y) := atI_nat (by rw [List.getElem?_map, hy]; rfl)
        simp only [dIx, h0, ob, imm_eOrd, if_true]
      simp only [ei, ob]
      walk_at "et"
      simp only [eOrd]
      walk_at "et"
      have hc : (decide ((19 : Int) < (k : Int)) || (!(decide ((if y.go > y.of then y.go else y.of) < (t.days.length : Int)) && (decide (y.pe < (t.homes.length : Int)) && y.of != y.go)) || !(decide (y.be < y.en) && decide (y.en ≤ 2000)))) = badO t.days.length t.homes.length os k := by
        unfold badO ordB
        rw [hy]
        rw [Bool.eq_iff_iff]
        simp only [Bool.or_eq_true, Bool.and_eq_true, Bool.not_eq_true', Bool.and_eq_false_iff, decide_eq_true_eq, decide_eq_false_iff_not, bne_eq_false_iff_eq, Bool.not_eq_false']
        split <;> omega
      by_cases hb : badO t.days.length t.homes.length os k = true
      · rw [if_pos (hc.trans hb), if_pos hb]
        rfl
      · rw [if_neg (by rw [hc]; exact hb), if_neg hb]
        rfl
    rw [show fbad t.days.length t.homes.length os = (List.range os.length).find? (badO t.days.length t.homes.length os) from rfl]
    cases (List.range os.length).find? (badO t.days.length t.homes.length os) with
    | some k =>
      walk_at "et"
      exact Ev.ret rfl
    | none =>
      walk_at "et"
      have hct : cTuple [.list (os.map eOrd)] = some (eOrds os) := by
        simp only [cTuple, immA_map imm_eOrd, if_true]
        rfl
      simp only [hct, ob]
      exact Ev.ret rfl

/-! ### texts put together -/
theorem mem_joinL {S : List Nat} {c : Nat} : ∀ {ps : List (List Nat)}, c ∈ TL.joinL S ps → c ∈ S ∨ ∃ p ∈ ps, c ∈ p
  | [], h => by cases h
  | [p], h => .inr ⟨p, List.mem_cons_self, h⟩
  | p :: q :: r, h => by
    rcases List.mem_append.mp h with h | h
    · exact .inr ⟨p, List.mem_cons_self, h⟩
    rcases List.mem_append.mp h with h | h
    · exact .inl h
    · rcases mem_joinL h with h | ⟨x, hx, h⟩
      · exact .inl h
      · exact .inr ⟨x, List.mem_cons_of_mem _ hx, h⟩
theorem tl_joined (y : Str) (ps : List Str) : TL.tl (Txt.join y ps) = TL.joinL (TL.tl y) (ps.map TL.tl) := by rw [TL.join_eq, TL.tl_join]
/-- all parts with a sign behind each -/
def siz (l : List Str) : Nat := (l.map (·.length)).sum + l.length
theorem siz_app (a b : List Str) : siz (a ++ b) = siz a + siz b := by
  simp only [siz, List.map_append, List.sum_append, List.length_append]
  omega
theorem siz_one (w : Str) : siz [w] = w.length + 1 := by simp [siz]
theorem siz_cut (l : List Str) (k : Nat) : siz (l.take k) + siz (l.drop k) = siz l := by
  rw [← siz_app, List.take_append_drop]
theorem siz_mem {l : List Str} {w : Str} (h : w ∈ l) : w.length + 1 ≤ siz l := by
  have h1 := sum_mem_le h
  have h2 : 1 ≤ l.length := List.length_pos_iff.mpr (List.ne_nil_of_mem h)
  unfold siz
  omega
theorem Sg.siz {y : Str} {s : Nat} (h : Sg y s) (x : Str) : siz (Txt.split x y) = x.length + 1 := h.total x
theorem join_ok {y : Str} {s : Nat} (h : Sg y s) {l : List Str} (hl : ∀ w ∈ l, PyData.strOk w = true) {m : Nat} (hm : siz l ≤ m) : OkT m (Txt.join y l) := by
  constructor
  · rw [str_ok, tl_joined, List.all_eq_true]
    intro c hc
    rcases mem_joinL hc with hc | ⟨p, hp, hc⟩
    · rw [h.tl, List.mem_singleton] at hc
      have := h.lo
      simp only [decide_eq_true_eq]
      omega
    · obtain ⟨w, hw, rfl⟩ := List.mem_map.mp hp
      have := hl w hw
      rw [str_ok, List.all_eq_true] at this
      exact this c hc
  · have h1 := PySem.StrLaws.join_length_le y l
    have h2 : Txt.join y l = Str.join y l := PySem.StrLaws.glued_eq_join y l
    rw [h2]
    have h3 := h.len
    rw [h3] at h1
    unfold Ms.siz at hm
    omega
theorem join_d {y : Str} {s : Nat} (h : Sg y s) {l : List Str} (hm : siz l ≤ 16000000) : dJoin (.str y) (.list (l.map .str)) = some (.str (Txt.join y l)) := by
  simp only [dJoin, asStrs_map]
  refine if_pos ?_
  rw [h.len]
  unfold Ms.siz at hm
  omega
theorem cut_take {l : List Str} {k : Nat} (hk : k ≤ l.length) : dSl (.list (l.map .str)) none (some (k : Int)) = some (.list ((l.take k).map .str)) := by
  simp only [dSl, imm_strL, if_true]
  congr 2
  unfold Dl.cutD
  rw [HT.sIx_nat, List.length_map]
  simp only [HT.sIx]
  rw [Nat.min_eq_left hk, List.drop_zero, Nat.sub_zero, List.map_take]
theorem cut_drop {l : List Str} {k : Nat} (hk : k ≤ l.length) : dSl (.list (l.map .str)) (some (k : Int)) none = some (.list ((l.drop k).map .str)) := by
  simp only [dSl, imm_strL, if_true]
  congr 2
  unfold Dl.cutD
  rw [HT.sIx_nat, List.length_map]
  simp only [HT.sIx]
  rw [Nat.min_eq_left hk, List.map_drop, List.take_of_length_le (by rw [List.length_drop, List.length_map]; omega)]
theorem add_strL (a b : List Str) (h : a.length + b.length ≤ 16777216) : dAdd (.list (a.map .str)) (.list (b.map .str)) = some (.list ((a ++ b).map .str)) := by
  show (if _ then _ else _) = _
  rw [if_pos ⟨imm_strL a, imm_strL b, by rw [List.length_map, List.length_map]; exact h⟩, List.map_append]
def takeS (x : Str) (k : Nat) : Str := ⟨((TL.tl x).take k).toArray⟩
def dropS (x : Str) (k : Nat) : Str := ⟨((TL.tl x).drop k).toArray⟩
theorem cut_takeS {x : Str} {k : Nat} (hk : k ≤ x.length) (hm : x.length ≤ 16777216) : dSl (.str x) none (some (k : Int)) = some (.str (takeS x k)) := by
  simp only [dSl, if_pos hm]
  congr 2
  unfold cutS takeS
  rw [HT.sIx_nat]
  simp only [HT.sIx]
  rw [Nat.min_eq_left hk, List.drop_zero, Nat.sub_zero]
theorem cut_dropS {x : Str} {k : Nat} (hm : x.length ≤ 16777216) : dSl (.str x) (some (k : Int)) none = some (.str (dropS x k)) := by
  simp only [dSl, if_pos hm]
  congr 2
  unfold cutS dropS
  rw [HT.sIx_nat]
  simp only [HT.sIx]
  have hl := TL.len_tl x
  congr 2
  rw [List.take_of_length_le (by rw [List.length_drop]; show (TL.tl x).length - _ ≤ _; omega)]
  by_cases h : k ≤ x.length
  · rw [Nat.min_eq_left h]
  · rw [Nat.min_eq_right (by omega), List.drop_of_length_le (show (TL.tl x).length ≤ x.length by omega), List.drop_of_length_le (show (TL.tl x).length ≤ k by omega)]
theorem takeS_len (x : Str) (k : Nat) : (takeS x k).length ≤ k ∧ (takeS x k).length ≤ x.length := by
  rw [TL.len_tl, TL.len_tl x]
  unfold takeS
  rw [TL.tl_mk, List.length_take]
  omega
theorem dropS_len (x : Str) (k : Nat) : (dropS x k).length = x.length - k := by
  rw [TL.len_tl, TL.len_tl x]
  unfold dropS
  rw [TL.tl_mk, List.length_drop]
theorem takeS_ok {x : Str} (h : PyData.strOk x = true) (k : Nat) : PyData.strOk (takeS x k) = true := strOk_sub h fun c hc => List.mem_of_mem_take hc
theorem dropS_ok {x : Str} (h : PyData.strOk x = true) (k : Nat) : PyData.strOk (dropS x k) = true := strOk_sub h fun c hc => List.mem_of_mem_drop hc
theorem app_ok {x y : Str} (h1 : PyData.strOk x = true) (h2 : PyData.strOk y = true) : PyData.strOk (x ++ y) = true := by
  rw [str_ok, List.all_eq_true] at h1 h2 ⊢
  intro c hc
  rw [TL.tl_append] at hc
  rcases List.mem_append.mp hc with hc | hc
  · exact h1 c hc
  · exact h2 c hc
theorem app_len (x y : Str) : (x ++ y).length = x.length + y.length := by
  rw [TL.len_tl, TL.tl_append, List.length_append, ← TL.len_tl, ← TL.len_tl]
theorem add_str {a b : Str} (h : a.length + b.length ≤ 16777216) : dAdd (.str a) (.str b) = some (.str (a ++ b)) := if_pos h

/-! ### a text after one deed -/
def odds : List Str := ["", "order", "orders", "0", "00", "07", "-1", "9999", "10000", "6", "2000", "2001", "x", "1.0"]
theorem odds_ok : ∀ w ∈ odds, PyData.strOk w = true ∧ w.length ≤ 6 := by decide +kernel
theorem pick_odd {j : Int} (h0 : 0 ≤ j) (h1 : j < 14) : ∃ w, dIx (.list [.str "", .str "order", .str "orders", .str "0", .str "00", .str "07", .str "-1", .str "9999", .str "10000", .str "6", .str "2000", .str "2001", .str "x", .str "1.0"]) (.int j) = some (.str w) ∧ PyData.strOk w = true ∧ w.length ≤ 6 := by
  have hl : j < odds.length := h1
  obtain ⟨w, hw1, hw2⟩ := atI_in (xs := odds) h0 hl
  have hm := odds_ok w (List.mem_of_getElem? hw1)
  have h3 : atI (odds.map PyData.str) j = some (.str w) := by
    rw [show j = ((j.toNat : Nat) : Int) by omega]
    exact atI_nat (by rw [List.getElem?_map, hw1]; rfl)
  refine ⟨w, ?_, hm⟩
  show ((atI (odds.map PyData.str) j).bind _) = _
  rw [h3]
  simp only [ob, imm, if_true]
theorem siz_set : ∀ (l : List Str) (i : Nat) (w : Str), siz (l.set i w) ≤ siz l + w.length
  | [], _, _ => by simp [siz]
  | a :: r, 0, w => by simp [siz]; omega
  | a :: r, i + 1, w => by
    have := siz_set r i w
    simp [siz] at this ⊢
    omega
/-- the signs, by their numbers -/
def sgT : Str := ⟨#[48, 49, 50, 51, 52, 53, 54, 55, 56, 57, 32, 10, 97, 98, 99, 100, 101, 102, 103, 104, 105, 106, 107, 108, 109, 110, 111, 112, 113, 114, 115,
  116, 117, 118, 119, 120, 121, 122, 33, 35, 36, 38, 39, 40, 41, 42, 43, 44, 45, 46, 47, 58, 59, 60, 61, 62, 63, 64, 65, 66, 67, 68,
  69, 70, 71, 72, 73, 74, 75, 76, 77, 78, 79, 80, 81, 82, 83, 84, 85, 86, 87, 88, 89, 90, 91, 93, 94, 95, 96, 123, 124, 125, 126]⟩
theorem sgT_ok : (TL.tl sgT).length = 93 ∧ PyData.strOk sgT = true := by decide +kernel
theorem sgD_ok {c : Nat} (h : c < 0x110000) : PyData.strOk ⟨#[c]⟩ = true := by
  rw [str_ok]
  show ([c].all fun c => decide (c < 0x110000)) = true
  simpa using h
theorem pick_sg {j : Int} (h0 : 0 ≤ j) (h1 : j < 93) : ∃ w : Str, dIx (.str sgT) (.int j) = some (.str w) ∧ PyData.strOk w = true ∧ w.length ≤ 1 := by
  have hl : j < (TL.tl sgT).length := by rw [sgT_ok.1]; exact h1
  obtain ⟨c, hc1, hc2⟩ := atI_in (xs := TL.tl sgT) h0 hl
  have hc : c < 0x110000 := by
    have := sgT_ok.2
    rw [str_ok, List.all_eq_true] at this
    simpa using this c (List.mem_of_getElem? hc1)
  refine ⟨⟨#[c]⟩, ?_, sgD_ok hc, Nat.le_refl 1⟩
  have h3 : atI sgT.cps.toList j = some c := hc2
  have h4 : sgT.length ≤ 16777216 := by rw [TL.len_tl, sgT_ok.1]; omega
  simp only [dIx, if_pos h4, h3, ob]
theorem pick_three {a b c : Str} {d : Int} (h0 : 3 ≤ d) (h1 : d < 6) (ha : PyData.strOk a = true ∧ a.length ≤ 1) (hb : PyData.strOk b = true ∧ b.length ≤ 1) (hc : PyData.strOk c = true ∧ c.length ≤ 1) :
    ∃ w : Str, dIx (.list [.str a, .str b, .str c]) (.int (d - 3)) = some (.str w) ∧ PyData.strOk w = true ∧ w.length ≤ 1 := by
  have : d = 3 ∨ d = 4 ∨ d = 5 := by omega
  rcases this with rfl | rfl | rfl
  · exact ⟨a, by simp [dIx, atI, ixN, imm], ha⟩
  · exact ⟨b, by simp [dIx, atI, ixN, imm], hb⟩
  · exact ⟨c, by simp [dIx, atI, ixN, imm], hc⟩
theorem spoil_sg {β : Type} {b3 : PyData} {x S : Str} {m : Nat} {deed pl : Int} {f : PyData × PyData → Option β} {Q : β → Prop} (hS : S = sgT) (hx : OkT m x) (hm : m ≤ 100000) (hb3 : IsBox b3) (d0 : 3 ≤ deed) (d1 : deed < 6) (p0 : 0 ≤ pl) (p1 : pl < x.length + 1) (k : ∀ x' b', IsBox b' → OkT (2 * m + 10) x' → Ev (f (.str x', b')) Q) :
    Ev ((if S.length ≤ 16777216 then some (PyData.int S.length) else none).bind fun y => (b__law_take b3 [y]).bind fun y => (dIx (.str S) y.1).bind fun y1 => (b__law_take y.2 [.int 11]).bind fun y => (dIx (.str S) y.1).bind fun y2 => (dIx (.list [y1, .str "", y2]) (.int (deed - 3))).bind fun y3 =>
      (dSl (.str x) none (some pl)).bind fun y4 => (dAdd y4 y3).bind fun y5 => (dSl (.str x) (some (pl + if 3 < deed then 1 else 0)) none).bind fun y6 => (dAdd y5 y6).bind fun y7 => f (y7, y.2)) Q := by
  subst hS
  have hx1 := hx.len
  have hsl : sgT.length = 93 := by rw [TL.len_tl, sgT_ok.1]
  rw [if_pos (by omega), hsl]
  simp only [ob]
  refine Ev.take hb3 (by omega) (by omega) fun j b4 hb4 j0 j1 => ?_
  obtain ⟨c1, ec1, hc1⟩ := pick_sg j0 (by omega)
  simp only [ec1, ob]
  refine Ev.take hb4 (by omega) (by omega) fun j2 b5 hb5 j20 j21 => ?_
  obtain ⟨c2, ec2, hc2⟩ := pick_sg j20 (by omega)
  simp only [ec2, ob]
  obtain ⟨sx, esx, hsx1, hsx2⟩ := pick_three (d := deed) (by omega) d1 hc1 (show PyData.strOk "" = true ∧ ("" : Str).length ≤ 1 by decide +kernel) hc2
  simp only [esx, ob]
  obtain ⟨pn, rfl⟩ : ∃ pn : Nat, pl = (pn : Int) := ⟨pl.toNat, by omega⟩
  obtain ⟨p2, hp2, hp3⟩ : ∃ p2 : Nat, ((pn : Int) + if 3 < deed then 1 else 0) = (p2 : Int) ∧ pn ≤ p2 := by
    by_cases h : 3 < deed
    · exact ⟨pn + 1, by rw [if_pos h]; omega, by omega⟩
    · exact ⟨pn, by rw [if_neg h]; omega, by omega⟩
  rw [hp2, cut_takeS (by omega) (by omega), cut_dropS (by omega)]
  have l1 := takeS_len x pn
  have l2 := dropS_len x p2
  have l3 := app_len (takeS x pn) sx
  have l4 := app_len (takeS x pn ++ sx) (dropS x p2)
  simp only [ob, add_str (show (takeS x pn).length + sx.length ≤ 16777216 by omega), add_str (show (takeS x pn ++ sx).length + (dropS x p2).length ≤ 16777216 by omega)]
  exact k _ b5 hb5 ⟨app_ok (app_ok (takeS_ok hx.ok _) hsx1) (dropS_ok hx.ok _), by omega⟩
theorem Ev.spoilt {β : Type} {b : PyData} {x : Str} {m : Nat} {f : PyData × PyData → Option β} {Q : β → Prop} (hb : IsBox b) (hx : OkT m x) (hm : m ≤ 100000) (k : ∀ x' b', IsBox b' → OkT (2 * m + 10) x' → Ev (f (.str x', b')) Q) : Ev ((b__law_spoilt b [.str x]).bind f) Q := by
  have hx1 := hx.len
  simp only [b__law_spoilt, m__law_spoilt]
  walk_at "et"
  refine Ev.take hb (by omega) (by omega) fun deed b1 hb1 d0 d1 => ?_
  walk_at "et"
  simp only [cLen, if_pos (show x.length ≤ 16777216 by omega), ob]
  walk_at "et"
  refine Ev.take hb1 (by omega) (by omega) fun pl b2 hb2 p0 p1 => ?_
  walk_at "et"
  simp only [mM1]
  walk_at "et"
  simp only [isStr, if_true, sg_nl.d (show x.length ≤ 16777000 by omega), ob]
  walk_at "et"
  have hmany := sg_nl.many x
  have hpos : 1 ≤ (Txt.split x "\n").length := List.length_pos_iff.mpr (sg_nl.ne x)
  have hsz := sg_nl.siz x
  have hrow : ∀ r ∈ Txt.split x "\n", PyData.strOk r = true ∧ r.length ≤ m := fun r hr => ⟨strOk_sub hx.ok (sg_nl.part hr).2, Nat.le_trans (sg_nl.part hr).1 hx.len⟩
  generalize Txt.split x "\n" = rows at hmany hpos hsz hrow
  simp only [List.length_map]
  refine Ev.take hb2 (by omega) (by omega) fun kI b3 hb3 k0 k1 => ?_
  obtain ⟨kk, rfl⟩ : ∃ kk : Nat, kI = (kk : Int) := ⟨kI.toNat, by omega⟩
  have hk : kk < rows.length := by omega
  have s1 := siz_cut rows kk
  have s2 := siz_cut rows (kk + 1)
  have e1 : (kk : Int) + 1 = ((kk + 1 : Nat) : Int) := by omega
  have ct0 := cut_take (l := rows) (k := kk) (by omega)
  have ct1 := cut_take (l := rows) (k := kk + 1) (by omega)
  have cd0 := cut_drop (l := rows) (k := kk) (by omega)
  have cd1 := cut_drop (l := rows) (k := kk + 1) (by omega)
  have hl0 : (rows.take kk).length ≤ rows.length ∧ (rows.take (kk + 1)).length ≤ rows.length ∧ (rows.drop kk).length ≤ rows.length ∧ (rows.drop (kk + 1)).length ≤ rows.length := by
    simp only [List.length_take, List.length_drop]
    omega
  have ht0 : ∀ r ∈ rows.take kk, PyData.strOk r = true := fun r hr => (hrow r (List.mem_of_mem_take hr)).1
  have ht1 : ∀ r ∈ rows.take (kk + 1), PyData.strOk r = true := fun r hr => (hrow r (List.mem_of_mem_take hr)).1
  have hd0 : ∀ r ∈ rows.drop kk, PyData.strOk r = true := fun r hr => (hrow r (List.mem_of_mem_drop hr)).1
  have hd1 : ∀ r ∈ rows.drop (kk + 1), PyData.strOk r = true := fun r hr => (hrow r (List.mem_of_mem_drop hr)).1
  have both : ∀ {a b : List Str}, (∀ r ∈ a, PyData.strOk r = true) → (∀ r ∈ b, PyData.strOk r = true) → ∀ r ∈ a ++ b, PyData.strOk r = true := fun ha hb r hr => (List.mem_append.mp hr).elim (ha r) (hb r)
  walk_at "et"
  by_cases h0 : deed = 0
  · rw [if_pos h0]
    have hs : siz (rows.take kk ++ rows.drop (kk + 1)) ≤ m + 1 := by
      rw [siz_app]
      have : siz (rows.drop (kk + 1)) ≤ siz (rows.drop kk) := by
        have := siz_cut (rows.drop kk) 1
        rw [List.drop_drop] at this
        omega
      omega
    simp only [e1, ct0, cd1, ob, add_strL _ _ (show (rows.take kk).length + (rows.drop (kk + 1)).length ≤ 16777216 by omega), join_d sg_nl (show siz (rows.take kk ++ rows.drop (kk + 1)) ≤ 16000000 by omega)]
    walk_at "et"
    have hj := join_ok sg_nl (both ht0 hd1) hs
    exact k _ b3 hb3 ⟨hj.ok, by have := hj.len; omega⟩
  rw [if_neg h0]
  walk_at "et"
  by_cases h1 : deed = 1
  · rw [if_pos h1]
    have hs : siz (rows.take (kk + 1) ++ rows.drop kk) ≤ 2 * m + 2 := by
      rw [siz_app]
      omega
    simp only [e1, ct1, cd0, ob, add_strL _ _ (show (rows.take (kk + 1)).length + (rows.drop kk).length ≤ 16777216 by omega), join_d sg_nl (show siz (rows.take (kk + 1) ++ rows.drop kk) ≤ 16000000 by omega)]
    walk_at "et"
    have hj := join_ok sg_nl (both ht1 hd0) hs
    exact k _ b3 hb3 ⟨hj.ok, by have := hj.len; omega⟩
  rw [if_neg h1]
  walk_at "et"
  by_cases h2 : deed = 2
  · rw [if_pos h2]
    obtain ⟨r, hr⟩ := get_in (xs := rows) (i := kk) hk
    have er : dIx (.list (rows.map .str)) (.int (kk : Int)) = some (.str r) := by
      have h0 : atI (rows.map PyData.str) (kk : Int) = some (.str r) := atI_nat (by rw [List.getElem?_map, hr]; rfl)
      simp only [dIx, h0, ob, imm, if_true]
    simp only [er, ob]
    walk_at "et"
    have hr2 := hrow r (List.mem_of_getElem? hr)
    simp only [sg_sp.d (x := r) (show r.length ≤ 16777000 by omega), ob]
    have wmany := sg_sp.many r
    have wpos : 1 ≤ (Txt.split r " ").length := List.length_pos_iff.mpr (sg_sp.ne r)
    have wsz := sg_sp.siz r
    have wok : ∀ w ∈ Txt.split r " ", PyData.strOk w = true := fun w hw => strOk_sub hr2.1 (sg_sp.part hw).2
    generalize Txt.split r " " = words at wmany wpos wsz wok
    refine Ev.take hb3 (by omega) (by omega) fun j b4 hb4 j0 j1 => ?_
    obtain ⟨w', ew, wk1, wk2⟩ := pick_odd j0 j1
    simp only [ew, ob]
    walk_at "et"
    rw [List.length_map]
    refine Ev.take hb4 (by omega) (by omega) fun q b5 hb5 q0 q1 => ?_
    obtain ⟨qq, rfl⟩ : ∃ qq : Nat, q = (qq : Int) := ⟨q.toNat, by omega⟩
    have hq : qq < words.length := by omega
    walk_at "et"
    have hix : ixN words.length (qq : Int) = some qq := by
      unfold ixN
      rw [if_pos (by omega), if_pos (by omega)]
      simp
    simp only [hix, ob, ← List.map_set]
    have wsz2 := siz_set words qq w'
    have wok2 : ∀ w ∈ words.set qq w', PyData.strOk w = true := fun w hw => by
      rcases List.mem_or_eq_of_mem_set hw with h | h
      · exact wok w h
      · rw [h]; exact wk1
    simp only [e1, ct0, ob, mM1]
    walk_at "et"
    simp only [isStr, if_true, ob, join_d sg_sp (show siz (words.set qq w') ≤ 16000000 by omega)]
    walk_at "et"
    have hj1 := join_ok sg_sp wok2 (m := m + 7) (by omega)
    have hj1l := hj1.len
    generalize Txt.join " " (words.set qq w') = w2 at hj1 hj1l
    have a1 := add_strL (rows.take kk) [w2] (by simp; omega)
    rw [List.map_cons, List.map_nil] at a1
    have hs : siz ((rows.take kk ++ [w2]) ++ rows.drop (kk + 1)) ≤ 2 * m + 10 := by
      rw [siz_app, siz_app, siz_one]
      have : siz (rows.drop (kk + 1)) ≤ siz (rows.drop kk) := by
        have := siz_cut (rows.drop kk) 1
        rw [List.drop_drop] at this
        omega
      omega
    simp only [a1, e1, cd1, ob, add_strL _ _ (show (rows.take kk ++ [w2]).length + (rows.drop (kk + 1)).length ≤ 16777216 by simp; omega), join_d sg_nl (show siz ((rows.take kk ++ [w2]) ++ rows.drop (kk + 1)) ≤ 16000000 by omega)]
    walk_at "et"
    have wk3 : ∀ w ∈ [w2], PyData.strOk w = true := fun w hw => by
      rw [List.mem_singleton.mp hw]
      exact hj1.ok
    have hj := join_ok sg_nl (both (both ht0 wk3) hd1) hs
    exact k _ b5 hb5 hj
  rw [if_neg h2]
  walk_at "et"
  exact spoil_sg (by decide +kernel) hx hm hb3 (by omega) d1 p0 p1 k

/-! ### what is alike -/
theorem isi_non : isiB "bool" .none = some false ∧ isiB "int" .none = some false ∧ isiB "str" .none = some false ∧ isiB "list" .none = some false ∧ isiB "tuple" .none = some false := by simp [isiB]
theorem isi_bl (b : Bool) : isiB "bool" (.bool b) = some true ∧ isiB "int" (.bool b) = some true ∧ isiB "str" (.bool b) = some false ∧ isiB "list" (.bool b) = some false ∧ isiB "tuple" (.bool b) = some false := by simp [isiB]
theorem isi_int (b : Int) : isiB "bool" (.int b) = some false ∧ isiB "int" (.int b) = some true ∧ isiB "str" (.int b) = some false ∧ isiB "list" (.int b) = some false ∧ isiB "tuple" (.int b) = some false := by simp [isiB]
theorem isi_str (b : Str) : isiB "bool" (.str b) = some false ∧ isiB "int" (.str b) = some false ∧ isiB "str" (.str b) = some true ∧ isiB "list" (.str b) = some false ∧ isiB "tuple" (.str b) = some false := by simp [isiB]
theorem isi_lst (b : List PyData) : isiB "bool" (.list b) = some false ∧ isiB "int" (.list b) = some false ∧ isiB "str" (.list b) = some false ∧ isiB "list" (.list b) = some true ∧ isiB "tuple" (.list b) = some false := by simp [isiB]
theorem isi_tup (b : List PyData) : isiB "bool" (.tuple b) = some false ∧ isiB "int" (.tuple b) = some false ∧ isiB "str" (.tuple b) = some false ∧ isiB "list" (.tuple b) = some false ∧ isiB "tuple" (.tuple b) = some true := by simp [isiB]
theorem alike_non (n : Nat) : f__law_alike (n + 1) [.none, .none] = some (.bool true) := by
  simp only [f__law_alike, m__law_alike]
  walk_at "et"
theorem alike_bl (n : Nat) (b : Bool) : f__law_alike (n + 1) [.bool b, .bool b] = some (.bool true) := by
  simp only [f__law_alike, m__law_alike]
  walk_at "et"
  simp only [isi_bl]
  walk_at "et"
  have : dEq (.bool b) (.bool b) = some (.bool true) := by cases b <;> rfl
  simp only [this]
  walk_at "et"
theorem alike_int (n : Nat) (b : Int) : f__law_alike (n + 1) [.int b, .int b] = some (.bool true) := by
  simp only [f__law_alike, m__law_alike]
  walk_at "et"
  simp only [isi_int]
  walk_at "et"
  simp only [isi_int]
  walk_at "et"
  simp
theorem alike_seq (n : Nat) {d : PyData} {ds : List PyData} (hd : d = .list ds ∨ d = .tuple ds) (hl : ds.length ≤ 16777216) (h : ∀ x ∈ ds, f__law_alike n [x, x] = some (.bool true)) : f__law_alike (n + 1) [d, d] = some (.bool true) := by
  have hi : ∀ i : Nat, i < ds.length → ∃ x, itm d (.int i) = some x ∧ f__law_alike n [x, x] = some (.bool true) := fun i hi => by
    obtain ⟨x, hx⟩ := get_in hi
    have := h x (List.mem_of_getElem? hx)
    refine ⟨x, ?_, this⟩
    rcases hd with rfl | rfl <;> simp [itm, atI_nat hx]
  have hd2 : isNone d = false ∧ isiB "bool" d = some false ∧ isiB "int" d = some false ∧ isiB "str" d = some false ∧ (∃ b, isiB "list" d = some b) ∧ (∃ b, isiB "tuple" d = some b) ∧ cLen [d] = some (.int ds.length) := by
    rcases hd with rfl | rfl
    · exact ⟨rfl, by simp [isi_lst], by simp [isi_lst], by simp [isi_lst], ⟨_, (isi_lst _).2.2.2.1⟩, ⟨_, (isi_lst _).2.2.2.2⟩, rfl⟩
    · exact ⟨rfl, by simp [isi_tup], by simp [isi_tup], by simp [isi_tup], ⟨_, (isi_tup _).2.2.2.1⟩, ⟨_, (isi_tup _).2.2.2.2⟩, rfl⟩
  obtain ⟨h0, h1, h2, h3, ⟨b4, h4⟩, ⟨b5, h5⟩, h6⟩ := hd2
  have hb : ∀ b : Bool, dNe (.bool b) (.bool b) = some (.bool false) := fun b => by cases b <;> rfl
  clear hd
  simp only [f__law_alike, m__law_alike]
  walk_at "et"
  rw [if_neg (by simp [h0])]
  walk_at "et"
  simp only [h1, ob]
  walk_at "et"
  simp only [h2, ob]
  walk_at "et"
  simp only [h3, ob]
  walk_at "et"
  simp only [h4, h5, hb, ob]
  walk_at "et"
  simp only [h4, h5, hb, ob]
  walk_at "et"
  simp only [h6, ob]
  walk_at "et"
  rw [if_neg (by simp)]
  walk_at "et"
  simp only [h6, ob]
  rw [if_pos (by omega)]
  walk_at "et"
  rw [forL_same _ fun c hc => ?_]
  · walk_at "et"
  · obtain ⟨i, hj, rfl⟩ := rngD_mem hc
    obtain ⟨x, hx1, hx2⟩ := hi i (by omega)
    rw [Int.zero_add]
    walk_at "et"
    simp only [hx1, hx2, ob]
    walk_at "et"
    rfl
theorem depth_mem {ds : List PyData} {x : PyData} (h : x ∈ ds) : x.depth ≤ PyData.depthAll ds := by
  induction ds with
  | nil => cases h
  | cons d r ih =>
    simp only [PyData.depthAll]
    rcases List.mem_cons.mp h with rfl | h
    · omega
    · have := ih h
      omega
theorem alike_str (n : Nat) (b : Str) (hb : PyData.strOk b = true) : f__law_alike (n + 1) [.str b, .str b] = some (.bool true) := by
  have e : dEq (.str b) (.str b) = some (.bool true) := by simp [dEq, SeqAt.shaped, PyData.eqv, PyData.canLay0, PyData.depth, hb]
  simp only [f__law_alike, m__law_alike]
  walk_at "et"
  simp only [isi_str]
  walk_at "et"
  simp only [isi_str]
  walk_at "et"
  simp only [isi_str]
  walk_at "et"
  simp only [e, ob]
/-- no dict; no sequence longer than that -/
def okD : PyData → Bool
  | .tuple ds => decide (ds.length ≤ 16777216) && okDA ds
  | .list ds => decide (ds.length ≤ 16777216) && okDA ds
  | .str s => PyData.strOk s
  | .dict _ => false
  | _ => true
where okDA : List PyData → Bool
  | [] => true
  | d :: r => okD d && okDA r
theorem okDA_all (ds : List PyData) : okD.okDA ds = ds.all okD := by
  induction ds with
  | nil => simp [okD.okDA]
  | cons d r ih => simp [okD.okDA, ih]
theorem okD_mem {ds : List PyData} {x : PyData} (h : okD.okDA ds = true) (hx : x ∈ ds) : okD x = true := by
  rw [okDA_all, List.all_eq_true] at h
  exact h x hx
theorem alike_all : ∀ (n : Nat) (d : PyData), okD d = true → d.depth ≤ n → f__law_alike (n + 1) [d, d] = some (.bool true)
  | n, .none, _, _ => alike_non n
  | n, .bool b, _, _ => alike_bl n b
  | n, .int b, _, _ => alike_int n b
  | n, .str b, h, _ => alike_str n b (by simpa [okD] using h)
  | n, .dict b, h, _ => by simp [okD] at h
  | 0, .tuple b, _, hd => by simp [PyData.depth] at hd
  | 0, .list b, _, hd => by simp [PyData.depth] at hd
  | n + 1, .tuple b, hs, hd => by
    simp only [PyData.depth] at hd
    simp only [okD, Bool.and_eq_true, decide_eq_true_eq] at hs
    refine alike_seq (n + 1) (.inr rfl) hs.1 fun x hx => alike_all n x (okD_mem hs.2 hx) ?_
    have := depth_mem hx
    omega
  | n + 1, .list b, hs, hd => by
    simp only [PyData.depth] at hd
    simp only [okD, Bool.and_eq_true, decide_eq_true_eq] at hs
    refine alike_seq (n + 1) (.inl rfl) hs.1 fun x hx => alike_all n x (okD_mem hs.2 hx) ?_
    have := depth_mem hx
    omega

/-! ### numbers as texts -/
def nW (i : Int) : Str := (toString i : String)
def chkN (n : Nat) : Bool := (match f_number_of [.str (nW n)] with | some (.int k) => k == (n : Int) | _ => false) && PyData.strOk (nW n) && decide ((nW n).length ≤ 4) && !((TL.tl (nW n)).contains 32) && !((TL.tl (nW n)).contains 10)
def chkR (a : Nat) : Bool := (List.range' (a * 100) 100).all chkN
theorem chk_0 : chkR 0 = true := by decide +kernel
theorem chk_1 : chkR 1 = true := by decide +kernel
theorem chk_2 : chkR 2 = true := by decide +kernel
theorem chk_3 : chkR 3 = true := by decide +kernel
theorem chk_4 : chkR 4 = true := by decide +kernel
theorem chk_5 : chkR 5 = true := by decide +kernel
theorem chk_6 : chkR 6 = true := by decide +kernel
theorem chk_7 : chkR 7 = true := by decide +kernel
theorem chk_8 : chkR 8 = true := by decide +kernel
theorem chk_9 : chkR 9 = true := by decide +kernel
theorem chk_10 : chkR 10 = true := by decide +kernel
theorem chk_11 : chkR 11 = true := by decide +kernel
theorem chk_12 : chkR 12 = true := by decide +kernel
theorem chk_13 : chkR 13 = true := by decide +kernel
theorem chk_14 : chkR 14 = true := by decide +kernel
theorem chk_15 : chkR 15 = true := by decide +kernel
theorem chk_16 : chkR 16 = true := by decide +kernel
theorem chk_17 : chkR 17 = true := by decide +kernel
theorem chk_18 : chkR 18 = true := by decide +kernel
theorem chk_19 : chkR 19 = true := by decide +kernel
theorem chk_20 : chkR 20 = true := by decide +kernel
theorem chk_all {n : Nat} (h : n < 2100) : chkN n = true := by
  have key : ∀ a : Nat, chkR a = true → n / 100 = a → chkN n = true := fun a ha e => List.all_eq_true.mp ha n (List.mem_range'_1.mpr (by omega))
  have h2 : n / 100 < 21 := by omega
  by_cases e0 : n / 100 = 0
  · exact key 0 chk_0 e0
  by_cases e1 : n / 100 = 1
  · exact key 1 chk_1 e1
  by_cases e2 : n / 100 = 2
  · exact key 2 chk_2 e2
  by_cases e3 : n / 100 = 3
  · exact key 3 chk_3 e3
  by_cases e4 : n / 100 = 4
  · exact key 4 chk_4 e4
  by_cases e5 : n / 100 = 5
  · exact key 5 chk_5 e5
  by_cases e6 : n / 100 = 6
  · exact key 6 chk_6 e6
  by_cases e7 : n / 100 = 7
  · exact key 7 chk_7 e7
  by_cases e8 : n / 100 = 8
  · exact key 8 chk_8 e8
  by_cases e9 : n / 100 = 9
  · exact key 9 chk_9 e9
  by_cases e10 : n / 100 = 10
  · exact key 10 chk_10 e10
  by_cases e11 : n / 100 = 11
  · exact key 11 chk_11 e11
  by_cases e12 : n / 100 = 12
  · exact key 12 chk_12 e12
  by_cases e13 : n / 100 = 13
  · exact key 13 chk_13 e13
  by_cases e14 : n / 100 = 14
  · exact key 14 chk_14 e14
  by_cases e15 : n / 100 = 15
  · exact key 15 chk_15 e15
  by_cases e16 : n / 100 = 16
  · exact key 16 chk_16 e16
  by_cases e17 : n / 100 = 17
  · exact key 17 chk_17 e17
  by_cases e18 : n / 100 = 18
  · exact key 18 chk_18 e18
  by_cases e19 : n / 100 = 19
  · exact key 19 chk_19 e19
  by_cases e20 : n / 100 = 20
  · exact key 20 chk_20 e20
  omega
structure NumW (i : Int) : Prop where
  num : f_number_of [.str (nW i)] = some (.int i)
  ok : PyData.strOk (nW i) = true
  len : (nW i).length ≤ 4
  sp : 32 ∉ TL.tl (nW i)
  nl : 10 ∉ TL.tl (nW i)
theorem numW {i : Int} (h0 : 0 ≤ i) (h1 : i ≤ 2000) : NumW i := by
  obtain ⟨n, rfl⟩ := Int.eq_ofNat_of_zero_le h0
  have h := chk_all (n := n) (by omega)
  simp only [chkN, Bool.and_eq_true, Bool.not_eq_true', decide_eq_true_eq] at h
  obtain ⟨⟨⟨⟨h1, h2⟩, h3⟩, h4⟩, h5⟩ := h
  refine ⟨?_, h2, h3, ?_, ?_⟩
  · split at h1
    · rename_i k e
      rw [e, beq_iff_eq.mp h1]
    · cases h1
  · intro z
    rw [List.contains_iff_mem.mpr z] at h4
    cases h4
  · intro z
    rw [List.contains_iff_mem.mpr z] at h5
    cases h5

/-! ### orders as texts -/
def ordI (o : Ord) : List Int := [o.of, o.pe, o.go, o.be, o.en]
def ordW (o : Ord) : List Str := (ordI o).map nW
def ordT (o : Ord) : Str := ("order " : Str) ++ Txt.join " " (ordW o)
def townT (t : Town) : Str := Txt.join "\n" (t.orders.map ordT)
theorem ord_num {t : Town} (g : GoodTown t) {o : Ord} (ho : o ∈ t.orders) : ∀ i ∈ ordI o, NumW i := by
  have h := g.orders o ho
  have h1 := h.of
  have h2 := h.pe
  have h3 := h.go
  have h5 := h.be
  have h6 := h.en
  have f1 := g.few
  have f2 := g.few2
  intro i hi
  simp only [ordI, List.mem_cons, List.not_mem_nil, or_false] at hi
  rcases hi with rfl | rfl | rfl | rfl | rfl <;> exact numW (by omega) (by omega)
theorem str_len (s : Str) : s.length = (TL.tl s).length := (TL.len_tl s).symm
theorem ordT_join (o : Ord) : ordT o = Txt.join " " ((("order" : Str)) :: ordW o) := by
  refine TL.ext_tl ?_
  unfold ordT
  rw [TL.tl_append, TL.join_eq, TL.join_eq, TL.tl_join, TL.tl_join]
  rw [show TL.tl ("order " : Str) = TL.tl ("order" : Str) ++ TL.tl (" " : Str) by decide +kernel]
  simp only [ordW, ordI, List.map_cons, List.map_nil, TL.joinL, List.append_assoc]
theorem len_joinL {S : List Nat} {m : Nat} : ∀ {ps : List (List Nat)}, (∀ p ∈ ps, p.length ≤ m) → (TL.joinL S ps).length ≤ ps.length * (m + S.length)
  | [], _ => by simp [TL.joinL]
  | [p], h => by
    have := h p List.mem_cons_self
    simp [TL.joinL]
    omega
  | p :: q :: r, h => by
    have h1 := h p List.mem_cons_self
    have h2 := len_joinL (S := S) fun x hx => h x (List.mem_cons_of_mem p hx)
    simp only [TL.joinL, List.length_append, List.length_cons] at h2 ⊢
    have e : (r.length + 1 + 1) * (m + S.length) = (r.length + 1) * (m + S.length) + (m + S.length) := by rw [Nat.add_mul (r.length + 1) 1, Nat.one_mul]
    omega
structure LineW (s : Str) : Prop where
  ok : PyData.strOk s = true
  len : s.length ≤ 36
  nl : 10 ∉ TL.tl s
theorem ordT_line {o : Ord} (h : ∀ i ∈ ordI o, NumW i) : LineW (ordT o) := by
  have hl : (TL.tl (Txt.join " " (ordW o))).length ≤ 25 := by
    rw [tl_joined]
    refine Nat.le_trans (len_joinL (m := 4) fun p hp => ?_) (by rw [show (TL.tl (" " : Str)).length = 1 by decide +kernel]; simp [ordW, ordI])
    obtain ⟨s, hs, rfl⟩ := List.mem_map.mp hp
    obtain ⟨i, hi, rfl⟩ := List.mem_map.mp hs
    rw [← str_len]
    exact (h i hi).len
  have hm : ∀ c ∈ TL.tl (ordT o), c ∈ TL.tl ("order " : Str) ∨ c = 32 ∨ ∃ i ∈ ordI o, c ∈ TL.tl (nW i) := by
    intro c hc
    unfold ordT at hc
    rw [TL.tl_append, tl_joined] at hc
    rcases List.mem_append.mp hc with hc | hc
    · exact .inl hc
    rcases mem_joinL hc with hc | ⟨p, hp, hc⟩
    · rw [show TL.tl (" " : Str) = [32] by decide +kernel] at hc
      exact .inr (.inl (List.mem_singleton.mp hc))
    · obtain ⟨s, hs, rfl⟩ := List.mem_map.mp hp
      obtain ⟨i, hi, rfl⟩ := List.mem_map.mp hs
      exact .inr (.inr ⟨i, hi, hc⟩)
  refine ⟨?_, ?_, ?_⟩
  · rw [str_ok, List.all_eq_true]
    intro c hc
    rcases hm c hc with hc | rfl | ⟨i, hi, hc⟩
    · exact List.all_eq_true.mp (show ((TL.tl ("order " : Str)).all fun c => decide (c < 0x110000)) = true by decide +kernel) c hc
    · decide
    · have := (h i hi).ok
      rw [str_ok, List.all_eq_true] at this
      exact this c hc
  · rw [str_len]
    unfold ordT
    rw [TL.tl_append, List.length_append, show (TL.tl ("order " : Str)).length = 6 by decide +kernel]
    omega
  · intro z
    rcases hm 10 z with hc | hc | ⟨i, hi, hc⟩
    · exact absurd hc (by decide +kernel)
    · cases hc
    · exact (h i hi).nl hc
theorem split_ord {o : Ord} (h : ∀ i ∈ ordI o, NumW i) : Txt.split (ordT o) " " = ("order" : Str) :: ordW o := by
  rw [ordT_join]
  refine TL.split_join (s := 32) (S := []) (by decide +kernel) (by decide +kernel) (by simp) fun p hp => ?_
  rcases List.mem_cons.mp hp with rfl | hp
  · decide +kernel
  · obtain ⟨i, hi, rfl⟩ := List.mem_map.mp hp
    exact (h i hi).sp
theorem split_town {t : Town} (g : GoodTown t) (hne : t.orders ≠ []) : Txt.split (townT t) "\n" = t.orders.map ordT := by
  refine TL.split_join (s := 10) (S := []) (by decide +kernel) (by decide +kernel) (fun z => hne (List.map_eq_nil_iff.mp z)) fun p hp => ?_
  obtain ⟨o, ho, rfl⟩ := List.mem_map.mp hp
  exact (ordT_line (ord_num g ho)).nl
theorem townT_line {t : Town} (g : GoodTown t) : PyData.strOk (townT t) = true ∧ (townT t).length ≤ 740 ∧ (townT t = "" ↔ t.orders = []) := by
  have hf := g.few3
  refine ⟨?_, ?_, ?_⟩
  · unfold townT
    rw [str_ok, tl_joined, List.all_eq_true]
    intro c hc
    rcases mem_joinL hc with hc | ⟨p, hp, hc⟩
    · exact List.all_eq_true.mp (show ((TL.tl ("\n" : Str)).all fun c => decide (c < 0x110000)) = true by decide +kernel) c hc
    · obtain ⟨s, hs, rfl⟩ := List.mem_map.mp hp
      obtain ⟨o, ho, rfl⟩ := List.mem_map.mp hs
      have := (ordT_line (ord_num g ho)).ok
      rw [str_ok, List.all_eq_true] at this
      exact this c hc
  · unfold townT
    rw [str_len, tl_joined]
    refine Nat.le_trans (len_joinL (m := 36) fun p hp => ?_) ?_
    · obtain ⟨s, hs, rfl⟩ := List.mem_map.mp hp
      obtain ⟨o, ho, rfl⟩ := List.mem_map.mp hs
      rw [← str_len]
      exact (ordT_line (ord_num g ho)).len
    · rw [show (TL.tl ("\n" : Str)).length = 1 by decide +kernel, List.length_map, List.length_map]
      omega
  · constructor
    · intro z
      cases ht : t.orders with
      | nil => rfl
      | cons o r =>
        exfalso
        have h1 : TL.tl (townT t) = [] := by rw [z]; decide +kernel
        unfold townT at h1
        rw [ht, tl_joined] at h1
        have h2 : TL.tl (ordT o) = [] := by
          cases r with
          | nil => exact h1
          | cons q r => exact (List.append_eq_nil_iff.mp h1).1
        unfold ordT at h2
        rw [TL.tl_append] at h2
        exact absurd (List.append_eq_nil_iff.mp h2).1 (by decide +kernel)
    · intro z
      unfold townT
      rw [z]
      decide +kernel

/-! ### written and read -/
theorem sum_le {m : Nat} : ∀ {ys : List Str}, (∀ y ∈ ys, y.length ≤ m) → (ys.map (·.length)).sum ≤ ys.length * m
  | [], _ => by simp
  | y :: r, h => by
    have h1 := h y List.mem_cons_self
    have h2 := sum_le (m := m) fun z hz => h z (List.mem_cons_of_mem y hz)
    simp only [List.map_cons, List.sum_cons, List.length_cons, Nat.add_mul, Nat.one_mul]
    omega
theorem dJoin_strs {a : Str} {ys : List Str} (h : (ys.map (·.length)).sum + ys.length * a.length ≤ 16777216) : dJoin (.str a) (.list (ys.map .str)) = some (.str (Txt.join a ys)) := by
  simp only [dJoin, asStrs_map]
  exact if_pos h
theorem join_ordW {o : Ord} (h : ∀ i ∈ ordI o, NumW i) : dJoin (.str " ") (.list ((ordI o).map fun i => .str (nW i))) = some (.str (Txt.join " " (ordW o))) := by
  have h1 : (ordW o).length = 5 := rfl
  have h2 : ((ordW o).map (·.length)).sum ≤ (ordW o).length * 4 := sum_le fun y hy => by
    obtain ⟨i, hi, rfl⟩ := List.mem_map.mp hy
    exact (h i hi).len
  have h3 : (" " : Str).length = 1 := by decide +kernel
  have := dJoin_strs (a := " ") (ys := ordW o) (by rw [h1, h3]; rw [h1] at h2; omega)
  rw [← this]
  simp only [ordW, List.map_map]
  rfl
theorem add_ord {o : Ord} (h : ∀ i ∈ ordI o, NumW i) : dAdd (.str "order ") (.str (Txt.join " " (ordW o))) = some (.str (ordT o)) := by
  have h1 := (ordT_line h).len
  have h2 : (ordT o).length = ("order " : Str).length + (Txt.join " " (ordW o)).length := by
    unfold ordT
    simp only [str_len, TL.tl_append, List.length_append]
  show (if _ then _ else _) = _
  rw [if_pos (by omega)]
  rfl
theorem join_town {t : Town} (g : GoodTown t) : dJoin (.str "\n") (.list (t.orders.map fun o => .str (ordT o))) = some (.str (townT t)) := by
  have h1 := g.few3
  have h2 : ((t.orders.map ordT).map (·.length)).sum ≤ (t.orders.map ordT).length * 36 := sum_le fun y hy => by
    obtain ⟨o, ho, rfl⟩ := List.mem_map.mp hy
    exact (ordT_line (ord_num g ho)).len
  have h3 : ("\n" : Str).length = 1 := by decide +kernel
  rw [List.length_map] at h2
  have := dJoin_strs (a := "\n") (ys := t.orders.map ordT) (by rw [List.length_map, h3]; omega)
  rw [List.map_map] at this
  exact this
theorem log_le {n : Nat} (h : n < 2 ^ 11) : n.log2 < 1920 := by
  rcases Nat.eq_zero_or_pos n with rfl | hn
  · decide
  · have := (Nat.log2_lt (by omega)).mpr h
    omega
theorem str_num {i : Int} (h0 : 0 ≤ i) (h1 : i ≤ 2000) : cStr [.int i] = some (.str (nW i)) := if_pos (log_le (by omega))
theorem ord_bd {t : Town} (g : GoodTown t) {o : Ord} (ho : o ∈ t.orders) : ∀ i ∈ ordI o, 0 ≤ i ∧ i ≤ 2000 := by
  have h := g.orders o ho
  have h1 := h.of
  have h2 := h.pe
  have h3 := h.go
  have h5 := h.be
  have h6 := h.en
  have f1 := g.few
  have f2 := g.few2
  intro i hi
  simp only [ordI, List.mem_cons, List.not_mem_nil, or_false] at hi
  rcases hi with rfl | rfl | rfl | rfl | rfl <;> omega
theorem imm_strs {α : Type} (f : α → Str) (xs : List α) : immA (xs.map fun x => .str (f x)) = true := immA_map (fun _ => by simp [imm]) xs
theorem itD_eOrd (o : Ord) : itD (eOrd o) = some ((ordI o).map .int) := by simp [itD, eOrd, ordI, immL, immA, imm]
theorem isStr_s (s : Str) : isStr (.str s) = true := rfl
theorem fnR_need {t : Town} (g : GoodTown t) : fnR 1 x_need_town [eTown t] = some .none := by
  unfold fnR
  rw [if_pos (by rfl), x_need_good g]
  rfl
theorem written_ok {t : Town} (g : GoodTown t) : f_written [eTown t] = some (.str (townT t)) := by
  simp only [f_written, m_written]
  walk_at "et"
  simp only [fnR_need g, ob]
  walk_at "et"
  simp only [mM1]
  walk_at "et"
  rw [if_pos (isStr_s _)]
  walk_at "et"
  refine Ev.eq (Ev.guardB ?_ ?_)
  · rw [List.length_map]
    have := g.few3
    omega
  rw [lcL_map eOrd (fun o => .str (ordT o)) t.orders fun o ho => ?_]
  rotate_left
  · have hn := ord_num g ho
    have hb := ord_bd g ho
    walk_at "et"
    simp only [mM1]
    walk_at "et"
    rw [if_pos (isStr_s _)]
    simp only [itD_eOrd]
    walk_at "et"
    refine Ev.guardB (by simp [ordI]) ?_
    rw [lcL_map PyData.int (fun i => .str (nW i)) (ordI o) fun i hi => ?_]
    rotate_left
    · walk_at "et"
      simp only [str_num (hb i hi).1 (hb i hi).2, ob]
      exact Ev.ret ⟨rfl, rfl⟩
    walk_at "et"
    simp only [join_ordW hn, ob]
    walk_at "et"
    simp only [add_ord hn, ob]
    exact Ev.ret ⟨rfl, rfl⟩
  walk_at "et"
  simp only [join_town g, ob]
  exact Ev.ret rfl

theorem okD_map {α : Type} {f : α → PyData} (h : ∀ x, okD (f x) = true) (xs : List α) : okD.okDA (xs.map f) = true := by
  rw [okDA_all, List.all_eq_true]
  intro d hd
  obtain ⟨x, _, rfl⟩ := List.mem_map.mp hd
  exact h x
theorem okD_mapM {α : Type} {f : α → PyData} {xs : List α} (h : ∀ x ∈ xs, okD (f x) = true) : okD.okDA (xs.map f) = true := by
  rw [okDA_all, List.all_eq_true]
  intro d hd
  obtain ⟨x, hx, rfl⟩ := List.mem_map.mp hd
  exact h x hx
theorem depth_map {α : Type} {f : α → PyData} {n : Nat} (h : ∀ x, (f x).depth ≤ n) (xs : List α) : PyData.depthAll (xs.map f) ≤ n := depthA_le fun d hd => by
  obtain ⟨x, _, rfl⟩ := List.mem_map.mp hd
  exact h x
theorem town_okD {t : Town} (g : GoodTown { t with orders := [] }) (f3 : t.orders.length ≤ 1000001) : okD (eTown t) = true ∧ (eTown t).depth ≤ 7 := by
  have h1 : okD.okDA (t.days.map eRow) = true := okD_mapM fun r hr => by
    obtain ⟨i, hi⟩ := List.getElem?_of_mem hr
    have hl : r.length = t.days.length := (g.days.2 i r hi).1
    have : t.days.length ≤ 6 := g.few
    simp only [okD, eRow, okD_map (fun _ => rfl : ∀ i : Int, okD (.int i) = true), Bool.and_true, decide_eq_true_eq, List.length_map]
    omega
  have h2 : okD.okDA (t.homes.map eHomes) = true := okD_mapM fun r hr => by
    have := (g.homes r hr).few
    simp only [okD, eHomes, okD_map (fun _ => rfl : ∀ i : Home, okD (eHome i) = true), Bool.and_true, decide_eq_true_eq, List.length_map]
    omega
  have h3 : okD.okDA (t.orders.map eOrd) = true := okD_map (fun _ => rfl) _
  have f1 : t.days.length ≤ 6 := g.few
  have f2 : t.homes.length ≤ 6 := g.few2
  constructor
  · simp only [eTown, eDays, ePeople, eOrds, okD, okD.okDA, h1, h2, h3, Bool.and_true, Bool.true_and, decide_eq_true_eq, Bool.and_eq_true, List.length_map, List.length_cons, List.length_nil]
    omega
  · have d1 : PyData.depthAll (t.days.map eRow) ≤ 1 := depth_map (fun r => by
      have := depth_map (f := PyData.int) (n := 0) (fun _ => by simp [PyData.depth]) r
      simp only [eRow, PyData.depth]
      omega) _
    have d0 : ∀ h : Home, (eHome h).depth ≤ 1 := fun h => by simp [eHome, PyData.depth, PyData.depthAll]
    have d2 : PyData.depthAll (t.homes.map eHomes) ≤ 2 := depth_map (fun r => by
      have := depth_map d0 r
      simp only [eHomes, PyData.depth]
      omega) _
    have d3 : PyData.depthAll (t.orders.map eOrd) ≤ 1 := depth_map (fun o => by simp [eOrd, PyData.depth, PyData.depthAll]) _
    simp only [eTown, eDays, ePeople, eOrds, PyData.depth, PyData.depthAll]
    omega
theorem due_alike {t : Town} (g : GoodTown t) {x : Str} (hx : OkT 1000000 x) : f__law_alike 8 [dueD t x, dueD t x] = some (.bool true) := by
  have hrl := rowsT_len hx
  have hlo := filterMap_len rowO (rowsT x)
  have s1 : PyData.strOk ("BadText" : Str) = true := by decide +kernel
  have s2 : PyData.strOk ("BadTown" : Str) = true := by decide +kernel
  refine alike_all 7 _ ?_ ?_
  · unfold dueD
    split
    · simp [okD, okD.okDA, s1]
    · split
      · simp [okD, okD.okDA, s2]
      · exact (town_okD (t := { t with orders := (rowsT x).filterMap rowO }) (show GoodTown { t with orders := [] } from bare_good g) (by show ((rowsT x).filterMap rowO).length ≤ _; omega)).1
  · unfold dueD
    split
    · simp [PyData.depth, PyData.depthAll]
    · split
      · simp [PyData.depth, PyData.depthAll]
      · exact (town_okD (t := { t with orders := (rowsT x).filterMap rowO }) (show GoodTown { t with orders := [] } from bare_good g) (by show ((rowsT x).filterMap rowO).length ≤ _; omega)).2
def oddT : List Str := ["", " ", "\n", "order", "order 0 0 0 0 1\n", "order 0 0 1 0  1", "Order 0 0 1 0 1", " order 0 0 1 0 1"]
theorem oddT_ok : ∀ w ∈ oddT, PyData.strOk w = true ∧ w.length ≤ 740 := by decide +kernel
theorem pick_oddT {j : Int} (h0 : 0 ≤ j) (h1 : j < 8) : ∃ w, dIx (.list [.str "", .str " ", .str "\n", .str "order", .str "order 0 0 0 0 1\n", .str "order 0 0 1 0  1", .str "Order 0 0 1 0 1", .str " order 0 0 1 0 1"]) (.int j) = some (.str w) ∧ OkT 740 w := by
  have hl : j < oddT.length := h1
  obtain ⟨w, hw1, hw2⟩ := atI_in (xs := oddT) h0 hl
  have hm := oddT_ok w (List.mem_of_getElem? hw1)
  have h3 : atI (oddT.map PyData.str) j = some (.str w) := by
    rw [show j = ((j.toNat : Nat) : Int) by omega]
    exact atI_nat (by rw [List.getElem?_map, hw1]; rfl)
  refine ⟨w, ?_, hm.1, hm.2⟩
  show ((atI (oddT.map PyData.str) j).bind _) = _
  rw [h3]
  simp only [ob, imm, if_true]
theorem pick_txt {a b c : Str} {d : Int} (h0 : 0 ≤ d) (h1 : d < 3) (ha : OkT 740 a) (hb : OkT 740 b) (hc : OkT 740 c) : ∃ w : Str, dIx (.list [.str a, .str b, .str c]) (.int d) = some (.str w) ∧ OkT 740 w := by
  have : d = 0 ∨ d = 1 ∨ d = 2 := by omega
  rcases this with rfl | rfl | rfl
  · exact ⟨a, by simp [dIx, atI, ixN, imm], ha⟩
  · exact ⟨b, by simp [dIx, atI, ixN, imm], hb⟩
  · exact ⟨c, by simp [dIx, atI, ixN, imm], hc⟩
def bnd : Nat → Nat
  | 0 => 740
  | n + 1 => 2 * bnd n + 10
theorem bnd_le : ∀ n, n < 5 → bnd n ≤ 100000 := by decide
def envS (b : PyData) (t : Town) : Dl.Env := ⟨[.no, .dat b, .wk (eTown t), .no, .no, .no, .no, .no], []⟩
def envM (b : PyData) (t : Town) (x : Str) : Dl.Env := ⟨[.no, .dat b, .wk (eTown t), .no, .no, .wk (.str x), .no, .no], []⟩
theorem law_true : ∀ ns : List Int, ns.length ≤ 63 → f_law ns = some (.bool true) := by
  intro ns _
  refine Ev.eq ?_
  simp only [f_law, m_law]
  walk_at "et"
  refine Ev.town ⟨_, _, rfl⟩ fun t b1 hb1 g => ?_
  have hw := written_ok g
  have hwt : OkT 740 (townT t) := ⟨(townT_line g).1, (townT_line g).2.1⟩
  walk_at "et"
  refine Ev.guard (by omega) ?_
  refine Ev.bind (Ev.forL (Q := fun o => ∃ b, o = .nx (envS b t)) _ (fun i e => ∃ b, IsBox b ∧ e = envS b t) _ ⟨b1, hb1, rfl⟩ ?_ ?_) ?_
  · rintro i d e hd ⟨b, hb, rfl⟩
    unfold envS
    walk_at "et"
    simp only [hw, ob]
    walk_at "et"
    refine Ev.take hb (by omega) (by omega) fun j b2 hb2 j0 j1 => ?_
    obtain ⟨x0, ex0, hx0⟩ := pick_oddT j0 j1
    walk_at "et"
    simp only [ex0, ob]
    walk_at "et"
    refine Ev.take hb2 (by omega) (by omega) fun q b3 hb3 q0 q1 => ?_
    obtain ⟨x1, ex1, hx1⟩ := pick_txt q0 q1 hwt hwt hx0
    walk_at "et"
    simp only [ex1, ob]
    walk_at "et"
    refine Ev.take hb3 (by omega) (by omega) fun n b4 hb4 n0 n1 => ?_
    obtain ⟨nn, rfl⟩ : ∃ nn : Nat, n = (nn : Int) := ⟨n.toNat, by omega⟩
    walk_at "et"
    refine Ev.guard (by omega) ?_
    refine Ev.bind (Ev.forL (Q := fun o => ∃ b x, IsBox b ∧ OkT 100000 x ∧ o = .nx (envM b t x)) _ (fun i e => ∃ b x, IsBox b ∧ OkT (bnd i) x ∧ e = envM b t x) _ ⟨b4, x1, hb4, hx1, rfl⟩ ?_ ?_) ?_
    · rintro i d e hd ⟨b, x, hb, hx, rfl⟩
      have hi : i < 4 := by
        have := get_lt hd
        rw [rngD_len] at this
        omega
      unfold envM
      walk_at "et"
      refine Ev.spoilt hb hx (bnd_le i (by omega)) fun x' b' hb' hx' => ?_
      walk_at "et"
      exact Ev.nx ⟨b', x', hb', hx', rfl⟩
    · rintro e ⟨b, x, hb, hx, rfl⟩
      rw [rngD_len] at hx
      exact ⟨b, x, hb, ⟨hx.ok, Nat.le_trans hx.len (bnd_le _ (by omega))⟩, rfl⟩
    rintro o ⟨b, x, hb, hx, rfl⟩
    have hx' : OkT 1000000 x := ⟨hx.ok, by have := hx.len; omega⟩
    have h1 := due_ok g hx'
    have h2 := told_ok g hx'
    have h3 := due_alike g hx'
    unfold envM
    walk_at "et"
    simp only [h1, ob]
    walk_at "et"
    simp only [h1, h2, h3, ob]
    walk_at "et"
    simp only [h1, h2, h3, ob]
    walk_at "et"
    rw [if_neg (by decide)]
    walk_at "et"
    exact Ev.nx ⟨b, hb, rfl⟩
  · rintro e ⟨b, _, rfl⟩
    exact ⟨b, rfl⟩
  rintro o ⟨b, rfl⟩
  simp only [envS]
  walk_at "et"
  exact Ev.ret rfl

end Ms
open PySem PySem.W PyProof.Rows
set_option maxHeartbeats 0 in
theorem PySem.Challenge.cw_mailslots_k13_texts_refused_holds : PySem.Challenge.rw_mailslots_k13_texts_refused.Holds := by
  w_on; o_law; k_head; (case hw => w_witness2)
  k_fill
  refine L2.walk_of (l := PySem.Challenge.rw_mailslots_k13_texts_refused) (n := 63) (k := 10) (x := "_law_script") (CX := fun _ => L2.CX0) (sp := fun w => Ms.spLaw _) rfl (by decide) rfl ⟨rfl, by decide, by decide⟩ (fun w h Y => PySem.W.kIn_of Y) ?F (fun _ _ a ns hl _ hS => ⟨a, ns, rfl, hS, hl, fun _ => rfl⟩) (fun _ _ _ _ _ h => h)
  case F =>
    intro w mg fa h KX G hmg
    refine' Ms.all_mk Ms.law_true KX G hmg ?a0 ?l0 ?c0 ?k0 ?a1 ?l1 ?c1 ?k1 ?a2 ?l2 ?c2 ?k2 ?a3 ?l3 ?c3 ?k3 ?a4 ?l4 ?c4 ?k4 ?a5 ?l5 ?c5 ?k5 ?a6 ?l6 ?c6 ?k6 ?a7 ?l7 ?c7 ?k7 ?a8 ?l8 ?c8 ?k8 ?a9 ?l9 ?c9 ?k9 ?a10 ?l10 ?c10 ?k10 ?a11 ?l11 ?c11 ?k11 ?a12 ?l12 ?c12 ?k12 ?a13 ?l13 ?c13 ?k13 ?a14 ?l14 ?c14 ?k14 ?a15 ?l15 ?c15 ?k15 ?a16 ?l16 ?c16 ?k16 ?a17 ?l17 ?c17 ?k17 ?a18 ?l18 ?c18 ?k18 ?a19 ?l19 ?c19 ?k19 ?a20 ?l20 ?c20 ?k20 ?z_FIGURES ?z_MOST_DAYS ?z_MOST_FIGURES ?z_MOST_HOMES ?z_MOST_OFFICES ?z_MOST_ORDERS ?z_MOST_PEOPLE ?z_MOST_TIME ?z_PARTS ?z_ValueError ?z_bool ?z_enumerate ?z_int ?z_isinstance ?z_len ?z_list ?z_max ?z_min ?z_range ?z_str ?z_tuple ?z_MailError ?rd_MailError ?sp_MailError ?vV_MailError ?oc_get ?oc_tk ?z_BadTown ?kv_BadTown ?ga_BadTown ?gg_BadTown ?sb_BadTown ?hd_BadTown ?ca_BadTown ?mo_BadTown ?ex_BadTown ?ty_BadTown ?kp_BadTown ?kk_BadTown_BadTown ?kk_BadTown_BadLetter ?kk_BadTown_BadTime ?kk_BadTown_BadPerson ?kk_BadTown_BadKeep ?kk_BadTown_BadText ?xc_BadTown ?sa_BadTown ?fw_BadTown_word ?fw_BadTown_number ?ai_BadTown ?ti_BadTown ?li_BadTown ?ci_BadTown ?ki_BadTown ?z_BadLetter ?kv_BadLetter ?ga_BadLetter ?gg_BadLetter ?sb_BadLetter ?hd_BadLetter ?ca_BadLetter ?mo_BadLetter ?ex_BadLetter ?ty_BadLetter ?kp_BadLetter ?kk_BadLetter_BadTown ?kk_BadLetter_BadLetter ?kk_BadLetter_BadTime ?kk_BadLetter_BadPerson ?kk_BadLetter_BadKeep ?kk_BadLetter_BadText ?z_BadTime ?kv_BadTime ?ga_BadTime ?gg_BadTime ?sb_BadTime ?hd_BadTime ?ca_BadTime ?mo_BadTime ?ex_BadTime ?ty_BadTime ?kp_BadTime ?kk_BadTime_BadTown ?kk_BadTime_BadLetter ?kk_BadTime_BadTime ?kk_BadTime_BadPerson ?kk_BadTime_BadKeep ?kk_BadTime_BadText ?z_BadPerson ?kv_BadPerson ?ga_BadPerson ?gg_BadPerson ?sb_BadPerson ?hd_BadPerson ?ca_BadPerson ?mo_BadPerson ?ex_BadPerson ?ty_BadPerson ?kp_BadPerson ?kk_BadPerson_BadTown ?kk_BadPerson_BadLetter ?kk_BadPerson_BadTime ?kk_BadPerson_BadPerson ?kk_BadPerson_BadKeep ?kk_BadPerson_BadText ?z_BadKeep ?kv_BadKeep ?ga_BadKeep ?gg_BadKeep ?sb_BadKeep ?hd_BadKeep ?ca_BadKeep ?mo_BadKeep ?ex_BadKeep ?ty_BadKeep ?kp_BadKeep ?kk_BadKeep_BadTown ?kk_BadKeep_BadLetter ?kk_BadKeep_BadTime ?kk_BadKeep_BadPerson ?kk_BadKeep_BadKeep ?kk_BadKeep_BadText ?z_BadText ?kv_BadText ?ga_BadText ?gg_BadText ?sb_BadText ?hd_BadText ?ca_BadText ?mo_BadText ?ex_BadText ?ty_BadText ?kp_BadText ?kk_BadText_BadTown ?kk_BadText_BadLetter ?kk_BadText_BadTime ?kk_BadText_BadPerson ?kk_BadText_BadKeep ?kk_BadText_BadText ?xc_BadText ?sa_BadText ?fw_BadText_row ?ai_BadText ?ti_BadText ?li_BadText ?ci_BadText ?ki_BadText
    (case z_FIGURES => k_is); (case z_MOST_DAYS => k_is); (case z_MOST_FIGURES => k_is); (case z_MOST_HOMES => k_is); (case z_MOST_OFFICES => k_is); (case z_MOST_ORDERS => k_is); (case z_MOST_PEOPLE => k_is); (case z_MOST_TIME => k_is)
    (case z_PARTS => k_is); (case z_ValueError => k_is); (case z_bool => k_is); (case z_enumerate => k_is); (case z_int => k_is); (case z_isinstance => k_is); (case z_len => k_is); (case z_list => k_is)
    (case z_max => k_is); (case z_min => k_is); (case z_range => k_is); (case z_str => k_is); (case z_tuple => k_is); (case z_MailError => k_is); (case z_BadTown => k_is); (case z_BadLetter => k_is)
    (case z_BadTime => k_is); (case z_BadPerson => k_is); (case z_BadKeep => k_is); (case z_BadText => k_is); (case a0 => k_is); (case l0 => k_is); (case c0 => k_is); (case k0 => k_is)
    (case a1 => k_is); (case l1 => k_is); (case c1 => k_is); (case k1 => k_is); (case a2 => k_is); (case l2 => k_is); (case c2 => k_is); (case k2 => k_is)
    (case a3 => k_is); (case l3 => k_is); (case c3 => k_is); (case k3 => k_is); (case a4 => k_is); (case l4 => k_is); (case c4 => k_is); (case k4 => k_is)
    (case a5 => k_is); (case l5 => k_is); (case c5 => k_is); (case k5 => k_is); (case a6 => k_is); (case l6 => k_is); (case c6 => k_is); (case k6 => k_is)
    (case a7 => k_is); (case l7 => k_is); (case c7 => k_is); (case k7 => k_is); (case a8 => k_is); (case l8 => k_is); (case c8 => k_is); (case k8 => k_is)
    (case a9 => k_is); (case l9 => k_is); (case c9 => k_is); (case k9 => k_is); (case a10 => k_is); (case l10 => k_is); (case c10 => k_is); (case k10 => k_is)
    (case a11 => k_is); (case l11 => k_is); (case c11 => k_is); (case k11 => k_is); (case a12 => k_is); (case l12 => k_is); (case c12 => k_is); (case k12 => k_is)
    (case a13 => k_is); (case l13 => k_is); (case c13 => k_is); (case k13 => k_is); (case a14 => k_is); (case l14 => k_is); (case c14 => k_is); (case k14 => k_is)
    (case a15 => k_is); (case l15 => k_is); (case c15 => k_is); (case k15 => k_is); (case a16 => k_is); (case l16 => k_is); (case c16 => k_is); (case k16 => k_is)
    (case a17 => k_is); (case l17 => k_is); (case c17 => k_is); (case k17 => k_is); (case a18 => k_is); (case l18 => k_is); (case c18 => k_is); (case k18 => k_is)
    (case a19 => k_is); (case l19 => k_is); (case c19 => k_is); (case k19 => k_is); (case a20 => k_is); (case l20 => k_is); (case c20 => k_is); (case k20 => k_is)
    (case rd_MailError => k_is); (case sp_MailError => k_is); (case vV_MailError => k_is); (case oc_get => k_is); (case oc_tk => k_is); (case kv_BadTown => kit_is); (case ga_BadTown => k_is); (case gg_BadTown => k_is)
    (case sb_BadTown => k_is); (case hd_BadTown => k_is); (case ca_BadTown => k_is); (case mo_BadTown => k_is); (case ex_BadTown => kts_exm); (case ty_BadTown => k_is); (case kp_BadTown => k_is); (case kk_BadTown_BadTown => kit_is)
    (case kk_BadTown_BadLetter => kit_is); (case kk_BadTown_BadTime => kit_is); (case kk_BadTown_BadPerson => kit_is); (case kk_BadTown_BadKeep => kit_is); (case kk_BadTown_BadText => kit_is); (case xc_BadTown => k_is); (case sa_BadTown => k_is); (case fw_BadTown_word => k_is)
    (case fw_BadTown_number => k_is); (case ai_BadTown => k_is); (case ti_BadTown => k_is); (case li_BadTown => k_is); (case ci_BadTown => k_is); (case ki_BadTown => k_is); (case kv_BadLetter => kit_is); (case ga_BadLetter => k_is)
    (case gg_BadLetter => k_is); (case sb_BadLetter => k_is); (case hd_BadLetter => k_is); (case ca_BadLetter => k_is); (case mo_BadLetter => k_is); (case ex_BadLetter => kts_exm); (case ty_BadLetter => k_is); (case kp_BadLetter => k_is)
    (case kk_BadLetter_BadTown => kit_is); (case kk_BadLetter_BadLetter => kit_is); (case kk_BadLetter_BadTime => kit_is); (case kk_BadLetter_BadPerson => kit_is); (case kk_BadLetter_BadKeep => kit_is); (case kk_BadLetter_BadText => kit_is); (case kv_BadTime => kit_is); (case ga_BadTime => k_is)
    (case gg_BadTime => k_is); (case sb_BadTime => k_is); (case hd_BadTime => k_is); (case ca_BadTime => k_is); (case mo_BadTime => k_is); (case ex_BadTime => kts_exm); (case ty_BadTime => k_is); (case kp_BadTime => k_is)
    (case kk_BadTime_BadTown => kit_is); (case kk_BadTime_BadLetter => kit_is); (case kk_BadTime_BadTime => kit_is); (case kk_BadTime_BadPerson => kit_is); (case kk_BadTime_BadKeep => kit_is); (case kk_BadTime_BadText => kit_is); (case kv_BadPerson => kit_is); (case ga_BadPerson => k_is)
    (case gg_BadPerson => k_is); (case sb_BadPerson => k_is); (case hd_BadPerson => k_is); (case ca_BadPerson => k_is); (case mo_BadPerson => k_is); (case ex_BadPerson => kts_exm); (case ty_BadPerson => k_is); (case kp_BadPerson => k_is)
    (case kk_BadPerson_BadTown => kit_is); (case kk_BadPerson_BadLetter => kit_is); (case kk_BadPerson_BadTime => kit_is); (case kk_BadPerson_BadPerson => kit_is); (case kk_BadPerson_BadKeep => kit_is); (case kk_BadPerson_BadText => kit_is); (case kv_BadKeep => kit_is); (case ga_BadKeep => k_is)
    (case gg_BadKeep => k_is); (case sb_BadKeep => k_is); (case hd_BadKeep => k_is); (case ca_BadKeep => k_is); (case mo_BadKeep => k_is); (case ex_BadKeep => kts_exm); (case ty_BadKeep => k_is); (case kp_BadKeep => k_is)
    (case kk_BadKeep_BadTown => kit_is); (case kk_BadKeep_BadLetter => kit_is); (case kk_BadKeep_BadTime => kit_is); (case kk_BadKeep_BadPerson => kit_is); (case kk_BadKeep_BadKeep => kit_is); (case kk_BadKeep_BadText => kit_is); (case kv_BadText => kit_is); (case ga_BadText => k_is)
    (case gg_BadText => k_is); (case sb_BadText => k_is); (case hd_BadText => k_is); (case ca_BadText => k_is); (case mo_BadText => k_is); (case ex_BadText => kts_exm); (case ty_BadText => k_is); (case kp_BadText => k_is)
    (case kk_BadText_BadTown => kit_is); (case kk_BadText_BadLetter => kit_is); (case kk_BadText_BadTime => kit_is); (case kk_BadText_BadPerson => kit_is); (case kk_BadText_BadKeep => kit_is); (case kk_BadText_BadText => kit_is); (case xc_BadText => k_is); (case sa_BadText => k_is)
    (case fw_BadText_row => k_is); (case ai_BadText => k_is); (case ti_BadText => k_is); (case li_BadText => k_is); (case ci_BadText => k_is); (case ki_BadText => k_is)
