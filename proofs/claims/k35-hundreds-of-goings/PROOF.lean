import PyProof.Rows.All
import Wide.All
import OpenK.AllK
import Wide.FinOn
import HandS.ForMost
import HandS.ForExc
import HandS.Flow
import HandS.Iter
import HandS.IsInst
import HandS.More
import HandS.RevRange
import HandS.SortInts
import HandS.Head2
import HandS.HeadEnd
import HandS.HeadHook2
import HandS.ExcIs
import HandS.HotCalls
import HandS.Style
import HandS.SortRule
import KE.LtSeq
import PyProof.LongRange
import HandS.Conv
import HandS.DictTup
import HandS.SortKw
import HandS.Zip
import KE.KDictZip
import HandS.TupLe
import KE.GoesRaise
import HandS.Wide
import KE.GoesMore
import KE.GoesZip
import PySem.Challenge.RW_lugtrain_k35_hundreds_of_goings
set_option Elab.async false
set_option linter.all false
set_option maxRecDepth 100000
set_option maxHeartbeats 4000000
/-! Sm, part A: plain data D, owned trees T, how they lie in an abstract heap. -/
namespace Sm
open PySem L2
variable {K : PySem.W.Frag}
/-- plain data; scr: the script; err: a caught error by its class's number -/
inductive D where
  | non | bl (b : Bool) | int (i : Int) | str (s : Str) | lst (xs : List D) | tup (xs : List D) | scr (ns : List Int) | err (c : Nat)
/-- values of names: frozen data, or trees whose nodes belong to one name alone -/
inductive T where
  | dat (d : D) | lst (xs : List T) | tup (xs : List T)

/-- data in the frozen part U -/
inductive Rp (K : PySem.W.Frag) (U : Hp) : V → D → Prop
  | non : Rp K U .non .non
  | bl (b : Bool) : Rp K U (.bl b) (.bl b)
  | int (i : Int) : Rp K U (.int i) (.int i)
  | str (s : Str) : Rp K U (.str s) (.str s)
  | lst {a : Addr} {vs : List V} {ds : List D} : U a = some (.lst vs) → vs.length = ds.length → (∀ (i : Nat) v d, vs[i]? = some v → ds[i]? = some d → Rp K U v d) → Rp K U (.ref a) (.lst ds)
  | tup {a : Addr} {vs : List V} {ds : List D} : U a = some (.tup vs) → vs.length = ds.length → (∀ (i : Nat) v d, vs[i]? = some v → ds[i]? = some d → Rp K U v d) → Rp K U (.ref a) (.tup ds)
  | scr {a : Addr} {ns : List Int} : SqL K U a (ns.map V.int) → Rp K U (.ref a) (.scr ns)
theorem Rp.mono {U U' : Hp} (e : Same U U') : ∀ {v d}, Rp K U v d → Rp K U' v d := fun h => by
  induction h with
  | non => exact .non
  | bl b => exact .bl b
  | int i => exact .int i
  | str s => exact .str s
  | lst h l _ ih => exact .lst (e _ _ h) l ih
  | tup h l _ ih => exact .tup (e _ _ h) l ih
  | scr h => exact .scr (e.seq h)
/-- two lists, item by item -/
inductive Rps (K : PySem.W.Frag) (U : Hp) : List V → List D → Prop
  | nil : Rps K U [] []
  | cons {v d vs ds} : Rp K U v d → Rps K U vs ds → Rps K U (v :: vs) (d :: ds)
theorem Rps.mono {U U' : Hp} (e : Same U U') : ∀ {vs ds}, Rps K U vs ds → Rps K U' vs ds := fun h => by
  induction h with
  | nil => exact .nil
  | cons h _ ih => exact .cons (h.mono e) ih
theorem Rps.len {U : Hp} {vs ds} (h : Rps K U vs ds) : vs.length = ds.length := by
  induction h with
  | nil => rfl
  | cons _ _ ih => simp [ih]
theorem Rps.at {U : Hp} {vs ds} (h : Rps K U vs ds) : ∀ (i : Nat) v d, vs[i]? = some v → ds[i]? = some d → Rp K U v d := by
  induction h with
  | nil => intro i v d e; simp at e
  | cons h _ ih =>
    intro i v d e1 e2
    cases i with
    | zero => simp at e1 e2; subst e1 e2; exact h
    | succ i => simp at e1 e2; exact ih i v d e1 e2
theorem Rps.of {U : Hp} : ∀ {vs : List V} {ds : List D}, vs.length = ds.length → (∀ (i : Nat) v d, vs[i]? = some v → ds[i]? = some d → Rp K U v d) → Rps K U vs ds
  | [], [], _, _ => .nil
  | [], _ :: _, h, _ => by simp at h
  | _ :: _, [], h, _ => by simp at h
  | v :: vs, d :: ds, h, q => .cons (q 0 v d rfl rfl) (Rps.of (by simpa using h) fun i v d e1 e2 => q (i + 1) v d (by simpa using e1) (by simpa using e2))
theorem Rps.get {U : Hp} {vs : List V} {ds : List D} (h : Rps K U vs ds) {i : Nat} {d : D} (e : ds[i]? = some d) : ∃ v, vs[i]? = some v ∧ Rp K U v d := by
  have hi : i < vs.length := by rw [h.len]; exact (List.getElem?_eq_some_iff.mp e).1
  exact ⟨vs[i], List.getElem?_eq_getElem hi, h.at i _ _ (List.getElem?_eq_getElem hi) e⟩
theorem Rps.app {U : Hp} {vs ws : List V} {ds es : List D} (h : Rps K U vs ds) (k : Rps K U ws es) : Rps K U (vs ++ ws) (ds ++ es) := by
  induction h with
  | nil => exact k
  | cons h _ ih => exact .cons h ih
theorem Rp.lstI {U : Hp} {v : V} {ds : List D} (h : Rp K U v (.lst ds)) : ∃ a vs, v = .ref a ∧ U a = some (.lst vs) ∧ Rps K U vs ds := by
  cases h with
  | lst h l q => exact ⟨_, _, rfl, h, Rps.of l q⟩
theorem Rp.tupI {U : Hp} {v : V} {ds : List D} (h : Rp K U v (.tup ds)) : ∃ a vs, v = .ref a ∧ U a = some (.tup vs) ∧ Rps K U vs ds := by
  cases h with
  | tup h l q => exact ⟨_, _, rfl, h, Rps.of l q⟩
theorem Rp.mkL {U : Hp} {a : Addr} {vs : List V} {ds : List D} (h : U a = some (.lst vs)) (r : Rps K U vs ds) : Rp K U (.ref a) (.lst ds) := .lst h r.len r.at
theorem Rp.mkT {U : Hp} {a : Addr} {vs : List V} {ds : List D} (h : U a = some (.tup vs)) (r : Rps K U vs ds) : Rp K U (.ref a) (.tup ds) := .tup h r.len r.at

/-- a value that needs no heap -/
def D.flat : D → Bool
  | .non => true | .bl _ => true | .int _ => true | .str _ => true | _ => false
theorem Rp.flat {U U' : Hp} {v : V} {d : D} (h : Rp K U v d) (f : d.flat = true) : Rp K U' v d := by
  cases h with
  | non => exact .non
  | bl b => exact .bl b
  | int i => exact .int i
  | str s => exact .str s
  | lst => cases f
  | tup => cases f
  | scr => cases f

/- trees: G the places of their own nodes -/
mutual
inductive TR (K : PySem.W.Frag) (U H : Hp) : V → T → List Addr → Prop
  | dat {v d} : Rp K U v d → TR K U H v (.dat d) []
  | lst {p vs ts G} : H p = some (.lst vs) → TRs K U H vs ts G → TR K U H (.ref p) (.lst ts) (p :: G)
  | tup {p vs ts G} : H p = some (.tup vs) → TRs K U H vs ts G → TR K U H (.ref p) (.tup ts) (p :: G)
inductive TRs (K : PySem.W.Frag) (U H : Hp) : List V → List T → List Addr → Prop
  | nil : TRs K U H [] [] []
  | cons {v t vs ts G G'} : TR K U H v t G → TRs K U H vs ts G' → TRs K U H (v :: vs) (t :: ts) (G ++ G')
end
mutual
theorem TR.keep {U U' H H' : Hp} (e : Same U U') : ∀ {v t G}, TR K U H v t G → (∀ a ∈ G, H' a = H a) → TR K U' H' v t G
  | _, _, _, .dat h, _ => .dat (h.mono e)
  | _, _, _, .lst h r, k => .lst ((k _ List.mem_cons_self).trans h) (TRs.keep e r fun a ha => k a (List.mem_cons_of_mem _ ha))
  | _, _, _, .tup h r, k => .tup ((k _ List.mem_cons_self).trans h) (TRs.keep e r fun a ha => k a (List.mem_cons_of_mem _ ha))
theorem TRs.keep {U U' H H' : Hp} (e : Same U U') : ∀ {vs ts G}, TRs K U H vs ts G → (∀ a ∈ G, H' a = H a) → TRs K U' H' vs ts G
  | _, _, _, .nil, _ => .nil
  | _, _, _, .cons h r, k => .cons (TR.keep e h fun a ha => k a (List.mem_append_left _ ha)) (TRs.keep e r fun a ha => k a (List.mem_append_right _ ha))
end
mutual
theorem TR.dom {U H : Hp} : ∀ {v t G}, TR K U H v t G → ∀ a ∈ G, ∃ o, H a = some o
  | _, _, _, .dat _, a, ha => by simp at ha
  | _, _, _, .lst h r, a, ha => by
    rcases List.mem_cons.mp ha with rfl | ha
    · exact ⟨_, h⟩
    · exact TRs.dom r a ha
  | _, _, _, .tup h r, a, ha => by
    rcases List.mem_cons.mp ha with rfl | ha
    · exact ⟨_, h⟩
    · exact TRs.dom r a ha
theorem TRs.dom {U H : Hp} : ∀ {vs ts G}, TRs K U H vs ts G → ∀ a ∈ G, ∃ o, H a = some o
  | _, _, _, .nil, a, ha => by simp at ha
  | _, _, _, .cons h r, a, ha => by
    rcases List.mem_append.mp ha with ha | ha
    · exact TR.dom h a ha
    · exact TRs.dom r a ha
end
/- as plain data -/
mutual
def T.er : T → D
  | .dat d => d
  | .lst xs => .lst (T.ers xs)
  | .tup xs => .tup (T.ers xs)
def T.ers : List T → List D
  | [] => []
  | t :: ts => t.er :: T.ers ts
end
theorem T.ers_map : ∀ ts : List T, T.ers ts = ts.map T.er
  | [] => by simp [T.ers]
  | t :: ts => by simp [T.ers, T.ers_map ts]
mutual
theorem TR.er {U H : Hp} (e : Same U H) : ∀ {v t G}, TR K U H v t G → Rp K H v t.er
  | _, _, _, .dat h => by simpa [T.er] using h.mono e
  | _, _, _, .lst h r => by simpa [T.er] using Rp.mkL h (TRs.er e r)
  | _, _, _, .tup h r => by simpa [T.er] using Rp.mkT h (TRs.er e r)
theorem TRs.er {U H : Hp} (e : Same U H) : ∀ {vs ts G}, TRs K U H vs ts G → Rps K H vs (T.ers ts)
  | _, _, _, .nil => by simpa [T.ers] using Rps.nil
  | _, _, _, .cons h r => by simpa [T.ers] using Rps.cons (TR.er e h) (TRs.er e r)
end
theorem TRs.len {U H : Hp} : ∀ {vs ts G}, TRs K U H vs ts G → vs.length = ts.length
  | _, _, _, .nil => rfl
  | _, _, _, .cons _ r => by simp [TRs.len r]
/-- U with the places G of H frozen too -/
def frzU (U H : Hp) (G : List Addr) : Hp := fun a => if a ∈ G then H a else U a
mutual
theorem TR.frz {U H F : Hp} (e : Same U F) : ∀ {v t G}, TR K U H v t G → (∀ a ∈ G, F a = H a) → Rp K F v t.er
  | _, _, _, .dat h, _ => by simpa [T.er] using h.mono e
  | _, _, _, .lst h r, k => by simpa [T.er] using Rp.mkL ((k _ List.mem_cons_self).trans h) (TRs.frz e r fun a ha => k a (List.mem_cons_of_mem _ ha))
  | _, _, _, .tup h r, k => by simpa [T.er] using Rp.mkT ((k _ List.mem_cons_self).trans h) (TRs.frz e r fun a ha => k a (List.mem_cons_of_mem _ ha))
theorem TRs.frz {U H F : Hp} (e : Same U F) : ∀ {vs ts G}, TRs K U H vs ts G → (∀ a ∈ G, F a = H a) → Rps K F vs (T.ers ts)
  | _, _, _, .nil, _ => by simpa [T.ers] using Rps.nil
  | _, _, _, .cons h r, k => by simpa [T.ers] using Rps.cons (TR.frz e h fun a ha => k a (List.mem_append_left _ ha)) (TRs.frz e r fun a ha => k a (List.mem_append_right _ ha))
end
/- its frozen parts are flat: it leans on no frozen place -/
mutual
def T.clean : T → Bool
  | .dat d => d.flat
  | .lst xs => T.cleans xs
  | .tup xs => T.cleans xs
def T.cleans : List T → Bool
  | [] => true
  | t :: ts => t.clean && T.cleans ts
end
mutual
theorem TR.clean {U U' H : Hp} : ∀ {v t G}, TR K U H v t G → t.clean = true → TR K U' H v t G
  | _, _, _, .dat h, c => .dat (h.flat (by simpa [T.clean] using c))
  | _, _, _, .lst h r, c => .lst h (TRs.clean r (by simpa [T.clean] using c))
  | _, _, _, .tup h r, c => .tup h (TRs.clean r (by simpa [T.clean] using c))
theorem TRs.clean {U U' H : Hp} : ∀ {vs ts G}, TRs K U H vs ts G → T.cleans ts = true → TRs K U' H vs ts G
  | _, _, _, .nil, _ => .nil
  | _, _, _, .cons h r, c => by
    simp only [T.cleans, Bool.and_eq_true] at c
    exact .cons (TR.clean h c.1) (TRs.clean r c.2)
end
end Sm
/-! Sm, part B: names' cells, the state's invariant, the judgements. -/
namespace Sm
open PySem L2
variable {K : PySem.W.Frag}
inductive Cell where
  | no | at (t : T) | lent (t : T)
abbrev Env := List Cell
/-- a mirror's end -/
inductive R (α : Type) where
  | ok (a : α) | exc (c : Nat) | bad
def R.bind {α β : Type} : R α → (α → R β) → R β
  | .ok a, f => f a
  | .exc c, _ => .exc c
  | .bad, _ => .bad

inductive Lv : L2.St → Env → List (V × T) → Prop
  | nil : Lv [] [] []
  | no {σ ρ l x} : Lv σ ρ l → Lv (x :: σ) (.no :: ρ) l
  | at {σ ρ l v t} : Lv σ ρ l → Lv (some v :: σ) (.at t :: ρ) ((v, t) :: l)
  | lent {σ ρ l v t} : Lv σ ρ l → Lv (some v :: σ) (.lent t :: ρ) ((v, t) :: l)
theorem Lv.len {σ ρ l} (h : Lv σ ρ l) : σ.length = ρ.length := by
  induction h with
  | nil => rfl
  | no _ ih => simp [ih]
  | «at» _ ih => simp [ih]
  | lent _ ih => simp [ih]
theorem Lv.mem {σ ρ l} (h : Lv σ ρ l) : ∀ {i : Nat} {t}, (ρ[i]? = some (.at t) ∨ ρ[i]? = some (.lent t)) → ∃ v, σ[i]? = some (some v) ∧ (v, t) ∈ l := by
  induction h with
  | nil => intro i t e; simp at e
  | no _ ih =>
    intro i t e
    cases i with
    | zero => simp at e
    | succ i =>
      obtain ⟨v, a, b⟩ := ih (i := i) (t := t) (by simpa using e)
      exact ⟨v, by simpa using a, b⟩
  | «at» _ ih =>
    rename_i v0 t0 _
    intro i t e
    cases i with
    | zero =>
      simp at e
      subst e
      exact ⟨v0, rfl, List.mem_cons_self⟩
    | succ i =>
      obtain ⟨v, a, b⟩ := ih (i := i) (t := t) (by simpa using e)
      exact ⟨v, by simpa using a, List.mem_cons_of_mem _ b⟩
  | lent _ ih =>
    rename_i v0 t0 _
    intro i t e
    cases i with
    | zero =>
      simp at e
      subst e
      exact ⟨v0, rfl, List.mem_cons_self⟩
    | succ i =>
      obtain ⟨v, a, b⟩ := ih (i := i) (t := t) (by simpa using e)
      exact ⟨v, by simpa using a, List.mem_cons_of_mem _ b⟩
/-- a cell's tree is taken out -/
theorem Lv.out {σ ρ l} (h : Lv σ ρ l) : ∀ {i : Nat} {t}, ρ[i]? = some (.at t) → ∃ v l', σ[i]? = some (some v) ∧ l.Perm ((v, t) :: l') ∧ Lv σ (ρ.set i .no) l' := by
  induction h with
  | nil => intro i t e; simp at e
  | no _ ih =>
    intro i t e
    cases i with
    | zero => simp at e
    | succ i =>
      obtain ⟨v, l', a, b, c⟩ := ih (i := i) (t := t) (by simpa using e)
      exact ⟨v, l', by simpa using a, b, by simpa using Lv.no c⟩
  | «at» h0 ih =>
    rename_i v0 t0
    intro i t e
    cases i with
    | zero =>
      simp at e
      subst e
      exact ⟨v0, _, rfl, List.Perm.refl _, by simpa using Lv.no h0⟩
    | succ i =>
      obtain ⟨v, l', a, b, c⟩ := ih (i := i) (t := t) (by simpa using e)
      exact ⟨v, (v0, t0) :: l', by simpa using a, (b.cons _).trans (List.Perm.swap ..), by simpa using Lv.at c⟩
  | lent h0 ih =>
    rename_i v0 t0
    intro i t e
    cases i with
    | zero => simp at e
    | succ i =>
      obtain ⟨v, l', a, b, c⟩ := ih (i := i) (t := t) (by simpa using e)
      exact ⟨v, (v0, t0) :: l', by simpa using a, (b.cons _).trans (List.Perm.swap ..), by simpa using Lv.lent c⟩
/-- whatever stands in a cell is dropped -/
theorem Lv.drop {σ ρ l} (h : Lv σ ρ l) : ∀ (i : Nat), ∃ r l', l.Perm (r ++ l') ∧ Lv σ (ρ.set i .no) l' := by
  induction h with
  | nil => intro i; exact ⟨[], [], .refl _, by simpa using Lv.nil⟩
  | no h0 ih =>
    intro i
    cases i with
    | zero => exact ⟨[], _, .refl _, by simpa using Lv.no h0⟩
    | succ i =>
      obtain ⟨r, l', b, c⟩ := ih i
      exact ⟨r, l', b, by simpa using Lv.no c⟩
  | «at» h0 ih =>
    rename_i v0 t0
    intro i
    cases i with
    | zero => exact ⟨[(v0, t0)], _, .refl _, by simpa using Lv.no h0⟩
    | succ i =>
      obtain ⟨r, l', b, c⟩ := ih i
      exact ⟨r, (v0, t0) :: l', (b.cons _).trans List.perm_middle.symm, by simpa using Lv.at c⟩
  | lent h0 ih =>
    rename_i v0 t0
    intro i
    cases i with
    | zero => exact ⟨[(v0, t0)], _, .refl _, by simpa using Lv.no h0⟩
    | succ i =>
      obtain ⟨r, l', b, c⟩ := ih i
      exact ⟨r, (v0, t0) :: l', (b.cons _).trans List.perm_middle.symm, by simpa using Lv.lent c⟩
/-- a tree is put into an empty cell -/
theorem Lv.put {σ ρ l} (h : Lv σ ρ l) (v : V) (t : T) : ∀ {i : Nat}, ρ[i]? = some .no → ∃ l', l'.Perm ((v, t) :: l) ∧ Lv (σ.set i (some v)) (ρ.set i (.at t)) l' := by
  induction h with
  | nil => intro i e; simp at e
  | no h0 ih =>
    intro i e
    cases i with
    | zero => exact ⟨_, .refl _, by simpa using Lv.at h0⟩
    | succ i =>
      obtain ⟨l', b, c⟩ := ih (i := i) (by simpa using e)
      exact ⟨l', b, by simpa using Lv.no c⟩
  | «at» h0 ih =>
    rename_i v0 t0
    intro i e
    cases i with
    | zero => simp at e
    | succ i =>
      obtain ⟨l', b, c⟩ := ih (i := i) (by simpa using e)
      exact ⟨(v0, t0) :: l', (b.cons _).trans (List.Perm.swap ..), by simpa using Lv.at c⟩
  | lent h0 ih =>
    rename_i v0 t0
    intro i e
    cases i with
    | zero => simp at e
    | succ i =>
      obtain ⟨l', b, c⟩ := ih (i := i) (by simpa using e)
      exact ⟨(v0, t0) :: l', (b.cons _).trans (List.Perm.swap ..), by simpa using Lv.lent c⟩

/-! ### owned trees, apart from one another -/
theorem TRs.perm {U H : Hp} {l l' : List (V × T)} (p : l.Perm l') : ∀ {G}, TRs K U H (l.map (·.1)) (l.map (·.2)) G → ∃ G', G.Perm G' ∧ TRs K U H (l'.map (·.1)) (l'.map (·.2)) G' := by
  induction p with
  | nil => intro G h; exact ⟨G, .refl _, h⟩
  | cons x _ ih =>
    intro G h
    cases h with
    | cons a b =>
      obtain ⟨G', p', b'⟩ := ih b
      exact ⟨_, List.Perm.append_left _ p', .cons a b'⟩
  | swap x y l =>
    intro G h
    cases h with
    | cons a b =>
      cases b with
      | cons c d =>
        refine ⟨_, ?_, .cons c (.cons a d)⟩
        rw [← List.append_assoc, ← List.append_assoc]
        exact List.Perm.append_right _ List.perm_append_comm
  | trans _ _ ih1 ih2 =>
    intro G h
    obtain ⟨G1, p1, h1⟩ := ih1 h
    obtain ⟨G2, p2, h2⟩ := ih2 h1
    exact ⟨G2, p1.trans p2, h2⟩
theorem TRs.split {U H : Hp} : ∀ {vs ws : List V} {ts us : List T} {G}, TRs K U H (vs ++ ws) (ts ++ us) G → vs.length = ts.length → ∃ G1 G2, G = G1 ++ G2 ∧ TRs K U H vs ts G1 ∧ TRs K U H ws us G2
  | [], ws, [], us, G, h, _ => ⟨[], G, rfl, .nil, h⟩
  | [], _, _ :: _, _, _, _, e => by simp at e
  | _ :: _, _, [], _, _, _, e => by simp at e
  | v :: vs, ws, t :: ts, us, G, h, e => by
    cases h with
    | cons a b =>
      obtain ⟨G1, G2, rfl, h1, h2⟩ := TRs.split b (by simpa using e)
      exact ⟨_, G2, (List.append_assoc ..).symm, .cons a h1, h2⟩
theorem TRs.join {U H : Hp} : ∀ {vs ws : List V} {ts us : List T} {G1 G2}, TRs K U H vs ts G1 → TRs K U H ws us G2 → TRs K U H (vs ++ ws) (ts ++ us) (G1 ++ G2)
  | _, _, _, _, _, _, .nil, h => h
  | _, _, _, _, _, _, .cons a b, h => by
    rw [List.append_assoc]
    exact .cons a (TRs.join b h)
def Own (K : PySem.W.Frag) (E U H : Hp) (l : List (V × T)) : Prop := ∃ G : List Addr, TRs K U H (l.map (·.1)) (l.map (·.2)) G ∧ G.Nodup ∧ ∀ a ∈ G, U a = none ∧ E a = none
theorem Own.perm {E U H : Hp} {l l' : List (V × T)} (o : Own K E U H l) (p : l.Perm l') : Own K E U H l' := by
  obtain ⟨G, h, nd, f⟩ := o
  obtain ⟨G', p', h'⟩ := h.perm p
  exact ⟨G', h', p'.nodup_iff.mp nd, fun a ha => f a (p'.mem_iff.mpr ha)⟩
theorem Own.right {E U H : Hp} {r l : List (V × T)} (o : Own K E U H (r ++ l)) : Own K E U H l := by
  obtain ⟨G, h, nd, f⟩ := o
  rw [List.map_append, List.map_append] at h
  obtain ⟨G1, G2, rfl, _, h2⟩ := TRs.split h (by simp)
  exact ⟨G2, h2, (List.nodup_append.mp nd).2.1, fun a ha => f a (List.mem_append_right _ ha)⟩
theorem Own.left {E U H : Hp} {r l : List (V × T)} (o : Own K E U H (r ++ l)) : Own K E U H r := (o.perm List.perm_append_comm).right
theorem Own.tail {E U H : Hp} {x : V × T} {l : List (V × T)} (o : Own K E U H (x :: l)) : Own K E U H l := Own.right (r := [x]) o
/-- more is frozen, more stands: all that is owned is as it was -/
theorem Own.mono {E U U' H H' : Hp} {l : List (V × T)} (o : Own K E U H l) (eU : Same U U') (eH : Same H H') (n : ∀ a x, H a = some x → U a = none → U' a = none) : Own K E U' H' l := by
  obtain ⟨G, h, nd, f⟩ := o
  refine ⟨G, h.keep eU fun a ha => ?_, nd, fun a ha => ?_⟩
  · obtain ⟨x, hx⟩ := h.dom a ha
    rw [hx, eH a x hx]
  · obtain ⟨x, hx⟩ := h.dom a ha
    exact ⟨n a x hx (f a ha).1, (f a ha).2⟩

/-! ### the state -/
structure Good (K : PySem.W.Frag) (E U0 : Hp) (L : List (Nat × V)) (U H : Hp) (σ : L2.St) (ρ : Env) (tmp : List (V × T)) : Prop where
  eh : Same E H
  uu : Same U0 U
  uh : Same U H
  nw : ∀ a o, U a = some o → U0 a = none → E a = none
  own : ∃ l, Lv σ ρ l ∧ Own K E U H (l ++ tmp)
  pin : ∀ j v, (j, v) ∈ L → σ[j]? = some (some v) ∧ ∃ t, ρ[j]? = some (.lent t)
/-- a def's end -/
structure Fin (K : PySem.W.Frag) (E U0 U H : Hp) (v : V) (t : T) : Prop where
  eh : Same E H
  uu : Same U0 U
  uh : Same U H
  nw : ∀ a o, U a = some o → U0 a = none → E a = none
  own : Own K E U H [(v, t)]
section
variable {E U0 U H H' : Hp} {L : List (Nat × V)} {σ : L2.St} {ρ : Env} {tmp : List (V × T)}
theorem Good.heap (g : Good K E U0 L U H σ ρ tmp) (e : Same H H') : Good K E U0 L U H' σ ρ tmp := by
  obtain ⟨l, lv, o⟩ := g.own
  exact ⟨g.eh.trans e, g.uu, g.uh.trans e, g.nw, ⟨l, lv, o.mono (Same.refl _) e fun _ _ _ n => n⟩, g.pin⟩
theorem Good.tail {x : V × T} (g : Good K E U0 L U H σ ρ (x :: tmp)) : Good K E U0 L U H σ ρ tmp := by
  obtain ⟨l, lv, o⟩ := g.own
  exact ⟨g.eh, g.uu, g.uh, g.nw, ⟨l, lv, (o.perm (List.perm_middle)).tail⟩, g.pin⟩
theorem Good.perm {tmp' : List (V × T)} (g : Good K E U0 L U H σ ρ tmp) (p : tmp.Perm tmp') : Good K E U0 L U H σ ρ tmp' := by
  obtain ⟨l, lv, o⟩ := g.own
  exact ⟨g.eh, g.uu, g.uh, g.nw, ⟨l, lv, o.perm (List.Perm.append_left _ p)⟩, g.pin⟩
theorem Good.less {r tmp' : List (V × T)} (g : Good K E U0 L U H σ ρ tmp) (p : tmp.Perm (r ++ tmp')) : Good K E U0 L U H σ ρ tmp' := by
  obtain ⟨l, lv, o⟩ := g.own
  have o2 := (o.perm (List.Perm.append_left l p)).perm (l' := r ++ (l ++ tmp')) (by
    rw [← List.append_assoc, ← List.append_assoc]
    exact List.Perm.append_right _ List.perm_append_comm)
  exact ⟨g.eh, g.uu, g.uh, g.nw, ⟨l, lv, o2.right⟩, g.pin⟩
end
end Sm
/-! Sm, part C: the judgements over readings; expressions. -/
namespace Sm
open PySem L2
variable {K : PySem.W.Frag}
abbrev TX (β : Type) := L2.St → Hp → (β → Hp → Prop) → Prop
/-- what is wanted behind a value that is only looked at -/
def PX (ec : Nat → Addr) {α β : Type} (rel : Hp → β → α → Prop) (x : XK) (H : Hp) (Q : β → Hp → Prop) : R α → Prop
  | .ok a => ∀ v H', Same H H' → rel H' v a → Q v H'
  | .exc c => ∀ H', Same H H' → x (.ref (ec c)) none H'
  | .bad => False
def SX (K : PySem.W.Frag) (ec : Nat → Addr) {α β : Type} (rel : Hp → β → α → Prop) (ex : L2.St → XK) (t : TX β) (m : Env → R α) : Prop :=
  ∀ ⦃E U0 : Hp⦄ ⦃L : List (Nat × V)⦄ ⦃U H : Hp⦄ ⦃σ : L2.St⦄ ⦃ρ : Env⦄ ⦃tmp : List (V × T)⦄, Good K E U0 L U H σ ρ tmp → ∀ Q, PX ec rel (ex σ) H Q (m ρ) → t σ H Q
abbrev SB (K : PySem.W.Frag) (ec : Nat → Addr) := SX K ec (Rp K)
abbrev SBs (K : PySem.W.Frag) (ec : Nat → Addr) := SX K ec (Rps K)
def EqR {α : Type} (_ : Hp) (a b : α) : Prop := a = b
abbrev SBt (K : PySem.W.Frag) (ec : Nat → Addr) := SX K ec (EqR (α := Bool))
abbrev SBo (K : PySem.W.Frag) (ec : Nat → Addr) := SX K ec (EqR (α := Option Int))
/-- .. a new value, a tree of its own -/
def PP (K : PySem.W.Frag) (ec : Nat → Addr) (x : XK) (E U0 : Hp) (L : List (Nat × V)) (σ : L2.St) (ρ : Env) (tmp : List (V × T)) (H : Hp) (Q : VK) : R T → Prop
  | .ok τ => ∀ v U' H', Same H H' → Good K E U0 L U' H' σ ρ ((v, τ) :: tmp) → Q v H'
  | .exc c => ∀ H', Same H H' → x (.ref (ec c)) none H'
  | .bad => False
def SP (K : PySem.W.Frag) (ec : Nat → Addr) (ex : L2.St → XK) (t : TE) (m : Env → R T) : Prop :=
  ∀ ⦃E U0 : Hp⦄ ⦃L : List (Nat × V)⦄ ⦃U H : Hp⦄ ⦃σ : L2.St⦄ ⦃ρ : Env⦄ ⦃tmp : List (V × T)⦄, Good K E U0 L U H σ ρ tmp → ∀ Q, PP K ec (ex σ) E U0 L σ ρ tmp H Q (m ρ) → t σ H Q
/-- .. a new list of what is looked at -/
def PF (K : PySem.W.Frag) (ec : Nat → Addr) (x : XK) (H : Hp) (Q : VK) : R (List D) → Prop
  | .ok ds => ∀ p vs H', Same H H' → H' p = none → Rps K H' vs ds → Q (.ref p) (upd H' p (.lst vs))
  | .exc c => ∀ H', Same H H' → x (.ref (ec c)) none H'
  | .bad => False
def SF (K : PySem.W.Frag) (ec : Nat → Addr) (ex : L2.St → XK) (t : TE) (m : Env → R (List D)) : Prop :=
  ∀ ⦃E U0 : Hp⦄ ⦃L : List (Nat × V)⦄ ⦃U H : Hp⦄ ⦃σ : L2.St⦄ ⦃ρ : Env⦄ ⦃tmp : List (V × T)⦄, Good K E U0 L U H σ ρ tmp → ∀ Q, PF K ec (ex σ) H Q (m ρ) → t σ H Q
/-- any expression: it may take trees out of names, or change them -/
inductive O2 where
  | ok (t : T) (ρ : Env) | exc (c : Nat) (ρ : Env) | bad
def PE2 (K : PySem.W.Frag) (ec : Nat → Addr) (x : XK) (E U0 : Hp) (L : List (Nat × V)) (σ : L2.St) (tmp : List (V × T)) (Q : VK) : O2 → Prop
  | .ok τ ρ' => ∀ v U' H', Good K E U0 L U' H' σ ρ' ((v, τ) :: tmp) → Q v H'
  | .exc c ρ' => ∀ U' H', Good K E U0 L U' H' σ ρ' tmp → x (.ref (ec c)) none H'
  | .bad => False
def SE (K : PySem.W.Frag) (ec : Nat → Addr) (ex : L2.St → XK) (t : TE) (m : Env → O2) : Prop :=
  ∀ ⦃E U0 : Hp⦄ ⦃L : List (Nat × V)⦄ ⦃U H : Hp⦄ ⦃σ : L2.St⦄ ⦃ρ : Env⦄ ⦃tmp : List (V × T)⦄, Good K E U0 L U H σ ρ tmp → ∀ Q, PE2 K ec (ex σ) E U0 L σ tmp Q (m ρ) → t σ H Q

section
variable {ec : Nat → Addr} {ex : L2.St → XK}
theorem same_new {H : Hp} {p : Addr} {o : HO} (h : H p = none) : Same H (upd H p o) := fun b u e => by
  rw [upd_ne (ne_of_none e h)]
  exact e
theorem PX.mono {α β : Type} {rel : Hp → β → α → Prop} {x : XK} {H H1 : Hp} {Q : β → Hp → Prop} {r : R α} (h : PX ec rel x H Q r) (e : Same H H1) : PX ec rel x H1 Q r := by
  cases r with
  | ok a => exact fun v H' s q => h v H' (e.trans s) q
  | exc c => exact fun H' s => h H' (e.trans s)
  | bad => exact h
theorem PX.bind {α β α' β' : Type} {rel : Hp → β → α → Prop} {rel' : Hp → β' → α' → Prop} {x : XK} {H : Hp} {Q : β' → Hp → Prop} {Q' : β → Hp → Prop} {r : R α} {f : α → R α'} (h : PX ec rel' x H Q (r.bind f))
    (k : ∀ a v H1, r = .ok a → Same H H1 → rel H1 v a → PX ec rel' x H1 Q (f a) → Q' v H1) : PX ec rel x H Q' r := by
  cases r with
  | ok a => exact fun v H1 s q => k a v H1 rfl s q (PX.mono (r := f a) h s)
  | exc c => exact h
  | bad => exact h
theorem PP.mono {x : XK} {E U0 : Hp} {L : List (Nat × V)} {σ : L2.St} {ρ : Env} {tmp : List (V × T)} {H H1 : Hp} {Q : VK} {r : R T} (h : PP K ec x E U0 L σ ρ tmp H Q r) (e : Same H H1) : PP K ec x E U0 L σ ρ tmp H1 Q r := by
  cases r with
  | ok a => exact fun v U' H' s q => h v U' H' (e.trans s) q
  | exc c => exact fun H' s => h H' (e.trans s)
  | bad => exact h
theorem PF.mono {x : XK} {H H1 : Hp} {Q : VK} {r : R (List D)} (h : PF K ec x H Q r) (e : Same H H1) : PF K ec x H1 Q r := by
  cases r with
  | ok a => exact fun p vs H' s n q => h p vs H' (e.trans s) n q
  | exc c => exact fun H' s => h H' (e.trans s)
  | bad => exact h
theorem PX.bindP {α β : Type} {rel : Hp → β → α → Prop} {x : XK} {E U0 : Hp} {L : List (Nat × V)} {σ : L2.St} {ρ : Env} {tmp : List (V × T)} {H : Hp} {Q : VK} {Q' : β → Hp → Prop} {r : R α} {f : α → R T} (h : PP K ec x E U0 L σ ρ tmp H Q (r.bind f))
    (k : ∀ a v H1, r = .ok a → Same H H1 → rel H1 v a → PP K ec x E U0 L σ ρ tmp H1 Q (f a) → Q' v H1) : PX ec rel x H Q' r := by
  cases r with
  | ok a => exact fun v H1 s q => k a v H1 rfl s q (PP.mono (r := f a) h s)
  | exc c => exact h
  | bad => exact h
theorem PX.bindF {α β : Type} {rel : Hp → β → α → Prop} {x : XK} {H : Hp} {Q : VK} {Q' : β → Hp → Prop} {r : R α} {f : α → R (List D)} (h : PF K ec x H Q (r.bind f))
    (k : ∀ a v H1, r = .ok a → Same H H1 → rel H1 v a → PF K ec x H1 Q (f a) → Q' v H1) : PX ec rel x H Q' r := by
  cases r with
  | ok a => exact fun v H1 s q => k a v H1 rfl s q (PF.mono (r := f a) h s)
  | exc c => exact h
  | bad => exact h
theorem Good.top {E U0 U H : Hp} {L : List (Nat × V)} {σ : L2.St} {ρ : Env} {tmp : List (V × T)} {v : V} {τ : T} (g : Good K E U0 L U H σ ρ ((v, τ) :: tmp)) : Rp K H v τ.er := by
  obtain ⟨l, lv, o⟩ := g.own
  obtain ⟨G, h, _⟩ := o.perm List.perm_middle
  cases h with
  | cons a b => exact a.er g.uh
/-- a tree without a place of its own may be put to the rest -/
theorem Good.dat {E U0 U H : Hp} {L : List (Nat × V)} {σ : L2.St} {ρ : Env} {tmp : List (V × T)} {v : V} {d : D} (g : Good K E U0 L U H σ ρ tmp) (r : Rp K U v d) : Good K E U0 L U H σ ρ ((v, .dat d) :: tmp) := by
  obtain ⟨l, lv, o⟩ := g.own
  refine ⟨g.eh, g.uu, g.uh, g.nw, ⟨l, lv, Own.perm (l := (v, .dat d) :: (l ++ tmp)) ?_ List.perm_middle.symm⟩, g.pin⟩
  obtain ⟨G, h, nd, f⟩ := o
  exact ⟨G, .cons (.dat r) h, nd, f⟩
/-- a new list or tuple of trees that are at hand -/
theorem Good.mk1 {E U0 U H : Hp} {L : List (Nat × V)} {σ : L2.St} {ρ : Env} {tmp vts : List (V × T)} {p : Addr} {o : HO} {τ : T} (g : Good K E U0 L U H σ ρ (vts ++ tmp)) (hp : H p = none)
    (hτ : ∀ {G}, TRs K U (upd H p o) (vts.map (·.1)) (vts.map (·.2)) G → TR K U (upd H p o) (.ref p) τ (p :: G)) : Good K E U0 L U (upd H p o) σ ρ ((.ref p, τ) :: tmp) := by
  have sn : Same H (upd H p o) := same_new hp
  obtain ⟨l, lv, ow⟩ := g.own
  refine ⟨g.eh.trans sn, g.uu, g.uh.trans sn, g.nw, ⟨l, lv, Own.perm (l := (.ref p, τ) :: (l ++ tmp)) ?_ List.perm_middle.symm⟩, g.pin⟩
  obtain ⟨G, h, nd, f⟩ := ow.perm (l' := vts ++ (l ++ tmp)) (by
    rw [← List.append_assoc, ← List.append_assoc]
    exact List.Perm.append_right _ List.perm_append_comm)
  have np : p ∉ G := fun hm => by
    obtain ⟨o, ho⟩ := h.dom p hm
    rw [hp] at ho
    cases ho
  have h' := h.keep (Same.refl U) (H' := upd H p o) fun a ha => upd_ne fun e => np (e ▸ ha)
  rw [List.map_append (l₁ := vts), List.map_append (l₁ := vts)] at h'
  obtain ⟨G1, G2, rfl, h1, h2⟩ := TRs.split h' (by rw [List.length_map, List.length_map])
  refine ⟨(p :: G1) ++ G2, .cons (hτ h1) h2, List.nodup_cons.mpr ⟨np, nd⟩, fun a ha => ?_⟩
  rcases List.mem_cons.mp ha with rfl | ha
  · exact ⟨g.uh.free hp, g.eh.free hp⟩
  · exact f a ha
theorem Good.mkL {E U0 U H : Hp} {L : List (Nat × V)} {σ : L2.St} {ρ : Env} {tmp vts : List (V × T)} {p : Addr} (g : Good K E U0 L U H σ ρ (vts ++ tmp)) (hp : H p = none) : Good K E U0 L U (upd H p (.lst (vts.map (·.1)))) σ ρ ((.ref p, .lst (vts.map (·.2))) :: tmp) :=
  g.mk1 hp fun h => .lst upd_same h
theorem Good.mkT {E U0 U H : Hp} {L : List (Nat × V)} {σ : L2.St} {ρ : Env} {tmp vts : List (V × T)} {p : Addr} (g : Good K E U0 L U H σ ρ (vts ++ tmp)) (hp : H p = none) : Good K E U0 L U (upd H p (.tup (vts.map (·.1)))) σ ρ ((.ref p, .tup (vts.map (·.2))) :: tmp) :=
  g.mk1 hp fun h => .tup upd_same h
end
end Sm
/-! Sm, part D: what the operators and built-ins do with plain data. -/
namespace Sm
open PySem L2
variable {K : PySem.W.Frag}
/-! ### plain functions -/
def addD : D → D → R D
  | .int i, .int j => .ok (.int (i + j))
  | .lst xs, .lst ys => if xs.length + ys.length ≤ sizeLine then .ok (.lst (xs ++ ys)) else .bad
  | .str a, .str b => if a.length + b.length ≤ sizeLine then .ok (.str (a ++ b)) else .bad
  | _, _ => .bad
def subD : D → D → R D
  | .int i, .int j => .ok (.int (i - j))
  | _, _ => .bad
def mulD : D → D → R D
  | .int i, .int j => if (-18446744073709551616 < i ∧ i < 18446744073709551616) ∨ (-18446744073709551616 < j ∧ j < 18446744073709551616) then .ok (.int (i * j)) else .bad
  | .lst xs, .int k => if 0 ≤ k ∧ k < 100000000 ∧ xs.length * k.toNat ≤ sizeLine then .ok (.lst (List.replicate k.toNat xs).flatten) else .bad
  | _, _ => .bad
def fdivD : D → D → R D
  | .int i, .int j => if 0 < j ∧ j < 1073741824 then .ok (.int (i / j)) else .bad
  | _, _ => .bad
def modD : D → D → R D
  | .int i, .int j => if 0 < j then .ok (.int (i % j)) else .bad
  | _, _ => .bad
def powD : D → D → R D
  | .int i, .int j => if 0 ≤ j ∧ j ≤ 1000 ∧ -1000000 < i ∧ i < 1000000 then .ok (.int (i ^ j.toNat)) else .bad
  | _, _ => .bad
def negD : D → R D
  | .int i => .ok (.int (-i))
  | _ => .bad
def cmpD (p : Int → Int → Bool) : D → D → R D
  | .int i, .int j => .ok (.bl (p i j))
  | _, _ => .bad
abbrev ltD := cmpD fun i j => decide (i < j)
abbrev leD := cmpD fun i j => decide (i ≤ j)
abbrev gtD := cmpD fun i j => decide (j < i)
abbrev geD := cmpD fun i j => decide (j ≤ i)
mutual
def D.py : D → PyData
  | .non => .none
  | .bl b => .bool b
  | .int i => .int i
  | .str s => .str s
  | .lst xs => .list (D.pys xs)
  | .tup xs => .tuple (D.pys xs)
  | .scr ns => .list (ns.map .int)
  | .err _ => .none
def D.pys : List D → List PyData
  | [] => []
  | x :: xs => x.py :: D.pys xs
end
def eqD (a b : D) : R D := if SeqAt.shaped a.py = true ∧ SeqAt.shaped b.py = true then .ok (.bl (PyData.eqv a.py b.py)) else .bad
def neD (a b : D) : R D := if SeqAt.shaped a.py = true ∧ SeqAt.shaped b.py = true then .ok (.bl (!PyData.eqv a.py b.py)) else .bad
def D.isN : D → Bool
  | .non => true
  | _ => false
def isND : D → D → R D
  | a, .non => .ok (.bl a.isN)
  | _, _ => .bad
def notND : D → D → R D
  | a, .non => .ok (.bl (!a.isN))
  | _, _ => .bad
/-- a list's, a tuple's, the script's items -/
def D.items : D → Option (List D)
  | .lst xs => some xs
  | .tup xs => some xs
  | .scr ns => some (ns.map .int)
  | _ => none
def lenD : List D → R D
  | [.str s] => if s.length ≤ sizeLine then .ok (.int s.length) else .bad
  | [d] => match d.items with
    | some xs => .ok (.int xs.length)
    | none => .bad
  | _ => .bad
def ixD (a i : D) : R D := match i with
  | .int k => match a with
    | .str s => if s.length ≤ sizeLine then (match atI s.cps.toList k with | some c => .ok (.str ⟨#[c]⟩) | none => .bad) else .bad
    | a => match a.items with
      | some xs => match atI xs k with
        | some d => .ok d
        | none => .bad
      | none => .bad
  | _ => .bad
def cutD (xs : List D) (lo hi : Option Int) : List D := (xs.drop (HT.sIx xs.length 0 lo)).take (HT.sIx xs.length xs.length hi - HT.sIx xs.length 0 lo)
def D.litems : D → Option (List D)
  | .lst xs => some xs
  | .scr ns => some (ns.map .int)
  | _ => none
def slD (a : D) (lo hi : Option Int) : R (List D) := match a.litems with
  | some xs => .ok (cutD xs lo hi)
  | none => .bad
def D.ints : List D → Option (List Int)
  | [] => some []
  | .int i :: r => (D.ints r).map (i :: ·)
  | _ :: _ => none
def absD : List D → R D
  | [.int i] => .ok (.int (if i < 0 then -i else i))
  | _ => .bad
def max2D : List D → R D
  | [.int i, .int j] => .ok (.int (if j > i then j else i))
  | _ => .bad
def min2D : List D → R D
  | [.int i, .int j] => .ok (.int (if j < i then j else i))
  | _ => .bad
def leastI : Int → List Int → Int
  | m, [] => m
  | m, x :: r => leastI (if x < m then x else m) r
def mostI : Int → List Int → Int
  | m, [] => m
  | m, x :: r => mostI (if x > m then x else m) r
def minLD : List D → R D
  | [d] => match d.litems with
    | some xs => match D.ints xs with
      | some (x :: r) => .ok (.int (leastI x r))
      | _ => .bad
    | none => .bad
  | _ => .bad
def maxLD : List D → R D
  | [d] => match d.litems with
    | some xs => match D.ints xs with
      | some (x :: r) => .ok (.int (mostI x r))
      | _ => .bad
    | none => .bad
  | _ => .bad
def sumD : List D → R D
  | [d] => match d.litems with
    | some xs => match D.ints xs with
      | some ns => .ok (.int ns.sum)
      | none => .bad
    | none => .bad
  | _ => .bad
def intD : List D → R D
  | [.int i] => .ok (.int i)
  | [.bl b] => .ok (.int (if b then 1 else 0))
  | _ => .bad
def listD : List D → R (List D)
  | [d] => match d.items with
    | some xs => .ok xs
    | none => .bad
  | _ => .bad
def D.kind : D → String
  | .non => "NoneType" | .bl _ => "bool" | .int _ => "int" | .str _ => "str" | .lst _ => "list" | .tup _ => "tuple" | .scr _ => "list" | .err _ => ""
def isiD (c : String) : List D → R D
  | [.err _] => .bad
  | [d] => match kitB d.kind c with
    | some b => .ok (.bl b)
    | none => .bad
  | _ => .bad
def eqF : D → D → Bool
  | .non, .non => true
  | .bl a, .bl b => a == b
  | .bl a, .int b => (if a = true then (1 : Int) else 0) == b
  | .int a, .bl b => a == if b = true then (1 : Int) else 0
  | .int a, .int b => a == b
  | .str a, .str b => a == b
  | _, _ => false
def inF (x : D) (xs : List D) : Bool := xs.any fun y => eqF y x
def inD (neg : Bool) (a b : D) : R D := match b.items with
  | some xs => if a.flat = true ∧ xs.all D.flat = true then .ok (.bl (if neg then !inF a xs else inF a xs)) else .bad
  | none => .bad

/-! ### they are what the readings ask -/
def OpD (K : PySem.W.Frag) (r : R2) (f : D → D → R D) : Prop := ∀ ⦃ec : Nat → Addr⦄ ⦃x : XK⦄ ⦃H : Hp⦄ ⦃v w : V⦄ ⦃a b : D⦄ ⦃Q : VK⦄, Rp K H v a → Rp K H w b → PX ec (Rp K) x H Q (f a b) → r v w H Q
def UnD (K : PySem.W.Frag) (r : V → Hp → VK → Prop) (f : D → R D) : Prop := ∀ ⦃ec : Nat → Addr⦄ ⦃x : XK⦄ ⦃H : Hp⦄ ⦃v : V⦄ ⦃a : D⦄ ⦃Q : VK⦄, Rp K H v a → PX ec (Rp K) x H Q (f a) → r v H Q
def CbD (K : PySem.W.Frag) (r : List V → Hp → VK → Prop) (f : List D → R D) : Prop := ∀ ⦃ec : Nat → Addr⦄ ⦃x : XK⦄ ⦃H : Hp⦄ ⦃vs : List V⦄ ⦃ds : List D⦄ ⦃Q : VK⦄, Rps K H vs ds → PX ec (Rp K) x H Q (f ds) → r vs H Q
def CbF (K : PySem.W.Frag) (r : List V → Hp → VK → Prop) (f : List D → R (List D)) : Prop := ∀ ⦃ec : Nat → Addr⦄ ⦃x : XK⦄ ⦃H : Hp⦄ ⦃vs : List V⦄ ⦃ds : List D⦄ ⦃Q : VK⦄, Rps K H vs ds → PF K ec x H Q (f ds) → r vs H Q

/-- + of ints, lists, texts -/
def rAddU : R2 := fun x y H Q => (∃ i j, x = .int i ∧ y = .int j ∧ Q (.int (i + j)) H) ∨ rCat x y H Q ∨ ∃ i j, x = .str i ∧ y = .str j ∧ i.length + j.length ≤ sizeLine ∧ Q (.str (i ++ j)) H
theorem op_addU {X : Cx} : OpR X (binaryOp .Add) rAddU := fun pins s σ H x y v u Q I rx ry h => by
  rcases h with h | h | h
  · exact op_add pins s σ H x y v u Q I rx ry h
  · exact op_cat pins s σ H x y v u Q I rx ry h
  · exact op_add_str pins s σ H x y v u Q I rx ry h
def rMulU : R2 := fun x y H Q => rI CMul (fun i j => .int (i * j)) x y H Q ∨ rRep x y H Q
theorem op_mulU {X : Cx} : OpR X (binaryOp .Mult) rMulU := fun pins s σ H x y v u Q I rx ry h => by
  rcases h with h | h
  · exact op_mul pins s σ H x y v u Q I rx ry h
  · exact op_rep pins s σ H x y v u Q I rx ry h
theorem Rps.flats {U U' : Hp} {vs : List V} {ds : List D} (h : Rps K U vs ds) (f : ds.all D.flat = true) : Rps K U' vs ds := by
  induction h with
  | nil => exact .nil
  | cons h _ ih =>
    simp only [List.all_cons, Bool.and_eq_true] at f
    exact .cons (h.flat f.1) (ih f.2)
theorem Rps.rep {U : Hp} {vs : List V} {ds : List D} (h : Rps K U vs ds) : ∀ n, Rps K U (List.replicate n vs).flatten (List.replicate n ds).flatten
  | 0 => by simpa using Rps.nil
  | n + 1 => by simpa [List.replicate_succ] using h.app (Rps.rep h n)
theorem opd_add : OpD K rAddU addD := by
  intro ec x H v w a b Q ra rb h
  unfold addD at h
  split at h
  · cases ra; cases rb
    exact .inl ⟨_, _, rfl, rfl, h _ _ (Same.refl _) (.int _)⟩
  · obtain ⟨p, vs, rfl, hp, rp⟩ := ra.lstI
    obtain ⟨q, ws, rfl, hq, rq⟩ := rb.lstI
    split at h
    · rename_i hl
      refine .inr (.inl ⟨p, q, vs, ws, rfl, rfl, hp, hq, by rw [rp.len, rq.len]; exact hl, fun l hn => ?_⟩)
      exact h _ _ (same_new hn) (Rp.mkL upd_same ((rp.app rq).mono (same_new hn)))
    · exact h.elim
  · cases ra; cases rb
    split at h
    · rename_i hl
      exact .inr (.inr ⟨_, _, rfl, rfl, hl, h _ _ (Same.refl _) (.str _)⟩)
    · exact h.elim
  · exact h.elim
theorem opd_I0 {g : Int → Int → V} {f : D → D → R D} (hf : ∀ i j, f (.int i) (.int j) = .bad ∨ ∃ d, f (.int i) (.int j) = .ok d ∧ ∀ H, Rp K H (g i j) d) (hn : ∀ a b, (∀ i j, ¬ (a = .int i ∧ b = .int j)) → f a b = .bad) : OpD K (rI0 g) f := by
  intro ec x H v w a b Q ra rb h
  by_cases q : ∃ i j, a = .int i ∧ b = .int j
  · obtain ⟨i, j, rfl, rfl⟩ := q
    cases ra; cases rb
    rcases hf i j with e | ⟨d, e, k⟩
    · rw [e] at h; exact h.elim
    · rw [e] at h
      exact ⟨i, j, rfl, rfl, h _ _ (Same.refl _) (k H)⟩
  · rw [hn a b fun i j e => q ⟨i, j, e⟩] at h
    exact h.elim
theorem opd_sub : OpD K (rI0 fun i j => .int (i - j)) subD := by
  intro ec x H v w a b Q ra rb h
  unfold subD at h
  split at h
  · cases ra; cases rb
    exact ⟨_, _, rfl, rfl, h _ _ (Same.refl _) (.int _)⟩
  · exact h.elim
theorem opd_mul : OpD K rMulU mulD := by
  intro ec x H v w a b Q ra rb h
  unfold mulD at h
  split at h
  · cases ra; cases rb
    split at h
    · rename_i hc
      exact .inl ⟨_, _, rfl, rfl, hc, h _ _ (Same.refl _) (.int _)⟩
    · exact h.elim
  · obtain ⟨p, vs, rfl, hp, rp⟩ := ra.lstI
    cases rb
    split at h
    · rename_i hc
      refine .inr ⟨p, _, vs, rfl, rfl, hp, by omega, by omega, by rw [rp.len]; exact hc.2.2, fun l hn => ?_⟩
      exact h _ _ (same_new hn) (Rp.mkL upd_same ((rp.rep _).mono (same_new hn)))
    · exact h.elim
  · exact h.elim
theorem opd_fdiv : OpD K (rI CDiv fun i j => .int (i / j)) fdivD := by
  intro ec x H v w a b Q ra rb h
  unfold fdivD at h
  split at h
  · cases ra; cases rb
    split at h
    · rename_i hc
      exact ⟨_, _, rfl, rfl, hc, h _ _ (Same.refl _) (.int _)⟩
    · exact h.elim
  · exact h.elim
theorem opd_mod : OpD K (rI (fun _ j => 0 < j) fun i j => .int (i % j)) modD := by
  intro ec x H v w a b Q ra rb h
  unfold modD at h
  split at h
  · cases ra; cases rb
    split at h
    · rename_i hc
      exact ⟨_, _, rfl, rfl, hc, h _ _ (Same.refl _) (.int _)⟩
    · exact h.elim
  · exact h.elim
theorem opd_pow : OpD K (rI CPow fun i j => .int (i ^ j.toNat)) powD := by
  intro ec x H v w a b Q ra rb h
  unfold powD at h
  split at h
  · cases ra; cases rb
    split at h
    · rename_i hc
      exact ⟨_, _, rfl, rfl, ⟨hc.1, by omega, by omega⟩, h _ _ (Same.refl _) (.int _)⟩
    · exact h.elim
  · exact h.elim
theorem opd_cmp {p : Int → Int → Bool} : OpD K (rI0 fun i j => .bl (p i j)) (cmpD p) := by
  intro ec x H v w a b Q ra rb h
  unfold cmpD at h
  split at h
  · cases ra; cases rb
    exact ⟨_, _, rfl, rfl, h _ _ (Same.refl _) (.bl _)⟩
  · exact h.elim
theorem und_neg : UnD K (rU fun i => .int (-i)) negD := by
  intro ec x H v a Q ra h
  unfold negD at h
  split at h
  · cases ra
    exact ⟨_, rfl, h _ _ (Same.refl _) (.int _)⟩
  · exact h.elim
/-! == -/
theorem D.pys_map : ∀ xs : List D, D.pys xs = xs.map D.py
  | [] => by simp [D.pys]
  | x :: xs => by simp [D.pys, D.pys_map xs]
theorem DpAll.of {H : Hp} : ∀ {vs : List V} {ds : List D}, vs.length = ds.length → (∀ (i : Nat) v d, vs[i]? = some v → ds[i]? = some d → Dp K H v d.py) → DpAll K H vs (D.pys ds)
  | [], [], _, _ => by simpa [D.pys] using DpAll.nil
  | [], _ :: _, h, _ => by simp at h
  | _ :: _, [], h, _ => by simp at h
  | v :: vs, d :: ds, h, q => by
    simpa [D.pys] using DpAll.cons (q 0 v d rfl rfl) (DpAll.of (by simpa using h) fun i v d e1 e2 => q (i + 1) v d (by simpa using e1) (by simpa using e2))
theorem DpAll.ints {H : Hp} : ∀ ns : List Int, DpAll K H (ns.map V.int) (ns.map PyData.int)
  | [] => .nil
  | n :: r => .cons (.int n) (DpAll.ints r)
theorem Rp.dp {H : Hp} {v : V} {d : D} (h : Rp K H v d) : Dp K H v d.py := by
  induction h with
  | non => simpa [D.py] using Dp.non
  | bl b => simpa [D.py] using Dp.bl b
  | int i => simpa [D.py] using Dp.int i
  | str s => simpa [D.py] using Dp.str s
  | lst h l _ ih => simpa [D.py] using Dp.lst (SqL.of h) (DpAll.of l ih)
  | tup h l _ ih => simpa [D.py] using Dp.tup (SqT.of h) (DpAll.of l ih)
  | scr h =>
    rename_i ns
    simp only [D.py]
    exact Dp.lst h (DpAll.ints ns)
theorem opd_eq : OpD K (rEqD K) eqD := by
  intro ec x H v w a b Q ra rb h
  unfold eqD at h
  split at h
  · rename_i hc
    exact ⟨_, _, ra.dp, rb.dp, hc.1, hc.2, h _ _ (Same.refl _) (.bl _)⟩
  · exact h.elim
theorem opd_ne : OpD K (rNeD K) neD := by
  intro ec x H v w a b Q ra rb h
  unfold neD at h
  split at h
  · rename_i hc
    exact ⟨_, _, ra.dp, rb.dp, hc.1, hc.2, h _ _ (Same.refl _) (.bl _)⟩
  · exact h.elim
theorem Rp.isN {H : Hp} {v : V} {d : D} (h : Rp K H v d) : decide (v = .non) = d.isN := by cases h <;> simp [D.isN]
theorem opd_is : OpD K (fun x y H Q => y = .non ∧ Q (.bl (decide (x = .non))) H) isND := by
  intro ec x H v w a b Q ra rb h
  unfold isND at h
  split at h
  · cases rb
    refine ⟨rfl, ?_⟩
    rw [ra.isN]
    exact h _ _ (Same.refl _) (.bl _)
  · exact h.elim
theorem opd_isnot : OpD K (fun x y H Q => y = .non ∧ Q (.bl (!decide (x = .non))) H) notND := by
  intro ec x H v w a b Q ra rb h
  unfold notND at h
  split at h
  · cases rb
    refine ⟨rfl, ?_⟩
    rw [ra.isN]
    exact h _ _ (Same.refl _) (.bl _)
  · exact h.elim
/-! sequences -/
theorem Rps.ints {H : Hp} : ∀ ns : List Int, Rps K H (ns.map V.int) (ns.map D.int)
  | [] => .nil
  | n :: r => .cons (.int n) (Rps.ints r)
theorem Rp.itemsI {H : Hp} {v : V} {d : D} {xs : List D} (h : Rp K H v d) (e : d.items = some xs) : ∃ p vs, v = .ref p ∧ (SqL K H p vs ∨ SqT K H p vs) ∧ Rps K H vs xs := by
  cases h with
  | lst h l q => cases e; exact ⟨_, _, rfl, .inl (SqL.of h), Rps.of l q⟩
  | tup h l q => cases e; exact ⟨_, _, rfl, .inr (SqT.of h), Rps.of l q⟩
  | scr h => cases e; exact ⟨_, _, rfl, .inl h, Rps.ints _⟩
  | non => cases e
  | bl => cases e
  | int => cases e
  | str => cases e
theorem Rp.litemsI {H : Hp} {v : V} {d : D} {xs : List D} (h : Rp K H v d) (e : d.litems = some xs) : ∃ p vs, v = .ref p ∧ SqL K H p vs ∧ Rps K H vs xs := by
  cases h with
  | lst h l q => cases e; exact ⟨_, _, rfl, SqL.of h, Rps.of l q⟩
  | scr h => cases e; exact ⟨_, _, rfl, h, Rps.ints _⟩
  | tup => cases e
  | non => cases e
  | bl => cases e
  | int => cases e
  | str => cases e
theorem cbd_len : CbD K (fun xs H Q => ∃ x n, xs = [x] ∧ LenV K x H n ∧ Q (.int n) H) lenD := by
  intro ec x H vs ds Q r h
  unfold lenD at h
  split at h
  · cases r with
    | cons a b =>
      cases b
      cases a
      split at h
      · rename_i hl
        exact ⟨_, _, rfl, ⟨hl, rfl⟩, h _ _ (Same.refl _) (.int _)⟩
      · exact h.elim
  · cases r with
    | cons a b =>
      cases b
      split at h
      · rename_i xs e
        obtain ⟨p, vs, rfl, hs, rs⟩ := a.itemsI (K := K) e
        refine ⟨.ref p, xs.length, rfl, ?_, h _ _ (Same.refl _) (.int _)⟩
        rcases hs with hs | hs
        · exact .inl ⟨vs, hs, rs.len.symm⟩
        · exact .inr ⟨vs, hs, rs.len.symm⟩
      · exact h.elim
  · exact h.elim
theorem atI_rps {H : Hp} {vs : List V} {ds : List D} {k : Int} {d : D} (r : Rps K H vs ds) (e : atI ds k = some d) : ∃ v, atI vs k = some v ∧ Rp K H v d := by
  unfold atI at e ⊢
  rw [r.len]
  cases q : ixN ds.length k with
  | none => rw [q] at e; cases e
  | some j =>
    rw [q] at e
    obtain ⟨v, ev, rv⟩ := r.get (i := j) e
    exact ⟨v, ev, rv⟩
theorem opd_ix : OpD K (rIx K) ixD := by
  intro ec x H v w a b Q ra rb h
  unfold ixD at h
  split at h
  · cases rb
    rename_i k
    split at h
    · cases ra
      split at h
      · rename_i hl
        split at h
        · rename_i c e
          exact .inr (.inr ⟨_, k, c, rfl, rfl, hl, e, h _ _ (Same.refl _) (.str _)⟩)
        · exact h.elim
      · exact h.elim
    · split at h
      · rename_i xs e
        split at h
        · rename_i d ed
          obtain ⟨p, vs, rfl, hs, rs⟩ := ra.itemsI (K := K) e
          obtain ⟨u, eu, ru⟩ := atI_rps rs ed
          rcases hs with hs | hs
          · exact .inl ⟨p, vs, k, u, rfl, rfl, hs, eu, h _ _ (Same.refl _) ru⟩
          · exact .inr (.inl ⟨p, vs, k, u, rfl, rfl, hs, eu, h _ _ (Same.refl _) ru⟩)
        · exact h.elim
      · exact h.elim
  · exact h.elim
theorem Rps.drop {H : Hp} {vs : List V} {ds : List D} (r : Rps K H vs ds) : ∀ n, Rps K H (vs.drop n) (ds.drop n) := by
  induction r with
  | nil => intro n; simpa using Rps.nil
  | cons h r ih =>
    intro n
    cases n with
    | zero => exact .cons h r
    | succ n => simpa using ih n
theorem Rps.take {H : Hp} {vs : List V} {ds : List D} (r : Rps K H vs ds) : ∀ n, Rps K H (vs.take n) (ds.take n) := by
  induction r with
  | nil => intro n; simpa using Rps.nil
  | cons h r ih =>
    intro n
    cases n with
    | zero => simpa using Rps.nil
    | succ n => simpa using Rps.cons h (ih n)
theorem Rps.cut {H : Hp} {vs : List V} {ds : List D} (r : Rps K H vs ds) (lo hi : Option Int) : Rps K H (cutV vs lo hi) (cutD ds lo hi) := by
  unfold cutV cutD
  rw [r.len]
  exact (r.drop _).take _
theorem cbd_abs : CbD K (fun xs H Q => ∃ i, xs = [.int i] ∧ Q (.int (if i < 0 then -i else i)) H) absD := by
  intro ec x H vs ds Q r h
  unfold absD at h
  split at h
  · cases r with
    | cons a b => cases b; cases a; exact ⟨_, rfl, h _ _ (Same.refl _) (.int _)⟩
  · exact h.elim
theorem cbd_max2 : CbD K (fun xs H Q => ∃ i j, xs = [.int i, .int j] ∧ Q (.int (if j > i then j else i)) H) max2D := by
  intro ec x H vs ds Q r h
  unfold max2D at h
  split at h
  · cases r with
    | cons a b =>
      cases b with
      | cons b c => cases c; cases a; cases b; exact ⟨_, _, rfl, h _ _ (Same.refl _) (.int _)⟩
  · exact h.elim
theorem cbd_min2 : CbD K (fun xs H Q => ∃ i j, xs = [.int i, .int j] ∧ Q (.int (if j < i then j else i)) H) min2D := by
  intro ec x H vs ds Q r h
  unfold min2D at h
  split at h
  · cases r with
    | cons a b =>
      cases b with
      | cons b c => cases c; cases a; cases b; exact ⟨_, _, rfl, h _ _ (Same.refl _) (.int _)⟩
  · exact h.elim
theorem cbd_int : CbD K (fun xs H Q => (∃ i, xs = [.int i] ∧ Q (.int i) H) ∨ ∃ k, xs = [.bl k] ∧ Q (.int (if k then 1 else 0)) H) intD := by
  intro ec x H vs ds Q r h
  unfold intD at h
  split at h
  · cases r with
    | cons a b => cases b; cases a; exact .inl ⟨_, rfl, h _ _ (Same.refl _) (.int _)⟩
  · cases r with
    | cons a b => cases b; cases a; exact .inr ⟨_, rfl, h _ _ (Same.refl _) (.int _)⟩
  · exact h.elim
theorem Rps.intsI {H : Hp} {vs : List V} {ds : List D} (r : Rps K H vs ds) : ∀ {ns : List Int}, D.ints ds = some ns → vs = ns.map V.int := by
  induction r with
  | nil => intro ns e; cases e; rfl
  | cons h r ih =>
    intro ns e
    cases h <;> simp only [D.ints] at e <;> try (cases e; done)
    rename_i ds' i
    cases q : D.ints ds' with
    | none => rw [q] at e; cases e
    | some ms =>
      rw [q] at e
      cases e
      rw [ih q]
      rfl
theorem leastI_mem : ∀ (r : List Int) (m : Int), leastI m r = m ∨ leastI m r ∈ r
  | [], m => .inl rfl
  | x :: r, m => by
    unfold leastI
    rcases leastI_mem r (if x < m then x else m) with h | h
    · rw [h]
      split
      · exact .inr List.mem_cons_self
      · exact .inl rfl
    · exact .inr (List.mem_cons_of_mem _ h)
theorem leastI_le : ∀ (r : List Int) (m : Int), leastI m r ≤ m ∧ ∀ y ∈ r, leastI m r ≤ y
  | [], m => ⟨Int.le_refl _, fun y h => by simp at h⟩
  | x :: r, m => by
    unfold leastI
    obtain ⟨h1, h2⟩ := leastI_le r (if x < m then x else m)
    generalize leastI (if x < m then x else m) r = z at h1 h2
    refine ⟨by split at h1 <;> omega, fun y hy => ?_⟩
    rcases List.mem_cons.mp hy with rfl | hy
    · split at h1 <;> omega
    · exact h2 y hy
theorem mostI_mem : ∀ (r : List Int) (m : Int), mostI m r = m ∨ mostI m r ∈ r
  | [], m => .inl rfl
  | x :: r, m => by
    unfold mostI
    rcases mostI_mem r (if x > m then x else m) with h | h
    · rw [h]
      split
      · exact .inr List.mem_cons_self
      · exact .inl rfl
    · exact .inr (List.mem_cons_of_mem _ h)
theorem mostI_le : ∀ (r : List Int) (m : Int), m ≤ mostI m r ∧ ∀ y ∈ r, y ≤ mostI m r
  | [], m => ⟨Int.le_refl _, fun y h => by simp at h⟩
  | x :: r, m => by
    unfold mostI
    obtain ⟨h1, h2⟩ := mostI_le r (if x > m then x else m)
    generalize mostI (if x > m then x else m) r = z at h1 h2
    refine ⟨by split at h1 <;> omega, fun y hy => ?_⟩
    rcases List.mem_cons.mp hy with rfl | hy
    · split at h1 <;> omega
    · exact h2 y hy
theorem cbd_min : CbD K (rMin K) minLD := by
  intro ec x H vs ds Q r h
  unfold minLD at h
  split at h
  · cases r with
    | cons a b =>
      cases b
      split at h
      · rename_i xs e
        split at h
        · rename_i m l ei
          obtain ⟨p, vs, rfl, hs, rs⟩ := a.litemsI (K := K) e
          have ev := rs.intsI ei
          subst ev
          refine ⟨p, _, rfl, hs, by simp, fun y hy hm => ?_⟩
          have e1 := leastI_le l m
          have e2 : leastI m l ∈ m :: l := by
            rcases leastI_mem l m with q | q
            · rw [q]; exact List.mem_cons_self
            · exact List.mem_cons_of_mem _ q
          have : y = leastI m l := by
            have a1 := hm _ e2
            have a2 : leastI m l ≤ y := by
              rcases List.mem_cons.mp hy with rfl | hy
              · exact e1.1
              · exact e1.2 y hy
            omega
          subst this
          exact h _ _ (Same.refl _) (.int _)
        · exact h.elim
      · exact h.elim
  · exact h.elim
theorem cbd_max : CbD K (rMax K) maxLD := by
  intro ec x H vs ds Q r h
  unfold maxLD at h
  split at h
  · cases r with
    | cons a b =>
      cases b
      split at h
      · rename_i xs e
        split at h
        · rename_i m l ei
          obtain ⟨p, vs, rfl, hs, rs⟩ := a.litemsI (K := K) e
          have ev := rs.intsI ei
          subst ev
          refine ⟨p, _, rfl, hs, by simp, fun y hy hm => ?_⟩
          have e1 := mostI_le l m
          have e2 : mostI m l ∈ m :: l := by
            rcases mostI_mem l m with q | q
            · rw [q]; exact List.mem_cons_self
            · exact List.mem_cons_of_mem _ q
          have : y = mostI m l := by
            have a1 := hm _ e2
            have a2 : y ≤ mostI m l := by
              rcases List.mem_cons.mp hy with rfl | hy
              · exact e1.1
              · exact e1.2 y hy
            omega
          subst this
          exact h _ _ (Same.refl _) (.int _)
        · exact h.elim
      · exact h.elim
  · exact h.elim
theorem cbd_sum : CbD K (rSum K) sumD := by
  intro ec x H vs ds Q r h
  unfold sumD at h
  split at h
  · cases r with
    | cons a b =>
      cases b
      split at h
      · rename_i xs e
        split at h
        · rename_i ns ei
          obtain ⟨p, vs, rfl, hs, rs⟩ := a.litemsI (K := K) e
          have ev := rs.intsI ei
          subst ev
          exact ⟨p, _, rfl, hs, h _ _ (Same.refl _) (.int _)⟩
        · exact h.elim
      · exact h.elim
  · exact h.elim
theorem Rp.ty {H : Hp} {v : V} {d : D} (h : Rp K H v d) : TyX K H v (.type d.kind) := by
  cases h with
  | non => exact .base .non
  | bl b => exact .base (.bl b)
  | int i => exact .base (.int i)
  | str s => exact .base (.str s)
  | lst h => exact .base (.lst h)
  | tup h => exact .base (.tup h)
  | scr h =>
    rcases h with (h | ⟨o, h⟩) | ⟨o, its, n, h, c, _⟩
    · exact .base (.lst h)
    · exact .base (.frz h)
    · exact .kList h c
theorem Rp.noErr {H : Hp} {v : V} {c : Nat} (h : Rp K H v (.err c)) : False := by cases h
/-- isinstance(x, c), c a built-in class by its name -/
theorem rIsi_of {H : Hp} {v : V} {d : D} {c : String} {b : Bool} {Q : VK} (h : Rp K H v d) (e : kitB d.kind c = some b) (q : Q (.bl b) H) : rIsi K [v, .ty c] H Q :=
  ⟨v, .ty c, _, _, b, rfl, .ty c, h.ty, kit_ty e, q⟩
theorem Rp.eqF {H : Hp} {v w : V} {a b : D} (ra : Rp K H v a) (rb : Rp K H w b) (fa : a.flat = true) (fb : b.flat = true) : eqV v w = Sm.eqF a b := by
  cases ra <;> cases rb <;> first | rfl | cases fa | cases fb
theorem Rp.flatV {H : Hp} {v : V} {a : D} (ra : Rp K H v a) (fa : a.flat = true) : L2.flatV v = true := by
  cases ra <;> first | rfl | cases fa
theorem Rps.inF {H : Hp} {v : V} {a : D} (ra : Rp K H v a) (fa : a.flat = true) : ∀ {vs : List V} {ds : List D}, Rps K H vs ds → ds.all D.flat = true → vs.all L2.flatV = true ∧ inV v vs = Sm.inF a ds := by
  intro vs ds r
  induction r with
  | nil => intro _; exact ⟨rfl, rfl⟩
  | cons h r ih =>
    intro f
    simp only [List.all_cons, Bool.and_eq_true] at f
    obtain ⟨i1, i2⟩ := ih f.2
    refine ⟨by simp [h.flatV f.1, i1], ?_⟩
    unfold inV Sm.inF at i2 ⊢
    rw [List.any_cons, List.any_cons, i2, h.eqF ra f.1 fa]
theorem opd_in {neg : Bool} : OpD K (rIn K neg) (inD neg) := by
  intro ec x H v w a b Q ra rb h
  unfold inD at h
  split at h
  · rename_i xs e
    split at h
    · rename_i hc
      obtain ⟨p, vs, rfl, hs, rs⟩ := rb.itemsI (K := K) e
      obtain ⟨q1, q2⟩ := Rps.inF ra hc.1 rs hc.2
      refine ⟨p, vs, rfl, hs, ra.flatV hc.1, q1, ?_⟩
      rw [q2]
      exact h _ _ (Same.refl _) (.bl _)
    · exact h.elim
  · exact h.elim
end Sm
/-! Sm, part E: expressions that are looked at (SB), new lists (SF), new trees (SP), any (SE). -/
namespace Sm
open PySem L2
variable {K : PySem.W.Frag}
section
variable {ec : Nat → Addr} {ex : L2.St → XK} {ta tb tc te : TE} {ma mb mc : Env → R D}
def bVar (i : Nat) (ρ : Env) : R D := match ρ[i]? with
  | some (.at t) => .ok t.er
  | some (.lent t) => .ok t.er
  | _ => .bad
theorem Good.rd {E U0 U H : Hp} {L : List (Nat × V)} {σ : L2.St} {ρ : Env} {tmp : List (V × T)} {i : Nat} {t : T} (g : Good K E U0 L U H σ ρ tmp) (e : ρ[i]? = some (.at t) ∨ ρ[i]? = some (.lent t)) : ∃ v, σ[i]? = some (some v) ∧ Rp K H v t.er := by
  obtain ⟨l, lv, o⟩ := g.own
  obtain ⟨v, ev, hm⟩ := lv.mem e
  refine ⟨v, ev, ?_⟩
  obtain ⟨l1, l2, rfl⟩ := List.append_of_mem hm
  obtain ⟨G, h, _⟩ := o.perm (l' := (v, t) :: (l1 ++ l2 ++ tmp)) (by
    rw [List.append_assoc, List.cons_append]
    exact List.perm_middle.trans (by rw [List.append_assoc]))
  cases h with
  | cons a b => exact a.er g.uh
theorem sb_var (i : Nat) : SB K ec ex (tVar i) (bVar i) := by
  intro E U0 L U H σ ρ tmp g Q h
  unfold bVar at h
  split at h
  · rename_i t e
    obtain ⟨v, ev, r⟩ := g.rd (.inl e)
    exact ⟨v, ev, h v H (Same.refl _) r⟩
  · rename_i t e
    obtain ⟨v, ev, r⟩ := g.rd (.inr e)
    exact ⟨v, ev, h v H (Same.refl _) r⟩
  · exact h.elim
def bC (d : D) (_ : Env) : R D := .ok d
theorem sb_int (i : Int) : SB K ec ex (tC (.int i)) (bC (.int i)) := fun _ _ _ _ _ _ _ _ _ Q h => h _ _ (Same.refl _) (.int _)
theorem sb_bl (b : Bool) : SB K ec ex (tC (.bl b)) (bC (.bl b)) := fun _ _ _ _ _ _ _ _ _ Q h => h _ _ (Same.refl _) (.bl _)
theorem sb_str (s : Str) : SB K ec ex (tC (.str s)) (bC (.str s)) := fun _ _ _ _ _ _ _ _ _ Q h => h _ _ (Same.refl _) (.str _)
theorem sb_non : SB K ec ex (tC .non) (bC .non) := fun _ _ _ _ _ _ _ _ _ Q h => h _ _ (Same.refl _) .non
def b2 (f : D → D → R D) (ma mb : Env → R D) (ρ : Env) : R D := (ma ρ).bind fun a => (mb ρ).bind fun b => f a b
theorem sb_op {r : R2} {f : D → D → R D} (hr : OpD K r f) (ha : SB K ec ex ta ma) (hb : SB K ec ex tb mb) : SB K ec ex (tOp r ta tb) (b2 f ma mb) := by
  intro E U0 L U H σ ρ tmp g Q h
  refine ha g _ (PX.bind h fun a v H1 _ s1 r1 h1 => ?_)
  refine hb (g.heap s1) _ (PX.bind h1 fun b w H2 _ s2 r2 h2 => ?_)
  exact hr (r1.mono s2) r2 h2
def b1 (f : D → R D) (ma : Env → R D) (ρ : Env) : R D := (ma ρ).bind f
theorem sb_un {r : V → Hp → VK → Prop} {f : D → R D} (hr : UnD K r f) (ha : SB K ec ex ta ma) : SB K ec ex (tUn r ta) (b1 f ma) := by
  intro E U0 L U H σ ρ tmp g Q h
  exact ha g _ (PX.bind h fun a v H1 _ s1 r1 h1 => hr r1 h1)
def bChain (f f' : D → D → R D) (ma mb mc : Env → R D) (ρ : Env) : R D := (ma ρ).bind fun a => (mb ρ).bind fun b => (f a b).bind fun k => match k with
  | .bl true => (mc ρ).bind fun c => f' b c
  | .bl false => .ok (.bl false)
  | _ => .bad
theorem sb_chain {r r' : R2} {f f' : D → D → R D} (hr : OpD K r f) (hr' : OpD K r' f') (ha : SB K ec ex ta ma) (hb : SB K ec ex tb mb) (hc : SB K ec ex tc mc) : SB K ec ex (tChain r r' ta tb tc) (bChain f f' ma mb mc) := by
  intro E U0 L U H σ ρ tmp g Q h
  refine ha g _ (PX.bind h fun a v H1 _ s1 r1 h1 => ?_)
  refine hb (g.heap s1) _ (PX.bind h1 fun b w H2 _ s2 r2 h2 => ?_)
  refine hr (ec := ec) (x := ex σ) (r1.mono s2) r2 (PX.bind h2 fun k z H3 _ s3 r3 h3 => ?_)
  cases r3 with
  | bl k =>
    refine ⟨k, rfl, ?_⟩
    cases k with
    | true =>
      refine iteT ?_
      exact hc (g.heap ((s1.trans s2).trans s3)) _ (PX.bind h3 fun c u H4 _ s4 r4 h4 => hr' (r2.mono (s3.trans s4)) r4 h4)
    | false => exact iteF (h3 _ _ (Same.refl _) (.bl _))
  | non => exact h3.elim
  | int => exact h3.elim
  | str => exact h3.elim
  | lst => exact h3.elim
  | tup => exact h3.elim
  | scr => exact h3.elim
/-! tests -/
def D.toB : D → R Bool
  | .bl b => .ok b
  | _ => .bad
def bT (ma : Env → R D) (ρ : Env) : R Bool := (ma ρ).bind D.toB
theorem sbt_B (ha : SB K ec ex ta ma) : SBt K ec ex (tB ta) (bT ma) := by
  intro E U0 L U H σ ρ tmp g Q h
  refine ha g _ (PX.bind h fun a v H1 _ s1 r1 h1 => ?_)
  cases r1 with
  | bl b => exact ⟨b, rfl, h1 _ _ (Same.refl _) rfl⟩
  | non => exact h1.elim
  | int => exact h1.elim
  | str => exact h1.elim
  | lst => exact h1.elim
  | tup => exact h1.elim
  | scr => exact h1.elim
theorem sbt_test (ha : SB K ec ex ta ma) : SBt K ec ex (tTest ta) (bT ma) := sbt_B ha
variable {ua ub : TT} {na nb : Env → R Bool}
def tAndM (na nb : Env → R Bool) (ρ : Env) : R Bool := (na ρ).bind fun a => match a with | true => nb ρ | false => .ok false
def tOrM (na nb : Env → R Bool) (ρ : Env) : R Bool := (na ρ).bind fun a => match a with | true => .ok true | false => nb ρ
def tNotM (na : Env → R Bool) (ρ : Env) : R Bool := (na ρ).bind fun a => .ok (!a)
theorem sbt_and (ha : SBt K ec ex ua na) (hb : SBt K ec ex ub nb) : SBt K ec ex (tAnd ua ub) (tAndM na nb) := by
  intro E U0 L U H σ ρ tmp g Q h
  refine ha g _ (PX.bind h fun a v H1 _ s1 r1 h1 => ?_)
  cases r1
  cases a with
  | true => exact iteT (hb (g.heap s1) _ h1)
  | false => exact iteF (h1 _ _ (Same.refl _) rfl)
theorem sbt_or (ha : SBt K ec ex ua na) (hb : SBt K ec ex ub nb) : SBt K ec ex (tOr ua ub) (tOrM na nb) := by
  intro E U0 L U H σ ρ tmp g Q h
  refine ha g _ (PX.bind h fun a v H1 _ s1 r1 h1 => ?_)
  cases r1
  cases a with
  | true => exact iteT (h1 _ _ (Same.refl _) rfl)
  | false => exact iteF (hb (g.heap s1) _ h1)
theorem sbt_not (ha : SBt K ec ex ua na) : SBt K ec ex (tNot ua) (tNotM na) := by
  intro E U0 L U H σ ρ tmp g Q h
  refine ha g _ (PX.bind h fun a v H1 _ s1 r1 h1 => ?_)
  cases r1
  exact h1 _ _ (Same.refl _) rfl
theorem sbt_yes : SBt K ec ex tYes (fun _ => .ok true) := fun _ _ _ _ _ _ _ _ _ Q h => h _ _ (Same.refl _) rfl
def bAnd (ma mb : Env → R D) (ρ : Env) : R D := (bT ma ρ).bind fun a => match a with | true => mb ρ | false => .ok (.bl false)
def bOr (ma mb : Env → R D) (ρ : Env) : R D := (bT ma ρ).bind fun a => match a with | true => .ok (.bl true) | false => mb ρ
def bNot (ma : Env → R D) (ρ : Env) : R D := (bT ma ρ).bind fun a => .ok (.bl (!a))
def bIf (na : Env → R Bool) (ma mb : Env → R D) (ρ : Env) : R D := (na ρ).bind fun a => match a with | true => ma ρ | false => mb ρ
theorem sb_and (ha : SB K ec ex ta ma) (hb : SB K ec ex tb mb) : SB K ec ex (tAndV ta tb) (bAnd ma mb) := by
  intro E U0 L U H σ ρ tmp g Q h
  refine sbt_B (ta := ta) ha g _ (PX.bind h fun a v H1 _ s1 r1 h1 => ?_)
  cases r1
  cases a with
  | true => exact iteT (hb (g.heap s1) _ h1)
  | false => exact iteF (h1 _ _ (Same.refl _) (.bl _))
theorem sb_or (ha : SB K ec ex ta ma) (hb : SB K ec ex tb mb) : SB K ec ex (tOrV ta tb) (bOr ma mb) := by
  intro E U0 L U H σ ρ tmp g Q h
  refine sbt_B (ta := ta) ha g _ (PX.bind h fun a v H1 _ s1 r1 h1 => ?_)
  cases r1
  cases a with
  | true => exact iteT (h1 _ _ (Same.refl _) (.bl _))
  | false => exact iteF (hb (g.heap s1) _ h1)
theorem sb_not (ha : SB K ec ex ta ma) : SB K ec ex (tNotV ta) (bNot ma) := by
  intro E U0 L U H σ ρ tmp g Q h
  refine sbt_B (ta := ta) ha g _ (PX.bind h fun a v H1 _ s1 r1 h1 => ?_)
  cases r1
  exact h1 _ _ (Same.refl _) (.bl _)
theorem sb_if (hc : SBt K ec ex ua na) (ha : SB K ec ex ta ma) (hb : SB K ec ex tb mb) : SB K ec ex (tIf ua ta tb) (bIf na ma mb) := by
  intro E U0 L U H σ ρ tmp g Q h
  refine hc g _ (PX.bind h fun a v H1 _ s1 r1 h1 => ?_)
  cases r1
  cases a with
  | true => exact iteT (ha (g.heap s1) _ h1)
  | false => exact iteF (hb (g.heap s1) _ h1)
/-! argument lists -/
variable {tr : TA} {mr : Env → R (List D)}
def aNil (_ : Env) : R (List D) := .ok []
def aCons (ma : Env → R D) (mr : Env → R (List D)) (ρ : Env) : R (List D) := (ma ρ).bind fun a => (mr ρ).bind fun r => .ok (a :: r)
theorem sa_nil : SBs K ec ex tNil aNil := fun _ _ _ _ _ _ _ _ _ Q h => h _ _ (Same.refl _) .nil
theorem sa_cons (ha : SB K ec ex ta ma) (hr : SBs K ec ex tr mr) : SBs K ec ex (tCons ta tr) (aCons ma mr) := by
  intro E U0 L U H σ ρ tmp g Q h
  refine ha g _ (PX.bind h fun a v H1 _ s1 r1 h1 => ?_)
  exact hr (g.heap s1) _ (PX.bind h1 fun as vs H2 _ s2 r2 h2 => h2 _ _ (Same.refl _) (.cons (r1.mono s2) r2))
def bCall (f : List D → R D) (mr : Env → R (List D)) (ρ : Env) : R D := (mr ρ).bind f
theorem sb_cb {r : List V → Hp → VK → Prop} {f : List D → R D} (hr : CbD K r f) (ha : SBs K ec ex tr mr) : SB K ec ex (tCB r tr) (bCall f mr) := by
  intro E U0 L U H σ ρ tmp g Q h
  exact ha g _ (PX.bind h fun as vs H1 _ s1 r1 h1 => hr r1 h1)
/-- isinstance(e, c) -/
theorem sb_isi {c : String} (ha : SB K ec ex ta ma) : SB K ec ex (tCB (rIsi K) (tCons ta (tCons (tC (.ty c)) tNil))) (bCall (isiD c) (aCons ma aNil)) := by
  intro E U0 L U H σ ρ tmp g Q h
  refine ha g _ ?_
  unfold bCall aCons aNil at h
  generalize ma ρ = z at h ⊢
  cases z with
  | ok d =>
    intro v H1 s1 r1
    have h1 : PX ec (Rp K) (ex σ) H Q (isiD c [d]) := h
    unfold isiD at h1
    split at h1
    · exact h1.elim
    · rename_i d' e
      cases e
      split at h1
      · rename_i b eb
        exact rIsi_of r1 eb (h1 _ _ s1 (.bl _))
      · exact h1.elim
    · exact h1.elim
  | exc c => exact h
  | bad => exact h
/-! displays -/
def bLst (mr : Env → R (List D)) (ρ : Env) : R D := (mr ρ).bind fun ds => if ds.length ≤ sizeLine then .ok (.lst ds) else .bad
def bTup (mr : Env → R (List D)) (ρ : Env) : R D := (mr ρ).bind fun ds => if ds.length ≤ sizeLine then .ok (.tup ds) else .bad
theorem sb_tup (ha : SBs K ec ex tr mr) : SB K ec ex (tTup tr) (bTup mr) := by
  intro E U0 L U H σ ρ tmp g Q h
  refine ha g _ (PX.bind h fun as vs H1 _ s1 r1 h1 => ?_)
  split at h1
  · rename_i hl
    exact ⟨by rw [r1.len]; exact hl, fun p hp => h1 _ _ (same_new hp) (Rp.mkT upd_same (r1.mono (same_new hp)))⟩
  · exact h1.elim
/-! new lists -/
def fLst (mr : Env → R (List D)) (ρ : Env) : R (List D) := (mr ρ).bind fun ds => if ds.length ≤ sizeLine then .ok ds else .bad
theorem sf_lst (ha : SBs K ec ex tr mr) : SF K ec ex (tLst tr) (fLst mr) := by
  intro E U0 L U H σ ρ tmp g Q h
  refine ha g _ (PX.bindF h fun as vs H1 _ s1 r1 h1 => ?_)
  split at h1
  · rename_i hl
    exact ⟨by rw [r1.len]; exact hl, fun p hp => h1 p vs H1 (Same.refl _) hp r1⟩
  · exact h1.elim
def catF (a b : D) : R (List D) := match a, b with
  | .lst xs, .lst ys => if xs.length + ys.length ≤ sizeLine then .ok (xs ++ ys) else .bad
  | _, _ => .bad
def f2 (f : D → D → R (List D)) (ma mb : Env → R D) (ρ : Env) : R (List D) := (ma ρ).bind fun a => (mb ρ).bind fun b => f a b
theorem sf_cat (ha : SB K ec ex ta ma) (hb : SB K ec ex tb mb) : SF K ec ex (tOp rAddU ta tb) (f2 catF ma mb) := by
  intro E U0 L U H σ ρ tmp g Q h
  refine ha g _ (PX.bindF h fun a v H1 _ s1 r1 h1 => ?_)
  refine hb (g.heap s1) _ (PX.bindF h1 fun b w H2 _ s2 r2 h2 => ?_)
  unfold catF at h2
  split at h2
  · obtain ⟨p, vs, rfl, hp, rp⟩ := (r1.mono s2).lstI
    obtain ⟨q, ws, rfl, hq, rq⟩ := r2.lstI
    split at h2
    · rename_i hl
      exact .inr (.inl ⟨p, q, vs, ws, rfl, rfl, hp, hq, by rw [rp.len, rq.len]; exact hl, fun l hn => h2 l _ H2 (Same.refl _) hn (rp.app rq)⟩)
    · exact h2.elim
  · exact h2.elim
def repF (a b : D) : R (List D) := match a, b with
  | .lst xs, .int k => if 0 ≤ k ∧ k < 100000000 ∧ xs.length * k.toNat ≤ sizeLine then .ok (List.replicate k.toNat xs).flatten else .bad
  | _, _ => .bad
theorem sf_rep (ha : SB K ec ex ta ma) (hb : SB K ec ex tb mb) : SF K ec ex (tOp rMulU ta tb) (f2 repF ma mb) := by
  intro E U0 L U H σ ρ tmp g Q h
  refine ha g _ (PX.bindF h fun a v H1 _ s1 r1 h1 => ?_)
  refine hb (g.heap s1) _ (PX.bindF h1 fun b w H2 _ s2 r2 h2 => ?_)
  unfold repF at h2
  split at h2
  · obtain ⟨p, vs, rfl, hp, rp⟩ := (r1.mono s2).lstI
    cases r2
    split at h2
    · rename_i hc
      exact .inr ⟨p, _, vs, rfl, rfl, hp, by omega, by omega, by rw [rp.len]; exact hc.2.2, fun l hn => h2 l _ H2 (Same.refl _) hn (rp.rep _)⟩
    · exact h2.elim
  · exact h2.elim
variable {tl th : TO} {ml mh : Env → R (Option Int)}
def oNone (_ : Env) : R (Option Int) := .ok none
def D.toI : D → R (Option Int)
  | .int i => .ok (some i)
  | _ => .bad
def oSome (ma : Env → R D) (ρ : Env) : R (Option Int) := (ma ρ).bind D.toI
theorem so_none : SBo K ec ex tNoPart oNone := fun _ _ _ _ _ _ _ _ _ Q h => h _ _ (Same.refl _) rfl
theorem so_some (ha : SB K ec ex ta ma) : SBo K ec ex (tPart ta) (oSome ma) := by
  intro E U0 L U H σ ρ tmp g Q h
  refine ha g _ (PX.bind h fun a v H1 _ s1 r1 h1 => ?_)
  cases r1 with
  | int i => exact ⟨i, rfl, h1 _ _ (Same.refl _) rfl⟩
  | non => exact h1.elim
  | bl => exact h1.elim
  | str => exact h1.elim
  | lst => exact h1.elim
  | tup => exact h1.elim
  | scr => exact h1.elim
def fSl (ma : Env → R D) (ml mh : Env → R (Option Int)) (ρ : Env) : R (List D) := (ma ρ).bind fun a => (ml ρ).bind fun lo => (mh ρ).bind fun hi => slD a lo hi
theorem sf_sl (ha : SB K ec ex ta ma) (hl : SBo K ec ex tl ml) (hh : SBo K ec ex th mh) : SF K ec ex (tSl (rSlL K) ta tl th) (fSl ma ml mh) := by
  intro E U0 L U H σ ρ tmp g Q h
  refine ha g _ (PX.bindF h fun a v H1 _ s1 r1 h1 => ?_)
  refine hl (g.heap s1) _ (PX.bindF h1 fun lo w H2 _ s2 r2 h2 => ?_)
  refine hh (g.heap (s1.trans s2)) _ (PX.bindF h2 fun hi w' H3 _ s3 r3 h3 => ?_)
  cases r2
  cases r3
  unfold slD at h3
  split at h3
  · rename_i xs e
    obtain ⟨p, vs, rfl, hs, rs⟩ := (r1.mono (s2.trans s3)).litemsI (K := K) e
    exact ⟨p, vs, rfl, hs, fun q hq => h3 q _ H3 (Same.refl _) hq (rs.cut _ _)⟩
  · exact h3.elim
def fCb (f : List D → R (List D)) (mr : Env → R (List D)) (ρ : Env) : R (List D) := (mr ρ).bind f
theorem sf_list (ha : SBs K ec ex tr mr) : SF K ec ex (tCB (fun xs H Q => ∃ p ys, xs = [.ref p] ∧ (SqL K H p ys ∨ SqT K H p ys) ∧ ∀ l, H l = none → Q (.ref l) (upd H l (.lst ys))) tr) (fCb listD mr) := by
  intro E U0 L U H σ ρ tmp g Q h
  refine ha g _ (PX.bindF h fun as vs H1 _ s1 r1 h1 => ?_)
  unfold listD at h1
  split at h1
  · cases r1 with
    | cons a b =>
      cases b
      split at h1
      · rename_i xs e
        obtain ⟨p, vs, rfl, hs, rs⟩ := a.itemsI (K := K) e
        exact ⟨p, vs, rfl, hs, fun l hl => h1 l _ H1 (Same.refl _) hl rs⟩
      · exact h1.elim
  · exact h1.elim
def bOfF (mf : Env → R (List D)) (ρ : Env) : R D := (mf ρ).bind fun ds => .ok (.lst ds)
theorem sb_f {mf : Env → R (List D)} (h : SF K ec ex te mf) : SB K ec ex te (bOfF mf) := by
  intro E U0 L U H σ ρ tmp g Q hq
  refine h g _ ?_
  unfold bOfF at hq
  generalize mf ρ = z at hq ⊢
  cases z with
  | ok ds => exact fun p vs H1 s1 n r => hq _ _ (s1.trans (same_new n)) (Rp.mkL upd_same (r.mono (same_new n)))
  | exc c => exact hq
  | bad => exact hq
/-! new trees -/
theorem Good.dats {E U0 U H : Hp} {L : List (Nat × V)} {σ : L2.St} {ρ : Env} {tmp : List (V × T)} (g : Good K E U0 L U H σ ρ tmp) : ∀ {vs : List V} {ds : List D}, Rps K U vs ds → Good K E U0 L U H σ ρ ((vs.zip (ds.map T.dat)) ++ tmp) := by
  intro vs ds r
  induction r with
  | nil => exact g
  | cons h _ ih => exact ih.dat h
theorem zip_dat1 {U : Hp} {vs : List V} {ds : List D} (r : Rps K U vs ds) : (vs.zip (ds.map T.dat)).map (·.1) = vs := by
  induction r with
  | nil => rfl
  | cons _ _ ih => simp [ih]
theorem zip_dat2 {U : Hp} {vs : List V} {ds : List D} (r : Rps K U vs ds) : (vs.zip (ds.map T.dat)).map (·.2) = ds.map T.dat := by
  induction r with
  | nil => rfl
  | cons _ _ ih => simp [ih]
def pOfF (mf : Env → R (List D)) (ρ : Env) : R T := (mf ρ).bind fun ds => if ds.all D.flat = true then .ok (.lst (ds.map T.dat)) else .bad
theorem sp_f {mf : Env → R (List D)} (h : SF K ec ex te mf) : SP K ec ex te (pOfF mf) := by
  intro E U0 L U H σ ρ tmp g Q hq
  refine h g _ ?_
  unfold pOfF at hq
  generalize mf ρ = z at hq ⊢
  cases z with
  | ok ds =>
    intro p vs H1 s1 n r
    have hq' : PP K ec (ex σ) E U0 L σ ρ tmp H Q (if ds.all D.flat = true then .ok (.lst (ds.map T.dat)) else .bad) := hq
    split at hq'
    · rename_i hf
      refine hq' _ U _ (s1.trans (same_new n)) ?_
      have rU : Rps K U vs ds := r.flats hf
      have g2 := ((g.heap s1).dats rU).mkL n
      rw [zip_dat1 rU, zip_dat2 rU] at g2
      exact g2
    · exact hq'.elim
  | exc c => exact hq
  | bad => exact hq
def pFlat (ma : Env → R D) (ρ : Env) : R T := (ma ρ).bind fun d => if d.flat = true then .ok (.dat d) else .bad
theorem sp_flat (h : SB K ec ex te ma) : SP K ec ex te (pFlat ma) := by
  intro E U0 L U H σ ρ tmp g Q hq
  refine h g _ (PX.bindP hq fun d v H1 _ s1 r h1 => ?_)
  split at h1
  · rename_i hf
    exact h1 v U H1 (Same.refl _) ((g.heap s1).dat (r.flat hf))
  · exact h1.elim
def bEr (mp : Env → R T) (ρ : Env) : R D := (mp ρ).bind fun t => .ok t.er
theorem sb_sp {mp : Env → R T} (h : SP K ec ex te mp) : SB K ec ex te (bEr mp) := by
  intro E U0 L U H σ ρ tmp g Q hq
  refine h g _ ?_
  unfold bEr at hq
  generalize mp ρ = z at hq ⊢
  cases z with
  | ok τ => exact fun v U' H' s g' => hq _ _ s g'.top
  | exc c => exact hq
  | bad => exact hq
/-! any expression -/
def eSP (mp : Env → R T) (ρ : Env) : O2 := match mp ρ with
  | .ok t => .ok t ρ
  | .exc c => .exc c ρ
  | .bad => .bad
theorem se_sp {mp : Env → R T} (h : SP K ec ex te mp) : SE K ec ex te (eSP mp) := by
  intro E U0 L U H σ ρ tmp g Q hq
  refine h g _ ?_
  unfold eSP at hq
  generalize mp ρ = z at hq ⊢
  cases z with
  | ok τ => exact fun v U' H' s g' => hq v U' H' g'
  | exc c => exact fun H' s => hq U H' (g.heap s)
  | bad => exact hq
/-- a name's tree is taken out of it -/
def eMove (i : Nat) (ρ : Env) : O2 := match ρ[i]? with
  | some (.at t) => .ok t (ρ.set i .no)
  | _ => .bad
theorem se_move (i : Nat) : SE K ec ex (tVar i) (eMove i) := by
  intro E U0 L U H σ ρ tmp g Q h
  unfold eMove at h
  split at h
  · rename_i t e
    obtain ⟨l, lv, o⟩ := g.own
    obtain ⟨v, l', ev, p, lv'⟩ := lv.out e
    refine ⟨v, ev, h v U H ⟨g.eh, g.uu, g.uh, g.nw, ⟨l', lv', o.perm ?_⟩, fun j w hj => ?_⟩⟩
    · exact (List.Perm.append_right tmp p).trans List.perm_middle.symm
    · obtain ⟨a, t', b⟩ := g.pin j w hj
      refine ⟨a, t', ?_⟩
      have : i ≠ j := fun q => by subst q; rw [e] at b; cases b
      rw [List.getElem?_set_ne this]
      exact b
  · exact h.elim
/-- what is at hand is frozen -/
theorem Good.freeze {E U0 U H : Hp} {L : List (Nat × V)} {σ : L2.St} {ρ : Env} {tmp : List (V × T)} {v : V} {τ : T} (g : Good K E U0 L U H σ ρ ((v, τ) :: tmp)) : ∃ U', Good K E U0 L U' H σ ρ ((v, .dat τ.er) :: tmp) := by
  obtain ⟨l, lv, o⟩ := g.own
  obtain ⟨G, h, nd, f⟩ := o.perm List.perm_middle
  cases h with
  | cons a b =>
    rename_i G1 G2
    have nd' := List.nodup_append.mp nd
    have sU : Same U (frzU U H G1) := fun x o e => by
      unfold frzU
      rw [if_neg fun hm => by rw [(f x (List.mem_append_left _ hm)).1] at e; cases e]
      exact e
    have kF : ∀ x ∈ G1, frzU U H G1 x = H x := fun x hx => by
      unfold frzU
      rw [if_pos hx]
    have sF : Same (frzU U H G1) H := fun x o e => by
      unfold frzU at e
      split at e
      · exact e
      · exact g.uh x o e
    refine ⟨frzU U H G1, g.eh, g.uu.trans sU, sF, fun x o e n => ?_, ⟨l, lv, Own.perm (l := (v, .dat τ.er) :: (l ++ tmp)) ?_ List.perm_middle.symm⟩, g.pin⟩
    · unfold frzU at e
      split at e
      · rename_i hx
        exact (f x (List.mem_append_left _ hx)).2
      · exact g.nw x o e n
    · refine ⟨[] ++ G2, .cons (.dat (a.frz sU kF)) (b.keep sU fun x _ => rfl), nd'.2.1, fun x hx => ⟨?_, (f x (List.mem_append_right _ hx)).2⟩⟩
      unfold frzU
      rw [if_neg fun hm => nd'.2.2 x hm x hx rfl]
      exact (f x (List.mem_append_right _ hx)).1
/-- a name's tree is frozen, and told -/
def eFrz (i : Nat) (ρ : Env) : O2 := match ρ[i]? with
  | some (.at t) => .ok (.dat t.er) (ρ.set i (.at (.dat t.er)))
  | _ => .bad
theorem Lv.same {σ : L2.St} {ρ : Env} {l : List (V × T)} (h : Lv σ ρ l) {i : Nat} {t : T} {v : V} (e : σ[i]? = some (some v)) : σ.set i (some v) = σ := by
  apply List.ext_getElem?
  intro j
  by_cases hj : i = j
  · subst hj
    rw [List.getElem?_set_self (List.getElem?_eq_some_iff.mp e).1, e]
  · rw [List.getElem?_set_ne hj]
theorem se_frz (i : Nat) : SE K ec ex (tVar i) (eFrz i) := by
  intro E U0 L U H σ ρ tmp g Q h
  unfold eFrz at h
  split at h
  · rename_i t e
    obtain ⟨l, lv, o⟩ := g.own
    obtain ⟨v, l', ev, p, lv'⟩ := lv.out e
    have hi : i < ρ.length := (List.getElem?_eq_some_iff.mp e).1
    have pin' : ∀ j w, (j, w) ∈ L → σ[j]? = some (some w) ∧ ∃ t, (ρ.set i .no)[j]? = some (.lent t) := fun j w hj => by
      obtain ⟨a, t', b⟩ := g.pin j w hj
      refine ⟨a, t', ?_⟩
      rw [List.getElem?_set_ne fun q => by subst q; rw [e] at b; cases b]
      exact b
    have g1 : Good K E U0 L U H σ (ρ.set i .no) ((v, t) :: tmp) := ⟨g.eh, g.uu, g.uh, g.nw, ⟨l', lv', o.perm ((List.Perm.append_right tmp p).trans List.perm_middle.symm)⟩, pin'⟩
    obtain ⟨U', g2⟩ := g1.freeze
    have r : Rp K U' v t.er := by
      obtain ⟨l2, lv2, o2⟩ := g2.own
      obtain ⟨G, hh, _⟩ := o2.perm List.perm_middle
      cases hh with
      | cons a b => cases a with | dat q => exact q
    refine ⟨v, ev, h v U' H ?_⟩
    have g3 := g2.tail
    obtain ⟨l3, lv3, o3⟩ := g3.own
    obtain ⟨l4, p4, lv4⟩ := lv3.put v (.dat t.er) (i := i) (by rw [List.getElem?_set_self hi])
    rw [List.set_set, lv.same (i := i) (t := t) ev] at lv4
    refine Good.dat ⟨g3.eh, g3.uu, g3.uh, g3.nw, ⟨l4, lv4, ?_⟩, fun j w hj => ?_⟩ r
    · refine Own.perm (l := (v, .dat t.er) :: (l3 ++ tmp)) ?_ (List.Perm.append_right tmp p4).symm
      obtain ⟨G, hh, nd, f⟩ := o3
      exact ⟨G, .cons (.dat r) hh, nd, f⟩
    · obtain ⟨a, t', b⟩ := g.pin j w hj
      refine ⟨a, t', ?_⟩
      rw [List.getElem?_set_ne fun q => by subst q; rw [e] at b; cases b]
      exact b
  · exact h.elim
/-! displays of trees -/
inductive O3 where
  | ok (ts : List T) (ρ : Env) | exc (c : Nat) (ρ : Env) | bad
def PE3 (K : PySem.W.Frag) (ec : Nat → Addr) (x : XK) (E U0 : Hp) (L : List (Nat × V)) (σ : L2.St) (tmp : List (V × T)) (Q : List V → Hp → Prop) : O3 → Prop
  | .ok ts ρ' => ∀ vts U' H', vts.map (·.2) = ts → Good K E U0 L U' H' σ ρ' (vts ++ tmp) → Q (vts.map (·.1)) H'
  | .exc c ρ' => ∀ U' H', Good K E U0 L U' H' σ ρ' tmp → x (.ref (ec c)) none H'
  | .bad => False
def SEs (K : PySem.W.Frag) (ec : Nat → Addr) (ex : L2.St → XK) (t : TA) (m : Env → O3) : Prop :=
  ∀ ⦃E U0 : Hp⦄ ⦃L : List (Nat × V)⦄ ⦃U H : Hp⦄ ⦃σ : L2.St⦄ ⦃ρ : Env⦄ ⦃tmp : List (V × T)⦄, Good K E U0 L U H σ ρ tmp → ∀ Q, PE3 K ec (ex σ) E U0 L σ tmp Q (m ρ) → t σ H Q
def esNil (ρ : Env) : O3 := .ok [] ρ
def esCons (ma : Env → O2) (mr : Env → O3) (ρ : Env) : O3 := match ma ρ with
  | .ok t ρ1 => (match mr ρ1 with
    | .ok ts ρ2 => .ok (t :: ts) ρ2
    | .exc c ρ2 => .exc c ρ2
    | .bad => .bad)
  | .exc c ρ1 => .exc c ρ1
  | .bad => .bad
theorem ses_nil : SEs K ec ex tNil esNil := fun _ _ _ _ _ _ _ _ g Q h => h [] _ _ rfl g
theorem ses_cons {ma : Env → O2} {mr : Env → O3} (ha : SE K ec ex ta ma) (hr : SEs K ec ex tr mr) : SEs K ec ex (tCons ta tr) (esCons ma mr) := by
  intro E U0 L U H σ ρ tmp g Q h
  refine ha g _ ?_
  unfold esCons at h
  generalize ma ρ = z at h ⊢
  cases z with
  | ok t ρ1 =>
    intro v U1 H1 g1
    refine hr g1 _ ?_
    simp only [] at h
    generalize mr ρ1 = y at h ⊢
    cases y with
    | ok ts ρ2 =>
      intro vts U2 H2 e2 g2
      exact h ((v, t) :: vts) U2 H2 (by simp [e2]) (g2.perm List.perm_middle)
    | exc c ρ2 => exact fun U' H' g' => h U' H' g'.tail
    | bad => exact h
  | exc c ρ1 => exact h
  | bad => exact h
def eLst (mr : Env → O3) (ρ : Env) : O2 := match mr ρ with
  | .ok ts ρ1 => if ts.length ≤ sizeLine then .ok (.lst ts) ρ1 else .bad
  | .exc c ρ1 => .exc c ρ1
  | .bad => .bad
def eTup (mr : Env → O3) (ρ : Env) : O2 := match mr ρ with
  | .ok ts ρ1 => if ts.length ≤ sizeLine then .ok (.tup ts) ρ1 else .bad
  | .exc c ρ1 => .exc c ρ1
  | .bad => .bad
theorem se_lst {mr : Env → O3} (hr : SEs K ec ex tr mr) : SE K ec ex (tLst tr) (eLst mr) := by
  intro E U0 L U H σ ρ tmp g Q h
  refine hr g _ ?_
  unfold eLst at h
  generalize mr ρ = z at h ⊢
  cases z with
  | ok ts ρ1 =>
    intro vts U1 H1 e1 g1
    simp only [] at h
    split at h
    · rename_i hl
      refine ⟨by rw [List.length_map]; rw [← e1, List.length_map] at hl; exact hl, fun p hp => h _ U1 _ ?_⟩
      have g2 := g1.mkL hp
      rw [e1] at g2
      exact g2
    · exact h.elim
  | exc c ρ1 => exact h
  | bad => exact h
theorem se_tup {mr : Env → O3} (hr : SEs K ec ex tr mr) : SE K ec ex (tTup tr) (eTup mr) := by
  intro E U0 L U H σ ρ tmp g Q h
  refine hr g _ ?_
  unfold eTup at h
  generalize mr ρ = z at h ⊢
  cases z with
  | ok ts ρ1 =>
    intro vts U1 H1 e1 g1
    simp only [] at h
    split at h
    · rename_i hl
      refine ⟨by rw [List.length_map]; rw [← e1, List.length_map] at hl; exact hl, fun p hp => h _ U1 _ ?_⟩
      have g2 := g1.mkT hp
      rw [e1] at g2
      exact g2
    · exact h.elim
  | exc c ρ1 => exact h
  | bad => exact h
end
end Sm
/-! Sm, part F: calls; what is walked; targets; comprehensions. -/
namespace Sm
open PySem L2
variable {K : PySem.W.Frag}
/-- all that stands is frozen for a while -/
def Cell.frz : Cell → Cell
  | .no => .no
  | .at t => .at (.dat t.er)
  | .lent t => .at (.dat t.er)
def frzE (ρ : Env) : Env := ρ.map Cell.frz
theorem Lv.frz {σ ρ l} (h : Lv σ ρ l) : Lv σ (frzE ρ) (l.map fun x => (x.1, .dat x.2.er)) := by
  induction h with
  | nil => exact .nil
  | no _ ih => exact .no ih
  | «at» _ ih => exact .at ih
  | lent _ ih => exact .at ih
theorem own_dats {U H : Hp} : ∀ {l : List (V × T)}, (∀ x ∈ l, ∃ d, x.2 = .dat d ∧ Rp K U x.1 d) → TRs K U H (l.map (·.1)) (l.map (·.2)) []
  | [], _ => .nil
  | (v, t) :: l, h => by
    obtain ⟨d, e, r⟩ := h (v, t) List.mem_cons_self
    have e' : t = .dat d := e
    subst e'
    exact .cons (G := []) (.dat r) (own_dats fun x hx => h x (List.mem_cons_of_mem _ hx))
section
variable {E U0 U U' H H' : Hp} {L : List (Nat × V)} {σ : L2.St} {ρ : Env} {tmp : List (V × T)} {v : V} {τ : T}
theorem TRs.each (e : Same U H) : ∀ {l : List (V × T)} {G}, TRs K U H (l.map (·.1)) (l.map (·.2)) G → ∀ x ∈ l, Rp K H x.1 x.2.er
  | [], _, _, x, hx => by simp at hx
  | (v, t) :: l, _, h, x, hx => by
    cases h with
    | cons a b =>
      rcases List.mem_cons.mp hx with rfl | hx
      · exact a.er e
      · exact TRs.each e b x hx
theorem Good.frz (g : Good K E U0 L U H σ ρ tmp) : Good K H H [] H H σ (frzE ρ) [] := by
  obtain ⟨l, lv, o⟩ := g.own
  obtain ⟨G, h, _⟩ := o.left
  refine ⟨Same.refl _, Same.refl _, Same.refl _, fun a o e n => (by rw [e] at n; cases n), ⟨_, lv.frz, ⟨[], own_dats fun x hx => ?_, List.nodup_nil, fun a ha => (by simp at ha)⟩⟩, fun j v hj => (by simp at hj)⟩
  rw [List.append_nil] at hx
  obtain ⟨y, hy, rfl⟩ := List.mem_map.mp hx
  exact ⟨_, rfl, TRs.each g.uh h y hy⟩
/-- back from a run that was begun with all frozen -/
theorem Good.back (g : Good K E U0 L U H σ ρ tmp) (f : Fin K H H U' H' v τ) (c : τ.clean = true) : Good K E U0 L U H' σ ρ ((v, τ) :: tmp) := by
  obtain ⟨l, lv, o⟩ := g.own
  refine ⟨g.eh.trans f.eh, g.uu, g.uh.trans f.eh, g.nw, ⟨l, lv, Own.perm (l := (v, τ) :: (l ++ tmp)) ?_ List.perm_middle.symm⟩, g.pin⟩
  obtain ⟨G, h, nd, k⟩ := o
  obtain ⟨G2, h2, nd2, k2⟩ := f.own
  cases h2 with
  | cons a b =>
    cases b
    rename_i G2
    rw [List.append_nil] at nd2 k2
    have h' := h.keep (Same.refl U) (H' := H') fun x hx => by
      obtain ⟨y, hy⟩ := h.dom x hx
      rw [hy, f.eh x y hy]
    refine ⟨G2 ++ G, .cons (a.clean c) h', List.nodup_append.mpr ⟨nd2, nd, fun x hx y hy e => ?_⟩, fun x hx => ?_⟩
    · subst e
      obtain ⟨z, hz⟩ := h.dom x hy
      rw [(k2 x hx).2] at hz
      cases hz
    · rcases List.mem_append.mp hx with hx | hx
      · have n := (k2 x hx).2
        exact ⟨g.uh.free n, g.eh.free n⟩
      · exact k x hx
/-- only what is frozen is seen -/
def Cell.dat : Cell → Cell
  | .at (.dat d) => .at (.dat d)
  | .lent (.dat d) => .at (.dat d)
  | _ => .no
def datE (ρ : Env) : Env := ρ.map Cell.dat
theorem Lv.dat {σ ρ l} (h : Lv σ ρ l) : ∃ l', Lv σ (datE ρ) l' ∧ ∀ x ∈ l', x ∈ l ∧ ∃ d, x.2 = .dat d := by
  induction h with
  | nil => exact ⟨[], .nil, fun x hx => by simp at hx⟩
  | no _ ih =>
    obtain ⟨l', a, b⟩ := ih
    exact ⟨l', .no a, b⟩
  | «at» _ ih =>
    rename_i v t _
    obtain ⟨l', a, b⟩ := ih
    cases t with
    | dat d =>
      refine ⟨(v, .dat d) :: l', .at a, fun x hx => ?_⟩
      rcases List.mem_cons.mp hx with rfl | hx
      · exact ⟨List.mem_cons_self, d, rfl⟩
      · exact ⟨List.mem_cons_of_mem _ (b x hx).1, (b x hx).2⟩
    | lst ts => exact ⟨l', .no a, fun x hx => ⟨List.mem_cons_of_mem _ (b x hx).1, (b x hx).2⟩⟩
    | tup ts => exact ⟨l', .no a, fun x hx => ⟨List.mem_cons_of_mem _ (b x hx).1, (b x hx).2⟩⟩
  | lent _ ih =>
    rename_i v t _
    obtain ⟨l', a, b⟩ := ih
    cases t with
    | dat d =>
      refine ⟨(v, .dat d) :: l', .at a, fun x hx => ?_⟩
      rcases List.mem_cons.mp hx with rfl | hx
      · exact ⟨List.mem_cons_self, d, rfl⟩
      · exact ⟨List.mem_cons_of_mem _ (b x hx).1, (b x hx).2⟩
    | lst ts => exact ⟨l', .no a, fun x hx => ⟨List.mem_cons_of_mem _ (b x hx).1, (b x hx).2⟩⟩
    | tup ts => exact ⟨l', .no a, fun x hx => ⟨List.mem_cons_of_mem _ (b x hx).1, (b x hx).2⟩⟩
theorem TRs.eachD : ∀ {l : List (V × T)} {G}, TRs K U H (l.map (·.1)) (l.map (·.2)) G → ∀ x ∈ l, ∀ d, x.2 = .dat d → Rp K U x.1 d
  | [], _, _, x, hx => by simp at hx
  | (v, t) :: l, _, h, x, hx => by
    cases h with
    | cons a b =>
      rcases List.mem_cons.mp hx with rfl | hx
      · intro d e
        have e' : t = .dat d := e
        subst e'
        cases a with | dat r => exact r
      · exact TRs.eachD b x hx
theorem Good.datOnly (g : Good K E U0 L U H σ ρ tmp) : Good K H U [] U H σ (datE ρ) [] := by
  obtain ⟨l, lv, o⟩ := g.own
  obtain ⟨G, h, _⟩ := o.left
  obtain ⟨l', lv', k⟩ := lv.dat
  refine ⟨Same.refl _, Same.refl _, g.uh, fun a o e n => (by rw [e] at n; cases n), ⟨l', lv', ⟨[], own_dats fun x hx => ?_, List.nodup_nil, fun a ha => (by simp at ha)⟩⟩, fun j v hj => (by simp at hj)⟩
  rw [List.append_nil] at hx
  obtain ⟨hx, d, e⟩ := k x hx
  exact ⟨d, e, TRs.eachD h x hx d e⟩
theorem Good.backU (g : Good K E U0 L U H σ ρ tmp) (f : Fin K H U U' H' v τ) : Good K E U0 L U' H' σ ρ ((v, τ) :: tmp) := by
  obtain ⟨l, lv, o⟩ := g.own
  refine ⟨g.eh.trans f.eh, g.uu.trans f.uu, f.uh, fun a o e n => ?_, ⟨l, lv, Own.perm (l := (v, τ) :: (l ++ tmp)) ?_ List.perm_middle.symm⟩, g.pin⟩
  · cases q : U a with
    | none => exact g.eh.free (f.nw a o e q)
    | some u => exact g.nw a u q n
  obtain ⟨G, h, nd, k⟩ := o
  obtain ⟨G2, h2, nd2, k2⟩ := f.own
  cases h2 with
  | cons a b =>
    cases b
    rename_i G2
    rw [List.append_nil] at nd2 k2
    have h' := h.keep f.uu (H' := H') fun x hx => by
      obtain ⟨y, hy⟩ := h.dom x hx
      rw [hy, f.eh x y hy]
    refine ⟨G2 ++ G, .cons a h', List.nodup_append.mpr ⟨nd2, nd, fun x hx y hy e => ?_⟩, fun x hx => ?_⟩
    · subst e
      obtain ⟨z, hz⟩ := h.dom x hy
      rw [(k2 x hx).2] at hz
      cases hz
    · rcases List.mem_append.mp hx with hx | hx
      · exact ⟨(k2 x hx).1, g.eh.free (k2 x hx).2⟩
      · refine ⟨?_, (k x hx).2⟩
        obtain ⟨z, hz⟩ := h.dom x hx
        cases q : U' x with
        | none => rfl
        | some u =>
          rw [f.nw x u q (k x hx).1] at hz
          cases hz
end

/-! ### defs -/
def PC (K : PySem.W.Frag) (ec : Nat → Addr) (H U0 : Hp) (Q : VK) (x : XK) : R T → Prop
  | .ok τ => ∀ v U' H', Fin K H U0 U' H' v τ → Q v H'
  | .exc c => ∀ H', Same H H' → x (.ref (ec c)) none H'
  | .bad => False
/-- the promise of a def whose mirror is mf -/
def spM (K : PySem.W.Frag) (ec : Nat → Addr) (n : Nat) (mf : List D → R T) : Sp := fun vs H Q x => ∃ (ds : List D) (U0 : Hp), ds.length = n ∧ Same U0 H ∧ Rps K U0 vs ds ∧ PC K ec H U0 Q x (mf ds)
section
variable {ec : Nat → Addr} {ex : L2.St → XK} {ta tb tc te : TE} {ma mb mc : Env → R D} {tr : TA} {mr : Env → R (List D)}
def pCall (n : Nat) (mf : List D → R T) (mr : Env → R (List D)) (ρ : Env) : R T := (mr ρ).bind fun ds => if ds.length = n then (mf ds).bind fun τ => if τ.clean = true then .ok τ else .bad else .bad
theorem sp_call {n : Nat} {mf : List D → R T} (ha : SBs K ec ex tr mr) : SP K ec ex (tCallS (spM K ec n mf) ex tr) (pCall n mf mr) := by
  intro E U0 L U H σ ρ tmp g Q h
  refine ha g _ (PX.bindP h fun ds vs H1 _ s1 r1 h1 => ?_)
  split at h1
  · rename_i hn
    refine ⟨ds, H1, hn, Same.refl _, r1, ?_⟩
    generalize mf ds = z at h1 ⊢
    cases z with
    | ok τ =>
      intro v U' H' f
      have h2 : PP K ec (ex σ) E U0 L σ ρ tmp H1 Q (if τ.clean = true then .ok τ else .bad) := h1
      split at h2
      · rename_i hc
        exact h2 v U H' f.eh ((g.heap s1).back f hc)
      · exact h2.elim
    | exc c => exact h1
    | bad => exact h1
  · exact h1.elim
/-- .. where all arguments are frozen: what is told may lean on them -/
def O3.dats : List T → Option (List D)
  | [] => some []
  | .dat d :: r => (O3.dats r).map (d :: ·)
  | _ :: _ => none
def eCallU (n : Nat) (mf : List D → R T) (mr : Env → O3) (ρ : Env) : O2 := match mr ρ with
  | .ok ts ρ1 => (match O3.dats ts with
    | some ds => if ds.length = n then (match mf ds with | .ok τ => .ok τ ρ1 | .exc c => .exc c ρ1 | .bad => .bad) else .bad
    | none => .bad)
  | .exc c ρ1 => .exc c ρ1
  | .bad => .bad
theorem dats_rps {U H : Hp} : ∀ {vs : List V} {ts : List T} {G} {ds}, TRs K U H vs ts G → O3.dats ts = some ds → Rps K U vs ds
  | _, _, _, _, .nil, e => by cases e; exact .nil
  | _, _, _, ds, .cons a b, e => by
    cases a with
    | dat r =>
      unfold O3.dats at e
      obtain ⟨es, q, e⟩ := Option.map_eq_some_iff.mp e
      subst e
      exact .cons r (dats_rps b q)
    | lst => cases e
    | tup => cases e
theorem se_callU {n : Nat} {mf : List D → R T} {mr : Env → O3} (ha : SEs K ec ex tr mr) : SE K ec ex (tCallS (spM K ec n mf) ex tr) (eCallU n mf mr) := by
  intro E U0 L U H σ ρ tmp g Q h
  refine ha g _ ?_
  unfold eCallU at h
  generalize mr ρ = z at h ⊢
  cases z with
  | ok ts ρ1 =>
    intro vts U1 H1 e1 g1
    simp only [] at h
    split at h
    · rename_i ds ed
      split at h
      · rename_i hn
        have r : Rps K U1 (vts.map (·.1)) ds := by
          obtain ⟨l, lv, o⟩ := g1.own
          obtain ⟨G, hh, _⟩ := (o.perm (l' := vts ++ (l ++ tmp)) (by
            rw [← List.append_assoc, ← List.append_assoc]
            exact List.Perm.append_right _ List.perm_append_comm)).left
          rw [e1] at hh
          exact dats_rps hh ed
        have g2 : Good K E U0 L U1 H1 σ ρ1 tmp := g1.less (r := vts) (.refl _)
        refine ⟨ds, U1, hn, g1.uh, r, ?_⟩
        generalize mf ds = y at h ⊢
        cases y with
        | ok τ => exact fun v U' H' f => h v U' H' (g2.backU f)
        | exc c => exact fun H' s => h U1 H' (g2.heap s)
        | bad => exact h
      · exact h.elim
    · exact h.elim
  | exc c ρ1 => exact h
  | bad => exact h

/-! ### what is walked -/
def ItOk (K : PySem.W.Frag) (J : It) (U : Hp) (ts : List T) : Prop := ∀ {E U0 : Hp} {L : List (Nat × V)} {U' H : Hp} {σ : L2.St} {ρ : Env} {tmp : List (V × T)}, Same U U' → Good K E U0 L U' H σ ρ tmp →
  (∀ i, ts.length ≤ i → J.stop i H) ∧ ∀ i t, ts[i]? = some t → J.go i H ∧ ∀ x H', J.yld i H x H' → Same H H' ∧ Good K E U0 L U' H' σ ρ ((x, t) :: tmp)
def PE4 (K : PySem.W.Frag) (ec : Nat → Addr) (x : XK) (E U0 : Hp) (L : List (Nat × V)) (σ : L2.St) (tmp : List (V × T)) (Rr : It → Hp → Prop) : O3 → Prop
  | .ok ts ρ' => ∀ U' H' J, Good K E U0 L U' H' σ ρ' tmp → ItOk K J U' ts → Rr J H'
  | .exc c ρ' => ∀ U' H', Good K E U0 L U' H' σ ρ' tmp → x (.ref (ec c)) none H'
  | .bad => False
def SI (K : PySem.W.Frag) (ec : Nat → Addr) (ex : L2.St → XK) (t : TI) (m : Env → O3) : Prop :=
  ∀ ⦃E U0 : Hp⦄ ⦃L : List (Nat × V)⦄ ⦃U H : Hp⦄ ⦃σ : L2.St⦄ ⦃ρ : Env⦄ ⦃tmp : List (V × T)⦄, Good K E U0 L U H σ ρ tmp → ∀ Q, PE4 K ec (ex σ) E U0 L σ tmp Q (m ρ) → t σ H Q
/-- over a list: it is frozen -/
def iLst (ma : Env → O2) (ρ : Env) : O3 := match ma ρ with
  | .ok t ρ1 => (match t.er.litems with | some ds => .ok (ds.map T.dat) ρ1 | none => .bad)
  | .exc c ρ1 => .exc c ρ1
  | .bad => .bad
def iTp (ma : Env → O2) (ρ : Env) : O3 := match ma ρ with
  | .ok t ρ1 => (match t.er with | .tup ds => .ok (ds.map T.dat) ρ1 | _ => .bad)
  | .exc c ρ1 => .exc c ρ1
  | .bad => .bad
theorem Good.datOf {E U0 U H : Hp} {L : List (Nat × V)} {σ : L2.St} {ρ : Env} {tmp : List (V × T)} {v : V} {d : D} (g : Good K E U0 L U H σ ρ ((v, .dat d) :: tmp)) : Rp K U v d := by
  obtain ⟨l, lv, o⟩ := g.own
  obtain ⟨G, h, _⟩ := o.perm List.perm_middle
  cases h with
  | cons a b => cases a with | dat r => exact r
theorem SqL.mono {H H' : Hp} {a : Addr} {xs : List V} (e : Same H H') (h : SqL K H a xs) : SqL K H' a xs := e.seq h
theorem SqT.mono {H H' : Hp} {a : Addr} {xs : List V} (e : Same H H') (h : SqT K H a xs) : SqT K H' a xs := by
  rcases h with (h | ⟨o, h⟩) | h
  · exact .inl (.inl (e _ _ h))
  · exact .inl (.inr ⟨o, e _ _ h⟩)
  · exact .inr h
theorem itOk_list {U : Hp} {a : Addr} {vs : List V} {ds : List D} (h : SqL K U a vs) (r : Rps K U vs ds) : ItOk K (Itl K a) U (ds.map T.dat) := by
  intro E U0 L U' H σ ρ tmp sU g
  have hq : SqL K H a vs := SqL.mono (sU.trans g.uh) h
  refine ⟨fun i hi => ⟨vs, hq, by rw [r.len]; simpa using hi⟩, fun i t e => ?_⟩
  rw [List.getElem?_map] at e
  cases q : ds[i]? with
  | none => rw [q] at e; cases e
  | some d =>
    rw [q] at e
    cases e
    obtain ⟨v, ev, rv⟩ := r.get q
    refine ⟨⟨vs, v, hq, ev⟩, fun x H' y => ?_⟩
    obtain ⟨rfl, y⟩ := y
    have ex : x = v := Option.some.inj ((y vs hq).symm.trans ev)
    subst ex
    exact ⟨Same.refl _, g.dat (rv.mono sU)⟩
theorem itOk_tup {U : Hp} {a : Addr} {vs : List V} {ds : List D} (h : SqT K U a vs) (r : Rps K U vs ds) : ItOk K (Itt K a) U (ds.map T.dat) := by
  intro E U0 L U' H σ ρ tmp sU g
  have hq : SqT K H a vs := SqT.mono (sU.trans g.uh) h
  refine ⟨fun i hi => ⟨vs, hq, by rw [r.len]; simpa using hi⟩, fun i t e => ?_⟩
  rw [List.getElem?_map] at e
  cases q : ds[i]? with
  | none => rw [q] at e; cases e
  | some d =>
    rw [q] at e
    cases e
    obtain ⟨v, ev, rv⟩ := r.get q
    refine ⟨⟨vs, v, hq, ev⟩, fun x H' y => ?_⟩
    obtain ⟨rfl, y⟩ := y
    have ex : x = v := Option.some.inj ((y vs hq).symm.trans ev)
    subst ex
    exact ⟨Same.refl _, g.dat (rv.mono sU)⟩
theorem si_list {ma : Env → O2} (ha : SE K ec ex ta ma) : SI K ec ex (iList K ta) (iLst ma) := by
  intro E U0 L U H σ ρ tmp g Q h
  refine ha g _ ?_
  unfold iLst at h
  generalize ma ρ = z at h ⊢
  cases z with
  | ok t ρ1 =>
    intro v U1 H1 g1
    simp only [] at h
    split at h
    · rename_i ds ed
      obtain ⟨U2, g2⟩ := g1.freeze
      obtain ⟨p, vs, rfl, hs, rs⟩ := g2.datOf.litemsI (K := K) ed
      exact ⟨p, rfl, ⟨vs, SqL.mono g2.uh hs⟩, h U2 H1 _ g2.tail (itOk_list hs rs)⟩
    · exact h.elim
  | exc c ρ1 => exact h
  | bad => exact h
theorem si_tup {ma : Env → O2} (ha : SE K ec ex ta ma) : SI K ec ex (iTup K ta) (iTp ma) := by
  intro E U0 L U H σ ρ tmp g Q h
  refine ha g _ ?_
  unfold iTp at h
  generalize ma ρ = z at h ⊢
  cases z with
  | ok t ρ1 =>
    intro v U1 H1 g1
    simp only [] at h
    obtain ⟨U2, g2⟩ := g1.freeze
    have r := g2.datOf
    split at h
    · rename_i ds ed
      rw [ed] at r
      obtain ⟨p, vs, rfl, hs, rs⟩ := r.tupI
      exact ⟨p, rfl, ⟨vs, SqT.mono g2.uh (SqT.of hs)⟩, h U2 H1 _ g2.tail (itOk_tup (SqT.of hs) rs)⟩
    · exact h.elim
  | exc c ρ1 => exact h
  | bad => exact h
/-- over a range -/
def rangeT (lo : Int) (c : Int) (n : Nat) : List T := (List.range n).map fun (i : Nat) => .dat (.int (lo + (i : Int) * c))
theorem itOk_rng {U : Hp} {lo : Int} {n : Nat} : ItOk K (Itr lo n) U (rangeT lo 1 n) := by
  intro E U0 L U' H σ ρ tmp sU g
  refine ⟨fun i hi => show n ≤ i by simpa [rangeT] using hi, fun i t e => ?_⟩
  unfold rangeT at e
  by_cases hi : i < n
  · rw [List.getElem?_map, List.getElem?_range hi] at e
    cases e
    refine ⟨hi, fun x H' y => ?_⟩
    obtain ⟨rfl, rfl⟩ := y
    dsimp only
    rw [Int.mul_one]
    exact ⟨Same.refl _, g.dat (.int _)⟩
  · rw [List.getElem?_eq_none (by simpa using hi)] at e
    cases e
theorem itOk_rngC {U : Hp} {lo c : Int} {n : Nat} : ItOk K (Itc lo c n) U (rangeT lo c n) := by
  intro E U0 L U' H σ ρ tmp sU g
  refine ⟨fun i hi => show n ≤ i by simpa [rangeT] using hi, fun i t e => ?_⟩
  unfold rangeT at e
  by_cases hi : i < n
  · rw [List.getElem?_map, List.getElem?_range hi] at e
    cases e
    refine ⟨hi, fun x H' y => ?_⟩
    obtain ⟨rfl, rfl⟩ := y
    exact ⟨Same.refl _, g.dat (.int _)⟩
  · rw [List.getElem?_eq_none (by simpa using hi)] at e
    cases e
def okI (i : Int) : Bool := decide (-4611686018427387904 ≤ i) && decide (i < 4611686018427387904)
def iR1 (mr : Env → R (List D)) (ρ : Env) : O3 := match mr ρ with
  | .ok [.int j] => if okI j = true then .ok (rangeT 0 1 j.toNat) ρ else .bad
  | .exc c => .exc c ρ
  | _ => .bad
def iR2 (mr : Env → R (List D)) (ρ : Env) : O3 := match mr ρ with
  | .ok [.int i, .int j] => if (okI i && okI j) = true then .ok (rangeT i 1 (j - i).toNat) ρ else .bad
  | .exc c => .exc c ρ
  | _ => .bad
/-- range(i, j, -1) -/
def iR3 (mr : Env → R (List D)) (ρ : Env) : O3 := match mr ρ with
  | .ok [.int i, .int j, .int c] => if (okI i && okI j && decide (c = -1)) = true then .ok (rangeT i (-1) (i - j).toNat) ρ else .bad
  | .exc c => .exc c ρ
  | _ => .bad
theorem okI_iff {i : Int} : okI i = true ↔ -(2 ^ 62) ≤ i ∧ i < 2 ^ 62 := by
  unfold okI
  rw [Bool.and_eq_true, decide_eq_true_iff, decide_eq_true_iff]
  exact Iff.rfl
theorem si_r1 (ha : SBs K ec ex tr mr) : SI K ec ex (iRng1 tr) (iR1 mr) := by
  intro E U0 L U H σ ρ tmp g Q h
  refine ha g _ ?_
  unfold iR1 at h
  generalize mr ρ = z at h ⊢
  cases z with
  | ok ds =>
    intro vs H1 s1 r
    split at h
    · rename_i j e
      cases e
      cases r with
      | cons a b =>
        cases b
        cases a
        split at h
        · rename_i hj
          obtain ⟨h1, h2⟩ := okI_iff.mp hj
          exact ⟨_, rfl, h1, h2, h U H1 _ (g.heap s1) itOk_rng⟩
        · exact h.elim
    · rename_i e; cases e
    · exact h.elim
  | exc c => exact fun H' s => h U H' (g.heap s)
  | bad => exact h
theorem si_r2 (ha : SBs K ec ex tr mr) : SI K ec ex (iRng2 tr) (iR2 mr) := by
  intro E U0 L U H σ ρ tmp g Q h
  refine ha g _ ?_
  unfold iR2 at h
  generalize mr ρ = z at h ⊢
  cases z with
  | ok ds =>
    intro vs H1 s1 r
    split at h
    · rename_i i j e
      cases e
      cases r with
      | cons a b =>
        cases b with
        | cons b c =>
          cases c
          cases a
          cases b
          split at h
          · rename_i hj
            rw [Bool.and_eq_true] at hj
            obtain ⟨h1, h2⟩ := okI_iff.mp hj.1
            obtain ⟨h3, h4⟩ := okI_iff.mp hj.2
            exact ⟨_, _, rfl, ⟨h1, h2, h3, h4⟩, h U H1 _ (g.heap s1) itOk_rng⟩
          · exact h.elim
    · rename_i e; cases e
    · exact h.elim
  | exc c => exact fun H' s => h U H' (g.heap s)
  | bad => exact h
theorem si_r3 (ha : SBs K ec ex tr mr) : SI K ec ex (iRng3 tr) (iR3 mr) := by
  intro E U0 L U H σ ρ tmp g Q h
  refine ha g _ ?_
  unfold iR3 at h
  generalize mr ρ = z at h ⊢
  cases z with
  | ok ds =>
    intro vs H1 s1 r
    split at h
    · rename_i i j c e
      cases e
      cases r with
      | cons a b =>
        cases b with
        | cons b c =>
          cases c with
          | cons c d =>
            cases d
            cases a
            cases b
            cases c
            split at h
            · rename_i hj
              rw [Bool.and_eq_true, Bool.and_eq_true, decide_eq_true_iff] at hj
              obtain ⟨h1, h2⟩ := okI_iff.mp hj.1.1
              obtain ⟨h3, h4⟩ := okI_iff.mp hj.1.2
              have e := hj.2
              subst e
              exact ⟨_, _, _, _, rfl, RgC.neg h1 h2 h3 h4, h U H1 _ (g.heap s1) itOk_rngC⟩
            · exact h.elim
    · rename_i e; cases e
    · exact h.elim
  | exc c => exact fun H' s => h U H' (g.heap s)
  | bad => exact h
/-- over two lists, both frozen -/
def zipT : List D → List D → List T
  | a :: r, b :: s => .tup [.dat a, .dat b] :: zipT r s
  | _, _ => []
theorem zipT_get : ∀ {xs ys : List D} {i : Nat} {t : T}, (zipT xs ys)[i]? = some t → ∃ a b, xs[i]? = some a ∧ ys[i]? = some b ∧ t = .tup [.dat a, .dat b]
  | [], ys, i, t, e => by simp [zipT] at e
  | _ :: _, [], i, t, e => by simp [zipT] at e
  | a :: r, b :: s, 0, t, e => by
    simp [zipT] at e
    exact ⟨a, b, rfl, rfl, e.symm⟩
  | a :: r, b :: s, i + 1, t, e => by
    simp only [zipT, List.getElem?_cons_succ] at e
    obtain ⟨x, y, h1, h2, h3⟩ := zipT_get e
    exact ⟨x, y, by simpa using h1, by simpa using h2, h3⟩
theorem zipT_len : ∀ (xs ys : List D) (i : Nat), (zipT xs ys).length ≤ i → xs.length ≤ i ∨ ys.length ≤ i
  | [], ys, i, h => .inl (by simp)
  | _ :: _, [], i, h => .inr (by simp)
  | a :: r, b :: s, 0, h => by simp [zipT] at h
  | a :: r, b :: s, i + 1, h => by
    simp only [zipT, List.length_cons] at h ⊢
    rcases zipT_len r s i (by omega) with q | q
    · exact .inl (by omega)
    · exact .inr (by omega)
theorem itOk_zip {U : Hp} {a b : Addr} {vs ws : List V} {ds es : List D} (h : SqL K U a vs) (r : Rps K U vs ds) (h' : SqL K U b ws) (r' : Rps K U ws es) : ItOk K (Itz K a b) U (zipT ds es) := by
  intro E U0 L U' H σ ρ tmp sU g
  have hq : SqL K H a vs := SqL.mono (sU.trans g.uh) h
  have hq' : SqL K H b ws := SqL.mono (sU.trans g.uh) h'
  refine ⟨fun i hi => ⟨vs, ws, hq, hq', by rw [r.len, r'.len]; exact zipT_len _ _ _ hi⟩, fun i t e => ?_⟩
  obtain ⟨d1, d2, e1, e2, rfl⟩ := zipT_get e
  obtain ⟨v, ev, rv⟩ := r.get e1
  obtain ⟨w, ew, rw'⟩ := r'.get e2
  refine ⟨⟨vs, ws, v, w, hq, hq', ev, ew⟩, fun x H' y => ?_⟩
  obtain ⟨p, x1, x2, rfl, np, rfl, f1, f2⟩ := y
  have ex1 : x1 = v := Option.some.inj ((f1 vs hq).symm.trans ev)
  have ex2 : x2 = w := Option.some.inj ((f2 ws hq').symm.trans ew)
  subst ex1 ex2
  refine ⟨same_new np, ?_⟩
  have g2 := (g.dat (rw'.mono sU)).dat (rv.mono sU)
  exact Good.mkT (vts := [(x1, .dat d1), (x2, .dat d2)]) g2 np
def enumT : Nat → List D → List T
  | _, [] => []
  | i, a :: r => .tup [.dat (.int i), .dat a] :: enumT (i + 1) r
theorem enumT_get : ∀ {xs : List D} {k i : Nat} {t : T}, (enumT k xs)[i]? = some t → ∃ a, xs[i]? = some a ∧ t = .tup [.dat (.int (((k + i : Nat)) : Int)), .dat a]
  | [], k, i, t, e => by simp [enumT] at e
  | a :: r, k, 0, t, e => by
    simp [enumT] at e
    exact ⟨a, rfl, e.symm⟩
  | a :: r, k, i + 1, t, e => by
    simp only [enumT, List.getElem?_cons_succ] at e
    obtain ⟨x, h1, h2⟩ := enumT_get e
    exact ⟨x, by simpa using h1, by rw [h2]; congr 5; omega⟩
theorem enumT_len : ∀ (xs : List D) (k : Nat), (enumT k xs).length = xs.length
  | [], _ => rfl
  | a :: r, k => by simp [enumT, enumT_len r]
theorem itOk_enum {U : Hp} {a : Addr} {vs : List V} {ds : List D} (h : SqL K U a vs) (r : Rps K U vs ds) : ItOk K (Ite K a) U (enumT 0 ds) := by
  intro E U0 L U' H σ ρ tmp sU g
  have hq : SqL K H a vs := SqL.mono (sU.trans g.uh) h
  refine ⟨fun i hi => ⟨vs, hq, by rw [r.len]; simpa [enumT_len] using hi⟩, fun i t e => ?_⟩
  obtain ⟨d, e1, rfl⟩ := enumT_get e
  obtain ⟨v, ev, rv⟩ := r.get e1
  refine ⟨⟨vs, v, hq, ev⟩, fun x H' y => ?_⟩
  obtain ⟨p, x1, rfl, np, rfl, f1⟩ := y
  have ex1 : x1 = v := Option.some.inj ((f1 vs hq).symm.trans ev)
  subst ex1
  refine ⟨same_new np, ?_⟩
  have g2 := (g.dat (rv.mono sU)).dat (Rp.int ((i : Nat) : Int))
  have g3 := Good.mkT (vts := [(.int ((i : Nat) : Int), .dat (.int ((i : Nat) : Int))), (x1, .dat d)]) g2 np
  rw [Nat.zero_add]
  exact g3
def iZp (mr : Env → O3) (ρ : Env) : O3 := match mr ρ with
  | .ok [s, t] ρ1 => (match s.er.litems, t.er.litems with | some ds, some es => .ok (zipT ds es) ρ1 | _, _ => .bad)
  | .exc c ρ1 => .exc c ρ1
  | _ => .bad
theorem si_zip {mr : Env → O3} (ha : SEs K ec ex tr mr) : SI K ec ex (iZip K tr) (iZp mr) := by
  intro E U0 L U H σ ρ tmp g Q h
  refine ha g _ ?_
  unfold iZp at h
  generalize mr ρ = z at h ⊢
  cases z with
  | ok ts ρ1 =>
    intro vts U1 H1 e1 g1
    split at h
    · rename_i s t ρ1' e
      cases e
      match vts, e1 with
      | [(v, s'), (w, t')], e1 =>
        cases e1
        split at h
        · rename_i ds es ed ee
          obtain ⟨U2, g2⟩ := Good.freeze (tmp := (w, t') :: tmp) g1
          obtain ⟨U3, g3⟩ := Good.freeze (tmp := (v, .dat s'.er) :: tmp) (g2.perm (List.Perm.swap ..))
          obtain ⟨p, vs, rfl, hs, rs⟩ := (Good.datOf (g3.perm (List.Perm.swap ..))).litemsI (K := K) ed
          obtain ⟨q, ws, rfl, hs', rs'⟩ := g3.datOf.litemsI (K := K) ee
          exact ⟨p, q, vs, ws, rfl, SqL.mono g3.uh hs, SqL.mono g3.uh hs', h U3 H1 _ g3.tail.tail (itOk_zip hs rs hs' rs')⟩
        · exact h.elim
    · rename_i e; cases e
    · exact h.elim
  | exc c ρ1 => exact h
  | bad => exact h
def iEn (mr : Env → O3) (ρ : Env) : O3 := match mr ρ with
  | .ok [s] ρ1 => (match s.er.litems with | some ds => .ok (enumT 0 ds) ρ1 | _ => .bad)
  | .exc c ρ1 => .exc c ρ1
  | _ => .bad
theorem si_enum {mr : Env → O3} (ha : SEs K ec ex tr mr) : SI K ec ex (iEnum K tr) (iEn mr) := by
  intro E U0 L U H σ ρ tmp g Q h
  refine ha g _ ?_
  unfold iEn at h
  generalize mr ρ = z at h ⊢
  cases z with
  | ok ts ρ1 =>
    intro vts U1 H1 e1 g1
    split at h
    · rename_i s ρ1' e
      cases e
      match vts, e1 with
      | [(v, s')], e1 =>
        cases e1
        split at h
        · rename_i ds ed
          obtain ⟨U2, g2⟩ := Good.freeze (tmp := tmp) g1
          obtain ⟨p, vs, rfl, hs, rs⟩ := g2.datOf.litemsI (K := K) ed
          exact ⟨p, vs, rfl, SqL.mono g2.uh hs, h U2 H1 _ g2.tail (itOk_enum hs rs)⟩
        · exact h.elim
    · rename_i e; cases e
    · exact h.elim
  | exc c ρ1 => exact h
  | bad => exact h
end
end Sm
/-! Sm, part G: targets, comprehensions. -/
namespace Sm
open PySem L2
variable {K : PySem.W.Frag}
/-! ### targets -/
def PG1 (K : PySem.W.Frag) (E U0 : Hp) (L : List (Nat × V)) (ws : List Nat) (σ : L2.St) (tmp : List (V × T)) (H : Hp) (Q : L2.St → Hp → Prop) : R Env → Prop
  | .ok ρ' => ∀ U' σ', (∀ j, j ∉ ws → σ'[j]? = σ[j]?) → σ'.length = σ.length → Good K E U0 L U' H σ' ρ' tmp → Q σ' H
  | _ => False
/-- a target of names: ws are the slots that it stores to -/
def SG (K : PySem.W.Frag) (g : TG) (ws : List Nat) (m : T → Env → R Env) : Prop :=
  ∀ ⦃E U0 : Hp⦄ ⦃L : List (Nat × V)⦄ ⦃U H : Hp⦄ ⦃σ : L2.St⦄ ⦃ρ : Env⦄ ⦃tmp : List (V × T)⦄ ⦃v : V⦄ ⦃τ : T⦄, Good K E U0 L U H σ ρ ((v, τ) :: tmp) → ∀ Q, PG1 K E U0 L ws σ tmp H Q (m τ ρ) → g v σ H Q
def SGs (K : PySem.W.Frag) (g : TGs) (ws : List Nat) (m : List T → Env → R Env) : Prop :=
  ∀ ⦃E U0 : Hp⦄ ⦃L : List (Nat × V)⦄ ⦃U H : Hp⦄ ⦃σ : L2.St⦄ ⦃ρ : Env⦄ ⦃tmp vts : List (V × T)⦄, Good K E U0 L U H σ ρ (vts ++ tmp) → ∀ Q, PG1 K E U0 L ws σ tmp H Q (m (vts.map (·.2)) ρ) → g (vts.map (·.1)) σ H Q
def setC (i : Nat) (τ : T) (ρ : Env) : R Env := match ρ[i]? with
  | some (.lent _) => .bad
  | some _ => .ok (ρ.set i (.at τ))
  | none => .bad
theorem Good.put {E U0 U H : Hp} {L : List (Nat × V)} {σ : L2.St} {ρ : Env} {tmp : List (V × T)} {v : V} {τ : T} {i : Nat} {c : Cell} (g : Good K E U0 L U H σ ρ ((v, τ) :: tmp)) (e : ρ[i]? = some c) (hc : ∀ t, c ≠ .lent t) : Good K E U0 L U H (σ.set i (some v)) (ρ.set i (.at τ)) tmp := by
  obtain ⟨l, lv, o⟩ := g.own
  obtain ⟨r, l', p, lv'⟩ := lv.drop i
  have hi : i < ρ.length := (List.getElem?_eq_some_iff.mp e).1
  obtain ⟨l2, p2, lv2⟩ := lv'.put v τ (i := i) (by rw [List.getElem?_set_self hi])
  rw [List.set_set] at lv2
  refine ⟨g.eh, g.uu, g.uh, g.nw, ⟨l2, lv2, ?_⟩, fun j w hj => ?_⟩
  · have o1 : Own K E U H (r ++ ((v, τ) :: (l' ++ tmp))) := o.perm (by
      refine (List.Perm.append_right _ p).trans ?_
      rw [List.append_assoc]
      exact List.Perm.append_left r List.perm_middle)
    exact o1.right.perm (List.Perm.append_right tmp p2).symm
  · obtain ⟨a, t', b⟩ := g.pin j w hj
    have ne : i ≠ j := fun q => by
      subst q
      rw [e] at b
      exact hc t' (Option.some.inj b)
    exact ⟨by rw [List.getElem?_set_ne ne]; exact a, t', by rw [List.getElem?_set_ne ne]; exact b⟩
theorem sg_name (i : Nat) : SG K (gName i) [i] (setC i) := by
  intro E U0 L U H σ ρ tmp v τ g Q h
  unfold setC at h
  split at h
  · exact h.elim
  · rename_i c hn e
    exact h U _ (fun j hj => List.getElem?_set_ne fun q => hj (by simp [q])) (by simp) (g.put e fun t q => hn t q)
  · exact h.elim
def gsNil (ts : List T) (ρ : Env) : R Env := match ts with
  | [] => .ok ρ
  | _ => .bad
def gsCons (m1 : T → Env → R Env) (m2 : List T → Env → R Env) (ts : List T) (ρ : Env) : R Env := match ts with
  | t :: r => (m1 t ρ).bind fun ρ1 => m2 r ρ1
  | [] => .bad
theorem sgs_nil : SGs K gNil [] gsNil := by
  intro E U0 L U H σ ρ tmp vts g Q h
  match vts with
  | [] => exact ⟨rfl, h U σ (fun _ _ => rfl) rfl g⟩
  | _ :: _ => exact h.elim
theorem sgs_cons {g1 : TG} {g2 : TGs} {ws1 ws2 : List Nat} {m1 : T → Env → R Env} {m2 : List T → Env → R Env} (h1 : SG K g1 ws1 m1) (h2 : SGs K g2 ws2 m2) : SGs K (gCons g1 g2) (ws1 ++ ws2) (gsCons m1 m2) := by
  intro E U0 L U H σ ρ tmp vts g Q h
  match vts with
  | [] => exact h.elim
  | (v, t) :: r =>
    refine ⟨v, r.map (·.1), rfl, ?_⟩
    have h' : PG1 K E U0 L (ws1 ++ ws2) σ tmp H Q ((m1 t ρ).bind fun ρ1 => m2 (r.map (·.2)) ρ1) := h
    refine h1 (tmp := r ++ tmp) g _ ?_
    generalize m1 t ρ = z at h' ⊢
    cases z with
    | ok ρ1 =>
      intro U1 σ1 a1 b1 g1'
      refine h2 g1' _ ?_
      have h2' : PG1 K E U0 L (ws1 ++ ws2) σ tmp H Q (m2 (r.map (·.2)) ρ1) := h'
      generalize m2 (r.map (·.2)) ρ1 = y at h2' ⊢
      cases y with
      | ok ρ2 =>
        intro U2 σ2 a2 b2 g2'
        exact h2' U2 σ2 (fun j hj => (a2 j fun q => hj (List.mem_append_right _ q)).trans (a1 j fun q => hj (List.mem_append_left _ q))) (b2.trans b1) g2'
      | exc c => exact h2'
      | bad => exact h2'
    | exc c => exact h'
    | bad => exact h'
/-- a tuple is taken apart -/
def gTp (n : Nat) (m : List T → Env → R Env) (τ : T) (ρ : Env) : R Env := match τ with
  | .tup ts => if ts.length = n then m ts ρ else .bad
  | .dat (.tup ds) => if ds.length = n then m (ds.map T.dat) ρ else .bad
  | _ => .bad
theorem zip_map1 {α β : Type} : ∀ {xs : List α} {ys : List β}, xs.length = ys.length → (xs.zip ys).map (·.1) = xs
  | [], [], _ => rfl
  | [], _ :: _, h => by simp at h
  | _ :: _, [], h => by simp at h
  | x :: xs, y :: ys, h => by simp [zip_map1 (xs := xs) (ys := ys) (by simpa using h)]
theorem zip_map2 {α β : Type} : ∀ {xs : List α} {ys : List β}, xs.length = ys.length → (xs.zip ys).map (·.2) = ys
  | [], [], _ => rfl
  | [], _ :: _, h => by simp at h
  | _ :: _, [], h => by simp at h
  | x :: xs, y :: ys, h => by simp [zip_map2 (xs := xs) (ys := ys) (by simpa using h)]
theorem Good.open {E U0 U H : Hp} {L : List (Nat × V)} {σ : L2.St} {ρ : Env} {tmp : List (V × T)} {v : V} {ts : List T} (g : Good K E U0 L U H σ ρ ((v, .tup ts) :: tmp)) : ∃ p vs, v = .ref p ∧ H p = some (.tup vs) ∧ vs.length = ts.length ∧ Good K E U0 L U H σ ρ (vs.zip ts ++ tmp) := by
  obtain ⟨l, lv, o⟩ := g.own
  obtain ⟨G, h, nd, f⟩ := o.perm List.perm_middle
  cases h with
  | cons a b =>
    cases a with
    | tup hp r =>
      rename_i G2 p vs G1
      have hl := r.len
      refine ⟨p, vs, rfl, hp, hl, ⟨g.eh, g.uu, g.uh, g.nw, ⟨l, lv, Own.perm (l := vs.zip ts ++ (l ++ tmp)) ⟨G1 ++ G2, ?_, (List.nodup_cons.mp nd).2, fun x hx => f x (List.mem_cons_of_mem _ hx)⟩ ?_⟩, g.pin⟩⟩
      · rw [List.map_append, List.map_append (l₁ := vs.zip ts), zip_map1 hl, zip_map2 hl]
        exact TRs.join r b
      · rw [← List.append_assoc, ← List.append_assoc]
        exact List.Perm.append_right _ List.perm_append_comm
theorem sg_tup {n : Nat} {g : TGs} {ws : List Nat} {m : List T → Env → R Env} (hg : SGs K g ws m) : SG K (gTup K n g) ws (gTp n m) := by
  intro E U0 L U H σ ρ tmp v τ gd Q h
  unfold gTp at h
  split at h
  · split at h
    · rename_i ts hn
      obtain ⟨p, vs, rfl, hp, hl, g2⟩ := gd.open
      refine ⟨p, vs, rfl, SqT.of hp, hl.trans hn, ?_⟩
      have q := hg g2 Q (by rw [zip_map2 hl]; exact h)
      rw [zip_map1 hl] at q
      exact q
    · exact h.elim
  · split at h
    · rename_i ds hn
      obtain ⟨p, vs, rfl, hp, rs⟩ := gd.datOf.tupI
      refine ⟨p, vs, rfl, SqT.of (gd.uh _ _ hp), rs.len.trans hn, ?_⟩
      have g2 := gd.tail.dats rs
      have q := hg g2 Q (by rw [zip_dat2 rs]; exact h)
      rw [zip_dat1 rs] at q
      exact q
    · exact h.elim
  · exact h.elim

/-! ### a list of one's own is changed -/
theorem Own.mut {E U H : Hp} {p : Addr} {ts : List T} {xs rest : List (V × T)} (o : Own K E U H ((.ref p, .lst ts) :: (xs ++ rest))) : ∃ vs, H p = some (.lst vs) ∧ vs.length = ts.length ∧ U p = none ∧ E p = none ∧
    ∀ new out : List (V × T), (vs.zip ts ++ xs).Perm (new ++ out) → Own K E U (upd H p (.lst (new.map (·.1)))) ((.ref p, .lst (new.map (·.2))) :: (out ++ rest)) := by
  obtain ⟨G, h, nd, f⟩ := o
  cases h with
  | cons a b =>
    cases a with
    | lst hp r =>
      rename_i G2 vs G1
      have hl := r.len
      refine ⟨vs, hp, hl, (f p List.mem_cons_self).1, (f p List.mem_cons_self).2, fun new out pm => ?_⟩
      have nd' := List.nodup_cons.mp nd
      have h1 : TRs K U H ((vs.zip ts ++ (xs ++ rest)).map (·.1)) ((vs.zip ts ++ (xs ++ rest)).map (·.2)) (G1 ++ G2) := by
        rw [List.map_append, List.map_append (l₁ := vs.zip ts), zip_map1 hl, zip_map2 hl]
        exact TRs.join r b
      have h2 := h1.keep (Same.refl U) (H' := upd H p (.lst (new.map (·.1)))) fun x hx => upd_ne fun e => nd'.1 (e ▸ hx)
      have pm2 : (vs.zip ts ++ (xs ++ rest)).Perm (new ++ (out ++ rest)) := by
        rw [← List.append_assoc, ← List.append_assoc]
        exact List.Perm.append_right _ pm
      obtain ⟨G3, p3, h3⟩ := h2.perm pm2
      rw [List.map_append (l₁ := new), List.map_append (l₁ := new)] at h3
      obtain ⟨Ga, Gb, rfl, ha, hb⟩ := TRs.split h3 (by rw [List.length_map, List.length_map])
      refine ⟨(p :: Ga) ++ Gb, .cons (.lst upd_same ha) hb, List.nodup_cons.mpr ⟨fun hm => nd'.1 (p3.mem_iff.mpr hm), p3.nodup_iff.mp nd'.2⟩, fun x hx => ?_⟩
      rcases List.mem_cons.mp hx with rfl | hx
      · exact f x List.mem_cons_self
      · exact f x (List.mem_cons_of_mem _ (p3.mem_iff.mpr hx))
theorem Good.mut {E U0 U H : Hp} {L : List (Nat × V)} {σ : L2.St} {ρ : Env} {tmp xs : List (V × T)} {p : Addr} {ts : List T} (g : Good K E U0 L U H σ ρ ((.ref p, .lst ts) :: (xs ++ tmp))) : ∃ vs, H p = some (.lst vs) ∧ vs.length = ts.length ∧
    ∀ new out : List (V × T), (vs.zip ts ++ xs).Perm (new ++ out) → Good K E U0 L U (upd H p (.lst (new.map (·.1)))) σ ρ ((.ref p, .lst (new.map (·.2))) :: (out ++ tmp)) := by
  obtain ⟨l, lv, o⟩ := g.own
  obtain ⟨vs, hp, hl, nU, nE, k⟩ := Own.mut (xs := xs) (rest := l ++ tmp) (o.perm (by
    refine List.perm_middle.trans (List.Perm.cons _ ?_)
    rw [← List.append_assoc, ← List.append_assoc]
    exact List.Perm.append_right _ List.perm_append_comm))
  refine ⟨vs, hp, hl, fun new out pm => ?_⟩
  have o2 := k new out pm
  refine ⟨fun x u e => ?_, g.uu, fun x u e => ?_, g.nw, ⟨l, lv, o2.perm ?_⟩, g.pin⟩
  · rw [upd_ne (ne_of_none e nE)]
    exact g.eh x u e
  · rw [upd_ne (ne_of_none e nU)]
    exact g.uh x u e
  · refine List.Perm.trans ?_ List.perm_middle.symm
    refine List.Perm.cons _ ?_
    rw [← List.append_assoc, ← List.append_assoc]
    exact List.Perm.append_right _ List.perm_append_comm
/-- the frame's own start of what is frozen may be moved -/
theorem Good.rebase {E U0 U H : Hp} {L : List (Nat × V)} {σ : L2.St} {ρ : Env} {tmp : List (V × T)} (g : Good K E U0 L U H σ ρ tmp) : Good K E U L U H σ ρ tmp :=
  ⟨g.eh, Same.refl _, g.uh, fun a o e n => (by rw [e] at n; cases n), g.own, g.pin⟩
theorem Good.unbase {E U0 U U' H H' : Hp} {L L' : List (Nat × V)} {σ σ' : L2.St} {ρ ρ' : Env} {tmp tmp' : List (V × T)} (g0 : Good K E U0 L U H σ ρ tmp) (g : Good K E U L' U' H' σ' ρ' tmp') : Good K E U0 L' U' H' σ' ρ' tmp' := by
  refine ⟨g.eh, g0.uu.trans g.uu, g.uh, fun a o e n => ?_, g.own, g.pin⟩
  cases q : U a with
  | none => exact g.nw a o e q
  | some u => exact g0.nw a u q n
theorem Fin.unbase {E U0 U U' H H' : Hp} {L : List (Nat × V)} {σ : L2.St} {ρ : Env} {tmp : List (V × T)} {v : V} {τ : T} (g0 : Good K E U0 L U H σ ρ tmp) (f : Fin K E U U' H' v τ) : Fin K E U0 U' H' v τ := by
  refine ⟨f.eh, g0.uu.trans f.uu, f.uh, fun a o e n => ?_, f.own⟩
  cases q : U a with
  | none => exact f.nw a o e q
  | some u => exact g0.nw a u q n

/-! ### comprehensions -/
def wipeE (ρ : Env) : List Nat → Env
  | [] => ρ
  | v :: vs => (wipeE ρ vs).set v .no
/-- all that the names hold is frozen -/
def DatE (ρ : Env) : Prop := ∀ (i : Nat) c, ρ[i]? = some c → c = .no ∨ ∃ d, c = .at (.dat d)
theorem DatE.set {ρ : Env} (h : DatE ρ) (i : Nat) : DatE (ρ.set i .no) := fun j c e => by
  by_cases hj : i = j
  · subst hj
    by_cases hl : i < ρ.length
    · rw [List.getElem?_set_self hl] at e
      cases e
      exact .inl rfl
    · rw [List.getElem?_eq_none (by simpa using hl)] at e
      cases e
  · rw [List.getElem?_set_ne hj] at e
    exact h j c e
theorem Lv.datE {σ ρ l} (h : Lv σ ρ l) : DatE ρ → ∀ x ∈ l, ∃ d, x.2 = .dat d := by
  induction h with
  | nil => intro _ x hx; simp at hx
  | no _ ih => exact fun h x hx => ih (fun i c e => h (i + 1) c (by simpa using e)) x hx
  | «at» _ ih =>
    intro h x hx
    rcases List.mem_cons.mp hx with rfl | hx
    · rcases h 0 _ rfl with e | ⟨d, e⟩
      · cases e
      · cases e
        exact ⟨d, rfl⟩
    · exact ih (fun i c e => h (i + 1) c (by simpa using e)) x hx
  | lent _ ih =>
    intro h x hx
    rcases h 0 _ rfl with e | ⟨d, e⟩
    · cases e
    · cases e
theorem Lv.wipe {σ ρ l} (h : Lv σ ρ l) : ∀ vs : List Nat, ∃ l', Lv (L2.wipe σ vs) (wipeE ρ vs) l' ∧ ∀ x ∈ l', x ∈ l
  | [] => ⟨l, h, fun _ hx => hx⟩
  | v :: vs => by
    obtain ⟨l', h', k⟩ := Lv.wipe h vs
    have : ∀ {σ ρ l}, Lv σ ρ l → ∀ i : Nat, ∃ l', Lv (σ.set i none) (ρ.set i .no) l' ∧ ∀ x ∈ l', x ∈ l := by
      intro σ ρ l h
      induction h with
      | nil => intro i; exact ⟨[], .nil, fun _ hx => hx⟩
      | no h0 ih =>
        intro i
        cases i with
        | zero => exact ⟨_, .no h0, fun _ hx => hx⟩
        | succ i =>
          obtain ⟨l', a, b⟩ := ih i
          exact ⟨l', .no a, b⟩
      | «at» h0 ih =>
        intro i
        cases i with
        | zero => exact ⟨_, .no h0, fun _ hx => List.mem_cons_of_mem _ hx⟩
        | succ i =>
          obtain ⟨l', a, b⟩ := ih i
          exact ⟨_, .at a, fun x hx => by
            rcases List.mem_cons.mp hx with rfl | hx
            · exact List.mem_cons_self
            · exact List.mem_cons_of_mem _ (b x hx)⟩
      | lent h0 ih =>
        intro i
        cases i with
        | zero => exact ⟨_, .no h0, fun _ hx => List.mem_cons_of_mem _ hx⟩
        | succ i =>
          obtain ⟨l', a, b⟩ := ih i
          exact ⟨_, .lent a, fun x hx => by
            rcases List.mem_cons.mp hx with rfl | hx
            · exact List.mem_cons_self
            · exact List.mem_cons_of_mem _ (b x hx)⟩
    obtain ⟨l2, a, b⟩ := this h' v
    exact ⟨l2, a, fun x hx => k x (b x hx)⟩
theorem wipe_same {σ σ' : L2.St} : ∀ {vs : List Nat}, (∀ j, j ∉ vs → σ'[j]? = (L2.wipe σ vs)[j]?) → σ'.length = σ.length → L2.wipe σ' vs = L2.wipe σ vs := fun {vs} h hl => by
  apply List.ext_getElem?
  intro j
  by_cases hj : j ∈ vs
  · have e : ∀ (s : L2.St) (vs : List Nat), j ∈ vs → j < s.length → (L2.wipe s vs)[j]? = some none := by
      intro s vs
      induction vs with
      | nil => intro h; simp at h
      | cons v vs ih =>
        intro h hl
        unfold L2.wipe
        by_cases q : v = j
        · subst q
          rw [List.getElem?_set_self (by rw [wipe_length]; exact hl)]
        · rw [List.getElem?_set_ne q]
          exact ih (by rcases List.mem_cons.mp h with z | z; exact absurd z.symm q; exact z) hl
    by_cases hlt : j < σ.length
    · rw [e σ' vs hj (by omega), e σ vs hj hlt]
    · rw [List.getElem?_eq_none (by rw [wipe_length]; omega), List.getElem?_eq_none (by rw [wipe_length]; omega)]
  · rw [wipe_out hj, h j hj]
section
variable {ec : Nat → Addr} {ex : L2.St → XK}
abbrev exN : L2.St → XK := fun _ _ _ _ => False
def lcGo (gm : T → Env → R Env) (mt : Env → R Bool) (me : Env → R T) (ρ : Env) : List T → List T → R T
  | acc, [] => .ok (.lst acc)
  | acc, t :: r => match gm t ρ with
    | .ok ρ2 => (match mt ρ2 with
      | .ok true => (match me ρ2 with
        | .ok τ => if acc.length < sizeLine then lcGo gm mt me ρ (acc ++ [τ]) r else .bad
        | _ => .bad)
      | .ok false => lcGo gm mt me ρ acc r
      | _ => .bad)
    | _ => .bad
/-- from a state in which all names are frozen -/
def lcRun (vs : List Nat) (mi : Env → O3) (gm : T → Env → R Env) (mt : Env → R Bool) (me : Env → R T) (ρ : Env) : R T := match mi ρ with
  | .ok ts ρ1 => lcGo gm mt me (wipeE ρ1 vs) [] ts
  | .exc c _ => .exc c
  | .bad => .bad
theorem Good.dropAll {E U0 U H : Hp} {L : List (Nat × V)} {σ : L2.St} {ρ : Env} {tmp : List (V × T)} (g : Good K E U0 L U H σ ρ tmp) : Own K E U H tmp := by
  obtain ⟨l, lv, o⟩ := g.own
  exact o.right
theorem lc_sim {wi : TI} {g : TG} {tt : TT} {te : TE} {vs ws : List Nat} {mi : Env → O3} {gm : T → Env → R Env} {mt : Env → R Bool} {me : Env → R T} (hi : SI K ec ex wi mi) (hg : SG K g ws gm) (hw : ∀ j ∈ ws, j ∈ vs) (ht : SBt K ec exN tt mt) (he : SP K ec exN te me)
    {E U0 U H : Hp} {σ : L2.St} {ρ : Env} (g0 : Good K E U0 [] U H σ ρ []) (hd : ∀ ts ρ1, mi ρ = .ok ts ρ1 → DatE ρ1) {Q : VK} (h : PC K ec E U0 Q (ex σ) (lcRun vs mi gm mt me ρ)) : tLc wi g tt te vs σ H Q := by
  refine hi g0 _ ?_
  unfold lcRun at h
  cases ez : mi ρ with
  | exc c ρ1 =>
    rw [ez] at h
    exact fun U' H' g' => h H' g'.eh
  | bad => rw [ez] at h; exact h
  | ok ts ρ1 =>
    rw [ez] at h
    intro U1 H1 J g1 ok Dl hD
    have hdat := hd ts ρ1 ez
    -- the state without the list
    let Pv : Nat → List T → L2.Hp → Prop := fun i acc H' => ∃ U', Same U1 U' ∧ Good K E U0 [] U' H' σ ρ1 [(.ref Dl, .lst acc)] ∧ PC K ec E U0 Q (ex σ) (lcGo gm mt me (wipeE ρ1 vs) acc (ts.drop i))
    refine ⟨fun i m H' => i ≤ ts.length ∧ m = ts.length - i ∧ ∃ acc, Pv i acc H', ⟨ts.length, Nat.zero_le _, rfl, [], U1, Same.refl _, ?_, h⟩, fun i m H' hW => ?_⟩
    · exact Good.mkL (vts := []) (tmp := []) g1 hD
    · obtain ⟨hi', rfl, acc, U', sU, g', hgo⟩ := hW
      obtain ⟨stp, go⟩ := ok sU g'
      by_cases hlt : i < ts.length
      · have et : ts[i]? = some ts[i] := List.getElem?_eq_getElem hlt
        obtain ⟨gg, yl⟩ := go i _ et
        refine .inr ⟨gg, fun H'' => ∃ acc', Pv (i + 1) acc' H'', fun H'' hN => ⟨ts.length - (i + 1), by omega, by omega, rfl, hN⟩, fun x H2 y => ?_⟩
        obtain ⟨s2, gy⟩ := yl x H2 y
        rw [List.drop_eq_getElem_cons hlt] at hgo
        -- the block's own names are empty
        obtain ⟨l, lv, ow⟩ := gy.own
        obtain ⟨l', lv', sub⟩ := lv.wipe vs
        have gW : Good K E U0 [] U' H2 (L2.wipe σ vs) (wipeE ρ1 vs) ((x, ts[i]) :: [(.ref Dl, .lst acc)]) := by
          refine ⟨gy.eh, gy.uu, gy.uh, gy.nw, ⟨l', lv', ?_⟩, fun j v hj => by simp at hj⟩
          obtain ⟨G1, h1, _⟩ := ow.left
          obtain ⟨G2, h2, nd2, f2⟩ := ow.right
          have ed : TRs K U' H2 (l'.map (·.1)) (l'.map (·.2)) [] := own_dats fun z hz => by
            obtain ⟨d, e⟩ := lv.datE hdat z (sub z hz)
            exact ⟨d, e, TRs.eachD h1 z (sub z hz) d e⟩
          exact ⟨[] ++ G2, by rw [List.map_append, List.map_append]; exact TRs.join ed h2, nd2, f2⟩
        have gR := gW.rebase
        refine hg gR _ ?_
        unfold lcGo at hgo
        generalize gm ts[i] (wipeE ρ1 vs) = z at hgo ⊢
        cases z with
        | exc c => exact hgo.elim
        | bad => exact hgo.elim
        | ok ρ2 =>
          intro U3 σ3 a3 b3 g3
          refine ⟨wipe_same (fun j hj => a3 j fun q => hj (hw j q)) (b3.trans (wipe_length σ vs)), ?_⟩
          refine ht g3 _ ?_
          simp only [] at hgo
          -- what stands behind the turn
          have fin : ∀ {U4 H4 : Hp} {acc' : List T}, Same U' U4 → Same E H4 → Same U4 H4 → (∀ a o, U4 a = some o → U' a = none → E a = none) → Own K E U4 H4 [(.ref Dl, .lst acc')] → PC K ec E U0 Q (ex σ) (lcGo gm mt me (wipeE ρ1 vs) acc' (ts.drop (i + 1))) → ∃ acc', Pv (i + 1) acc' H4 := by
            intro U4 H4 acc' s4 t4 v4 w4 o4 q4
            refine ⟨acc', U4, sU.trans s4, ⟨t4, gy.uu.trans s4, v4, fun a o e n => ?_, ⟨l, lv, ?_⟩, fun j v hj => by simp at hj⟩, q4⟩
            · cases q : U' a with
              | none => exact w4 a o e q
              | some u => exact gy.nw a u q n
            · obtain ⟨G1, h1, _⟩ := ow.left
              obtain ⟨G2, h2, nd2, f2⟩ := o4
              have ed : TRs K U4 H4 (l.map (·.1)) (l.map (·.2)) [] := own_dats fun z hz => by
                obtain ⟨d, e⟩ := lv.datE hdat z hz
                exact ⟨d, e, (TRs.eachD h1 z hz d e).mono s4⟩
              exact ⟨[] ++ G2, by rw [List.map_append, List.map_append]; exact TRs.join ed h2, nd2, f2⟩
          generalize mt ρ2 = y at hgo ⊢
          cases y with
          | exc c => exact hgo.elim
          | bad => exact hgo.elim
          | ok b =>
            intro b' H4 s4 eb
            cases eb
            have g4 := g3.heap s4
            cases b with
            | false =>
              simp only [] at hgo
              refine iteF (fin (U4 := U3) g4.uu g4.eh g4.uh g4.nw g4.dropAll hgo)
            | true =>
              simp only [] at hgo
              refine iteT (he g4 _ ?_)
              generalize me ρ2 = y2 at hgo ⊢
              cases y2 with
              | exc c => exact hgo.elim
              | bad => exact hgo.elim
              | ok τ =>
                intro v U5 H5 s5 g5
                simp only [] at hgo
                obtain ⟨avs, hp, hl, k⟩ := Good.mut (xs := [(v, τ)]) (tmp := []) (g5.perm (List.Perm.swap ..))
                split at hgo
                · rename_i hz
                  refine ⟨avs, hp, by rw [hl]; exact hz, ?_⟩
                  have g6 := k (avs.zip acc ++ [(v, τ)]) [] (by simp)
                  rw [List.map_append, List.map_append, zip_map1 hl, zip_map2 hl] at g6
                  exact fin (U4 := U5) g6.uu g6.eh g6.uh g6.nw g6.dropAll hgo
                · exact hgo.elim
      · have ei : i = ts.length := by omega
        subst ei
        rw [List.drop_length] at hgo
        refine .inl ⟨stp _ (Nat.le_refl _), hgo _ U' H' ⟨g'.eh, g'.uu, g'.uh, g'.nw, g'.dropAll⟩⟩
def O3.env : O3 → Option Env
  | .ok _ ρ => some ρ
  | _ => none
/-- looked at: all that stands is frozen for the while -/
def bLc (vs : List Nat) (mi : Env → O3) (gm : T → Env → R Env) (mt : Env → R Bool) (me : Env → R T) (ρ : Env) : R D := (lcRun vs mi gm mt me (frzE ρ)).bind fun τ => .ok τ.er
/-- a new list; what its items are is new, or flat -/
def pLc (vs : List Nat) (mi : Env → O3) (gm : T → Env → R Env) (mt : Env → R Bool) (me : Env → R T) (ρ : Env) : R T := (lcRun vs mi gm mt me (frzE ρ)).bind fun τ => if τ.clean = true then .ok τ else .bad
/-- .. or frozen -/
def pLcU (vs : List Nat) (mi : Env → O3) (gm : T → Env → R Env) (mt : Env → R Bool) (me : Env → R T) (ρ : Env) : R T := lcRun vs mi gm mt me (datE ρ)
/-- the walked thing leaves frozen names frozen -/
def KeepD (mi : Env → O3) : Prop := ∀ ρ ts ρ1, DatE ρ → mi ρ = .ok ts ρ1 → DatE ρ1
theorem datE_frz (ρ : Env) : DatE (frzE ρ) := fun i c e => by
  unfold frzE at e
  rw [List.getElem?_map] at e
  obtain ⟨x, _, rfl⟩ := Option.map_eq_some_iff.mp e
  cases x with
  | no => exact .inl rfl
  | «at» t => exact .inr ⟨_, rfl⟩
  | lent t => exact .inr ⟨_, rfl⟩
theorem datE_dat (ρ : Env) : DatE (datE ρ) := fun i c e => by
  unfold datE at e
  rw [List.getElem?_map] at e
  obtain ⟨x, _, rfl⟩ := Option.map_eq_some_iff.mp e
  match x with
  | .no => exact .inl rfl
  | .at (.dat d) => exact .inr ⟨_, rfl⟩
  | .lent (.dat d) => exact .inr ⟨_, rfl⟩
  | .at (.lst _) => exact .inl rfl
  | .at (.tup _) => exact .inl rfl
  | .lent (.lst _) => exact .inl rfl
  | .lent (.tup _) => exact .inl rfl
variable {wi : TI} {g : TG} {tt : TT} {te : TE} {vs ws : List Nat} {mi : Env → O3} {gm : T → Env → R Env} {mt : Env → R Bool} {me : Env → R T}
theorem sb_lc (hi : SI K ec ex wi mi) (hk : KeepD mi) (hg : SG K g ws gm) (hw : ∀ j ∈ ws, j ∈ vs) (ht : SBt K ec exN tt mt) (he : SP K ec exN te me) : SB K ec ex (tLc wi g tt te vs) (bLc vs mi gm mt me) := by
  intro E U0 L U H σ ρ tmp g0 Q h
  refine lc_sim hi hg hw ht he g0.frz (fun ts ρ1 e => hk _ _ _ (datE_frz ρ) e) ?_
  unfold bLc at h
  generalize lcRun vs mi gm mt me (frzE ρ) = z at h ⊢
  cases z with
  | ok τ =>
    intro v U' H' f
    obtain ⟨G, hh, _⟩ := f.own
    cases hh with
    | cons a b => exact h v H' f.eh (a.er f.uh)
  | exc c => exact h
  | bad => exact h
theorem sp_lc (hi : SI K ec ex wi mi) (hk : KeepD mi) (hg : SG K g ws gm) (hw : ∀ j ∈ ws, j ∈ vs) (ht : SBt K ec exN tt mt) (he : SP K ec exN te me) : SP K ec ex (tLc wi g tt te vs) (pLc vs mi gm mt me) := by
  intro E U0 L U H σ ρ tmp g0 Q h
  refine lc_sim hi hg hw ht he g0.frz (fun ts ρ1 e => hk _ _ _ (datE_frz ρ) e) ?_
  unfold pLc at h
  generalize lcRun vs mi gm mt me (frzE ρ) = z at h ⊢
  cases z with
  | ok τ =>
    intro v U' H' f
    have h2 : PP K ec (ex σ) E U0 L σ ρ tmp H Q (if τ.clean = true then .ok τ else .bad) := h
    split at h2
    · rename_i hc
      exact h2 v U H' f.eh (g0.back f hc)
    · exact h2.elim
  | exc c => exact h
  | bad => exact h
theorem sp_lcU (hi : SI K ec ex wi mi) (hk : KeepD mi) (hg : SG K g ws gm) (hw : ∀ j ∈ ws, j ∈ vs) (ht : SBt K ec exN tt mt) (he : SP K ec exN te me) : SP K ec ex (tLc wi g tt te vs) (pLcU vs mi gm mt me) := by
  intro E U0 L U H σ ρ tmp g0 Q h
  refine lc_sim hi hg hw ht he g0.datOnly (fun ts ρ1 e => hk _ _ _ (datE_dat ρ) e) ?_
  unfold pLcU at h
  generalize lcRun vs mi gm mt me (datE ρ) = z at h ⊢
  cases z with
  | ok τ => exact fun v U' H' f => h v U' H' f.eh (g0.backU f)
  | exc c => exact h
  | bad => exact h
end
end Sm
/-! Sm, part H: statements, loops, a def as a whole. -/
namespace Sm
open PySem L2
variable {K : PySem.W.Frag}
/-! ### frozen names stay frozen -/
def KeepE (ma : Env → O2) : Prop := ∀ ρ t ρ1, DatE ρ → ma ρ = .ok t ρ1 → DatE ρ1
def KeepS (mr : Env → O3) : Prop := ∀ ρ t ρ1, DatE ρ → mr ρ = .ok t ρ1 → DatE ρ1
theorem keep_sp {mp : Env → R T} : KeepE (eSP mp) := fun ρ t ρ1 h e => by
  unfold eSP at e
  split at e
  · cases e; exact h
  · cases e
  · cases e
theorem keep_frz {i : Nat} : KeepE (eFrz i) := fun ρ t ρ1 h e => by
  unfold eFrz at e
  split at e
  · rename_i t' q
    cases e
    intro j c ej
    by_cases hj : i = j
    · subst hj
      rw [List.getElem?_set_self (List.getElem?_eq_some_iff.mp q).1] at ej
      cases ej
      exact .inr ⟨_, rfl⟩
    · rw [List.getElem?_set_ne hj] at ej
      exact h j c ej
  · cases e
theorem keep_nil : KeepS esNil := fun ρ t ρ1 h e => by
  cases e
  exact h
theorem keep_cons {ma : Env → O2} {mr : Env → O3} (ha : KeepE ma) (hr : KeepS mr) : KeepS (esCons ma mr) := fun ρ t ρ1 h e => by
  unfold esCons at e
  cases q : ma ρ with
  | ok t' ρ2 =>
    rw [q] at e
    simp only [] at e
    cases q2 : mr ρ2 with
    | ok ts ρ3 =>
      rw [q2] at e
      cases e
      exact hr _ _ _ (ha _ _ _ h q) q2
    | exc c ρ3 => rw [q2] at e; cases e
    | bad => rw [q2] at e; cases e
  | exc c ρ2 => rw [q] at e; cases e
  | bad => rw [q] at e; cases e
theorem keep_iLst {ma : Env → O2} (ha : KeepE ma) : KeepD (iLst ma) := fun ρ ts ρ1 h e => by
  unfold iLst at e
  cases q : ma ρ with
  | ok t' ρ2 =>
    rw [q] at e
    simp only [] at e
    split at e
    · cases e
      exact ha _ _ _ h q
    · cases e
  | exc c ρ2 => rw [q] at e; cases e
  | bad => rw [q] at e; cases e
theorem keep_iTp {ma : Env → O2} (ha : KeepE ma) : KeepD (iTp ma) := fun ρ ts ρ1 h e => by
  unfold iTp at e
  cases q : ma ρ with
  | ok t' ρ2 =>
    rw [q] at e
    simp only [] at e
    split at e
    · cases e
      exact ha _ _ _ h q
    · cases e
  | exc c ρ2 => rw [q] at e; cases e
  | bad => rw [q] at e; cases e
theorem keep_iZp {mr : Env → O3} (hr : KeepS mr) : KeepD (iZp mr) := fun ρ ts ρ1 h e => by
  unfold iZp at e
  split at e
  · rename_i s t ρ2 q
    split at e
    · cases e
      exact hr _ _ _ h q
    · cases e
  · cases e
  · cases e
theorem keep_iEn {mr : Env → O3} (hr : KeepS mr) : KeepD (iEn mr) := fun ρ ts ρ1 h e => by
  unfold iEn at e
  split at e
  · rename_i s ρ2 q
    split at e
    · cases e
      exact hr _ _ _ h q
    · cases e
  · cases e
  · cases e
theorem keep_iR1 {mr : Env → R (List D)} : KeepD (iR1 mr) := fun ρ ts ρ1 h e => by
  unfold iR1 at e
  split at e
  · split at e
    · cases e; exact h
    · cases e
  · cases e
  · cases e
theorem keep_iR2 {mr : Env → R (List D)} : KeepD (iR2 mr) := fun ρ ts ρ1 h e => by
  unfold iR2 at e
  split at e
  · split at e
    · cases e; exact h
    · cases e
  · cases e
  · cases e
theorem keep_iR3 {mr : Env → R (List D)} : KeepD (iR3 mr) := fun ρ ts ρ1 h e => by
  unfold iR3 at e
  split at e
  · split at e
    · cases e; exact h
    · cases e
  · cases e
  · cases e

/-! ### statements -/
inductive Out where
  | nx (ρ : Env) | rt (t : T) | bk (ρ : Env) | ct (ρ : Env) | exc (c : Nat) (ρ : Env) | bad
def PS1 (K : PySem.W.Frag) (ec : Nat → Addr) (ex : L2.St → XK) (E U0 : Hp) (L : List (Nat × V)) (tmp : List (V × T)) (D : Ends) : Out → Prop
  | .nx ρ' => ∀ U' H' σ', Good K E U0 L U' H' σ' ρ' tmp → D.nx σ' H'
  | .rt τ => ∀ v U' H', Fin K E U0 U' H' v τ → D.rt v H'
  | .bk ρ' => ∀ U' H' σ', Good K E U0 L U' H' σ' ρ' tmp → D.bk σ' H'
  | .ct ρ' => ∀ U' H' σ', Good K E U0 L U' H' σ' ρ' tmp → D.ct σ' H'
  | .exc c ρ' => ∀ U' H' σ', Good K E U0 L U' H' σ' ρ' tmp → ex σ' (.ref (ec c)) none H'
  | .bad => False
def SS (K : PySem.W.Frag) (ec : Nat → Addr) (ex : L2.St → XK) (t : TS) (m : Env → Out) : Prop :=
  ∀ ⦃E U0 : Hp⦄ ⦃L : List (Nat × V)⦄ ⦃U H : Hp⦄ ⦃σ : L2.St⦄ ⦃ρ : Env⦄ ⦃tmp : List (V × T)⦄, Good K E U0 L U H σ ρ tmp → ∀ D, PS1 K ec ex E U0 L tmp D (m ρ) → t D σ H
section
variable {ec : Nat → Addr} {ex : L2.St → XK} {ta tb te ti : TE} {t u : TS} {a b : Env → Out} {c : TT} {mc : Env → R Bool} {me : Env → O2} {ma mb : Env → R D}
def sNx (ρ : Env) : Out := .nx ρ
def sBk (ρ : Env) : Out := .bk ρ
def sCt (ρ : Env) : Out := .ct ρ
def sBad (_ : Env) : Out := .bad
def sExc (c : Nat) (ρ : Env) : Out := .exc c ρ
def sSeq (a b : Env → Out) (ρ : Env) : Out := match a ρ with
  | .nx ρ1 => b ρ1
  | o => o
theorem ss_next : SS K ec ex tNext sNx := fun _ _ _ _ _ _ _ _ g D h => h _ _ _ g
theorem ss_brk : SS K ec ex tBreak sBk := fun _ _ _ _ _ _ _ _ g D h => h _ _ _ g
theorem ss_cont : SS K ec ex tCont sCt := fun _ _ _ _ _ _ _ _ g D h => h _ _ _ g
theorem ss_never : SS K ec ex tNever sBad := fun _ _ _ _ _ _ _ _ g D h => h.elim
theorem ss_any {t : TS} : SS K ec ex t sBad := fun _ _ _ _ _ _ _ _ g D h => h.elim
theorem ss_raise (k : Nat) : SS K ec ex (fun _ σ H => ex σ (.ref (ec k)) none H) (sExc k) := fun _ _ _ _ _ _ _ _ g D h => h _ _ _ g
theorem ss_seq (h1 : SS K ec ex t a) (h2 : SS K ec ex u b) : SS K ec ex (tSeq t u) (sSeq a b) := by
  intro E U0 L U H σ ρ tmp g D h
  refine h1 g _ ?_
  unfold sSeq at h
  generalize a ρ = z at h ⊢
  cases z with
  | nx ρ1 => exact fun U' H' σ' g' => h2 g' D h
  | rt τ => exact h
  | bk ρ1 => exact h
  | ct ρ1 => exact h
  | exc k ρ1 => exact h
  | bad => exact h
def sIf (mc : Env → R Bool) (a b : Env → Out) (ρ : Env) : Out := match mc ρ with
  | .ok true => a ρ
  | .ok false => b ρ
  | .exc k => .exc k ρ
  | .bad => .bad
theorem ss_if (hc : SBt K ec ex c mc) (h1 : SS K ec ex t a) (h2 : SS K ec ex u b) : SS K ec ex (tIfS c t u) (sIf mc a b) := by
  intro E U0 L U H σ ρ tmp g D h
  refine hc g _ ?_
  unfold sIf at h
  generalize mc ρ = z at h ⊢
  cases z with
  | ok k =>
    intro k' H1 s1 e
    cases e
    cases k with
    | true => exact iteT (h1 (g.heap s1) D h)
    | false => exact iteF (h2 (g.heap s1) D h)
  | exc k => exact fun H' s => h U H' σ (g.heap s)
  | bad => exact h
def sRet (me : Env → O2) (ρ : Env) : Out := match me ρ with
  | .ok τ _ => .rt τ
  | .exc k ρ1 => .exc k ρ1
  | .bad => .bad
theorem Good.fin {E U0 U H : Hp} {L : List (Nat × V)} {σ : L2.St} {ρ : Env} {tmp : List (V × T)} {v : V} {τ : T} (g : Good K E U0 L U H σ ρ ((v, τ) :: tmp)) : Fin K E U0 U H v τ := by
  obtain ⟨l, lv, o⟩ := g.own
  exact ⟨g.eh, g.uu, g.uh, g.nw, Own.left (l := tmp) o.right⟩
theorem ss_ret (he : SE K ec ex te me) : SS K ec ex (tRet te) (sRet me) := by
  intro E U0 L U H σ ρ tmp g D h
  refine he g _ ?_
  unfold sRet at h
  generalize me ρ = z at h ⊢
  cases z with
  | ok τ ρ1 => exact fun v U' H' g' => h v U' H' g'.fin
  | exc k ρ1 => exact fun U' H' g' => h U' H' σ g'
  | bad => exact h
def sRetN (_ : Env) : Out := .rt (.dat .non)
theorem ss_retN : SS K ec ex tRetN sRetN := fun _ _ _ _ _ _ _ _ g D h => h _ _ _ (g.dat .non).fin
def sAsg (me : Env → O2) (gm : T → Env → R Env) (ρ : Env) : Out := match me ρ with
  | .ok τ ρ1 => (match gm τ ρ1 with
    | .ok ρ2 => .nx ρ2
    | _ => .bad)
  | .exc k ρ1 => .exc k ρ1
  | .bad => .bad
theorem ss_asg {g : TG} {ws : List Nat} {gm : T → Env → R Env} (he : SE K ec ex te me) (hg : SG K g ws gm) : SS K ec ex (tAsg te g) (sAsg me gm) := by
  intro E U0 L U H σ ρ tmp g0 D h
  refine he g0 _ ?_
  unfold sAsg at h
  generalize me ρ = z at h ⊢
  cases z with
  | ok τ ρ1 =>
    intro v U' H' g'
    refine hg g' _ ?_
    simp only [] at h
    generalize gm τ ρ1 = y at h ⊢
    cases y with
    | ok ρ2 => exact fun U2 σ2 _ _ g2 => h U2 H' σ2 g2
    | exc k => exact h.elim
    | bad => exact h.elim
  | exc k ρ1 => exact fun U' H' g' => h U' H' σ g'
  | bad => exact h
def sDrop (me : Env → O2) (ρ : Env) : Out := match me ρ with
  | .ok _ ρ1 => .nx ρ1
  | .exc k ρ1 => .exc k ρ1
  | .bad => .bad
theorem ss_drop (he : SE K ec ex te me) : SS K ec ex (tDrop te) (sDrop me) := by
  intro E U0 L U H σ ρ tmp g0 D h
  refine he g0 _ ?_
  unfold sDrop at h
  generalize me ρ = z at h ⊢
  cases z with
  | ok τ ρ1 => exact fun v U' H' g' => h U' H' σ g'.tail
  | exc k ρ1 => exact fun U' H' g' => h U' H' σ g'
  | bad => exact h
/-- x += e, ints -/
def sAug (i : Nat) (f : Int → Int → Int) (ma : Env → R D) (ρ : Env) : Out := match ρ[i]? with
  | some (.at (.dat (.int x))) => (match ma ρ with
    | .ok (.int y) => .nx (ρ.set i (.at (.dat (.int (f x y)))))
    | .exc k => .exc k ρ
    | _ => .bad)
  | _ => .bad
theorem ss_aug {i : Nat} {f : Int → Int → Int} (he : SB K ec ex te ma) : SS K ec ex (tAug i te (ipI f)) (sAug i f ma) := by
  intro E U0 L U H σ ρ tmp g D h
  unfold sAug at h
  split at h
  · rename_i x ex'
    obtain ⟨v, ev, r⟩ := g.rd (.inl ex')
    have ev' : v = .int x := by
      simp only [T.er] at r
      cases r
      rfl
    subst ev'
    refine ⟨_, ev, ?_⟩
    refine he g _ ?_
    generalize ma ρ = z at h ⊢
    cases z with
    | ok d =>
      intro w H1 s1 r1
      cases d with
      | int y =>
        cases r1
        exact ⟨x, y, rfl, rfl, h U H1 _ (Good.put ((g.heap s1).dat (.int (f x y))) ex' fun t q => by cases q)⟩
      | non => exact h.elim
      | bl => exact h.elim
      | str => exact h.elim
      | lst => exact h.elim
      | tup => exact h.elim
      | scr => exact h.elim
      | err => exact h.elim
    | exc k => exact fun H' s => h U H' σ (g.heap s)
    | bad => exact h
  · exact h.elim
/-! ### lists of one's own at a name -/
theorem Good.at {E U0 U H : Hp} {L : List (Nat × V)} {σ : L2.St} {ρ : Env} {tmp : List (V × T)} {i : Nat} {t : T} (g : Good K E U0 L U H σ ρ tmp) (e : ρ[i]? = some (.at t)) : ∃ v, σ[i]? = some (some v) ∧ Good K E U0 L U H σ (ρ.set i .no) ((v, t) :: tmp) := by
  obtain ⟨l, lv, o⟩ := g.own
  obtain ⟨v, l', ev, p, lv'⟩ := lv.out e
  refine ⟨v, ev, ⟨g.eh, g.uu, g.uh, g.nw, ⟨l', lv', o.perm ((List.Perm.append_right tmp p).trans List.perm_middle.symm)⟩, fun j w hj => ?_⟩⟩
  obtain ⟨a, t', b⟩ := g.pin j w hj
  refine ⟨a, t', ?_⟩
  rw [List.getElem?_set_ne fun q => by subst q; rw [e] at b; cases b]
  exact b
theorem set_same {σ : L2.St} {i : Nat} {v : V} (e : σ[i]? = some (some v)) : σ.set i (some v) = σ := by
  apply List.ext_getElem?
  intro j
  by_cases hj : i = j
  · subst hj
    rw [List.getElem?_set_self (List.getElem?_eq_some_iff.mp e).1, e]
  · rw [List.getElem?_set_ne hj]
theorem Good.re {E U0 U H : Hp} {L : List (Nat × V)} {σ : L2.St} {ρ : Env} {tmp : List (V × T)} {i : Nat} {t : T} {v : V} (g : Good K E U0 L U H σ (ρ.set i .no) ((v, t) :: tmp)) (e : σ[i]? = some (some v)) (hi : i < ρ.length) : Good K E U0 L U H σ (ρ.set i (.at t)) tmp := by
  have g2 := g.put (i := i) (c := .no) (by rw [List.getElem?_set_self hi]) fun t q => by cases q
  rw [set_same e, List.set_set] at g2
  exact g2
/-- the list at the name i: e changes its items; xs are trees at hand that may go into it -/
theorem Good.chg {E U0 U H : Hp} {L : List (Nat × V)} {σ : L2.St} {ρ : Env} {tmp xs : List (V × T)} {i : Nat} {ts : List T} (g : Good K E U0 L U H σ ρ (xs ++ tmp)) (e : ρ[i]? = some (.at (.lst ts))) : ∃ p vs, σ[i]? = some (some (.ref p)) ∧ H p = some (.lst vs) ∧ vs.length = ts.length ∧
    ∀ new out : List (V × T), (vs.zip ts ++ xs).Perm (new ++ out) → Good K E U0 L U (upd H p (.lst (new.map (·.1)))) σ (ρ.set i (.at (.lst (new.map (·.2))))) (out ++ tmp) := by
  obtain ⟨v, ev, g1⟩ := g.at e
  obtain ⟨l, lv, o⟩ := g1.own
  have hv : ∃ p, v = .ref p := by
    obtain ⟨G, h, _⟩ := o.perm List.perm_middle
    cases h with
    | cons a b => cases a with | lst => exact ⟨_, rfl⟩
  obtain ⟨p, rfl⟩ := hv
  obtain ⟨vs, hp, hl, k⟩ := g1.mut
  exact ⟨p, vs, ev, hp, hl, fun new out pm => (k new out pm).re ev (List.getElem?_eq_some_iff.mp e).1⟩
def sApp (i : Nat) (me : Env → O2) (ρ : Env) : Out := match ρ[i]? with
  | some (.at (.lst _)) => (match me ρ with
    | .ok τ ρ1 => (match ρ1[i]? with
      | some (.at (.lst ts)) => if ts.length < sizeLine then .nx (ρ1.set i (.at (.lst (ts ++ [τ])))) else .bad
      | _ => .bad)
    | .exc k ρ1 => .exc k ρ1
    | .bad => .bad)
  | _ => .bad
theorem ss_app {i : Nat} (he : SE K ec ex te me) : SS K ec ex (tDrop (tBM K "list" rAppend (tVar i) (tCons te tNil))) (sApp i me) := by
  intro E U0 L U H σ ρ tmp g D h
  unfold sApp at h
  split at h
  · rename_i ts0 e0
    obtain ⟨p, vs0, ev, hp0, _, _⟩ := Good.chg (xs := []) g e0
    refine ⟨.ref p, ev, .inl ⟨rfl, vs0, SqL.of hp0⟩, ?_⟩
    refine he g _ ?_
    generalize me ρ = z at h ⊢
    cases z with
    | ok τ ρ1 =>
      intro y U1 H1 g1
      simp only [] at h
      split at h
      · rename_i ts e1
        split at h
        · rename_i hz
          obtain ⟨p', vs, ev', hp, hl, k⟩ := Good.chg (xs := [(y, τ)]) g1 e1
          have ep : V.ref p' = V.ref p := Option.some.inj (Option.some.inj (ev'.symm.trans ev))
          cases ep
          refine ⟨p, vs, y, rfl, rfl, hp, by rw [hl]; exact hz, ?_⟩
          have g2 := k (vs.zip ts ++ [(y, τ)]) [] (by simp)
          rw [List.map_append, List.map_append, zip_map1 hl, zip_map2 hl] at g2
          exact h U1 _ σ g2
        · exact h.elim
      · exact h.elim
    | exc k ρ1 => exact fun U' H' g' => h U' H' σ g'
    | bad => exact h
  · exact h.elim
def ePop (i : Nat) (ρ : Env) : O2 := match ρ[i]? with
  | some (.at (.lst ts)) => (match ts.getLast? with
    | some τ => .ok τ (ρ.set i (.at (.lst ts.dropLast)))
    | none => .bad)
  | _ => .bad
theorem se_pop (i : Nat) : SE K ec ex (tBM0 K "list" rPop (tVar i)) (ePop i) := by
  intro E U0 L U H σ ρ tmp g Q h
  unfold ePop at h
  split at h
  · rename_i ts e0
    split at h
    · rename_i τ el
      obtain ⟨p, vs, ev, hp, hl, k⟩ := Good.chg (xs := []) g e0
      obtain ⟨ts', rfl⟩ : ∃ ts', ts = ts' ++ [τ] := by
        obtain ⟨ys, h⟩ := List.getLast?_eq_some_iff.mp el
        exact ⟨ys, h⟩
      obtain ⟨vs', y, rfl⟩ : ∃ vs' y, vs = vs' ++ [y] := by
        rcases List.eq_nil_or_concat vs with q | ⟨a, b, q⟩
        · subst q; simp at hl
        · exact ⟨a, b, by rw [q, List.concat_eq_append]⟩
      have hl' : vs'.length = ts'.length := by simpa using hl
      refine ⟨.ref p, ev, .inl ⟨rfl, _, SqL.of hp⟩, p, vs' ++ [y], y, rfl, rfl, hp, by simp, ?_⟩
      have g2 := k (vs'.zip ts') [(y, τ)] (by
        rw [List.zip_append hl']
        simp)
      rw [zip_map1 hl', zip_map2 hl'] at g2
      rw [List.dropLast_concat] at h ⊢
      exact h y U _ g2
    · exact h.elim
  · exact h.elim
/-- xs.extend(e): what e tells is taken apart -/
def sExt (i : Nat) (me : Env → O2) (ρ : Env) : Out := match ρ[i]? with
  | some (.at (.lst _)) => (match me ρ with
    | .ok (.lst us) ρ1 => (match ρ1[i]? with
      | some (.at (.lst ts)) => if ts.length + us.length ≤ sizeLine then .nx (ρ1.set i (.at (.lst (ts ++ us)))) else .bad
      | _ => .bad)
    | .exc k ρ1 => .exc k ρ1
    | _ => .bad)
  | _ => .bad
theorem Good.openL {E U0 U H : Hp} {L : List (Nat × V)} {σ : L2.St} {ρ : Env} {tmp : List (V × T)} {v : V} {ts : List T} (g : Good K E U0 L U H σ ρ ((v, .lst ts) :: tmp)) : ∃ p vs, v = .ref p ∧ H p = some (.lst vs) ∧ vs.length = ts.length ∧ Good K E U0 L U H σ ρ (vs.zip ts ++ tmp) := by
  obtain ⟨l, lv, o⟩ := g.own
  obtain ⟨G, h, nd, f⟩ := o.perm List.perm_middle
  cases h with
  | cons a b =>
    cases a with
    | lst hp r =>
      rename_i G2 p vs G1
      have hl := r.len
      refine ⟨p, vs, rfl, hp, hl, ⟨g.eh, g.uu, g.uh, g.nw, ⟨l, lv, Own.perm (l := vs.zip ts ++ (l ++ tmp)) ⟨G1 ++ G2, ?_, (List.nodup_cons.mp nd).2, fun x hx => f x (List.mem_cons_of_mem _ hx)⟩ ?_⟩, g.pin⟩⟩
      · rw [List.map_append, List.map_append (l₁ := vs.zip ts), zip_map1 hl, zip_map2 hl]
        exact TRs.join r b
      · rw [← List.append_assoc, ← List.append_assoc]
        exact List.Perm.append_right _ List.perm_append_comm
theorem ss_ext {i : Nat} (he : SE K ec ex te me) : SS K ec ex (tDrop (tBM K "list" rExtend (tVar i) (tCons te tNil))) (sExt i me) := by
  intro E U0 L U H σ ρ tmp g D h
  unfold sExt at h
  split at h
  · rename_i ts0 e0
    obtain ⟨p, vs0, ev, hp0, _, _⟩ := Good.chg (xs := []) g e0
    refine ⟨.ref p, ev, .inl ⟨rfl, vs0, SqL.of hp0⟩, ?_⟩
    refine he g _ ?_
    generalize me ρ = z at h ⊢
    cases z with
    | ok τ ρ1 =>
      intro y U1 H1 g1
      cases τ with
      | dat d => exact h.elim
      | tup us => exact h.elim
      | lst us =>
        simp only [] at h
        split at h
        · rename_i ts e1
          split at h
          · rename_i hz
            obtain ⟨b, ws, rfl, hb, hlw, g1'⟩ := g1.openL
            obtain ⟨p', vs, ev', hp, hl, k⟩ := Good.chg (xs := ws.zip us) g1' e1
            have ep : V.ref p' = V.ref p := Option.some.inj (Option.some.inj (ev'.symm.trans ev))
            cases ep
            refine ⟨p, b, vs, ws, rfl, rfl, hp, hb, by rw [hl, hlw]; exact hz, ?_⟩
            have g2 := k (vs.zip ts ++ ws.zip us) [] (by simp)
            rw [List.map_append, List.map_append, zip_map1 hl, zip_map2 hl, zip_map1 hlw, zip_map2 hlw] at g2
            exact h U1 _ σ g2
          · exact h.elim
        · exact h.elim
    | exc k ρ1 => exact fun U' H' g' => h U' H' σ g'
    | bad => exact h
  · exact h.elim
/-- xs[k] = e -/
def sSetI (i : Nat) (me : Env → O2) (mi : Env → R D) (ρ : Env) : Out := match me ρ with
  | .ok τ ρ1 => (match mi ρ1 with
    | .ok (.int k) => (match ρ1[i]? with
      | some (.at (.lst ts)) => (match ixN ts.length k with
        | some j => .nx (ρ1.set i (.at (.lst (ts.set j τ))))
        | none => .bad)
      | _ => .bad)
    | _ => .bad)
  | .exc k ρ1 => .exc k ρ1
  | .bad => .bad
theorem zip_set {α β : Type} : ∀ {xs : List α} {ys : List β} {j : Nat} {x : α} {y : β}, xs.length = ys.length → (xs.set j x).zip (ys.set j y) = (xs.zip ys).set j (x, y)
  | [], _, _, _, _, _ => by simp
  | _ :: _, [], _, _, _, h => by simp at h
  | a :: xs, b :: ys, 0, x, y, _ => by simp
  | a :: xs, b :: ys, j + 1, x, y, h => by simp [zip_set (xs := xs) (ys := ys) (by simpa using h)]
theorem set_perm {α : Type} : ∀ {l : List α} {j : Nat} {x : α} (h : j < l.length), (l ++ [x]).Perm (l.set j x ++ [l[j]])
  | [], _, _, h => by simp at h
  | a :: l, 0, x, _ => by
    simp only [List.set_cons_zero, List.getElem_cons_zero, List.cons_append]
    refine (List.Perm.cons a List.perm_append_comm).trans ?_
    refine (List.Perm.swap ..).trans (List.Perm.cons x ?_)
    exact (List.perm_append_comm (l₁ := [a]) (l₂ := l))
  | a :: l, j + 1, x, h => by
    simp only [List.set_cons_succ, List.getElem_cons_succ, List.cons_append]
    exact List.Perm.cons a (set_perm (by simpa using h))
theorem ixN_lt {n : Nat} {k : Int} {j : Nat} (h : ixN n k = some j) : j < n := by
  unfold ixN at h
  split at h
  · split at h
    · cases h; omega
    · cases h
  · split at h
    · cases h; omega
    · cases h
theorem ss_setI {i : Nat} {mi : Env → R D} (he : SE K ec ex te me) (hi : SB K ec ex ti mi) : SS K ec ex (tAsg te (gSub (tVar i) ti rSetL)) (sSetI i me mi) := by
  intro E U0 L U H σ ρ tmp g D h
  refine he g _ ?_
  unfold sSetI at h
  generalize me ρ = z at h ⊢
  cases z with
  | ok τ ρ1 =>
    intro y U1 H1 g1
    simp only [] at h
    generalize em : mi ρ1 = w at h
    cases w with
    | exc k => exact h.elim
    | bad => exact h.elim
    | ok d =>
      cases d with
      | int k =>
        simp only [] at h
        split at h
        · rename_i ts e1
          obtain ⟨p, vs0, ev, hp0, _, _⟩ := Good.chg (xs := [(y, τ)]) g1 e1
          refine ⟨.ref p, ev, ?_⟩
          refine hi g1 _ ?_
          rw [em]
          intro kv H2 s2 rk
          cases rk
          split at h
          · rename_i j ej
            obtain ⟨p', vs, ev', hp, hl, kk⟩ := Good.chg (xs := [(y, τ)]) (g1.heap s2) e1
            have ep : V.ref p' = V.ref p := Option.some.inj (Option.some.inj (ev'.symm.trans ev))
            cases ep
            refine ⟨p, vs, k, j, rfl, rfl, hp, by rw [hl]; exact ej, ?_⟩
            have hj : j < ts.length := ixN_lt ej
            have hz : j < (vs.zip ts).length := by rw [List.length_zip, hl]; omega
            have g2 := kk ((vs.zip ts).set j (y, τ)) [(vs.zip ts)[j]] (set_perm hz)
            rw [← zip_set hl, zip_map1 (by simp [hl]), zip_map2 (by simp [hl])] at g2
            exact h U1 _ σ g2.tail
          · exact h.elim
        · exact h.elim
      | non => exact h.elim
      | bl => exact h.elim
      | str => exact h.elim
      | lst => exact h.elim
      | tup => exact h.elim
      | scr => exact h.elim
      | err => exact h.elim
  | exc k ρ1 => exact fun U' H' g' => h U' H' σ g'
  | bad => exact h
/-- xs.reverse() -/
def sRev (i : Nat) (ρ : Env) : Out := match ρ[i]? with
  | some (.at (.lst ts)) => .nx (ρ.set i (.at (.lst ts.reverse)))
  | _ => .bad
theorem zip_rev {α β : Type} : ∀ {xs : List α} {ys : List β}, xs.length = ys.length → xs.reverse.zip ys.reverse = (xs.zip ys).reverse
  | [], _, _ => by simp
  | _ :: _, [], h => by simp at h
  | a :: xs, b :: ys, h => by
    rw [List.reverse_cons, List.reverse_cons, List.zip_append (by simpa using h), zip_rev (xs := xs) (ys := ys) (by simpa using h)]
    simp
theorem ss_rev {i : Nat} : SS K ec ex (tDrop (tBM0 K "list" rReverse (tVar i))) (sRev i) := by
  intro E U0 L U H σ ρ tmp g D h
  unfold sRev at h
  split at h
  · rename_i ts e0
    obtain ⟨p, vs, ev, hp, hl, k⟩ := Good.chg (xs := []) g e0
    refine ⟨.ref p, ev, .inl ⟨rfl, vs, SqL.of hp⟩, p, vs, rfl, rfl, hp, ?_⟩
    have g2 := k (vs.zip ts).reverse [] (by simpa using (List.reverse_perm _).symm)
    rw [← zip_rev hl, zip_map1 (by simpa using hl), zip_map2 (by simpa using hl)] at g2
    exact h U _ σ g2
  · exact h.elim
/-- xs.insert(k, e), k not below 0 -/
def rIns : V → List V → Hp → VK → Prop := fun x vs H Q => ∃ (l : Addr) (xs : List V) (i : Int) (y : V), x = .ref l ∧ vs = [.int i, y] ∧ H l = some (.lst xs) ∧ xs.length < sizeLine ∧ 0 ≤ i ∧ i < 2 ^ 63 ∧ Q .non (upd H l (.lst (xs.take i.toNat ++ y :: xs.drop i.toNat)))
/-! ### loops -/
def forGo (gm : T → Env → R Env) (b : Env → Out) : List T → Env → Out
  | [], ρ => .nx ρ
  | t :: r, ρ => match gm t ρ with
    | .ok ρ1 => (match b ρ1 with
      | .nx ρ2 => forGo gm b r ρ2
      | .ct ρ2 => forGo gm b r ρ2
      | .bk ρ2 => .nx ρ2
      | o => o)
    | _ => .bad
def sFor (mi : Env → O3) (gm : T → Env → R Env) (b : Env → Out) (ρ : Env) : Out := match mi ρ with
  | .ok ts ρ1 => forGo gm b ts ρ1
  | .exc k ρ1 => .exc k ρ1
  | .bad => .bad
theorem PS1.rebase {E U0 U H : Hp} {L : List (Nat × V)} {σ : L2.St} {ρ : Env} {tmp : List (V × T)} {D : Ends} {o : Out} (g : Good K E U0 L U H σ ρ tmp) (h : PS1 K ec ex E U0 L tmp D o) : PS1 K ec ex E U L tmp D o := by
  cases o with
  | nx ρ1 => exact fun U' H' σ' g' => h U' H' σ' (g.unbase g')
  | rt τ => exact fun v U' H' f => h v U' H' (f.unbase g)
  | bk ρ1 => exact fun U' H' σ' g' => h U' H' σ' (g.unbase g')
  | ct ρ1 => exact fun U' H' σ' g' => h U' H' σ' (g.unbase g')
  | exc k ρ1 => exact fun U' H' σ' g' => h U' H' σ' (g.unbase g')
  | bad => exact h
theorem ss_for {wi : TI} {g : TG} {ws : List Nat} {mi : Env → O3} {gm : T → Env → R Env} (hi : SI K ec ex wi mi) (hg : SG K g ws gm) (hb : SS K ec ex t b) : SS K ec ex (tFor wi g t) (sFor mi gm b) := by
  intro E U0 L U H σ ρ tmp g0 D h
  refine hi g0 _ ?_
  unfold sFor at h
  generalize mi ρ = z at h ⊢
  cases z with
  | exc k ρ1 => exact fun U' H' g' => h U' H' σ g'
  | bad => exact h
  | ok ts ρ1 =>
    intro U1 H1 J g1 ok
    simp only [] at h
    let Pv : Nat → L2.St → L2.Hp → Prop := fun i σ' H' => ∃ ρ' U', Same U1 U' ∧ Good K E U0 L U' H' σ' ρ' tmp ∧ PS1 K ec ex E U0 L tmp D (forGo gm b (ts.drop i) ρ')
    refine ⟨fun i m σ' H' => i ≤ ts.length ∧ m = ts.length - i ∧ Pv i σ' H', ⟨ts.length, Nat.zero_le _, rfl, ρ1, U1, Same.refl _, g1, h⟩, fun i m σ' H' hW => ?_⟩
    obtain ⟨hi', rfl, ρ', U', sU, g', hgo⟩ := hW
    obtain ⟨stp, go⟩ := ok sU g'
    by_cases hlt : i < ts.length
    · have et : ts[i]? = some ts[i] := List.getElem?_eq_getElem hlt
      obtain ⟨gg, yl⟩ := go i _ et
      refine .inr ⟨gg, Pv (i + 1), fun σ'' H'' hN => ⟨ts.length - (i + 1), by omega, by omega, rfl, hN⟩, fun x H2 y => ?_⟩
      obtain ⟨s2, gy⟩ := yl x H2 y
      rw [List.drop_eq_getElem_cons hlt] at hgo
      refine hg gy.rebase _ ?_
      unfold forGo at hgo
      generalize gm ts[i] ρ' = z at hgo ⊢
      cases z with
      | exc c => exact hgo.elim
      | bad => exact hgo.elim
      | ok ρ2 =>
        intro U3 σ3 _ _ g3
        refine hb g3 _ ?_
        simp only [] at hgo
        generalize b ρ2 = y at hgo ⊢
        cases y with
        | nx ρ4 => exact fun U4 H4 σ4 g4 => ⟨ρ4, U4, sU.trans g4.uu, g'.unbase g4, hgo⟩
        | ct ρ4 => exact fun U4 H4 σ4 g4 => ⟨ρ4, U4, sU.trans g4.uu, g'.unbase g4, hgo⟩
        | bk ρ4 => exact fun U4 H4 σ4 g4 => hgo U4 H4 σ4 (g'.unbase g4)
        | rt τ => exact fun v U4 H4 f => hgo v U4 H4 (f.unbase g')
        | exc k ρ4 => exact fun U4 H4 σ4 g4 => hgo U4 H4 σ4 (g'.unbase g4)
        | bad => exact hgo
    · have ei : i = ts.length := by omega
      subst ei
      rw [List.drop_length] at hgo
      exact .inl ⟨stp _ (Nat.le_refl _), hgo U' H' σ' g'⟩
def whGo (mc : Env → R Bool) (b : Env → Out) : Nat → Env → Out
  | 0, _ => .bad
  | n + 1, ρ => match mc ρ with
    | .ok true => (match b ρ with
      | .nx ρ2 => whGo mc b n ρ2
      | .ct ρ2 => whGo mc b n ρ2
      | .bk ρ2 => .nx ρ2
      | o => o)
    | .ok false => .nx ρ
    | .exc k => .exc k ρ
    | .bad => .bad
theorem ss_while {n : Nat} (hc : SBt K ec ex c mc) (hb : SS K ec ex t b) : SS K ec ex (tWhile c t) (whGo mc b n) := by
  intro E U0 L U H σ ρ tmp g0 D h
  refine ⟨fun m σ' H' => ∃ ρ' U', Good K E U0 L U' H' σ' ρ' tmp ∧ PS1 K ec ex E U0 L tmp D (whGo mc b m ρ'), ⟨n, ρ, U, g0, h⟩, fun m σ' H' hW => ?_⟩
  obtain ⟨ρ', U', g', hgo⟩ := hW
  cases m with
  | zero => exact hgo.elim
  | succ m =>
    refine hc g' _ ?_
    unfold whGo at hgo
    generalize mc ρ' = z at hgo ⊢
    cases z with
    | ok k =>
      intro k' H1 s1 e
      cases e
      have g1 := g'.heap s1
      cases k with
      | false => exact iteF (hgo U' H1 σ' g1)
      | true =>
        simp only [] at hgo
        refine iteT ⟨fun σ2 H2 => ∃ ρ2 U2, Good K E U0 L U2 H2 σ2 ρ2 tmp ∧ PS1 K ec ex E U0 L tmp D (whGo mc b m ρ2), fun σ2 H2 q => ⟨m, Nat.lt_succ_self _, q⟩, hb g1 _ ?_⟩
        generalize b ρ' = y at hgo ⊢
        cases y with
        | nx ρ4 => exact fun U4 H4 σ4 g4 => ⟨ρ4, U4, g4, hgo⟩
        | ct ρ4 => exact fun U4 H4 σ4 g4 => ⟨ρ4, U4, g4, hgo⟩
        | bk ρ4 => exact hgo
        | rt τ => exact hgo
        | exc k ρ4 => exact hgo
        | bad => exact hgo
    | exc k => exact fun H2 s => hgo U' H2 σ' (g'.heap s)
    | bad => exact hgo
end
/-! ### a def -/
def startE (N : Nat) (ds : List D) : Env := ds.map (fun d => Cell.at (.dat d)) ++ List.replicate (N - ds.length) .no
def runF (N : Nat) (mb : Env → Out) (ds : List D) : R T := match mb (startE N ds) with
  | .rt τ => .ok τ
  | .nx _ => .ok (.dat .non)
  | .exc c _ => .exc c
  | _ => .bad
theorem Lv.nos : ∀ n : Nat, Lv (List.replicate n none) (List.replicate n .no) []
  | 0 => .nil
  | n + 1 => .no (Lv.nos n)
theorem Lv.start {U : Hp} {vs : List V} {ds : List D} (r : Rps K U vs ds) (n : Nat) : ∃ l, Lv (vs.map some ++ List.replicate n none) (ds.map (fun d => Cell.at (.dat d)) ++ List.replicate n .no) l ∧ ∀ x ∈ l, ∃ d, x.2 = .dat d ∧ Rp K U x.1 d := by
  induction r with
  | nil => exact ⟨[], Lv.nos n, fun x hx => by simp at hx⟩
  | cons h _ ih =>
    rename_i v d _ _ _
    obtain ⟨l, a, b⟩ := ih
    refine ⟨(v, .dat d) :: l, .at a, fun x hx => ?_⟩
    rcases List.mem_cons.mp hx with rfl | hx
    · exact ⟨d, rfl, h⟩
    · exact b x hx
theorem fn_body {ec : Nat → Addr} {t : TS} {mb : Env → Out} {N : List Str} {n : Nat} {vs : List V} {H : Hp} {Q : VK} {x : XK} (h : SS K ec (fun _ => x) t mb) (hs : spM K ec n (runF N.length mb) vs H Q x) : t { nx := fun _ H' => Q .non H', rt := Q } (L2.start N vs) H := by
  obtain ⟨ds, U0, hn, sU, r, hq⟩ := hs
  obtain ⟨l, lv, k⟩ := Lv.start r (N.length - vs.length)
  have g : Good K H U0 [] U0 H (L2.start N vs) (startE N.length ds) [] := by
    refine ⟨Same.refl _, Same.refl _, sU, fun a o e n => (by rw [e] at n; cases n), ⟨l, ?_, ?_⟩, fun j v hj => by simp at hj⟩
    · unfold L2.start startE
      rw [← r.len]
      exact lv
    · exact ⟨[], by rw [List.append_nil]; exact own_dats k, List.nodup_nil, fun a ha => by simp at ha⟩
  refine h g _ ?_
  unfold runF at hq
  generalize mb (startE N.length ds) = z at hq ⊢
  cases z with
  | rt τ => exact hq
  | nx ρ1 => exact fun U' H' σ' g' => hq _ U' H' (g'.dat .non).fin
  | bk ρ1 => exact hq.elim
  | ct ρ1 => exact hq.elim
  | exc c ρ1 => exact fun U' H' σ' g' => hq H' g'.eh
  | bad => exact hq
end Sm
/-! Sm, part I: loops that forget dead names; frozen looks; trees by parts. -/
namespace Sm
open PySem L2
variable {K : PySem.W.Frag}
/-! ### dead names are forgotten -/
def Cell.wp : Cell → Cell
  | .lent t => .lent t
  | _ => .no
def wpE (ρ : Env) : List Nat → Env
  | [] => ρ
  | v :: vs => wpE (match ρ[v]? with | some c => ρ.set v c.wp | none => ρ) vs
theorem Good.wp1 {E U0 U H : Hp} {L : List (Nat × V)} {σ : L2.St} {ρ : Env} {tmp : List (V × T)} (g : Good K E U0 L U H σ ρ tmp) (v : Nat) : Good K E U0 L U H σ (match ρ[v]? with | some c => ρ.set v c.wp | none => ρ) tmp := by
  cases e : ρ[v]? with
  | none => exact g
  | some c =>
    cases c with
    | lent t =>
      have : ρ.set v (Cell.wp (.lent t)) = ρ := by
        apply List.ext_getElem?
        intro j
        by_cases hj : v = j
        · subst hj
          rw [List.getElem?_set_self (List.getElem?_eq_some_iff.mp e).1, e]
          rfl
        · rw [List.getElem?_set_ne hj]
      show Good K E U0 L U H σ (ρ.set v (Cell.wp (.lent t))) tmp
      rw [this]
      exact g
    | no =>
      obtain ⟨l, lv, o⟩ := g.own
      obtain ⟨r, l', p, lv'⟩ := lv.drop v
      refine ⟨g.eh, g.uu, g.uh, g.nw, ⟨l', lv', ?_⟩, fun j w hj => ?_⟩
      · have o1 : Own K E U H (r ++ (l' ++ tmp)) := o.perm (by
          rw [← List.append_assoc]
          exact List.Perm.append_right _ p)
        exact o1.right
      · obtain ⟨a, t', b⟩ := g.pin j w hj
        refine ⟨a, t', ?_⟩
        rw [List.getElem?_set_ne fun q => by subst q; rw [e] at b; cases b]
        exact b
    | «at» t =>
      obtain ⟨l, lv, o⟩ := g.own
      obtain ⟨r, l', p, lv'⟩ := lv.drop v
      refine ⟨g.eh, g.uu, g.uh, g.nw, ⟨l', lv', ?_⟩, fun j w hj => ?_⟩
      · have o1 : Own K E U H (r ++ (l' ++ tmp)) := o.perm (by
          rw [← List.append_assoc]
          exact List.Perm.append_right _ p)
        exact o1.right
      · obtain ⟨a, t', b⟩ := g.pin j w hj
        refine ⟨a, t', ?_⟩
        rw [List.getElem?_set_ne fun q => by subst q; rw [e] at b; cases b]
        exact b
theorem Good.wp {E U0 U H : Hp} {L : List (Nat × V)} {σ : L2.St} {tmp : List (V × T)} : ∀ (vs : List Nat) {ρ : Env}, Good K E U0 L U H σ ρ tmp → Good K E U0 L U H σ (wpE ρ vs) tmp
  | [], _, g => g
  | v :: vs, _, g => Good.wp vs (g.wp1 v)
section
variable {ec : Nat → Addr} {ex : L2.St → XK} {ta tb te ti : TE} {t u : TS} {a b : Env → Out} {c : TT} {mc : Env → R Bool} {me : Env → O2} {ma mb : Env → R D}
def forW (ws : List Nat) (gm : T → Env → R Env) (b : Env → Out) : List T → Env → Out
  | [], ρ => .nx (wpE ρ ws)
  | t :: r, ρ => match gm t (wpE ρ ws) with
    | .ok ρ1 => (match b ρ1 with
      | .nx ρ2 => forW ws gm b r ρ2
      | .ct ρ2 => forW ws gm b r ρ2
      | .bk ρ2 => .nx (wpE ρ2 ws)
      | o => o)
    | _ => .bad
def sForW (ws : List Nat) (mi : Env → O3) (gm : T → Env → R Env) (b : Env → Out) (ρ : Env) : Out := match mi ρ with
  | .ok ts ρ1 => forW ws gm b ts ρ1
  | .exc k ρ1 => .exc k ρ1
  | .bad => .bad
theorem ss_forW {wi : TI} {g : TG} {gs ws : List Nat} {mi : Env → O3} {gm : T → Env → R Env} (hi : SI K ec ex wi mi) (hg : SG K g gs gm) (hb : SS K ec ex t b) : SS K ec ex (tFor wi g t) (sForW ws mi gm b) := by
  intro E U0 L U H σ ρ tmp g0 D h
  refine hi g0 _ ?_
  unfold sForW at h
  generalize mi ρ = z at h ⊢
  cases z with
  | exc k ρ1 => exact fun U' H' g' => h U' H' σ g'
  | bad => exact h
  | ok ts ρ1 =>
    intro U1 H1 J g1 ok
    simp only [] at h
    let Pv : Nat → L2.St → L2.Hp → Prop := fun i σ' H' => ∃ ρ' U', Same U1 U' ∧ Good K E U0 L U' H' σ' ρ' tmp ∧ PS1 K ec ex E U0 L tmp D (forW ws gm b (ts.drop i) ρ')
    refine ⟨fun i m σ' H' => i ≤ ts.length ∧ m = ts.length - i ∧ Pv i σ' H', ⟨ts.length, Nat.zero_le _, rfl, ρ1, U1, Same.refl _, g1, h⟩, fun i m σ' H' hW => ?_⟩
    obtain ⟨hi', rfl, ρ', U', sU, g', hgo⟩ := hW
    obtain ⟨stp, go⟩ := ok sU (g'.wp ws)
    by_cases hlt : i < ts.length
    · have et : ts[i]? = some ts[i] := List.getElem?_eq_getElem hlt
      obtain ⟨gg, yl⟩ := go i _ et
      refine .inr ⟨gg, Pv (i + 1), fun σ'' H'' hN => ⟨ts.length - (i + 1), by omega, by omega, rfl, hN⟩, fun x H2 y => ?_⟩
      obtain ⟨s2, gy⟩ := yl x H2 y
      rw [List.drop_eq_getElem_cons hlt] at hgo
      refine hg gy.rebase _ ?_
      unfold forW at hgo
      generalize gm ts[i] (wpE ρ' ws) = z at hgo ⊢
      cases z with
      | exc c => exact hgo.elim
      | bad => exact hgo.elim
      | ok ρ2 =>
        intro U3 σ3 _ _ g3
        refine hb g3 _ ?_
        simp only [] at hgo
        generalize b ρ2 = y at hgo ⊢
        cases y with
        | nx ρ4 => exact fun U4 H4 σ4 g4 => ⟨ρ4, U4, sU.trans g4.uu, g'.unbase g4, hgo⟩
        | ct ρ4 => exact fun U4 H4 σ4 g4 => ⟨ρ4, U4, sU.trans g4.uu, g'.unbase g4, hgo⟩
        | bk ρ4 => exact fun U4 H4 σ4 g4 => hgo U4 H4 σ4 (g'.unbase (g4.wp ws))
        | rt τ => exact fun v U4 H4 f => hgo v U4 H4 (f.unbase g')
        | exc k ρ4 => exact fun U4 H4 σ4 g4 => hgo U4 H4 σ4 (g'.unbase g4)
        | bad => exact hgo
    · have ei : i = ts.length := by omega
      subst ei
      rw [List.drop_length] at hgo
      exact .inl ⟨stp _ (Nat.le_refl _), hgo U' H' σ' (g'.wp ws)⟩
def whW (ws : List Nat) (mc : Env → R Bool) (b : Env → Out) : Nat → Env → Out
  | 0, _ => .bad
  | n + 1, ρ => match mc (wpE ρ ws) with
    | .ok true => (match b (wpE ρ ws) with
      | .nx ρ2 => whW ws mc b n ρ2
      | .ct ρ2 => whW ws mc b n ρ2
      | .bk ρ2 => .nx (wpE ρ2 ws)
      | o => o)
    | .ok false => .nx (wpE ρ ws)
    | .exc k => .exc k (wpE ρ ws)
    | .bad => .bad
theorem ss_whileW {ws : List Nat} {n : Nat} (hc : SBt K ec ex c mc) (hb : SS K ec ex t b) : SS K ec ex (tWhile c t) (whW ws mc b n) := by
  intro E U0 L U H σ ρ tmp g0 D h
  refine ⟨fun m σ' H' => ∃ ρ' U', Good K E U0 L U' H' σ' ρ' tmp ∧ PS1 K ec ex E U0 L tmp D (whW ws mc b m ρ'), ⟨n, ρ, U, g0, h⟩, fun m σ' H' hW => ?_⟩
  obtain ⟨ρ', U', g', hgo⟩ := hW
  cases m with
  | zero => exact hgo.elim
  | succ m =>
    refine hc (g'.wp ws) _ ?_
    unfold whW at hgo
    generalize mc (wpE ρ' ws) = z at hgo ⊢
    cases z with
    | ok k =>
      intro k' H1 s1 e
      cases e
      have g1 := (g'.wp ws).heap s1
      cases k with
      | false => exact iteF (hgo U' H1 σ' g1)
      | true =>
        simp only [] at hgo
        refine iteT ⟨fun σ2 H2 => ∃ ρ2 U2, Good K E U0 L U2 H2 σ2 ρ2 tmp ∧ PS1 K ec ex E U0 L tmp D (whW ws mc b m ρ2), fun σ2 H2 q => ⟨m, Nat.lt_succ_self _, q⟩, hb g1 _ ?_⟩
        generalize b (wpE ρ' ws) = y at hgo ⊢
        cases y with
        | nx ρ4 => exact fun U4 H4 σ4 g4 => ⟨ρ4, U4, g4, hgo⟩
        | ct ρ4 => exact fun U4 H4 σ4 g4 => ⟨ρ4, U4, g4, hgo⟩
        | bk ρ4 => exact fun U4 H4 σ4 g4 => hgo U4 H4 σ4 (g4.wp ws)
        | rt τ => exact hgo
        | exc k ρ4 => exact hgo
        | bad => exact hgo
    | exc k => exact fun H2 s => hgo U' H2 σ' ((g'.wp ws).heap s)
    | bad => exact hgo

/-! ### frozen looks -/
/-- what is told stands in the frozen part -/
def SU (K : PySem.W.Frag) (ec : Nat → Addr) (ex : L2.St → XK) (t : TE) (m : Env → R D) : Prop :=
  ∀ ⦃E U0 : Hp⦄ ⦃L : List (Nat × V)⦄ ⦃U H : Hp⦄ ⦃σ : L2.St⦄ ⦃ρ : Env⦄ ⦃tmp : List (V × T)⦄, Good K E U0 L U H σ ρ tmp → ∀ Q, (match m ρ with
    | .ok d => ∀ v H', Same H H' → Rp K U v d → Q v H'
    | .exc c => ∀ H', Same H H' → ex σ (.ref (ec c)) none H'
    | .bad => False) → t σ H Q
def uVar (i : Nat) (ρ : Env) : R D := match ρ[i]? with
  | some (.at (.dat d)) => .ok d
  | some (.lent (.dat d)) => .ok d
  | _ => .bad
theorem Good.rdU {E U0 U H : Hp} {L : List (Nat × V)} {σ : L2.St} {ρ : Env} {tmp : List (V × T)} {i : Nat} {d : D} (g : Good K E U0 L U H σ ρ tmp) (e : ρ[i]? = some (.at (.dat d)) ∨ ρ[i]? = some (.lent (.dat d))) : ∃ v, σ[i]? = some (some v) ∧ Rp K U v d := by
  obtain ⟨l, lv, o⟩ := g.own
  obtain ⟨v, ev, hm⟩ := lv.mem e
  refine ⟨v, ev, ?_⟩
  obtain ⟨G, h, _⟩ := o.left
  exact TRs.eachD h _ hm d rfl
theorem su_var (i : Nat) : SU K ec ex (tVar i) (uVar i) := by
  intro E U0 L U H σ ρ tmp g Q h
  unfold uVar at h
  split at h
  · rename_i d e
    split at e
    · rename_i d' e'
      cases e
      obtain ⟨v, ev, r⟩ := g.rdU (.inl e')
      exact ⟨v, ev, h v H (Same.refl _) r⟩
    · rename_i d' e'
      cases e
      obtain ⟨v, ev, r⟩ := g.rdU (.inr e')
      exact ⟨v, ev, h v H (Same.refl _) r⟩
    · cases e
  · rename_i c e
    split at e <;> cases e
  · exact h.elim
theorem sb_u (h : SU K ec ex te ma) : SB K ec ex te ma := by
  intro E U0 L U H σ ρ tmp g Q hq
  refine h g _ ?_
  generalize ma ρ = z at hq ⊢
  cases z with
  | ok d => exact fun v H' s r => hq v H' s (r.mono (g.uh.trans s))
  | exc c => exact hq
  | bad => exact hq
theorem su_ix (ha : SU K ec ex ta ma) (hb : SB K ec ex tb mb) : SU K ec ex (tOp (rIx K) ta tb) (b2 ixD ma mb) := by
  intro E U0 L U H σ ρ tmp g Q h
  refine ha g _ ?_
  unfold b2 at h
  generalize ma ρ = z at h ⊢
  cases z with
  | exc c => exact h
  | bad => exact h
  | ok a =>
    intro v H1 s1 r1
    refine hb (g.heap s1) _ ?_
    simp only [R.bind] at h
    generalize mb ρ = y at h ⊢
    cases y with
    | exc c => exact fun H' s => h H' (s1.trans s)
    | bad => exact h
    | ok b =>
      intro w H2 s2 r2
      simp only [] at h
      have rH : Rp K H2 v a := r1.mono (g.uh.trans (s1.trans s2))
      have hU : Same U H2 := g.uh.trans (s1.trans s2)
      unfold ixD at h
      cases b with
      | int k =>
        cases r2
        simp only [] at h
        cases a with
        | str s =>
          cases r1
          simp only [] at h
          split at h
          · rename_i d e
            split at e
            · rename_i hl
              split at e
              · rename_i c ec
                cases e
                exact .inr (.inr ⟨_, k, c, rfl, rfl, hl, ec, h _ _ (s1.trans s2) (.str _)⟩)
              · cases e
            · cases e
          · rename_i c e; split at e <;> (try split at e) <;> cases e
          · exact h.elim
        | lst xs =>
          obtain ⟨p, vs, rfl, hp, rs⟩ := r1.lstI
          simp only [D.items] at h
          cases ed : atI xs k with
          | none => rw [ed] at h; exact h.elim
          | some d =>
            rw [ed] at h
            obtain ⟨u, eu, ru⟩ := atI_rps rs ed
            exact .inl ⟨p, vs, k, u, rfl, rfl, SqL.of (hU _ _ hp), eu, h u _ (s1.trans s2) ru⟩
        | tup xs =>
          obtain ⟨p, vs, rfl, hp, rs⟩ := r1.tupI
          simp only [D.items] at h
          cases ed : atI xs k with
          | none => rw [ed] at h; exact h.elim
          | some d =>
            rw [ed] at h
            obtain ⟨u, eu, ru⟩ := atI_rps rs ed
            exact .inr (.inl ⟨p, vs, k, u, rfl, rfl, SqT.of (hU _ _ hp), eu, h u _ (s1.trans s2) ru⟩)
        | scr ns =>
          cases r1 with
          | scr hp =>
          simp only [D.items] at h
          cases ed : atI (ns.map D.int) k with
          | none => rw [ed] at h; exact h.elim
          | some d =>
            rw [ed] at h
            obtain ⟨u, eu, ru⟩ := atI_rps (K := K) (H := U) (Rps.ints ns) ed
            exact .inl ⟨_, _, k, u, rfl, rfl, SqL.mono hU hp, eu, h u _ (s1.trans s2) ru⟩
        | non => exact h.elim
        | bl => exact h.elim
        | int => exact h.elim
        | err => exact h.elim
      | non => exact h.elim
      | bl => exact h.elim
      | str => exact h.elim
      | lst => exact h.elim
      | tup => exact h.elim
      | scr => exact h.elim
      | err => exact h.elim
def pU (ma : Env → R D) (ρ : Env) : R T := (ma ρ).bind fun d => .ok (.dat d)
theorem sp_u (h : SU K ec ex te ma) : SP K ec ex te (pU ma) := by
  intro E U0 L U H σ ρ tmp g Q hq
  refine h g _ ?_
  unfold pU at hq
  generalize ma ρ = z at hq ⊢
  cases z with
  | ok d => exact fun v H' s r => hq v U H' s ((g.heap s).dat r)
  | exc c => exact hq
  | bad => exact hq
/-! ### trees by parts -/
def SPs (K : PySem.W.Frag) (ec : Nat → Addr) (ex : L2.St → XK) (t : TA) (m : Env → R (List T)) : Prop :=
  ∀ ⦃E U0 : Hp⦄ ⦃L : List (Nat × V)⦄ ⦃U H : Hp⦄ ⦃σ : L2.St⦄ ⦃ρ : Env⦄ ⦃tmp : List (V × T)⦄, Good K E U0 L U H σ ρ tmp → ∀ Q, (match m ρ with
    | .ok ts => ∀ vts U' H', vts.map (·.2) = ts → Same H H' → Good K E U0 L U' H' σ ρ (vts ++ tmp) → Q (vts.map (·.1)) H'
    | .exc c => ∀ H', Same H H' → ex σ (.ref (ec c)) none H'
    | .bad => False) → t σ H Q
def psNil (_ : Env) : R (List T) := .ok []
def psCons (ma : Env → R T) (mr : Env → R (List T)) (ρ : Env) : R (List T) := (ma ρ).bind fun a => (mr ρ).bind fun r => .ok (a :: r)
theorem sps_nil : SPs K ec ex tNil psNil := fun _ _ _ _ _ _ _ _ g Q h => h [] _ _ rfl (Same.refl _) g
theorem sps_cons {tr : TA} {mp : Env → R T} {mr : Env → R (List T)} (ha : SP K ec ex ta mp) (hr : SPs K ec ex tr mr) : SPs K ec ex (tCons ta tr) (psCons mp mr) := by
  intro E U0 L U H σ ρ tmp g Q h
  refine ha g _ ?_
  unfold psCons at h
  generalize mp ρ = z at h ⊢
  cases z with
  | exc c => exact h
  | bad => exact h
  | ok a =>
    intro v U1 H1 s1 g1
    refine hr g1 _ ?_
    simp only [R.bind] at h
    generalize mr ρ = y at h ⊢
    cases y with
    | exc c => exact fun H' s => h H' (s1.trans s)
    | bad => exact h
    | ok r => exact fun vts U2 H2 e2 s2 g2 => h ((v, a) :: vts) U2 H2 (by simp [e2]) (s1.trans s2) (g2.perm List.perm_middle)
def pLst (mr : Env → R (List T)) (ρ : Env) : R T := (mr ρ).bind fun ts => if ts.length ≤ sizeLine then .ok (.lst ts) else .bad
def pTup (mr : Env → R (List T)) (ρ : Env) : R T := (mr ρ).bind fun ts => if ts.length ≤ sizeLine then .ok (.tup ts) else .bad
theorem sp_lst {tr : TA} {mr : Env → R (List T)} (hr : SPs K ec ex tr mr) : SP K ec ex (tLst tr) (pLst mr) := by
  intro E U0 L U H σ ρ tmp g Q h
  refine hr g _ ?_
  unfold pLst at h
  generalize mr ρ = z at h ⊢
  cases z with
  | exc c => exact h
  | bad => exact h
  | ok ts =>
    intro vts U1 H1 e1 s1 g1
    simp only [R.bind] at h
    split at h
    · rename_i hl
      refine ⟨by rw [List.length_map]; rw [← e1, List.length_map] at hl; exact hl, fun p hp => h _ U1 _ (s1.trans (same_new hp)) ?_⟩
      have g2 := g1.mkL hp
      rw [e1] at g2
      exact g2
    · exact h.elim
theorem sp_tup {tr : TA} {mr : Env → R (List T)} (hr : SPs K ec ex tr mr) : SP K ec ex (tTup tr) (pTup mr) := by
  intro E U0 L U H σ ρ tmp g Q h
  refine hr g _ ?_
  unfold pTup at h
  generalize mr ρ = z at h ⊢
  cases z with
  | exc c => exact h
  | bad => exact h
  | ok ts =>
    intro vts U1 H1 e1 s1 g1
    simp only [R.bind] at h
    split at h
    · rename_i hl
      refine ⟨by rw [List.length_map]; rw [← e1, List.length_map] at hl; exact hl, fun p hp => h _ U1 _ (s1.trans (same_new hp)) ?_⟩
      have g2 := g1.mkT hp
      rw [e1] at g2
      exact g2
    · exact h.elim
/-- a if t else b, of any trees -/
def eIf (mc : Env → R Bool) (m1 m2 : Env → O2) (ρ : Env) : O2 := match mc ρ with
  | .ok true => m1 ρ
  | .ok false => m2 ρ
  | .exc k => .exc k ρ
  | .bad => .bad
theorem se_if {m1 m2 : Env → O2} (hc : SBt K ec ex c mc) (h1 : SE K ec ex ta m1) (h2 : SE K ec ex tb m2) : SE K ec ex (tIf c ta tb) (eIf mc m1 m2) := by
  intro E U0 L U H σ ρ tmp g Q h
  refine hc g _ ?_
  unfold eIf at h
  generalize mc ρ = z at h ⊢
  cases z with
  | ok k =>
    intro k' H1 s1 e
    cases e
    cases k with
    | true => exact iteT (h1 (g.heap s1) Q h)
    | false => exact iteF (h2 (g.heap s1) Q h)
  | exc k => exact fun H' s => h U H' (g.heap s)
  | bad => exact h
/-- items of a list at hand -/
def T.lits : T → Option (List T)
  | .lst ts => some ts
  | .dat d => d.litems.map (·.map T.dat)
  | _ => none
end
end Sm
/-! Sm, part J: a def's readiness, calls by it, errors by their numbers. -/
namespace Sm
open PySem L2
variable {K : PySem.W.Frag}
def clsN : Nat → Str
  | 0 => "TrainError" | 1 => "NoTrain" | 2 => "NoStand" | 3 => "NoPaper" | 4 => "NoBox" | 5 => "NoSwitch" | 6 => "NoPlace" | 7 => "NoTable" | 8 => "NoText" | 9 => "NoRow" | 10 => "NoPiece" | 11 => "NothingLeft" | _ => "TooMany"
def ecK (K : PySem.W.Frag) (c : Nat) : Addr := He.ga K (clsN c)
abbrev FnP (K : PySem.W.Frag) (x : Str) (st : Stmt) (f : Addr) (fd : FuncData) : Prop := FunD K x x (defArgs st) (defBody st) (defScope st) [] [] f fd
/-- the def x keeps its mirror's promise, and can be called by its name -/
structure Rdy (P : Program) (w : World) (K : PySem.W.Frag) (mg : Str → Option Value) (base : Heap) (x : Str) (k : Nat) (ps : List Str) (n : Nat) (m : List D → R T) : Prop where
  ex : ∃ fd, FnOk P w K mg base (L2.CX P w) k (He.ga K x) fd ps (spM K (ecK K) n m) ∧ Binds K fd ps []
  g : mg x = some (.ref (He.ga K x))
  kp : PySem.W.keepIn K (.ref (He.ga K x)) = true
theorem passNo {X : Cx} (σ : L2.St) : PassesAt (L2.CX X.prog X.w) X σ (exN σ) := fun _ _ _ _ _ _ h => by
  obtain ⟨_, _, _, _, _, _, _, _, _, _, _, _, z⟩ := h
  exact z.elim
section
variable {X : Cx} {x : Str} {k n : Nat} {ps : List Str} {m : List D → R T} {E : XK} {W : WX} {p pos : Pos} {e : Expr} {es : List Expr} {t : TA}
theorem pe_callF (R : Rdy X.prog X.w X.K X.mg X.base x k ps n m) (hr : Room k X.A) (hg : Gl X x) (tk : Takes X (fun cls d _ H => E cls d H)) (ha : PA X (e :: es) t) (hdb : (x == ("__debug__" : Str)) = false := by decide)
    (he : starEach (e :: es) X.env = (false, eval e X.env) :: starEach es X.env := by rfl) (hpl : (backTo pos (starEach es X.env)).any (·.1) = false := by rfl) :
    PE X (.Call (.Name x p) (e :: es) [] pos) (tCallS (spM X.K (ecK X.K) n m) (fun _ => E) t) := by
  obtain ⟨fd, G, b⟩ := R.ex
  exact pe_callS (E := fun _ => E) G hr hg R.g R.kp b (fun σ => passAt tk σ) ha hdb he hpl
theorem pe_callW (R : Rdy X.prog X.w X.K X.mg X.base x k ps n m) (hr : Room k X.A) (hg : Gl X x) (tk : Takes X W) (ha : PA X (e :: es) t) (hdb : (x == ("__debug__" : Str)) = false := by decide)
    (he : starEach (e :: es) X.env = (false, eval e X.env) :: starEach es X.env := by rfl) (hpl : (backTo pos (starEach es X.env)).any (·.1) = false := by rfl) :
    PE X (.Call (.Name x p) (e :: es) [] pos) (tCallS (spM X.K (ecK X.K) n m) (WE W) t) := by
  obtain ⟨fd, G, b⟩ := R.ex
  exact pe_callS (E := WE W) G hr hg R.g R.kp b (fun σ => passAt tk σ) ha hdb he hpl
theorem pe_callN (R : Rdy X.prog X.w X.K X.mg X.base x k ps n m) (hr : Room k X.A) (hg : Gl X x) (ha : PA X (e :: es) t) (hdb : (x == ("__debug__" : Str)) = false := by decide)
    (he : starEach (e :: es) X.env = (false, eval e X.env) :: starEach es X.env := by rfl) (hpl : (backTo pos (starEach es X.env)).any (·.1) = false := by rfl) :
    PE X (.Call (.Name x p) (e :: es) [] pos) (tCallS (spM X.K (ecK X.K) n m) exN t) := by
  obtain ⟨fd, G, b⟩ := R.ex
  exact pe_callS (E := exN) G hr hg R.g R.kp b (fun σ => passNo σ) ha hdb he hpl
end
/-- an error's class, raised by its name -/
structure ExF (K : PySem.W.Frag) (mg : Str → Option Value) (x : Str) : Prop where
  g : mg x = some (.ref (He.ga K x))
  q : PySem.W.excIn K (He.ga K x) He.veBase "ValueError.__new__" = true
  k : PySem.W.keepIn K (.ref (He.ga K x)) = true
  b : PySem.W.subIn K (.ref (He.ga K x)) (.type "BaseException") = some true
  t : PySem.W.typeIn K (.ref (He.ga K x)) = some (.type "type")
theorem ExF.of {h : Heap} {mg : Str → Option Value} {x : Str} (X : K.In h) (G : h.Ns mainGlobals mg) (c : (He.Fa.glo x).ok K = true) (d : (He.Fa.exc x).ok K = true) : ExF K mg x := by
  obtain ⟨a, b, c', e⟩ := He.exc_ok d
  exact ⟨He.glo_ok X G c, a, b, c', e⟩
theorem ExF.mk' {X : Cx} {x m : Str} {j : Nat} {p p2 pos : Pos} (F : ExF X.K X.mg x) (hg : Gl X x) (hdb : (x == ("__debug__" : Str)) = false := by decide) : PMk X (.Call (.Name x p) [.Constant (.str m) j p2] [] pos) (fun _ H Q => Q (.ref (He.ga X.K x)) none H) :=
  pmk_own PySem.F.excBase_ValueError F.q F.g F.k (raises_own F.b F.t) hg hdb
/-- a def's promise from its body's walk and its simulation -/
theorem fn_len {ec : Nat → Addr} {n : Nat} {mf : List D → R T} {ps : List Str} (hn : ps.length = n) : ∀ vs H Q E, spM K ec n mf vs H Q E → vs.length = ps.length := fun vs H Q E h => by
  obtain ⟨ds, U0, hd, _, r, _⟩ := h
  rw [r.len, hd, hn]
/-- the law's promise: the mirror says True of every script -/
theorem law_sp {m : List D → R T} {n : Nat} (hm : ∀ ns : List Int, ns.length ≤ n → m [.scr ns] = .ok (.dat (.bl true))) (H : Hp) (a : Addr) (ns : List Int) (hl : ns.length ≤ n) (hS : SqL K H a (ns.map V.int)) : spM K (ecK K) 1 m [.ref a] H (fun v _ => v = .bl true) fun _ _ _ => False := by
  refine ⟨[.scr ns], H, rfl, Same.refl _, .cons (.scr hS) .nil, ?_⟩
  rw [hm ns hl]
  intro v U' H' f
  obtain ⟨G, h, _⟩ := f.own
  cases h with
  | cons a b =>
    cases a with
    | dat r => cases r with | bl => rfl
end Sm
namespace Sm
open PySem L2
/-- where no error is wished for, none leaves -/
theorem fnOk_quiet {P : Program} {w : World} {K : PySem.W.Frag} {mg : Str → Option Value} {base : Heap} {k : Nat} {f : Addr} {fd : FuncData} {ps : List Str} {sp : Sp} (F : FnOk P w K mg base (L2.CX P w) k f fd ps sp) : FnOk P w K mg base CX0 k f fd ps (fun vs H Q _ => sp vs H Q fun _ _ _ => False) := by
  refine ⟨fun vs H Q E h => F.len _ _ _ _ h, fun A outer s H args us vs Q E hr e0 b r h => codeAny_mono (F.run A outer s H args us vs Q _ hr e0 b r h) fun r s' hq => ?_⟩
  cases r with
  | error e =>
    obtain ⟨_, _, _, _, _, _, _, _, _, _, _, _, z⟩ := (show L2.CX P w outer H s (fun _ _ _ => False) e s' from hq)
    exact z.elim
  | ok fl => cases fl <;> exact hq
end Sm
/-! Sm, part K: an error that is caught and asked for its classes; a Hook with one more Bool. -/
namespace Sm
open PySem L2 PySem.Spec PyProof.Rows
variable {K : PySem.W.Frag}
/-! ### what the top must say of the classes -/
def excB (K : PySem.W.Frag) (c : Nat) : Bool :=
  decide (PySem.W.findIn K (.ref (ecK K c)) "__getattribute__" = some (some (.builtin "BaseException.__getattribute__"))) && (decide (PySem.W.findIn K (.ref (ecK K c)) "__getattr__" = some none) &&
  (decide (PySem.W.subIn K (.ref (ecK K c)) (.type "BaseException") = some true) && (PySem.W.hasDictIn K (ecK K c) && (decide (PySem.W.findIn K (.ref (ecK K c)) "__class__" = some (some (.builtin "object.__class__"))) &&
  (decide (PySem.W.specialIn K (.builtin "object.__class__") "__get__" = some (some (.builtin "getset_descriptor.__get__"))) && (decide (PySem.W.takesIn K (.builtin "object.__class__") = some true) && decide (PySem.W.mroIn K (ecK K c) (.type "object") = some true)))))))
def kinB (K : PySem.W.Frag) : Bool := (List.range 13).all fun c => excB K c && (decide (PySem.W.exmOne K (.ref (ecK K c)) (.ref (ecK K 0)) = some true) &&
  (((List.range 13).all fun d => decide (PySem.W.kitOne K (.ref (ecK K c)) (.ref (ecK K d)) = some (c == d || d == 0))) && decide (PySem.W.kitOne K (.ref (ecK K c)) (.type "ValueError") = some true)))
structure Kin (K : PySem.W.Frag) : Prop where
  exc : ∀ c, c < 13 → ExcC K (ecK K c)
  exm : ∀ c, c < 13 → PySem.W.exmOne K (.ref (ecK K c)) (.ref (ecK K 0)) = some true
  kit : ∀ c d, c < 13 → d < 13 → PySem.W.kitOne K (.ref (ecK K c)) (.ref (ecK K d)) = some (c == d || d == 0)
  val : ∀ c, c < 13 → PySem.W.kitOne K (.ref (ecK K c)) (.type "ValueError") = some true
theorem excB_ok {c : Nat} (h : excB K c = true) : ExcC K (ecK K c) := by
  obtain ⟨h1, h⟩ := He.ba h
  obtain ⟨h2, h⟩ := He.ba h
  obtain ⟨h3, h⟩ := He.ba h
  obtain ⟨h4, h⟩ := He.ba h
  obtain ⟨h5, h⟩ := He.ba h
  obtain ⟨h6, h⟩ := He.ba h
  obtain ⟨h7, h8⟩ := He.ba h
  exact ⟨of_decide_eq_true h1, of_decide_eq_true h2, of_decide_eq_true h3, h4, of_decide_eq_true h5, of_decide_eq_true h6, of_decide_eq_true h7, of_decide_eq_true h8⟩
theorem kinB_ok (h : kinB K = true) : Kin K := by
  have h1 := fun c (hc : c < 13) => List.all_eq_true.mp h c (List.mem_range.mpr hc)
  refine ⟨fun c hc => excB_ok (He.ba (h1 c hc)).1, fun c hc => of_decide_eq_true (He.ba (He.ba (h1 c hc)).2).1, fun c d hc hd => ?_, fun c hc => of_decide_eq_true (He.ba (He.ba (He.ba (h1 c hc)).2).2).2⟩
  exact of_decide_eq_true (List.all_eq_true.mp (He.ba (He.ba (He.ba (h1 c hc)).2).2).1 d (List.mem_range.mpr hd))
theorem Kin.kit' (k : Kin K) {c d : Nat} (hc : c < 13) (hd : d < 13) (h : (d == 0) = false) : PySem.W.kitOne K (.ref (ecK K c)) (.ref (ecK K d)) = some (c == d) := by
  rw [k.kit c d hc hd, h, Bool.or_false]
/-! ### a Hook with one more Bool -/
abbrev AlM : Type := He.AlD × Bool
def obsM (n : Nat) (fa : List He.Fa) (fn : List He.DefD) (ex : PySem.W.Frag → Bool) (g : Addr → Option Obj) : AlM := (He.obsD fa fn (He.frG g (He.asD g n)), ex (He.frG g (He.asD g n)))
def hookM (n : Nat) (fa : List He.Fa) (fn : List He.DefD) (ex : PySem.W.Frag → Bool) : PySem.W.Hook where
  α := AlM
  obs := fun s => obsM n fa fn ex s.heap.get?
  val := fun _ => (He.valD fn, true)
  says := fun _ h => ∃ K : PySem.W.Frag, K.In h ∧ He.SaysD fa fn K ∧ ex K = true
  of := fun _ _ e => ⟨_, He.frG_in, congrArg (fun z : AlM => z.1) e, congrArg (fun z : AlM => z.2) e⟩
  keeps := fun _ _ _ ⟨K, hK, c⟩ k => ⟨K, PySem.W.Frag.In.keeps hK k, c⟩
theorem obsM_eq {n : Nat} {fa : List He.Fa} {fn : List He.DefD} {ex : PySem.W.Frag → Bool} {g : Addr → Option Obj} {s : Shared} (h : ∀ a, g a = s.heap.get? a) : obsM n fa fn ex g = (hookM n fa fn ex).obs s := by
  have e : g = s.heap.get? := funext h
  rw [e]
  first | rfl | done
/-! ### isinstance of the error that is pinned -/
theorem call_isP {X : Cx} {a D : Addr} {oe : Obj} (C : ExcC X.K D) (hp : (a, oe) ∈ X.pn) (hz : Zc (.ref D) none oe) (hf : ∃ vs, oe.data = .fields vs) : CallR X (.builtin "isinstance") (rIsE X.K D a) := by
  intro pins s σ H xs us Q I r h
  obtain ⟨c, cv, b, rfl, hcv, e, q⟩ := h
  cases r with
  | cons r1 r2 =>
    cases r2 with
    | cons r3 r4 =>
      cases r4
      cases r1
      obtain rfl := hcv _ r3
      have hg := (I.pin (a, oe) (List.mem_append_left pins hp)).1
      obtain ⟨fv, hv⟩ := hf
      have J : PySem.W.InstAt s.heap a oe D none := by
        obtain ⟨o1, o2, o3, o4⟩ := oe
        obtain ⟨z1, z2⟩ := hz
        simp only at z1 z2 hv
        subst z1 z2 hv
        exact ⟨hg, rfl, rfl, trivial⟩
      exact PySem.W.kia_one (PySem.W.handS_kitx_exc C.hg C.hk C.hs C.hd C.ha C.hn C.ht C.hm) I.kIn J e (fun z => nomatch z) fun tk => ⟨.bl b, H, I.kept (t' := tk) fun _ _ z => z, rfl, q⟩
theorem isE_ans {D a C : Addr} {σ : L2.St} {H : Hp} {Q : VK} {b : Bool} (h0 : σ[0]? = some (some (.ref a))) (hk : PySem.W.kitOne K (.ref D) (.ref C) = some b) (q : Q (.bl b) H) : tCB (rIsE K D a) (tCons (tVar 0) (tCons (tC (.ref C)) tNil)) σ H Q :=
  ⟨_, h0, .ref C, .ref C, b, rfl, fun _ r => r, hk, q⟩
theorem isT_ans {D a : Addr} {t : String} {σ : L2.St} {H : Hp} {Q : VK} {b : Bool} (h0 : σ[0]? = some (some (.ref a))) (hk : PySem.W.kitOne K (.ref D) (.type t) = some b) (q : Q (.bl b) H) : tCB (rIsE K D a) (tCons (tVar 0) (tCons (tC (.ty t)) tNil)) σ H Q :=
  ⟨_, h0, .ty t, .type t, b, rfl, fun _ r => r, hk, q⟩
/-! ### a def that is called with the error, while it is handled -/
/-- what it promises: sp is told the error's place and object -/
def FnE (P : Program) (w : World) (K : PySem.W.Frag) (mg : Str → Option Value) (base : Heap) (k : Nat) (f : Addr) (fd : FuncData) (ps : List Str) (sp : Addr × Obj → List V → Hp → VK → Prop) : Prop :=
  ∀ (A : Around) (outer : List PySem.Env) (s : Shared) (H : Hp) (args : Args) (us : List Value) (vs : List V) (Q : VK) (p : Addr × Obj), L2H.RoomH k A → L2H.PinOk outer H s p → Env0 P w K mg base A outer s H → BindsTo s fd args (ps.zip us) → Vals vs us → vs.length = ps.length → sp p vs H Q →
    codeAny (model P w) A (.call (.ref f) args) (CR (L2.CX P w) outer P w H s Q fun _ _ _ => False) s
theorem fnE_of {P : Program} {w : World} {mg : Str → Option Value} {base : Heap} {k : Nat} {f : Addr} {fd : FuncData} {x : Str} {st : Stmt} {N ps : List Str} {sp : Addr × Obj → List V → Hp → VK → Prop} (F : FnP K x st f fd) (S : FnScope N ps (defScope st))
    (hbody : ∀ (cdv : Value) (A : Around) (outer : List PySem.Env) (s : Shared) (H : Hp) (vs : List V) (Q : VK) (p : Addr × Obj), L2H.RoomH k (A.deeper (envOfC x (defScope st) s.heap.objs.size f cdv)) → sp p vs H Q →
      ∃ t, PSs (L2H.cxH (L2.CX P w) P w K mg base N x (defScope st) f cdv A outer s H (fun _ _ _ => False) p) (defBody st) t ∧ t { nx := fun _ H' => Q .non H', rt := Q } (L2.start N vs) H) : FnE P w K mg base (k + 1) f fd ps sp := by
  intro A outer s H args us vs Q p room pin e0 bd r len hsp
  obtain ⟨oc, od, dV, kV, doc, pm, an, cdv, ct, osl, rfl, lk, hcd, _, _⟩ := F.ex
  have kept : ∀ b o, base.get? b = some o → s.heap.get? b = some o := fun b o e => (e0.bs b o e).1
  have par : ∀ y ∈ ps.zip us, (defScope st).names.lookup y.1 = some .local ∨ ((defScope st).names.lookup y.1 = some .cell ∧ ((cellsFrom (s.heap.objs.size + 1) (defScope st).names []).lookup y.1).isSome = true) := by
    rintro ⟨n, v⟩ hy
    exact (S.par n (List.of_mem_zip hy).1).imp id fun q => ⟨q, PySem.W.cellsFrom_some _ _ _ (.inl q)⟩
  have inK := e0.mod.kin.keeps kept
  refine codeAny_call_function room.depth (inK _ _ lk) rfl S.co S.gen rfl (PySem.W.codeRec_of inK hcd) (bd _ _ _ _ ?_)
  refine wpAny_newFunctionEnv_cells S.kind par fun env he s1 ic => ?_
  subst he
  refine ⟨(e0.mod.nolimit.keeps kept).keeps ic.toInCall.keep, codeAny_func ?_⟩
  obtain ⟨t, dt, go⟩ := hbody cdv A outer s H vs Q p (room.deeper _) hsp
  refine wpAny_mono (dt.run [] s1 (L2.start N vs) H _ (L2H.inv_startH S pin e0 len r ic) go) (fun fl s' hs => ?_) fun _ _ z => z
  cases fl with
  | next => obtain ⟨σ', H', J, q⟩ := hs; exact ⟨.non, H', J.os, J.bare, J.base, J.hok, rfl, q⟩
  | ret u => obtain ⟨v, σ', H', J, rv, q⟩ := hs; exact ⟨v, H', J.os, J.bare, J.base, J.hok, rv, q⟩
  | brk => exact hs.elim fun _ z => z.elim fun _ z => z.2.elim
  | cont => exact hs.elim fun _ z => z.elim fun _ z => z.2.elim
/-- kin(e) -/
def kinL (c : Nat) : List Bool := [c == 1, c == 2, c == 3, c == 4, c == 5, c == 6, c == 7, c == 8, c == 9, c == 10, c == 11, c == 12, true]
def spKin (K : PySem.W.Frag) : Addr × Obj → List V → Hp → VK → Prop := fun p vs H Q => ∃ c, c < 13 ∧ Zc (.ref (ecK K c)) none p.2 ∧ (∃ fv, p.2.data = .fields fv) ∧ vs = [.ref p.1] ∧ ∀ H' l, Same H H' → H' l = none → Q (.ref l) (upd H' l (.lst ((kinL c).map V.bl)))
/-- its reading, in the suite of the error at a -/
def tKin (K : PySem.W.Frag) (a : Addr) (cls : Value) (d : Option Addr) (i : Nat) : TE := fun σ H Q => σ[i]? = some (some (.ref a)) ∧ d = none ∧ ∃ c, c < 13 ∧ cls = .ref (ecK K c) ∧ ∀ H' l, Same H H' → H' l = none → Q (.ref l) (upd H' l (.lst ((kinL c).map V.bl)))
structure KinOk (P : Program) (w : World) (K : PySem.W.Frag) (mg : Str → Option Value) (base : Heap) (x : Str) : Prop where
  ex : ∃ fd, FnE P w K mg base 1 (He.ga K x) fd ["e"] (spKin K) ∧ Binds K fd ["e"] []
  g : mg x = some (.ref (He.ga K x))
  kp : PySem.W.keepIn K (.ref (He.ga K x)) = true
theorem pe_kin {X : Cx} {k i : Nat} {a : Addr} {oe : Obj} {pn : List (Addr × Obj)} {cls : Value} {d : Option Addr} {x n : Str} {p np pos : Pos} (R : KinOk X.prog X.w X.K X.mg X.base x) (hr : Room k X.A) (hk : 1 ≤ k) (hz : Zc cls d oe) (hf : ∃ fv, oe.data = .fields fv) (hg : Gl (X.suite a ((a, oe) :: pn)) x) (ha : PE (X.suite a ((a, oe) :: pn)) (.Name n np) (tVar i))
    (hdb : (x == ("__debug__" : Str)) = false := by decide) : PE (X.suite a ((a, oe) :: pn)) (.Call (.Name x p) [.Name n np] [] pos) (tKin X.K a cls d i) := by
  refine ⟨fun pins s σ H Q I h => ?_⟩
  obtain ⟨hi, hd, c, hc, hcl, q⟩ := h
  subst hd hcl
  obtain ⟨fd, F, b⟩ := R.ex
  have pa : PA (X.suite a ((a, oe) :: pn)) [.Name n np] (tCons (tVar i) tNil) := pa_cons ha pa_nil
  refine wpAny_Call_Name_kw (ld_glob I hg R.g ?_ hdb)
  refine PySem.W.callWith_K (h₀ := X.base) I.ok.mod.kin R.kp (thn (pa.run pos pins s σ H (fun vs H1 => vs = [.ref a] ∧ H1 = H) I ⟨_, hi, rfl, rfl⟩) fun us s1 hh => ?_) (by rfl) (by rfl)
  obtain ⟨vs, H1, I1, r, rfl, rfl⟩ := hh
  refine ⟨I1.kIn, ?_⟩
  have hl : us.length = 1 := r.length.symm
  have bd := b s1 us I1.kIn (by rw [List.append_nil]; exact hl)
  rw [List.append_nil] at bd
  have P1 := I1.pin (a, oe) (List.mem_append_left _ List.mem_cons_self)
  have pin : L2H.PinOk (X.suite a ((a, oe) :: pn)).stack H1 s1 (a, oe) := ⟨P1.1, P1.2.1, fun hm => (List.mem_cons.mp (I1.stkSub a hm)).elim P1.2.2.1 P1.2.2.2.1, P1.2.2.2.2⟩
  have room : L2H.RoomH 1 (X.suite a ((a, oe) :: pn)).A := ⟨(hr.mono hk).dp, (hr.mono hk).un⟩
  refine wpAny_call (codeAny_mono (F _ _ s1 H1 ⟨us, []⟩ us [.ref a] Q (a, oe) room pin I1.env0 bd r rfl ⟨c, hc, hz, hf, rfl, q⟩) fun res s' hq => ?_)
  cases res with
  | error e =>
    obtain ⟨_, _, _, _, _, _, _, _, _, _, _, _, z⟩ := (show L2.CX _ _ _ _ _ (fun _ _ _ => False) e s' from hq)
    exact z.elim
  | ok fl =>
    cases fl with
    | ret u => exact I1.after hq
    | next => exact False.elim hq
    | brk => exact False.elim hq
    | cont => exact False.elim hq
/-! ### try: body except TrainError as e: kin = f(e) -/
theorem Lv.junk {σ ρ l} (h : Lv σ ρ l) : ∀ {i : Nat} {x : Option V}, ρ[i]? = some .no → Lv (σ.set i x) ρ l := by
  induction h with
  | nil => intro i x e; simp at e
  | no h0 ih =>
    intro i x e
    cases i with
    | zero => exact .no h0
    | succ i => exact .no (ih (by simpa using e))
  | «at» h0 ih =>
    intro i x e
    cases i with
    | zero => simp at e
    | succ i => exact .at (ih (by simpa using e))
  | lent h0 ih =>
    intro i x e
    cases i with
    | zero => simp at e
    | succ i => exact .lent (ih (by simpa using e))
theorem Good.junk {E U0 U H : Hp} {L : List (Nat × V)} {σ : L2.St} {ρ : Env} {tmp : List (V × T)} (g : Good K E U0 L U H σ ρ tmp) {i : Nat} {x : Option V} (e : ρ[i]? = some .no) : Good K E U0 L U H (σ.set i x) ρ tmp := by
  obtain ⟨l, lv, o⟩ := g.own
  refine ⟨g.eh, g.uu, g.uh, g.nw, ⟨l, lv.junk e, o⟩, fun j v hj => ?_⟩
  obtain ⟨a, t, b⟩ := g.pin j v hj
  exact ⟨by rw [List.getElem?_set_ne fun q => by subst q; rw [e] at b; cases b]; exact a, t, b⟩
def kinT (c : Nat) : T := .lst ((kinL c).map fun b => .dat (.bl b))
def sTry (i k : Nat) (mb : Env → Out) (ρ : Env) : Out := match mb ρ with
  | .exc c ρ1 => if c < 13 ∧ i ≠ k then (match ρ1[i]? with
    | some .no => (match setC k (kinT c) ρ1 with
      | .ok ρ2 => .nx ρ2
      | _ => .bad)
    | _ => .bad) else .bad
  | o => o
def tTry (K : PySem.W.Frag) (i k : Nat) (Wout : WX) (tb : WX → TS) : TS := fun D σ H => tb (wAs K (.ref (ecK K 0)) i (fun a cls d => tAsg (tKin K a cls d i) (gName k)) Wout D) D σ H
theorem ps_tryK {X : Cx} {n : Str} {i k : Nat} {body suite : List Stmt} {b₀ : Stmt} {np pos pos' : Pos} {tb : WX → TS} {Wout : WX} (g : X.mg "TrainError" = some (.ref (ecK X.K 0))) (hN : X.N.Nodup) (hi : X.N[i]? = some n) (hln : X.env.kindOf n = some .local) (hg : Gl X "TrainError") (tk : Takes X Wout)
    (hb : ∀ (W : WX) (pn : List (Addr × Obj)) (xe : Value → Shared → Prop), Takes (X.tr pn xe) W → PassesOwn (model X.prog X.w) X.A X.env xe → PSs (X.tr pn xe) body (tb W))
    (hsu : ∀ (a : Addr) (oe : Obj) (cls : Value) (d : Option Addr) (pn : List (Addr × Obj)), Zc cls d oe → (∃ vs, oe.data = .fields vs) → PSs (X.suite a ((a, oe) :: pn)) (b₀ :: suite) (tAsg (tKin X.K a cls d i) (gName k)))
    (hs : X.stack = X.env :: X.outer := by rfl) (hf : X.env.frame = some X.env.locals := by rfl) :
    PS X (.Try body [.ExceptHandler (some (.Name "TrainError" np)) (some n) (b₀ :: suite) pos'] [] [] pos) (tTry X.K i k Wout tb) :=
  ps_try_as hs hf hN hi hln ⟨hg, by decide, .inl g⟩ tk hb hsu
theorem ss_try {ex : L2.St → XK} {i k : Nat} {tb : WX → TS} {mb : Env → Out} {Wout : WX} (kn : Kin K) (hb : ∀ W : WX, SS K (ecK K) (WE W) (tb W) mb) : SS K (ecK K) ex (tTry K i k Wout tb) (sTry i k mb) := by
  intro E U0 L U H σ ρ tmp g D' h
  refine hb _ g D' ?_
  unfold sTry at h
  generalize mb ρ = z at h ⊢
  cases z with
  | exc c ρ1 =>
    intro U' H' σ' g'
    simp only [] at h
    split at h
    · rename_i hc
      split at h
      · rename_i ei
        refine ⟨true, kn.exm c hc.1, fun _ a ha => ?_, fun z => Bool.noConfusion z⟩
        have hil : i < σ'.length := by
          obtain ⟨l, lv, _⟩ := g'.own
          rw [lv.len]
          exact (List.getElem?_eq_some_iff.mp ei).1
        refine ⟨by rw [List.getElem?_set_self hil], rfl, c, hc.1, rfl, fun H2 l s2 n2 => ?_⟩
        have g2 := (g'.heap s2).junk (x := some (.ref a)) ei
        have rb : ∀ bs : List Bool, Rps K U' (bs.map V.bl) (bs.map Sm.D.bl) := by
          intro bs
          induction bs with
          | nil => exact .nil
          | cons b r ih => exact .cons (.bl b) ih
        have g3 := (g2.dats (rb (kinL c))).mkL n2
        rw [zip_dat1 (rb _), zip_dat2 (rb _), List.map_map] at g3
        split at h
        · rename_i ρ2 e2
          unfold setC at e2
          split at e2
          · cases e2
          · rename_i cc hn ec
            cases e2
            have g4 := g3.put ec fun t q => hn t q
            exact h _ _ _ (g4.junk (x := none) (by rw [List.getElem?_set_ne hc.2.symm]; exact ei))
          · cases e2
        · exact h.elim
      · exact h.elim
    · exact h.elim
  | nx ρ1 => exact h
  | rt τ => exact h
  | bk ρ1 => exact h
  | ct ρ1 => exact h
  | bad => exact h
end Sm
/-! Sm, part L: items of trees at hand, slices, sums, copies of lists of anything; calls looked at; sorted. -/
namespace Sm
open PySem L2
variable {K : PySem.W.Frag}
def T.its : T → Option (List T)
  | .lst ts => some ts
  | .tup ts => some ts
  | .dat d => d.items.map (·.map T.dat)
def T.hits : T → Option (List T)
  | .lst ts => some ts
  | .dat (.lst ds) => some (ds.map T.dat)
  | _ => none
section
variable {E U0 U H : Hp} {L : List (Nat × V)} {σ : L2.St} {ρ : Env} {tmp : List (V × T)} {v : V} {τ : T} {ts : List T}
/-- the items of a list or tuple at hand -/
theorem Good.its (g : Good K E U0 L U H σ ρ ((v, τ) :: tmp)) (e : τ.its = some ts) : ∃ p vs, v = .ref p ∧ (SqL K H p vs ∨ SqT K H p vs) ∧ vs.length = ts.length ∧ Good K E U0 L U H σ ρ (vs.zip ts ++ tmp) := by
  cases τ with
  | lst us =>
    cases e
    obtain ⟨p, vs, rfl, hp, hl, g2⟩ := g.openL
    exact ⟨p, vs, rfl, .inl (SqL.of hp), hl, g2⟩
  | tup us =>
    cases e
    obtain ⟨p, vs, rfl, hp, hl, g2⟩ := g.open
    exact ⟨p, vs, rfl, .inr (SqT.of hp), hl, g2⟩
  | dat d =>
    obtain ⟨ds, ed, rfl⟩ := Option.map_eq_some_iff.mp e
    obtain ⟨p, vs, rfl, hs, rs⟩ := g.datOf.itemsI (K := K) ed
    refine ⟨p, vs, rfl, ?_, by rw [List.length_map]; exact rs.len, g.tail.dats rs⟩
    rcases hs with hs | hs
    · exact .inl (SqL.mono g.uh hs)
    · exact .inr (SqT.mono g.uh hs)
theorem Good.hits (g : Good K E U0 L U H σ ρ ((v, τ) :: tmp)) (e : τ.hits = some ts) : ∃ p vs, v = .ref p ∧ H p = some (.lst vs) ∧ vs.length = ts.length ∧ Good K E U0 L U H σ ρ (vs.zip ts ++ tmp) := by
  cases τ with
  | lst us =>
    cases e
    obtain ⟨p, vs, rfl, hp, hl, g2⟩ := g.openL
    exact ⟨p, vs, rfl, hp, hl, g2⟩
  | tup us => cases e
  | dat d =>
    cases d with
    | lst ds =>
      cases e
      obtain ⟨p, vs, rfl, hp, rs⟩ := g.datOf.lstI
      exact ⟨p, vs, rfl, g.uh _ _ hp, by rw [List.length_map]; exact rs.len, g.tail.dats rs⟩
    | _ => cases e
end
section
variable {ec : Nat → Addr} {ex : L2.St → XK} {ta tb te : TE} {tl th : TO} {tr : TA} {me m1 m2 : Env → O2} {mb : Env → R D} {ml mh : Env → R (Option Int)} {mr : Env → R (List D)}
/-- xs[k], the item itself -/
def ixT (τ : T) (k : Int) : Option T := match τ.its with
  | some ts => atI ts k
  | none => none
def eIx (me : Env → O2) (mb : Env → R D) (ρ : Env) : O2 := match me ρ with
  | .ok τ ρ1 => (match mb ρ1 with
    | .ok (.int k) => (match ixT τ k with
      | some t => .ok t ρ1
      | none => .bad)
    | .exc c => .exc c ρ1
    | _ => .bad)
  | .exc c ρ1 => .exc c ρ1
  | .bad => .bad
theorem getElem_perm {α : Type} : ∀ {l : List α} {j : Nat} {x : α}, l[j]? = some x → ∃ r, l.Perm (x :: r)
  | [], _, _, e => by simp at e
  | a :: l, 0, x, e => by simp at e; subst e; exact ⟨l, .refl _⟩
  | a :: l, j + 1, x, e => by
    obtain ⟨r, p⟩ := getElem_perm (l := l) (j := j) (x := x) (by simpa using e)
    exact ⟨a :: r, (p.cons a).trans (List.Perm.swap ..)⟩
theorem se_ix (ha : SE K ec ex ta me) (hb : SB K ec ex tb mb) : SE K ec ex (tOp (rIx K) ta tb) (eIx me mb) := by
  intro E U0 L U H σ ρ tmp g Q h
  refine ha g _ ?_
  unfold eIx at h
  generalize me ρ = z at h ⊢
  cases z with
  | exc c ρ1 => exact h
  | bad => exact h
  | ok τ ρ1 =>
    intro v U1 H1 g1
    refine hb g1 _ ?_
    simp only [] at h
    generalize mb ρ1 = y at h ⊢
    cases y with
    | exc c => exact fun H' s => h U1 H' (g1.heap s).tail
    | bad => exact h
    | ok b =>
      intro w H2 s2 r2
      have g2 := g1.heap s2
      cases b with
      | int k =>
        cases r2
        simp only [] at h
        unfold ixT at h
        cases ei : τ.its with
        | none => rw [ei] at h; exact h.elim
        | some ts =>
          rw [ei] at h
          simp only [] at h
          cases et : atI ts k with
          | none => rw [et] at h; exact h.elim
          | some t =>
            rw [et] at h
            obtain ⟨p, vs, rfl, hs, hl, g3⟩ := g2.its ei
            unfold atI at et
            cases ej : ixN ts.length k with
            | none => rw [ej] at et; cases et
            | some j =>
              rw [ej] at et
              have et : ts[j]? = some t := et
              have hj : j < vs.length := by rw [hl]; exact ixN_lt ej
              have ev : atI vs k = some vs[j] := by
                unfold atI
                rw [hl, ej]
                exact List.getElem?_eq_getElem hj
              obtain ⟨r, pm⟩ := getElem_perm (l := vs.zip ts) (j := j) (x := (vs[j], t)) (by rw [List.getElem?_zip_eq_some]; exact ⟨List.getElem?_eq_getElem hj, et⟩)
              have g4 : Good K E U0 L U1 H2 σ ρ1 ((vs[j], t) :: tmp) := g3.less (r := r) (by
                refine (List.Perm.append_right _ pm).trans ?_
                exact List.perm_middle.symm)
              rcases hs with hs | hs
              · exact .inl ⟨p, vs, k, _, rfl, rfl, hs, ev, h _ U1 H2 g4⟩
              · exact .inr (.inl ⟨p, vs, k, _, rfl, rfl, hs, ev, h _ U1 H2 g4⟩)
      | non => exact h.elim
      | bl => exact h.elim
      | str => exact h.elim
      | lst => exact h.elim
      | tup => exact h.elim
      | scr => exact h.elim
      | err => exact h.elim
/-- xs[a:b] -/
def T.lits' : T → Option (List T)
  | .lst ts => some ts
  | .dat d => d.litems.map (·.map T.dat)
  | _ => none
theorem Good.lits {E U0 U H : Hp} {L : List (Nat × V)} {σ : L2.St} {ρ : Env} {tmp : List (V × T)} {v : V} {τ : T} {ts : List T} (g : Good K E U0 L U H σ ρ ((v, τ) :: tmp)) (e : τ.lits' = some ts) : ∃ p vs, v = .ref p ∧ SqL K H p vs ∧ vs.length = ts.length ∧ Good K E U0 L U H σ ρ (vs.zip ts ++ tmp) := by
  cases τ with
  | lst us =>
    cases e
    obtain ⟨p, vs, rfl, hp, hl, g2⟩ := g.openL
    exact ⟨p, vs, rfl, SqL.of hp, hl, g2⟩
  | tup us => cases e
  | dat d =>
    obtain ⟨ds, ed, rfl⟩ := Option.map_eq_some_iff.mp e
    obtain ⟨p, vs, rfl, hs, rs⟩ := g.datOf.litemsI (K := K) ed
    exact ⟨p, vs, rfl, SqL.mono g.uh hs, by rw [List.length_map]; exact rs.len, g.tail.dats rs⟩
def cutT {α : Type} (xs : List α) (lo hi : Option Int) : List α := (xs.drop (HT.sIx xs.length 0 lo)).take (HT.sIx xs.length xs.length hi - HT.sIx xs.length 0 lo)
theorem cut_perm {α : Type} (l : List α) (lo hi : Option Int) : ∃ r, l.Perm (r ++ cutT l lo hi) := by
  unfold cutT
  generalize HT.sIx l.length 0 lo = a
  generalize HT.sIx l.length l.length hi - a = b
  refine ⟨l.take a ++ (l.drop a).drop b, ?_⟩
  have e : l = l.take a ++ ((l.drop a).take b ++ (l.drop a).drop b) := by rw [List.take_append_drop, List.take_append_drop]
  rw [List.append_assoc]
  conv => lhs; rw [e]
  exact List.Perm.append_left _ List.perm_append_comm
def eSl (me : Env → O2) (ml mh : Env → R (Option Int)) (ρ : Env) : O2 := match me ρ with
  | .ok τ ρ1 => (match ml ρ1, mh ρ1 with
    | .ok lo, .ok hi => (match τ.lits' with
      | some ts => .ok (.lst (cutT ts lo hi)) ρ1
      | none => .bad)
    | _, _ => .bad)
  | .exc c ρ1 => .exc c ρ1
  | .bad => .bad
theorem se_sl (ha : SE K ec ex ta me) (hl : SBo K ec ex tl ml) (hh : SBo K ec ex th mh) : SE K ec ex (tSl (rSlL K) ta tl th) (eSl me ml mh) := by
  intro E U0 L U H σ ρ tmp g Q h
  refine ha g _ ?_
  unfold eSl at h
  generalize me ρ = z at h ⊢
  cases z with
  | exc c ρ1 => exact h
  | bad => exact h
  | ok τ ρ1 =>
    intro v U1 H1 g1
    refine hl g1 _ ?_
    simp only [] at h
    cases q1 : ml ρ1 with
    | exc c => rw [q1] at h; exact h.elim
    | bad => rw [q1] at h; exact h.elim
    | ok lo =>
      cases q2 : mh ρ1 with
      | exc c => rw [q1, q2] at h; exact h.elim
      | bad => rw [q1, q2] at h; exact h.elim
      | ok hi =>
        rw [q1, q2] at h
        simp only [] at h
        intro lo' H2 s2 e2
        cases e2
        refine hh (g1.heap s2) _ ?_
        rw [q2]
        intro hi' H3 s3 e3
        cases e3
        have g3 := (g1.heap s2).heap s3
        cases ei : τ.lits' with
        | none => rw [ei] at h; exact h.elim
        | some ts =>
          rw [ei] at h
          obtain ⟨p, vs, rfl, hs, hlen, g4⟩ := g3.lits ei
          refine ⟨p, vs, rfl, hs, fun q hq => ?_⟩
          obtain ⟨r, pm⟩ := cut_perm (vs.zip ts) lo hi
          have g5 : Good K E U0 L U1 H3 σ ρ1 (cutT (vs.zip ts) lo hi ++ tmp) := g4.less (r := r) (by
            rw [← List.append_assoc]
            exact List.Perm.append_right _ pm)
          have g6 := g5.mkL hq
          have lz : (vs.zip ts).length = vs.length := by rw [List.length_zip, hlen, Nat.min_self]
          have e1 : (cutT (vs.zip ts) lo hi).map (·.1) = cutV vs lo hi := by
            unfold cutT cutV
            rw [List.map_take, List.map_drop, zip_map1 hlen, lz]
          have e2 : (cutT (vs.zip ts) lo hi).map (·.2) = cutT ts lo hi := by
            unfold cutT
            rw [List.map_take, List.map_drop, zip_map2 hlen, lz, hlen]
          rw [e1, e2] at g6
          exact h _ U1 _ g6
/-- xs + ys -/
def eCat (m1 m2 : Env → O2) (ρ : Env) : O2 := match m1 ρ with
  | .ok τ1 ρ1 => (match m2 ρ1 with
    | .ok τ2 ρ2 => (match τ1.hits, τ2.hits with
      | some a, some b => if a.length + b.length ≤ sizeLine then .ok (.lst (a ++ b)) ρ2 else .bad
      | _, _ => .bad)
    | .exc c ρ2 => .exc c ρ2
    | .bad => .bad)
  | .exc c ρ1 => .exc c ρ1
  | .bad => .bad
theorem se_cat (ha : SE K ec ex ta m1) (hb : SE K ec ex tb m2) : SE K ec ex (tOp rAddU ta tb) (eCat m1 m2) := by
  intro E U0 L U H σ ρ tmp g Q h
  refine ha g _ ?_
  unfold eCat at h
  generalize m1 ρ = z at h ⊢
  cases z with
  | exc c ρ1 => exact h
  | bad => exact h
  | ok τ1 ρ1 =>
    intro v U1 H1 g1
    refine hb g1 _ ?_
    simp only [] at h
    generalize m2 ρ1 = y at h ⊢
    cases y with
    | exc c ρ2 => exact fun U' H' g' => h U' H' g'.tail
    | bad => exact h
    | ok τ2 ρ2 =>
      intro w U2 H2 g2
      simp only [] at h
      split at h
      · rename_i a b ea eb
        split at h
        · rename_i hz
          obtain ⟨q, ws, rfl, hq, lq, g3⟩ := g2.hits eb
          obtain ⟨p, vs, rfl, hp, lp, g4⟩ := Good.hits (tmp := ws.zip b ++ tmp) (g3.perm List.perm_middle) ea
          refine .inr (.inl ⟨p, q, vs, ws, rfl, rfl, hp, hq, by rw [lp, lq]; exact hz, fun l hl => ?_⟩)
          have g5 : Good K E U0 L U2 H2 σ ρ2 ((vs.zip a ++ ws.zip b) ++ tmp) := by rw [List.append_assoc]; exact g4
          have g6 := g5.mkL hl
          rw [List.map_append, List.map_append, zip_map1 lp, zip_map2 lp, zip_map1 lq, zip_map2 lq] at g6
          exact h _ U2 _ g6
        · exact h.elim
      · exact h.elim
/-- list(x) -/
def eList (me : Env → O2) (ρ : Env) : O2 := match me ρ with
  | .ok τ ρ1 => (match τ.its with
    | some ts => .ok (.lst ts) ρ1
    | none => .bad)
  | .exc c ρ1 => .exc c ρ1
  | .bad => .bad
theorem se_list (ha : SE K ec ex ta me) : SE K ec ex (tCB (fun xs H Q => ∃ p ys, xs = [.ref p] ∧ (SqL K H p ys ∨ SqT K H p ys) ∧ ∀ l, H l = none → Q (.ref l) (upd H l (.lst ys))) (tCons ta tNil)) (eList me) := by
  intro E U0 L U H σ ρ tmp g Q h
  refine ha g _ ?_
  unfold eList at h
  generalize me ρ = z at h ⊢
  cases z with
  | exc c ρ1 => exact h
  | bad => exact h
  | ok τ ρ1 =>
    intro v U1 H1 g1
    simp only [] at h
    split at h
    · rename_i ts ei
      obtain ⟨p, vs, rfl, hs, hl, g2⟩ := g1.its ei
      refine ⟨p, vs, rfl, hs, fun l n => ?_⟩
      have g3 := g2.mkL n
      rw [zip_map1 hl, zip_map2 hl] at g3
      exact h _ U1 _ g3
    · exact h.elim
/-- tuple(x), x a list -/
def eTupOf (me : Env → O2) (ρ : Env) : O2 := match me ρ with
  | .ok τ ρ1 => (match τ.lits' with
    | some ts => .ok (.tup ts) ρ1
    | none => .bad)
  | .exc c ρ1 => .exc c ρ1
  | .bad => .bad
theorem se_tupOf (ha : SE K ec ex ta me) : SE K ec ex (tCB (fun xs H Q => ∃ p ys, xs = [.ref p] ∧ ((SqL K H p ys ∧ ∀ l, H l = none → Q (.ref l) (upd H l (.tup ys))) ∨ (SqT K H p ys ∧ Q (.ref p) H))) (tCons ta tNil)) (eTupOf me) := by
  intro E U0 L U H σ ρ tmp g Q h
  refine ha g _ ?_
  unfold eTupOf at h
  generalize me ρ = z at h ⊢
  cases z with
  | exc c ρ1 => exact h
  | bad => exact h
  | ok τ ρ1 =>
    intro v U1 H1 g1
    simp only [] at h
    split at h
    · rename_i ts ei
      obtain ⟨p, vs, rfl, hs, hl, g2⟩ := g1.lits ei
      refine ⟨p, vs, rfl, .inl ⟨hs, fun l n => ?_⟩⟩
      have g3 := g2.mkT n
      rw [zip_map1 hl, zip_map2 hl] at g3
      exact h _ U1 _ g3
    · exact h.elim
/-- .. of a new list -/
def pTupOf (mp : Env → R T) (ρ : Env) : R T := (mp ρ).bind fun τ => match τ with
  | .lst ts => .ok (.tup ts)
  | _ => .bad
theorem sp_tupOf {mp : Env → R T} (ha : SP K ec ex ta mp) : SP K ec ex (tCB (fun xs H Q => ∃ p ys, xs = [.ref p] ∧ ((SqL K H p ys ∧ ∀ l, H l = none → Q (.ref l) (upd H l (.tup ys))) ∨ (SqT K H p ys ∧ Q (.ref p) H))) (tCons ta tNil)) (pTupOf mp) := by
  intro E U0 L U H σ ρ tmp g Q h
  refine ha g _ ?_
  unfold pTupOf at h
  generalize mp ρ = z at h ⊢
  cases z with
  | exc c => exact h
  | bad => exact h
  | ok τ =>
    intro v U1 H1 s1 g1
    simp only [R.bind] at h
    split at h
    · rename_i ts
      obtain ⟨p, vs, rfl, hp, hl, g2⟩ := g1.openL
      refine ⟨p, vs, rfl, .inl ⟨SqL.of hp, fun l n => ?_⟩⟩
      have g3 := g2.mkT n
      rw [zip_map1 hl, zip_map2 hl] at g3
      exact h _ U1 _ (s1.trans (same_new n)) g3
    · exact h.elim
/-- a def's answer, looked at -/
def bCl (n : Nat) (mf : List D → R T) (mr : Env → R (List D)) (ρ : Env) : R D := (mr ρ).bind fun ds => if ds.length = n then (mf ds).bind fun τ => .ok τ.er else .bad
theorem sb_call {n : Nat} {mf : List D → R T} (ha : SBs K ec ex tr mr) : SB K ec ex (tCallS (spM K ec n mf) ex tr) (bCl n mf mr) := by
  intro E U0 L U H σ ρ tmp g Q h
  refine ha g _ (PX.bind h fun ds vs H1 _ s1 r1 h1 => ?_)
  split at h1
  · rename_i hn
    refine ⟨ds, H1, hn, Same.refl _, r1, ?_⟩
    generalize mf ds = z at h1 ⊢
    cases z with
    | ok τ =>
      intro v U' H' f
      obtain ⟨G, hh, _⟩ := f.own
      cases hh with
      | cons a b => exact h1 v H' f.eh (a.er f.uh)
    | exc c => exact h1
    | bad => exact h1
  · exact h1.elim
/-- what an expression tells is frozen -/
def eFz (me : Env → O2) (ρ : Env) : O2 := match me ρ with
  | .ok τ ρ1 => .ok (.dat τ.er) ρ1
  | o => o
theorem se_fz (ha : SE K ec ex ta me) : SE K ec ex ta (eFz me) := by
  intro E U0 L U H σ ρ tmp g Q h
  refine ha g _ ?_
  unfold eFz at h
  generalize me ρ = z at h ⊢
  cases z with
  | exc c ρ1 => exact h
  | bad => exact h
  | ok τ ρ1 =>
    intro v U1 H1 g1
    obtain ⟨U2, g2⟩ := g1.freeze
    exact h v U2 H1 g2
/-- names are frozen ahead -/
def fzC : Cell → Cell
  | .at t => .at (.dat t.er)
  | c => c
def fzE (ρ : Env) : List Nat → Env
  | [] => ρ
  | i :: is => fzE (match ρ[i]? with | some c => ρ.set i (fzC c) | none => ρ) is
theorem Good.fz1 {E U0 U H : Hp} {L : List (Nat × V)} {σ : L2.St} {ρ : Env} {tmp : List (V × T)} (g : Good K E U0 L U H σ ρ tmp) (i : Nat) : ∃ U', Good K E U0 L U' H σ (match ρ[i]? with | some c => ρ.set i (fzC c) | none => ρ) tmp := by
  cases e : ρ[i]? with
  | none => exact ⟨U, g⟩
  | some c =>
    have same : ∀ c', c = c' → fzC c' = c' → ∃ U', Good K E U0 L U' H σ (ρ.set i (fzC c)) tmp := fun c' e1 e2 => by
      subst e1
      rw [e2]
      have : ρ.set i c = ρ := by
        apply List.ext_getElem?
        intro j
        by_cases hj : i = j
        · subst hj
          rw [List.getElem?_set_self (List.getElem?_eq_some_iff.mp e).1, e]
        · rw [List.getElem?_set_ne hj]
      rw [this]
      exact ⟨U, g⟩
    cases c with
    | no => exact same _ rfl rfl
    | lent t => exact same _ rfl rfl
    | «at» t =>
      have hi : i < ρ.length := (List.getElem?_eq_some_iff.mp e).1
      obtain ⟨v, ev, g1⟩ := g.at e
      obtain ⟨U', g2⟩ := g1.freeze
      exact ⟨U', g2.re ev hi⟩
theorem Good.fz {E U0 H : Hp} {L : List (Nat × V)} {σ : L2.St} {tmp : List (V × T)} : ∀ (is : List Nat) {U : Hp} {ρ : Env}, Good K E U0 L U H σ ρ tmp → ∃ U', Good K E U0 L U' H σ (fzE ρ is) tmp
  | [], U, _, g => ⟨U, g⟩
  | i :: is, _, _, g => by
    obtain ⟨U1, g1⟩ := g.fz1 i
    exact Good.fz is g1
def eFzs (is : List Nat) (me : Env → O2) (ρ : Env) : O2 := me (fzE ρ is)
theorem se_fzs {is : List Nat} (ha : SE K ec ex ta me) : SE K ec ex ta (eFzs is me) := by
  intro E U0 L U H σ ρ tmp g Q h
  obtain ⟨U1, g1⟩ := g.fz is
  exact ha g1 Q h
theorem keep_fz (ha : KeepE me) : KeepE (eFz me) := fun ρ t ρ1 h e => by
  unfold eFz at e
  cases q : me ρ with
  | ok τ ρ2 =>
    rw [q] at e
    cases e
    exact ha _ _ _ h q
  | exc c ρ2 => rw [q] at e; cases e
  | bad => rw [q] at e; cases e
/-! frozen names stay frozen -/
theorem keep_ix (ha : KeepE me) : KeepE (eIx me mb) := fun ρ t ρ1 h e => by
  unfold eIx at e
  cases q : me ρ with
  | ok τ ρ2 =>
    rw [q] at e
    simp only [] at e
    have k := ha _ _ _ h q
    repeat' split at e
    all_goals cases e
    exact k
  | exc c ρ2 => rw [q] at e; cases e
  | bad => rw [q] at e; cases e
theorem keep_sl (ha : KeepE me) : KeepE (eSl me ml mh) := fun ρ t ρ1 h e => by
  unfold eSl at e
  cases q : me ρ with
  | ok τ ρ2 =>
    rw [q] at e
    simp only [] at e
    have k := ha _ _ _ h q
    repeat' split at e
    all_goals cases e
    exact k
  | exc c ρ2 => rw [q] at e; cases e
  | bad => rw [q] at e; cases e
theorem keep_cat (ha : KeepE m1) (hb : KeepE m2) : KeepE (eCat m1 m2) := fun ρ t ρ1 h e => by
  unfold eCat at e
  cases q : m1 ρ with
  | ok τ ρ2 =>
    rw [q] at e
    simp only [] at e
    cases q2 : m2 ρ2 with
    | ok τ2 ρ3 =>
      rw [q2] at e
      simp only [] at e
      have k := hb _ _ _ (ha _ _ _ h q) q2
      repeat' split at e
      all_goals cases e
      exact k
    | exc c ρ3 => rw [q2] at e; cases e
    | bad => rw [q2] at e; cases e
  | exc c ρ2 => rw [q] at e; cases e
  | bad => rw [q] at e; cases e
theorem keep_list (ha : KeepE me) : KeepE (eList me) := fun ρ t ρ1 h e => by
  unfold eList at e
  cases q : me ρ with
  | ok τ ρ2 =>
    rw [q] at e
    simp only [] at e
    have k := ha _ _ _ h q
    repeat' split at e
    all_goals cases e
    exact k
  | exc c ρ2 => rw [q] at e; cases e
  | bad => rw [q] at e; cases e
theorem keep_Lst {ms : Env → O3} (ha : KeepS ms) : KeepE (eLst ms) := fun ρ t ρ1 h e => by
  unfold eLst at e
  cases q : ms ρ with
  | ok τ ρ2 =>
    rw [q] at e
    simp only [] at e
    have k := ha _ _ _ h q
    repeat' split at e
    all_goals cases e
    exact k
  | exc c ρ2 => rw [q] at e; cases e
  | bad => rw [q] at e; cases e
theorem keep_Tup {ms : Env → O3} (ha : KeepS ms) : KeepE (eTup ms) := fun ρ t ρ1 h e => by
  unfold eTup at e
  cases q : ms ρ with
  | ok τ ρ2 =>
    rw [q] at e
    simp only [] at e
    have k := ha _ _ _ h q
    repeat' split at e
    all_goals cases e
    exact k
  | exc c ρ2 => rw [q] at e; cases e
  | bad => rw [q] at e; cases e
theorem keep_callU {n : Nat} {mf : List D → R T} {ms : Env → O3} (ha : KeepS ms) : KeepE (eCallU n mf ms) := fun ρ t ρ1 h e => by
  unfold eCallU at e
  cases q : ms ρ with
  | ok τ ρ2 =>
    rw [q] at e
    simp only [] at e
    have k := ha _ _ _ h q
    repeat' split at e
    all_goals cases e
    exact k
  | exc c ρ2 => rw [q] at e; cases e
  | bad => rw [q] at e; cases e
/-! sorted, of ints -/
def sortI (ns : List Int) : List Int := ns.mergeSort fun a b => decide (a ≤ b)
theorem sortI_perm (ns : List Int) : (sortI ns).Perm ns := List.mergeSort_perm _ _
theorem sortI_sorted (ns : List Int) : (sortI ns).Pairwise (· ≤ ·) := by
  have := List.pairwise_mergeSort (le := fun a b : Int => decide (a ≤ b)) (fun a b c h1 h2 => by simp at *; omega) (fun a b => by simp; omega) ns
  exact this.imp fun h => by simpa using h
theorem sorted_eq : ∀ {l l' : List Int}, l.Perm l' → l.Pairwise (· ≤ ·) → l'.Pairwise (· ≤ ·) → l = l'
  | [], l', p, _, _ => (List.Perm.nil_eq p)
  | a :: l, [], p, _, _ => by simp at p
  | a :: l, b :: l', p, h, h' => by
    have ab : a = b := by
      have m1 : a ∈ b :: l' := p.mem_iff.mp List.mem_cons_self
      have m2 : b ∈ a :: l := p.mem_iff.mpr List.mem_cons_self
      rcases List.mem_cons.mp m1 with e | m1
      · exact e
      · rcases List.mem_cons.mp m2 with e | m2
        · exact e.symm
        · have := (List.pairwise_cons.mp h).1 b m2
          have := (List.pairwise_cons.mp h').1 a m1
          omega
    subst ab
    rw [sorted_eq (List.Perm.cons_inv p) (List.pairwise_cons.mp h).2 (List.pairwise_cons.mp h').2]
def sortedD : List D → R (List D)
  | [d] => match d.litems with
    | some xs => match D.ints xs with
      | some ns => .ok ((sortI ns).map D.int)
      | none => .bad
    | none => .bad
  | _ => .bad
theorem sf_sorted (ha : SBs K ec ex tr mr) : SF K ec ex (tCB (rSortedI K) tr) (fCb sortedD mr) := by
  intro E U0 L U H σ ρ tmp g Q h
  refine ha g _ (PX.bindF h fun as vs H1 _ s1 r1 h1 => ?_)
  unfold sortedD at h1
  split at h1
  · cases r1 with
    | cons a b =>
      cases b
      split at h1
      · rename_i xs e
        split at h1
        · rename_i ns ei
          obtain ⟨p, vs, rfl, hs, rs⟩ := a.litemsI (K := K) e
          have ev := rs.intsI ei
          subst ev
          refine ⟨p, ns, rfl, hs, fun ms q pm st hq => ?_⟩
          have : ms = sortI ns := sorted_eq (pm.trans (sortI_perm ns).symm) st (sortI_sorted ns)
          subst this
          exact h1 q _ H1 (Same.refl _) hq (Rps.ints _)
        · exact h1.elim
      · exact h1.elim
  · exact h1.elim
/-- xs.insert(k, e), k not below 0 -/
def sIns (i : Nat) (mb : Env → R D) (me : Env → O2) (ρ : Env) : Out := match ρ[i]? with
  | some (.at (.lst _)) => (match mb ρ with
    | .ok (.int k) => (match me ρ with
      | .ok τ ρ1 => (match ρ1[i]? with
        | some (.at (.lst ts)) => if ts.length < sizeLine ∧ 0 ≤ k ∧ k < 4611686018427387904 then .nx (ρ1.set i (.at (.lst (ts.take k.toNat ++ τ :: ts.drop k.toNat)))) else .bad
        | _ => .bad)
      | .exc c ρ1 => .exc c ρ1
      | .bad => .bad)
    | _ => .bad)
  | _ => .bad
theorem ss_ins {i : Nat} (hb : SB K ec ex tb mb) (he : SE K ec ex te me) : SS K ec ex (tDrop (tBM K "list" rIns (tVar i) (tCons tb (tCons te tNil)))) (sIns i mb me) := by
  intro E U0 L U H σ ρ tmp g D h
  unfold sIns at h
  split at h
  · rename_i ts0 e0
    obtain ⟨p, vs0, ev, hp0, _, _⟩ := Good.chg (xs := []) g e0
    refine ⟨.ref p, ev, .inl ⟨rfl, vs0, SqL.of hp0⟩, ?_⟩
    refine hb g _ ?_
    generalize mb ρ = w at h ⊢
    cases w with
    | exc c => exact h.elim
    | bad => exact h.elim
    | ok d =>
      intro kv H1 s1 rk
      cases d with
      | int k =>
        cases rk
        refine he (g.heap s1) _ ?_
        simp only [] at h
        generalize me ρ = z at h ⊢
        cases z with
        | ok τ ρ1 =>
          intro y U1 H2 g1
          simp only [] at h
          split at h
          · rename_i ts e1
            split at h
            · rename_i hz
              obtain ⟨p', vs, ev', hp, hl, k2⟩ := Good.chg (xs := [(y, τ)]) g1 e1
              have ep : V.ref p' = V.ref p := Option.some.inj (Option.some.inj (ev'.symm.trans ev))
              cases ep
              refine ⟨p, vs, k, y, rfl, rfl, hp, by rw [hl]; exact hz.1, hz.2.1, by omega, ?_⟩
              have g2 := k2 ((vs.zip ts).take k.toNat ++ (y, τ) :: (vs.zip ts).drop k.toNat) [] (by
                rw [List.append_nil]
                refine List.Perm.trans ?_ List.perm_middle.symm
                rw [List.take_append_drop]
                exact List.perm_append_comm)
              rw [List.map_append, List.map_append, List.map_cons, List.map_cons, List.map_take, List.map_take, List.map_drop, List.map_drop, zip_map1 hl, zip_map2 hl] at g2
              exact h U1 _ σ g2
            · exact h.elim
          · exact h.elim
        | exc c ρ1 => exact fun U' H' g' => h U' H' σ g'
        | bad => exact h
      | non => exact h.elim
      | bl => exact h.elim
      | str => exact h.elim
      | lst => exact h.elim
      | tup => exact h.elim
      | scr => exact h.elim
      | err => exact h.elim
  · exact h.elim
/-- a list of lists: the k-th one is changed -/
theorem Own.inner {E U H : Hp} {p : Addr} {ts : List T} {rest : List (V × T)} (o : Own K E U H ((.ref p, .lst ts) :: rest)) : ∃ vs, H p = some (.lst vs) ∧ vs.length = ts.length ∧ U p = none ∧ E p = none ∧ Own K (upd E p (.lst vs)) U H (vs.zip ts ++ rest) := by
  obtain ⟨G, h, nd, f⟩ := o
  cases h with
  | cons a b =>
    cases a with
    | lst hp r =>
      rename_i G2 vs G1
      have hl := r.len
      have nd' := List.nodup_cons.mp nd
      refine ⟨vs, hp, hl, (f p List.mem_cons_self).1, (f p List.mem_cons_self).2, G1 ++ G2, ?_, nd'.2, fun x hx => ⟨(f x (List.mem_cons_of_mem _ hx)).1, ?_⟩⟩
      · rw [List.map_append, List.map_append (l₁ := vs.zip ts), zip_map1 hl, zip_map2 hl]
        exact TRs.join r b
      · rw [upd_ne (fun e => by subst e; exact nd'.1 hx)]
        exact (f x (List.mem_cons_of_mem _ hx)).2
theorem Own.outer {E U H : Hp} {p : Addr} {vs : List V} {ts : List T} {o : HO} {rest : List (V × T)} (hl : vs.length = ts.length) (hp : H p = some (.lst vs)) (nU : U p = none) (nE : E p = none) (w : Own K (upd E p o) U H (vs.zip ts ++ rest)) : Own K E U H ((.ref p, .lst ts) :: rest) := by
  obtain ⟨G, h, nd, f⟩ := w
  rw [List.map_append, List.map_append (l₁ := vs.zip ts), zip_map1 hl, zip_map2 hl] at h
  obtain ⟨G1, G2, rfl, h1, h2⟩ := TRs.split h hl
  have np : p ∉ G1 ++ G2 := fun hm => by
    have := (f p hm).2
    rw [upd_same] at this
    cases this
  refine ⟨(p :: G1) ++ G2, .cons (.lst hp h1) h2, List.nodup_cons.mpr ⟨np, nd⟩, fun x hx => ?_⟩
  rcases List.mem_cons.mp hx with rfl | hx
  · exact ⟨nU, nE⟩
  · have hx' : x ∈ G1 ++ G2 := hx
    have q := f x hx'
    have ne : x ≠ p := fun e => np (by rw [← e]; exact hx')
    have q2 := q.2
    rw [upd_ne ne] at q2
    exact ⟨q.1, q2⟩
/-- xs[k].append(e), e flat -/
def sAppI (i : Nat) (mb : Env → R D) (ma : Env → R D) (ρ : Env) : Out := match ρ[i]? with
  | some (.at (.lst ts)) => (match mb ρ with
    | .ok (.int k) => (match ixN ts.length k with
      | some j => (match ts[j]? with
        | some (.lst us) => (match ma ρ with
          | .ok d => if d.flat = true ∧ us.length < sizeLine then .nx (ρ.set i (.at (.lst (ts.set j (.lst (us ++ [.dat d])))))) else .bad
          | _ => .bad)
        | _ => .bad)
      | none => .bad)
    | _ => .bad)
  | _ => .bad
theorem get_split {α : Type} : ∀ {l : List α} {j : Nat} {x : α}, l[j]? = some x → ∃ a b, l = a ++ x :: b ∧ a.length = j
  | [], _, _, e => by simp at e
  | y :: l, 0, x, e => by simp at e; subst e; exact ⟨[], l, rfl, rfl⟩
  | y :: l, j + 1, x, e => by
    obtain ⟨a, b, e1, e2⟩ := get_split (l := l) (j := j) (x := x) (by simpa using e)
    exact ⟨y :: a, b, by rw [e1]; rfl, by simp [e2]⟩
theorem ss_appI {i : Nat} {ma : Env → R D} (hb : SB K ec ex tb mb) (he : SB K ec ex te ma) : SS K ec ex (tDrop (tBM K "list" rAppend (tOp (rIx K) (tVar i) tb) (tCons te tNil))) (sAppI i mb ma) := by
  intro E U0 L U H σ ρ tmp g D h
  unfold sAppI at h
  split at h
  · rename_i ts e0
    obtain ⟨p, vs, ev, hp, hl, _⟩ := Good.chg (xs := []) g e0
    refine ⟨.ref p, ev, ?_⟩
    refine hb g _ ?_
    generalize mb ρ = w at h ⊢
    cases w with
    | exc c => exact h.elim
    | bad => exact h.elim
    | ok d =>
      intro kv H1 s1 rk
      cases d with
      | int k =>
        cases rk
        simp only [] at h
        split at h
        · rename_i j ej
          split at h
          · rename_i us et
            have hj : j < vs.length := by rw [hl]; exact ixN_lt ej
            have eat : atI vs k = some vs[j] := by
              unfold atI
              rw [hl, ej]
              exact List.getElem?_eq_getElem hj
            refine .inl ⟨p, vs, k, vs[j], rfl, rfl, SqL.of (s1 _ _ hp), eat, ?_⟩
            have g1 := g.heap s1
            -- the inner list's place
            have key : ∀ {U2 H2 : Hp} {ρ2 : Env} {tmp2 : List (V × T)}, Good K E U0 L U2 H2 σ ρ2 tmp2 → ρ2[i]? = some (.at (.lst ts)) → H2 p = some (.lst vs) → ∃ q xs, vs[j] = .ref q ∧ H2 q = some (.lst xs) ∧ xs.length = us.length ∧
                ∀ y τ tmp3, tmp2 = (y, τ) :: tmp3 → Good K E U0 L U2 (upd H2 q (.lst (xs ++ [y]))) σ (ρ2.set i (.at (.lst (ts.set j (.lst (us ++ [τ])))))) tmp3 := by
              intro U2 H2 ρ2 tmp2 g2 e2 hp2
              obtain ⟨v, ev2, g3⟩ := g2.at e2
              have : v = .ref p := Option.some.inj (Option.some.inj (ev2.symm.trans ev))
              subst this
              obtain ⟨l, lv, o⟩ := g3.own
              obtain ⟨vs', hp', hl', nU, nE, w⟩ := Own.inner (rest := l ++ tmp2) (o.perm List.perm_middle)
              have evs : vs' = vs := by
                rw [hp2] at hp'
                cases hp'
                rfl
              subst evs
              obtain ⟨A, B, eAB, lA⟩ := get_split (l := vs'.zip ts) (j := j) (x := (vs'[j], .lst us)) (by rw [List.getElem?_zip_eq_some]; exact ⟨List.getElem?_eq_getElem hj, et⟩)
              rw [eAB] at w
              have w2 : Own K (upd E p (.lst vs')) U2 H2 ((vs'[j], .lst us) :: ((A ++ B) ++ (l ++ tmp2))) := w.perm (by
                rw [List.append_assoc, List.cons_append, List.append_assoc]
                exact List.perm_middle)
              have hq : ∃ q, vs'[j] = .ref q := by
                obtain ⟨G, h, _⟩ := w2
                cases h with
                | cons a b => generalize vs'[j] = z at a; cases a with | lst => exact ⟨_, rfl⟩
              obtain ⟨q, eq⟩ := hq
              rw [eq] at w2
              obtain ⟨xs, hx, lx, nUq, nEq, mk⟩ := Own.mut (xs := []) (rest := (A ++ B) ++ (l ++ tmp2)) w2
              refine ⟨q, xs, eq, hx, lx, fun y τ tmp3 et3 => ?_⟩
              subst et3
              -- again, with the new item at hand
              have w3 : Own K (upd E p (.lst vs')) U2 H2 ((.ref q, .lst us) :: ([(y, τ)] ++ ((A ++ B) ++ (l ++ tmp3)))) := w2.perm (List.Perm.cons _ (by
                refine List.Perm.trans (List.Perm.append_left _ List.perm_middle) ?_
                exact List.perm_middle))
              obtain ⟨xs', hx', lx', _, _, mk'⟩ := Own.mut (xs := [(y, τ)]) (rest := (A ++ B) ++ (l ++ tmp3)) w3
              have exs : xs' = xs := by
                rw [hx] at hx'
                cases hx'
                rfl
              subst exs
              have w4 := mk' (xs'.zip us ++ [(y, τ)]) [] (by simp)
              rw [List.map_append, List.map_append, zip_map1 lx', zip_map2 lx'] at w4
              have npq : p ≠ q := fun e => by
                subst e
                rw [upd_same] at nEq
                cases nEq
              have hpn : (upd H2 q (.lst (xs' ++ [y]))) p = some (.lst vs') := by rw [upd_ne npq]; exact hp2
              have lts : vs'.length = (ts.set j (.lst (us ++ [τ]))).length := by rw [List.length_set]; exact hl'
              have ez : vs'.zip (ts.set j (.lst (us ++ [τ]))) = A ++ (.ref q, .lst (us ++ [τ])) :: B := by
                have e1 : vs'.zip (ts.set j (.lst (us ++ [τ]))) = (vs'.zip ts).set j (vs'[j], .lst (us ++ [τ])) := by
                  have := zip_set (xs := vs') (ys := ts) (j := j) (x := vs'[j]) (y := (.lst (us ++ [τ]) : T)) hl'
                  rw [List.set_getElem_self] at this
                  exact this
                rw [e1, eAB, eq]
                have : ∀ (X : List (V × T)) (n : Nat), X.length = n → ∀ a b Y, (X ++ a :: Y).set n b = X ++ b :: Y := by
                  intro X n hn a b Y
                  subst hn
                  rw [List.set_append_right _ _ (Nat.le_refl _), Nat.sub_self, List.set_cons_zero]
                exact this A j lA _ _ B
              have w5 : Own K E U2 (upd H2 q (.lst (xs' ++ [y]))) ((.ref p, .lst (ts.set j (.lst (us ++ [τ])))) :: (l ++ tmp3)) := by
                refine Own.outer lts hpn nU nE (o := .lst vs') ?_
                rw [ez]
                refine w4.perm ?_
                simp only [List.nil_append, List.map_cons, List.map_nil]
                have e3 : A ++ (V.ref q, T.lst (us ++ [τ])) :: B ++ (l ++ tmp3) = A ++ (V.ref q, T.lst (us ++ [τ])) :: (B ++ (l ++ tmp3)) := by simp
                rw [e3, List.append_assoc]
                exact List.perm_middle.symm
              have g4 : Good K E U0 L U2 (upd H2 q (.lst (xs' ++ [y]))) σ (ρ2.set i .no) ((.ref p, .lst (ts.set j (.lst (us ++ [τ])))) :: tmp3) := by
                refine ⟨fun x u e => ?_, g3.uu, fun x u e => ?_, g3.nw, ⟨l, lv, w5.perm List.perm_middle.symm⟩, g3.pin⟩
                · have nE' : E q = none := by
                    rw [upd_ne npq.symm] at nEq
                    exact nEq
                  rw [upd_ne (ne_of_none e nE')]
                  exact g3.eh x u e
                · rw [upd_ne (ne_of_none e nUq)]
                  exact g3.uh x u e
              exact g4.re ev2 (List.getElem?_eq_some_iff.mp e2).1
            obtain ⟨q, xs, eq, hq, lq, _⟩ := key g1 e0 (s1 _ _ hp)
            rw [eq]
            refine ⟨.inl ⟨rfl, xs, SqL.of hq⟩, ?_⟩
            refine he g1 _ ?_
            generalize ma ρ = z at h ⊢
            cases z with
            | exc c => exact h.elim
            | bad => exact h.elim
            | ok d =>
              intro y H2 s2 r2
              simp only [] at h
              split at h
              · rename_i hz
                have g2 := (g1.heap s2).dat (r2.flat (U' := U) hz.1)
                obtain ⟨q', xs', eq', hq', lq', mk⟩ := key g2 e0 (s2 _ _ (s1 _ _ hp))
                have : q' = q := by
                  rw [eq] at eq'
                  cases eq'
                  rfl
                subst this
                exact ⟨q', xs', y, rfl, rfl, hq', by rw [lq']; exact hz.2, h U _ σ (mk y (.dat d) tmp rfl)⟩
              · exact h.elim
          · exact h.elim
        · exact h.elim
      | non => exact h.elim
      | bl => exact h.elim
      | str => exact h.elim
      | lst => exact h.elim
      | tup => exact h.elim
      | scr => exact h.elim
      | err => exact h.elim
  · exact h.elim
end
end Sm
/-! Sm, part M: loops over a list that stays owned; is of bools; list[::-1]. -/
namespace Sm
open PySem L2
variable {K : PySem.W.Frag}
/-! ### lent cells -/
theorem Lv.lend {σ ρ l} (h : Lv σ ρ l) : ∀ {i : Nat} {t}, ρ[i]? = some (.at t) → Lv σ (ρ.set i (.lent t)) l := by
  induction h with
  | nil => intro i t e; simp at e
  | no h0 ih =>
    intro i t e
    cases i with
    | zero => simp at e
    | succ i => simpa using Lv.no (ih (by simpa using e))
  | «at» h0 ih =>
    intro i t e
    cases i with
    | zero => simp at e; subst e; simpa using Lv.lent h0
    | succ i => simpa using Lv.at (ih (by simpa using e))
  | lent h0 ih =>
    intro i t e
    cases i with
    | zero => simp at e
    | succ i => simpa using Lv.lent (ih (by simpa using e))
theorem Lv.unlend {σ ρ l} (h : Lv σ ρ l) : ∀ {i : Nat} {t}, ρ[i]? = some (.lent t) → Lv σ (ρ.set i (.at t)) l := by
  induction h with
  | nil => intro i t e; simp at e
  | no h0 ih =>
    intro i t e
    cases i with
    | zero => simp at e
    | succ i => simpa using Lv.no (ih (by simpa using e))
  | «at» h0 ih =>
    intro i t e
    cases i with
    | zero => simp at e
    | succ i => simpa using Lv.at (ih (by simpa using e))
  | lent h0 ih =>
    intro i t e
    cases i with
    | zero => simp at e; subst e; simpa using Lv.at h0
    | succ i => simpa using Lv.lent (ih (by simpa using e))
def unl (ρ : Env) (i : Nat) : Env := match ρ[i]? with
  | some (.lent t) => ρ.set i (.at t)
  | _ => ρ
section
variable {E U0 U H : Hp} {L : List (Nat × V)} {σ : L2.St} {ρ : Env} {tmp : List (V × T)}
theorem Good.lend {i : Nat} {t : T} {v : V} (g : Good K E U0 L U H σ ρ tmp) (e : ρ[i]? = some (.at t)) (ev : σ[i]? = some (some v)) : Good K E U0 ((i, v) :: L) U H σ (ρ.set i (.lent t)) tmp := by
  obtain ⟨l, lv, o⟩ := g.own
  have hi := (List.getElem?_eq_some_iff.mp e).1
  refine ⟨g.eh, g.uu, g.uh, g.nw, ⟨l, lv.lend e, o⟩, fun j w hj => ?_⟩
  rcases List.mem_cons.mp hj with q | q
  · cases q
    exact ⟨ev, t, List.getElem?_set_self hi⟩
  · obtain ⟨a, t', b⟩ := g.pin j w q
    refine ⟨a, t', ?_⟩
    rw [List.getElem?_set_ne fun q => by subst q; rw [e] at b; cases b]
    exact b
theorem Good.unlend {i : Nat} {v : V} (g : Good K E U0 ((i, v) :: L) U H σ ρ tmp) (hL : ∀ j w, (j, w) ∈ L → j ≠ i) : Good K E U0 L U H σ (unl ρ i) tmp := by
  obtain ⟨l, lv, o⟩ := g.own
  obtain ⟨_, t, et⟩ := g.pin i v List.mem_cons_self
  have e : unl ρ i = ρ.set i (.at t) := by unfold unl; rw [et]
  rw [e]
  refine ⟨g.eh, g.uu, g.uh, g.nw, ⟨l, lv.unlend et, o⟩, fun j w hj => ?_⟩
  obtain ⟨a, t', b⟩ := g.pin j w (List.mem_cons_of_mem _ hj)
  exact ⟨a, t', by rw [List.getElem?_set_ne (Ne.symm (hL j w hj))]; exact b⟩
theorem Rps.dats {U H : Hp} : ∀ {vs : List V} {ds : List D}, Rps K U vs ds → TRs K U H vs (ds.map T.dat) []
  | _, _, .nil => .nil
  | _, _, .cons h r => TRs.cons (G := []) (.dat h) (Rps.dats r)
/-- the items of a list at hand are frozen, the list is not -/
theorem Good.freezeEls {v : V} {ts : List T} (g : Good K E U0 L U H σ ρ ((v, .lst ts) :: tmp)) : ∃ U', Good K E U0 L U' H σ ρ ((v, .lst ((T.ers ts).map T.dat)) :: tmp) := by
  obtain ⟨l, lv, o⟩ := g.own
  obtain ⟨G, h, nd, f⟩ := o.perm List.perm_middle
  cases h with
  | cons a b =>
    rename_i G1 G2
    cases a with
    | lst hp r =>
      rename_i p vs Gs
      have nd0 := List.nodup_cons.mp nd
      have nd' := List.nodup_append.mp nd0.2
      have fs : ∀ x ∈ Gs, U x = none ∧ E x = none := fun x hx => f x (List.mem_cons_of_mem _ (List.mem_append_left _ hx))
      have sU : Same U (frzU U H Gs) := fun x o e => by
        unfold frzU
        rw [if_neg fun hm => by rw [(fs x hm).1] at e; cases e]
        exact e
      have kF : ∀ x ∈ Gs, frzU U H Gs x = H x := fun x hx => by
        unfold frzU
        rw [if_pos hx]
      have sF : Same (frzU U H Gs) H := fun x o e => by
        unfold frzU at e
        split at e
        · exact e
        · exact g.uh x o e
      refine ⟨frzU U H Gs, g.eh, g.uu.trans sU, sF, fun x o e n => ?_, ⟨l, lv, Own.perm (l := (_, .lst ((T.ers ts).map T.dat)) :: (l ++ tmp)) ?_ List.perm_middle.symm⟩, g.pin⟩
      · unfold frzU at e
        split at e
        · rename_i hx
          exact (fs x hx).2
        · exact g.nw x o e n
      · refine ⟨[p] ++ G2, .cons (.lst hp (r.frz sU kF).dats) (b.keep sU fun x _ => rfl), ?_, fun x hx => ⟨?_, ?_⟩⟩
        · exact List.nodup_cons.mpr ⟨fun hm => nd0.1 (List.mem_append_right _ hm), nd'.2.1⟩
        · unfold frzU
          have hxs : x ∉ Gs := by
            rcases List.mem_cons.mp hx with rfl | hx
            · exact fun hm => nd0.1 (List.mem_append_left _ hm)
            · exact fun hm => nd'.2.2 x hm x hx rfl
          rw [if_neg hxs]
          rcases List.mem_cons.mp hx with rfl | hx
          · exact (f _ List.mem_cons_self).1
          · exact (f x (List.mem_cons_of_mem _ (List.mem_append_right _ hx))).1
        · rcases List.mem_cons.mp hx with rfl | hx
          · exact (f _ List.mem_cons_self).2
          · exact (f x (List.mem_cons_of_mem _ (List.mem_append_right _ hx))).2
theorem Good.freezeIn {i : Nat} {ts : List T} (g : Good K E U0 L U H σ ρ tmp) (e : ρ[i]? = some (.at (.lst ts))) : ∃ U' v, σ[i]? = some (some v) ∧ Good K E U0 L U' H σ (ρ.set i (.at (.lst ((T.ers ts).map T.dat)))) tmp := by
  obtain ⟨l, lv, o⟩ := g.own
  obtain ⟨v, l', ev, p, lv'⟩ := lv.out e
  have hi := (List.getElem?_eq_some_iff.mp e).1
  have g1 : Good K E U0 L U H σ (ρ.set i .no) ((v, .lst ts) :: tmp) := ⟨g.eh, g.uu, g.uh, g.nw, ⟨l', lv', o.perm ((List.Perm.append_right tmp p).trans List.perm_middle.symm)⟩, fun j w hj => by
    obtain ⟨a, t', b⟩ := g.pin j w hj
    exact ⟨a, t', by rw [List.getElem?_set_ne fun q => by subst q; rw [e] at b; cases b]; exact b⟩⟩
  obtain ⟨U', g2⟩ := g1.freezeEls
  refine ⟨U', v, ev, ?_⟩
  have g3 := g2.put (i := i) (c := .no) (List.getElem?_set_self hi) (fun t q => by cases q)
  rw [List.set_set, lv.same (i := i) (t := .lst ts) ev] at g3
  exact g3
end
/-! ### a loop over a list that stays owned -/
def forL (i : Nat) (ws : List Nat) (gm : T → Env → R Env) (b : Env → Out) : Nat → Nat → Env → Out
  | 0, _, _ => .bad
  | n + 1, k, ρ => match (wpE ρ ws)[i]? with
    | some (.lent (.lst us)) => (match us[k]? with
      | none => .nx (unl (wpE ρ ws) i)
      | some (.dat d) => (match gm (.dat d) (wpE ρ ws) with
        | .ok ρ1 => (match b ρ1 with
          | .nx ρ2 => forL i ws gm b n (k + 1) ρ2
          | .ct ρ2 => forL i ws gm b n (k + 1) ρ2
          | .bk ρ2 => .nx (unl (wpE ρ2 ws) i)
          | .rt τ => .rt τ
          | .exc c ρ2 => .exc c (unl ρ2 i)
          | .bad => .bad)
        | _ => .bad)
      | _ => .bad)
    | _ => .bad
def sForL (i : Nat) (ws : List Nat) (gm : T → Env → R Env) (b : Env → Out) (ρ : Env) : Out := match ρ[i]? with
  | some (.at (.lst ts)) => forL i ws gm b (ts.length + 1) 0 (ρ.set i (.lent (.lst ((T.ers ts).map T.dat))))
  | _ => .bad
section
variable {ec : Nat → Addr} {ex : L2.St → XK} {t : TS} {b : Env → Out}
theorem ss_forL {i : Nat} {g : TG} {gs ws : List Nat} {gm : T → Env → R Env} (hg : SG K g gs gm) (hb : SS K ec ex t b) : SS K ec ex (tFor (iList K (tVar i)) g t) (sForL i ws gm b) := by
  intro E U0 L U H σ ρ tmp g0 D h
  unfold sForL at h
  split at h
  · rename_i ts e
    obtain ⟨U1, v, ev, g1⟩ := g0.freezeIn e
    have hi := (List.getElem?_eq_some_iff.mp e).1
    have e1 : (ρ.set i (.at (.lst ((T.ers ts).map T.dat))))[i]? = some (.at (.lst ((T.ers ts).map T.dat))) := List.getElem?_set_self hi
    have hL : ∀ j w, (j, w) ∈ L → j ≠ i := fun j w hj q => by
      subst q
      obtain ⟨_, t', b⟩ := g0.pin j w hj
      rw [e] at b
      cases b
    have g2 := g1.lend e1 ev
    rw [List.set_set] at g2
    -- what stands in the lent cell
    have look : ∀ {U' H' : Hp} {σ' : L2.St} {ρ' : Env} {us : List T}, Good K E U0 ((i, v) :: L) U' H' σ' ρ' tmp → ρ'[i]? = some (.lent (.lst us)) → ∃ p vs, v = .ref p ∧ H' p = some (.lst vs) ∧ vs.length = us.length ∧ ∀ (k : Nat) d, us[k]? = some (.dat d) → ∃ x, vs[k]? = some x ∧ Rp K U' x d := by
      intro U' H' σ' ρ' us g' e'
      obtain ⟨l, lv, o⟩ := g'.own
      obtain ⟨v', ev', hm⟩ := lv.mem (.inr e')
      have : v' = v := by
        have := (g'.pin i v List.mem_cons_self).1
        rw [ev'] at this
        exact Option.some.inj (Option.some.inj this)
      subst this
      obtain ⟨G, hh, _⟩ := o.left
      obtain ⟨l1, l2, el⟩ := List.append_of_mem hm
      rw [el, List.map_append, List.map_append, List.map_cons, List.map_cons] at hh
      obtain ⟨Ga, Gb, _, _, h2⟩ := TRs.split hh (by simp)
      cases h2 with
      | cons a _ =>
        cases a with
        | @lst p vs _ Gs hp r =>
          refine ⟨p, vs, rfl, hp, r.len, fun k d ek => ?_⟩
          clear hp el hh
          revert k
          generalize hV : vs = vs' at r
          generalize hU : us = us' at r
          clear hV hU
          intro k ek
          have key : ∀ {vs : List V} {us : List T} {G : List Addr}, TRs K U' H' vs us G → ∀ (k : Nat), us[k]? = some (.dat d) → ∃ x, vs[k]? = some x ∧ Rp K U' x d := by
            intro vs us G r
            induction us generalizing vs G with
            | nil => intro k e; simp at e
            | cons u us ih =>
              intro k e
              cases r with
              | cons a r =>
                cases k with
                | zero =>
                  simp at e
                  subst e
                  cases a with
                  | dat q => exact ⟨_, rfl, q⟩
                | succ k => exact ih r k (by simpa using e)
          exact key r k ek
    obtain ⟨p, vs0, rfl, hp0, _, _⟩ := look g2 (List.getElem?_set_self hi)
    refine ⟨.ref p, ev, p, rfl, ⟨vs0, SqL.of hp0⟩, ?_⟩
    let Pv : Nat → Nat → L2.St → L2.Hp → Prop := fun k n σ' H' => ∃ ρ' U', Good K E U0 ((i, .ref p) :: L) U' H' σ' ρ' tmp ∧ PS1 K ec ex E U0 L tmp D (forL i ws gm b n k ρ')
    refine ⟨fun k m σ' H' => Pv k m σ' H', ⟨_, _, U1, g2, h⟩, fun k m σ' H' hW => ?_⟩
    obtain ⟨ρ', U', g', hgo⟩ := hW
    cases m with
    | zero => exact hgo.elim
    | succ m =>
      have gw := g'.wp ws
      unfold forL at hgo
      split at hgo
      · rename_i us eu
        obtain ⟨p', vs, ep, hp, hl, hk⟩ := look gw eu
        cases ep
        split at hgo
        · rename_i en
          refine .inl ⟨⟨vs, SqL.of hp, ?_⟩, hgo U' H' σ' (gw.unlend hL)⟩
          have := List.getElem?_eq_none_iff.mp en
          omega
        · rename_i d ed
          obtain ⟨x0, ex0, rx⟩ := hk k d ed
          refine .inr ⟨⟨vs, x0, SqL.of hp, ex0⟩, Pv (k + 1) m, fun σ'' H'' hN => ⟨m, Nat.lt_succ_self _, hN⟩, fun x H2 y => ?_⟩
          obtain ⟨rfl, y⟩ := y
          have exx : x = x0 := Option.some.inj ((y vs (SqL.of hp)).symm.trans ex0)
          subst exx
          refine hg (gw.dat rx).rebase _ ?_
          generalize gm (.dat d) (wpE ρ' ws) = z at hgo ⊢
          cases z with
          | exc c => exact hgo.elim
          | bad => exact hgo.elim
          | ok ρ2 =>
            intro U3 σ3 _ _ g3
            refine hb g3 _ ?_
            simp only [] at hgo
            generalize b ρ2 = y at hgo ⊢
            cases y with
            | nx ρ4 => exact fun U4 H4 σ4 g4 => ⟨ρ4, U4, gw.unbase g4, hgo⟩
            | ct ρ4 => exact fun U4 H4 σ4 g4 => ⟨ρ4, U4, gw.unbase g4, hgo⟩
            | bk ρ4 => exact fun U4 H4 σ4 g4 => hgo U4 H4 σ4 ((gw.unbase (g4.wp ws)).unlend hL)
            | rt τ => exact fun v U4 H4 f => hgo v U4 H4 (f.unbase gw)
            | exc k ρ4 => exact fun U4 H4 σ4 g4 => hgo U4 H4 σ4 ((gw.unbase g4).unlend hL)
            | bad => exact hgo
        · exact hgo.elim
      · exact hgo.elim
  · exact h.elim
end
/-! ### is, is not of bools -/
def isBD : D → D → R D
  | .bl a, .bl b => .ok (.bl (decide (a = b)))
  | _, _ => .bad
def notBD : D → D → R D
  | .bl a, .bl b => .ok (.bl (!decide (a = b)))
  | _, _ => .bad
theorem opd_isB : OpD K rIsB isBD := by
  intro ec x H v w a b Q ra rb h
  cases a <;> cases b <;> first | exact h.elim | skip
  cases ra
  cases rb
  exact ⟨_, _, rfl, rfl, h _ _ (Same.refl _) (.bl _)⟩
theorem opd_notB : OpD K rNotB notBD := by
  intro ec x H v w a b Q ra rb h
  cases a <;> cases b <;> first | exact h.elim | skip
  cases ra
  cases rb
  exact ⟨_, _, rfl, rfl, h _ _ (Same.refl _) (.bl _)⟩
/-! ### a tuple of flat parts is taken apart, and stays where it is -/
def sUnp (n : Nat) (ma : Env → R D) (m : List T → Env → R Env) (ρ : Env) : Out := match ma ρ with
  | .ok (.tup ds) => if ds.length = n ∧ ds.all D.flat = true then (match m (ds.map T.dat) ρ with | .ok ρ2 => .nx ρ2 | _ => .bad) else .bad
  | .exc k => .exc k ρ
  | _ => .bad
theorem Rps.flatsU {H U : Hp} : ∀ {vs : List V} {ds : List D}, Rps K H vs ds → ds.all D.flat = true → Rps K U vs ds
  | _, _, .nil, _ => .nil
  | _, _, .cons h r, f => by
    simp only [List.all_cons, Bool.and_eq_true] at f
    exact .cons (h.flat f.1) (Rps.flatsU r f.2)
section
variable {ec : Nat → Addr} {ex : L2.St → XK} {te : TE} {ma : Env → R D}
theorem ss_unp {n : Nat} {g : TGs} {ws : List Nat} {m : List T → Env → R Env} (he : SB K ec ex te ma) (hg : SGs K g ws m) : SS K ec ex (tAsg te (gTup K n g)) (sUnp n ma m) := by
  intro E U0 L U H σ ρ tmp g0 D h
  refine he g0 _ ?_
  unfold sUnp at h
  generalize ma ρ = z at h ⊢
  cases z with
  | ok d =>
    intro v H' s r
    cases d <;> first | exact h.elim | skip
    simp only [] at h
    split at h
    · rename_i ds hn
      obtain ⟨p, vs, rfl, hp, rs⟩ := r.tupI
      refine ⟨p, vs, rfl, SqT.of hp, rs.len.trans hn.1, ?_⟩
      have g2 := (g0.heap s).dats (rs.flatsU (U := U) hn.2)
      have q := hg g2 (fun σ2 H2 => D.nx σ2 H2) (by
        rw [zip_dat2 rs]
        generalize m (ds.map T.dat) ρ = y at h ⊢
        cases y with
        | ok ρ2 => exact fun U2 σ2 _ _ g2 => h U2 H' σ2 g2
        | exc k => exact h.elim
        | bad => exact h.elim)
      rw [zip_dat1 rs] at q
      exact q
    · exact h.elim
  | exc k => exact fun H' s => h U H' σ (g0.heap s)
  | bad => exact h
end
/-! ### xs + ys, xs * k: xs stays owned, its items are frozen -/
def eCatE (i : Nat) (m2 : Env → O2) (ρ : Env) : O2 := match ρ[i]? with
  | some (.at (.lst ts)) => (match m2 (ρ.set i (.at (.lst ((T.ers ts).map T.dat)))) with
    | .ok τ2 ρ2 => (match ρ2[i]?, τ2.hits with
      | some (.at (.lst us)), some b => (match O3.dats us with
        | some ds => if ds.length + b.length ≤ sizeLine then .ok (.lst (ds.map T.dat ++ b)) ρ2 else .bad
        | none => .bad)
      | _, _ => .bad)
    | .exc c ρ2 => .exc c ρ2
    | .bad => .bad)
  | _ => .bad
def eRepE (i : Nat) (mb : Env → R D) (ρ : Env) : O2 := match ρ[i]? with
  | some (.at (.lst ts)) => (match mb (ρ.set i (.at (.lst ((T.ers ts).map T.dat)))) with
    | .ok (.int k) => if 0 ≤ k ∧ k < 100000000 ∧ ts.length * k.toNat ≤ sizeLine then .ok (.lst ((List.replicate k.toNat (T.ers ts)).flatten.map T.dat)) (ρ.set i (.at (.lst ((T.ers ts).map T.dat)))) else .bad
    | .exc c => .exc c (ρ.set i (.at (.lst ((T.ers ts).map T.dat))))
    | _ => .bad)
  | _ => .bad
section
variable {ec : Nat → Addr} {ex : L2.St → XK} {tb : TE} {m2 : Env → O2} {mb : Env → R D}
theorem Good.lstAt {E U0 U H : Hp} {L : List (Nat × V)} {σ : L2.St} {ρ : Env} {tmp : List (V × T)} {i : Nat} {us : List T} {v : V} (g : Good K E U0 L U H σ ρ tmp) (e : ρ[i]? = some (.at (.lst us))) (ev : σ[i]? = some (some v)) : ∃ p vs G, v = .ref p ∧ H p = some (.lst vs) ∧ TRs K U H vs us G := by
  obtain ⟨l, lv, o⟩ := g.own
  obtain ⟨v', ev', hm⟩ := lv.mem (.inl e)
  have : v' = v := by
    rw [ev'] at ev
    exact Option.some.inj (Option.some.inj ev)
  subst this
  obtain ⟨G, hh, _⟩ := o.left
  obtain ⟨l1, l2, el⟩ := List.append_of_mem hm
  rw [el, List.map_append, List.map_append, List.map_cons, List.map_cons] at hh
  obtain ⟨Ga, Gb, _, _, h2⟩ := TRs.split hh (by simp)
  cases h2 with
  | cons a _ =>
    cases a with
    | @lst p vs _ Gs hp r => exact ⟨p, vs, Gs, rfl, hp, r⟩
theorem se_catE (i : Nat) (hb : SE K ec ex tb m2) : SE K ec ex (tOp rAddU (tVar i) tb) (eCatE i m2) := by
  intro E U0 L U H σ ρ tmp g Q h
  unfold eCatE at h
  split at h
  · rename_i ts e
    obtain ⟨U1, v, ev, g1⟩ := g.freezeIn e
    refine ⟨v, ev, ?_⟩
    refine hb g1 _ ?_
    generalize m2 (ρ.set i (.at (.lst ((T.ers ts).map T.dat)))) = y at h ⊢
    cases y with
    | exc c ρ2 => exact h
    | bad => exact h
    | ok τ2 ρ2 =>
      intro w U2 H2 g2
      simp only [] at h
      split at h
      · rename_i us b e2 eb
        split at h
        · rename_i ds ed
          split at h
          · rename_i hz
            obtain ⟨p, vs, G, rfl, hp, r⟩ := g2.lstAt e2 ev
            have rd : Rps K U2 vs ds := dats_rps r ed
            obtain ⟨q, ws, rfl, hq, lq, g3⟩ := g2.hits eb
            refine .inr (.inl ⟨p, q, vs, ws, rfl, rfl, hp, hq, by rw [rd.len, lq]; exact hz, fun l hl => ?_⟩)
            have g4 := g3.dats rd
            have g5 : Good K E U0 L U2 H2 σ ρ2 ((vs.zip (ds.map T.dat) ++ ws.zip b) ++ tmp) := by rw [List.append_assoc]; exact g4
            have g6 := g5.mkL hl
            rw [List.map_append, List.map_append, zip_dat1 rd, zip_dat2 rd, zip_map1 lq, zip_map2 lq] at g6
            exact h _ U2 _ g6
          · exact h.elim
        · exact h.elim
      · exact h.elim
  · exact h.elim
theorem TRs.ofDats {U H : Hp} : ∀ {ds : List D} {vs : List V} {G : List Addr}, TRs K U H vs (ds.map T.dat) G → Rps K U vs ds
  | [], _, _, h => by cases h; exact .nil
  | d :: ds, _, _, h => by
    cases h with
    | cons a b => cases a with | dat r => exact .cons r (TRs.ofDats b)
theorem se_repE (i : Nat) (hb : SB K ec ex tb mb) : SE K ec ex (tOp rMulU (tVar i) tb) (eRepE i mb) := by
  intro E U0 L U H σ ρ tmp g Q h
  unfold eRepE at h
  split at h
  · rename_i ts e
    obtain ⟨U1, v, ev, g1⟩ := g.freezeIn e
    have hi := (List.getElem?_eq_some_iff.mp e).1
    refine ⟨v, ev, ?_⟩
    refine hb g1 _ ?_
    generalize mb (ρ.set i (.at (.lst ((T.ers ts).map T.dat)))) = y at h ⊢
    cases y with
    | exc c => exact fun H' s => h U1 H' (g1.heap s)
    | bad => exact h
    | ok d =>
      intro w H2 s2 r2
      cases d <;> first | exact h.elim | skip
      rename_i k
      cases r2
      simp only [] at h
      split at h
      · rename_i hz
        have g2 := g1.heap s2
        obtain ⟨p, vs, G, rfl, hp, r⟩ := g2.lstAt (List.getElem?_set_self hi) ev
        have rd := TRs.ofDats r
        have hl : vs.length = ts.length := by rw [rd.len, T.ers_map, List.length_map]
        refine .inr ⟨p, k, vs, rfl, rfl, hp, by omega, by omega, by rw [hl]; exact hz.2.2, fun l n => ?_⟩
        have g3 := g2.dats (rd.rep k.toNat)
        have g4 := g3.mkL n
        rw [zip_dat1 (rd.rep k.toNat), zip_dat2 (rd.rep k.toNat)] at g4
        exact h _ U1 _ g4
      · exact h.elim
  · exact h.elim
end
end Sm
/-! Sm, part N: xs.pop(k). -/
namespace Sm
open PySem L2
variable {K : PySem.W.Frag}
def sPopAt (i : Nat) (mb : Env → R D) (ρ : Env) : Out := match ρ[i]? with
  | some (.at (.lst ts)) => (match mb ρ with
    | .ok (.int k) => if 0 ≤ k ∧ k < ts.length ∧ k < 4611686018427387904 then .nx (ρ.set i (.at (.lst (ts.eraseIdx k.toNat)))) else .bad
    | .exc c => .exc c ρ
    | _ => .bad)
  | _ => .bad
theorem erase_perm {α : Type} : ∀ {l : List α} {j : Nat} (h : j < l.length), l.Perm (l.eraseIdx j ++ [l[j]])
  | a :: l, 0, _ => by
    simp
    exact (List.perm_append_comm (l₁ := [a]) (l₂ := l))
  | a :: l, j + 1, h => by
    have := erase_perm (l := l) (j := j) (by simpa using h)
    simp
    exact this
theorem erase_map {α β : Type} (f : α → β) : ∀ (l : List α) (j : Nat), (l.eraseIdx j).map f = (l.map f).eraseIdx j
  | [], j => by simp
  | a :: l, 0 => by simp
  | a :: l, j + 1 => by simp [erase_map f l j]
section
variable {ec : Nat → Addr} {ex : L2.St → XK} {tb : TE} {mb : Env → R D}
theorem ss_popAt {i : Nat} (hb : SB K ec ex tb mb) : SS K ec ex (tDrop (tBM K "list" rPopAt (tVar i) (tCons tb tNil))) (sPopAt i mb) := by
  intro E U0 L U H σ ρ tmp g D h
  unfold sPopAt at h
  split at h
  · rename_i ts e0
    obtain ⟨p, vs0, ev, hp0, _, _⟩ := Good.chg (xs := []) g e0
    refine ⟨.ref p, ev, .inl ⟨rfl, vs0, SqL.of hp0⟩, ?_⟩
    refine hb g _ ?_
    generalize mb ρ = w at h ⊢
    cases w with
    | exc c => exact fun H' s => h U H' σ (g.heap s)
    | bad => exact h.elim
    | ok d =>
      intro kv H1 s1 rk
      cases d <;> first | exact h.elim | skip
      rename_i k
      cases rk
      simp only [] at h
      split at h
      · rename_i hz
        obtain ⟨p', vs, ev', hp, hl, k2⟩ := Good.chg (xs := []) (g.heap s1) e0
        have ep : V.ref p' = V.ref p := Option.some.inj (Option.some.inj (ev'.symm.trans ev))
        cases ep
        have hk : k.toNat < vs.length := by omega
        refine ⟨p, vs, k, k.toNat, vs[k.toNat], rfl, rfl, hp, by omega, by omega, ?_, List.getElem?_eq_getElem hk, ?_⟩
        · unfold seqIndex?
          simp
          omega
        · have hzl : k.toNat < (vs.zip ts).length := by rw [List.length_zip]; omega
          have g2 := k2 ((vs.zip ts).eraseIdx k.toNat) [(vs.zip ts)[k.toNat]] (by
            rw [List.append_nil]
            exact erase_perm hzl)
          have g3 := g2.tail
          rw [erase_map, erase_map, zip_map1 hl, zip_map2 hl] at g3
          exact h U _ σ g3
      · exact h.elim
  · exact h.elim
end
end Sm
/-! Sm, part O: xs[::-1].index(x); two pairs sorted. -/
namespace Sm
open PySem L2
variable {K : PySem.W.Frag}
def revIxD (xs : List D) (b : D) : R D := if b.flat = true ∧ xs.all D.flat = true then (match xs.reverse.findIdx? (fun y => eqF y b) with | some j => .ok (.int j) | none => .bad) else .bad
def bRevIx (ma mb : Env → R D) (ρ : Env) : R D := (ma ρ).bind fun a => match a.litems with
  | some xs => (mb ρ).bind fun b => revIxD xs b
  | none => .bad
section
variable {ec : Nat → Addr} {ex : L2.St → XK} {ta tb : TE} {ma mb : Env → R D} {me : Env → O2}
theorem Rps.rev {U : Hp} {vs : List V} {ds : List D} (r : Rps K U vs ds) : Rps K U vs.reverse ds.reverse := by
  induction r with
  | nil => exact .nil
  | cons h r ih =>
    rw [List.reverse_cons, List.reverse_cons]
    exact ih.app (.cons h .nil)
theorem sb_revIx (ha : SB K ec ex ta ma) (hb : SB K ec ex tb mb) : SB K ec ex (tBM K "list" (rIndex K) (tRevL K ta) (tCons tb tNil)) (bRevIx ma mb) := by
  intro E U0 L U H σ ρ tmp g Q h
  refine ha g _ ?_
  unfold bRevIx at h
  generalize ma ρ = z at h ⊢
  cases z with
  | exc c => exact h
  | bad => exact h
  | ok a =>
    intro v H1 s1 r1
    simp only [R.bind] at h
    cases ex1 : a.litems with
    | none => rw [ex1] at h; exact h.elim
    | some xs =>
      rw [ex1] at h
      simp only [] at h
      obtain ⟨p, vs, rfl, hs, rs⟩ := r1.litemsI (K := K) ex1
      refine ⟨p, vs, rfl, hs, fun l hl => ?_⟩
      have hp2 : (upd H1 l (.lst vs.reverse)) l = some (.lst vs.reverse) := upd_same
      refine ⟨.inl ⟨rfl, vs.reverse, SqL.of hp2⟩, ?_⟩
      have s2 : Same H1 (upd H1 l (.lst vs.reverse)) := same_new hl
      refine hb (g.heap (s1.trans s2)) _ ?_
      cases q : mb ρ with
      | bad => rw [q] at h; exact h.elim
      | exc c =>
        rw [q] at h
        exact fun H' s => h H' (s1.trans (s2.trans s))
      | ok b =>
        rw [q] at h
        simp only [] at h
        intro w H3 s3 r3
        unfold revIxD at h
        split at h
        · rename_i hc
          split at h
          · rename_i j ej
            obtain ⟨hj, h1, h2⟩ := List.findIdx?_eq_some_iff_getElem.mp ej
            have rr := (rs.mono (s2.trans s3)).rev
            have hjl : j < vs.reverse.length := by rw [rr.len]; exact hj
            have fl : xs.reverse.all D.flat = true := by rw [List.all_reverse]; exact hc.2
            obtain ⟨f1, _⟩ := Rps.inF r3 hc.1 rr fl
            have eqq : ∀ (m : Nat) (z' : V) (d' : D), vs.reverse[m]? = some z' → xs.reverse[m]? = some d' → eqV z' w = eqF d' b := by
              intro m z' d' hz hd
              obtain ⟨u, eu, ru⟩ := rr.get hd
              rw [hz] at eu
              cases eu
              exact ru.eqF r3 (List.all_eq_true.mp fl _ (List.mem_of_getElem? hd)) hc.1
            refine ⟨l, vs.reverse, w, j, vs.reverse[j], rfl, rfl, SqL.of (s3 _ _ hp2), r3.flatV hc.1, f1, List.getElem?_eq_getElem hjl, ?_, ?_, ?_⟩
            · rw [eqq j _ _ (List.getElem?_eq_getElem hjl) (List.getElem?_eq_getElem hj)]
              exact h1
            · intro m z' hm hz
              have hmx : m < xs.reverse.length := by omega
              rw [eqq m z' _ hz (List.getElem?_eq_getElem hmx)]
              have := h2 m hm
              simpa using this
            · exact h _ _ (s1.trans (s2.trans s3)) (.int _)
          · exact h.elim
        · exact h.elim
/-! ### two pairs sorted -/
def pr (a b : Int) : T := .tup [.dat (.int a), .dat (.int b)]
def eSort2 (me : Env → O2) (ρ : Env) : O2 := match me ρ with
  | .ok (.lst [.tup [.dat (.int a), .dat (.int b)], .tup [.dat (.int c), .dat (.int d)]]) ρ1 => if a < c then .ok (.lst [pr a b, pr c d]) ρ1 else if c < a then .ok (.lst [pr c d, pr a b]) ρ1 else .bad
  | .exc c ρ1 => .exc c ρ1
  | _ => .bad
theorem two_sorted {lt : V → V → Bool} {u1 u2 : V} (hlt : lt u1 u2 = true) {ys : List V} (hs : SrtO.Srtd lt ys) (pm : ys.Perm [u1, u2]) : ys = [u1, u2] := by
  have hlen := pm.length_eq
  match ys, hlen, hs, pm with
  | [x, y], _, hs, pm =>
    have h0 : lt y x = false := SrtO.srtd_head hs y (by simp)
    have hx := pm.mem_iff.mp (List.mem_cons_self (a := x) (l := [y]))
    simp only [List.mem_cons, List.not_mem_nil, or_false] at hx
    rcases hx with rfl | rfl
    · have := List.Perm.cons_inv pm
      rw [List.singleton_perm_singleton] at this
      rw [this]
    · have p2 := pm.trans (List.Perm.swap x u1 [])
      have := List.Perm.cons_inv p2
      rw [List.singleton_perm_singleton] at this
      subst this
      rw [hlt] at h0
      cases h0
theorem Good.pr1 {E U0 U H : Hp} {L : List (Nat × V)} {σ : L2.St} {ρ : Env} {tmp : List (V × T)} {u : V} {a b : Int} (g : Good K E U0 L U H σ ρ ((u, pr a b) :: tmp)) : ∃ p, u = .ref p ∧ H p = some (.tup [.int a, .int b]) := by
  obtain ⟨p, vs, rfl, hp, hl, g2⟩ := g.open
  match vs, hl with
  | [x, y], _ =>
    have g3 : Good K E U0 L U H σ ρ ((x, .dat (.int a)) :: (y, .dat (.int b)) :: tmp) := g2
    have r1 := g3.datOf
    have r2 := g3.tail.datOf
    cases r1
    cases r2
    exact ⟨p, rfl, hp⟩
theorem se_sort2 (he : SE K ec ex ta me) : SE K ec ex (tCB (rSortedPO K) (tCons ta tNil)) (eSort2 me) := by
  intro E U0 L U H σ ρ tmp g Q h
  refine he g _ ?_
  unfold eSort2 at h
  split at h
  · rename_i a b c d ρ1 eq
    rw [eq]
    intro v U1 H1 g1
    obtain ⟨p, vs, rfl, hp, hl, g2⟩ := g1.openL
    match vs, hl with
    | [u1, u2], _ =>
      have g2' : Good K E U0 L U1 H1 σ ρ1 ((u1, pr a b) :: (u2, pr c d) :: tmp) := g2
      obtain ⟨p1, rfl, h1⟩ := g2'.pr1
      obtain ⟨p2, rfl, h2⟩ := g2'.tail.pr1
      have hne : a ≠ c → p1 ≠ p2 := fun hac q => by
        subst q
        rw [h1] at h2
        simp at h2
        exact hac h2.1
      by_cases z : a < c
      · rw [if_pos z] at h
        have hn : (V.ref p2 : V) ≠ .ref p1 := fun q => hne (by omega) (by cases q; rfl)
        refine ⟨p, [.ref p1, .ref p2], fun x => open Classical in if x = V.ref p1 then (a, b) else (c, d), rfl, SqL.of hp, ?_, fun ys l hs hb hl => ?_⟩
        · intro x hx
          simp only [List.mem_cons, List.not_mem_nil, or_false] at hx
          rcases hx with rfl | rfl
          · exact ⟨p1, rfl, by simpa using h1⟩
          · exact ⟨p2, rfl, by simpa [hn] using h2⟩
        · have hys : ys = [.ref p1, .ref p2] := two_sorted (by
            show SrtO.lexB _ _ = true
            rw [SrtO.lexB_iff]
            left
            simp [hn]
            exact z) hs hb.perm
          subst hys
          have g3 := (show Good K E U0 L U1 H1 σ ρ1 ([(V.ref p1, pr a b), (V.ref p2, pr c d)] ++ tmp) from g2').mkL hl
          exact h _ U1 _ g3
      · rw [if_neg z] at h
        by_cases z2 : c < a
        · rw [if_pos z2] at h
          have hn : (V.ref p2 : V) ≠ .ref p1 := fun q => hne (by omega) (by cases q; rfl)
          refine ⟨p, [.ref p1, .ref p2], fun x => open Classical in if x = V.ref p1 then (a, b) else (c, d), rfl, SqL.of hp, ?_, fun ys l hs hb hl => ?_⟩
          · intro x hx
            simp only [List.mem_cons, List.not_mem_nil, or_false] at hx
            rcases hx with rfl | rfl
            · exact ⟨p1, rfl, by simpa using h1⟩
            · exact ⟨p2, rfl, by simpa [hn] using h2⟩
          · have hys : ys = [.ref p2, .ref p1] := two_sorted (by
              show SrtO.lexB _ _ = true
              rw [SrtO.lexB_iff]
              left
              simp [hn]
              exact z2) hs (hb.perm.trans (List.Perm.swap ..))
            subst hys
            have g3 := (show Good K E U0 L U1 H1 σ ρ1 ([(V.ref p2, pr c d), (V.ref p1, pr a b)] ++ tmp) from g2'.perm (List.Perm.swap ..)).mkL hl
            exact h _ U1 _ g3
        · rw [if_neg z2] at h
          exact h.elim
  · rename_i c ρ1 eq
    rw [eq]
    exact h
  · exact h.elim
end
end Sm
/-! Sm, part P: lists of whole numbers compared. -/
namespace Sm
open PySem PySem.Spec PyProof.Rows L2
variable {K : PySem.W.Frag}
def lexI (ns ms : List Int) : Bool := PySem.SeqAt.firstLt (fun j => decide (ns.getD j 0 = ms.getD j 0)) (fun j => decide (ns.getD j 0 < ms.getD j 0)) (decide (ns.length < ms.length)) (List.range (min ns.length ms.length))
def rLtL (K : PySem.W.Frag) : R2 := fun x y H Q => ∃ a b ns ms, x = .ref a ∧ y = .ref b ∧ SqL K H a (ns.map V.int) ∧ SqL K H b (ms.map V.int) ∧ Q (.bl (lexI ns ms)) H
section
variable {X : Cx}
theorem op_ltL (hu : X.A.units + 64 < cLine) : OpR X (compareOp .Lt) (rLtL X.K) := by
  intro pins s σ H x y v u Q I rx ry h
  obtain ⟨a, b, ns, ms, rfl, rfl, ha, hb, q⟩ := h
  cases rx
  cases ry
  obtain ⟨its, r1, p1, _⟩ := I.list ha
  obtain ⟨its2, r2, p2, _⟩ := I.list hb
  have i1 := intsAre_of r1
  have i2 := intsAre_of r2
  obtain ⟨o1, n1, g1, c1, _, d1⟩ := p1
  obtain ⟨o2, n2, g2, c2, _, d2⟩ := p2
  have at1 : ∀ {us : List Value} {ks : List Int}, IntsAre us ks → ∀ j (hj : j < us.length), ∃ t, us[j] = Value.int (ks.getD j 0) t := by
    intro us ks h
    induction h with
    | nil => intro j hj; simp at hj
    | cons n t _ ih =>
      intro j hj
      cases j with
      | zero => exact ⟨t, rfl⟩
      | succ j =>
        obtain ⟨t', e⟩ := ih j (by simpa using hj)
        exact ⟨t', by simpa using e⟩
  have l1 : its.length = ns.length := by have := r1.length; simpa using this.symm
  have l2 : its2.length = ms.length := by have := r2.length; simpa using this.symm
  have key := PySem.SeqAt.RcLt.lists (A := X.A) (s := s) (l := a) (b := b) (items := its.toArray) (items2 := its2.toArray) (e := fun j => decide (ns.getD j 0 = ms.getD j 0)) (r := fun j => decide (ns.getD j 0 < ms.getD j 0)) ⟨o1, g1, c1, n1, d1⟩ ⟨o2, g2, c2, n2, d2⟩ (by omega) (fun j h1 h2 => by
      obtain ⟨t1, e1⟩ := at1 i1 j (by simpa using h1)
      obtain ⟨t2, e2⟩ := at1 i2 j (by simpa using h2)
      have q1 := PySem.SeqAt.EqAt.int_int (A := X.A.in1) (s := s) (ns.getD j 0) t1 (ms.getD j 0) t2
      simp only [List.getElem_toArray, e1, e2]
      exact q1) (fun j h1 h2 _ => by
      obtain ⟨t1, e1⟩ := at1 i1 j (by simpa using h1)
      obtain ⟨t2, e2⟩ := at1 i2 j (by simpa using h2)
      simp only [List.getElem_toArray, e1, e2]
      exact fun prog w E Q h => lt_int h)
  rw [show (List.range (min its.toArray.size its2.toArray.size)) = List.range (min ns.length ms.length) by rw [List.size_toArray, List.size_toArray, l1, l2], show (decide (its.toArray.size < its2.toArray.size)) = decide (ns.length < ms.length) by rw [List.size_toArray, List.size_toArray, l1, l2]] at key
  exact key _ _ _ _ ⟨.bl (lexI ns ms), H, I, rfl, q⟩
end
def ltLD (a b : D) : R D := match a.litems, b.litems with
  | some xs, some ys => (match D.ints xs, D.ints ys with
    | some ns, some ms => .ok (.bl (lexI ns ms))
    | _, _ => .bad)
  | _, _ => .bad
theorem opd_ltL : OpD K (rLtL K) ltLD := by
  intro ec x H v w a b Q ra rb h
  unfold ltLD at h
  split at h
  · rename_i xs ys e1 e2
    split at h
    · rename_i ns ms f1 f2
      obtain ⟨p, vs, rfl, hs, rs⟩ := ra.litemsI (K := K) e1
      obtain ⟨q, us, rfl, hq, rq⟩ := rb.litemsI (K := K) e2
      have ev := rs.intsI f1
      subst ev
      have eu := rq.intsI f2
      subst eu
      exact ⟨p, q, ns, ms, rfl, rfl, hs, hq, h _ _ (Same.refl _) (.bl _)⟩
    · exact h.elim
  · exact h.elim
end Sm
/-! Sm, part Q: boxes of switches, how they lie in an abstract heap; their methods' promises. -/
namespace Sm
open PySem L2
variable {K : PySem.W.Frag}
theorem passNo' {X : Cx} : Passes (L2.CX X.prog X.w) X (fun _ _ _ => False) := fun _ _ _ _ _ _ _ h => by
  obtain ⟨_, _, _, _, _, _, _, _, _, _, _, _, z⟩ := h
  exact z.elim
theorem passT {X : Cx} {E : XK} (tk : Takes X (fun cls d _ H => E cls d H)) : Passes (L2.CX X.prog X.w) X E := fun pins σ H s e s' I h => passAt tk σ pins H s e s' I h
theorem upd_id {H : Hp} {a : Addr} {x : HO} (h : H a = some x) : upd H a x = H := by
  funext b
  by_cases q : b = a
  · subst q; rw [upd_same, h]
  · rw [upd_ne q]
theorem ifN {b : Bool} {p q : Prop} (hb : b = false) (h : q) : if b = true then p else q := by
  rw [if_neg (by rw [hb]; decide)]
  exact h
theorem ifY {b : Bool} {p q : Prop} (hb : b = true) (h : p) : if b = true then p else q := by
  rw [if_pos hb]
  exact h
abbrev cS (K : PySem.W.Frag) : Addr := He.ga K "Switch"
abbrev cB (K : PySem.W.Frag) : Addr := He.ga K "Box"
/-- a switch's attributes, as __init__ stores them -/
def swF (lo hi : Int) (st : Bool) : List (Str × V) := [("low", .int lo), ("high", .int hi), ("state", .bl st)]
def bxF (top : Int) (p : Addr) (at_ : Int) : List (Str × V) := [("top", .int top), ("parts", .ref p), ("at", .int at_)]
/-- what stands in the text about the two classes -/
structure BxT (K : PySem.W.Frag) (mg : Str → Option Value) : Prop where
  clS : Cls K (cS K)
  clB : Cls K (cB K)
  n1 : NoAttr K (cS K) "low"
  n2 : NoAttr K (cS K) "high"
  n3 : NoAttr K (cS K) "state"
  n4 : NoAttr K (cB K) "top"
  n5 : NoAttr K (cB K) "parts"
  n6 : NoAttr K (cB K) "at"
  mS1 : Meth K (cS K) "turn" (He.ma K (cS K) "turn")
  mS2 : Meth K (cS K) "on" (He.ma K (cS K) "on")
  mB1 : Meth K (cB K) "turn" (He.ma K (cB K) "turn")
  mB2 : Meth K (cB K) "answer" (He.ma K (cB K) "answer")
  mB3 : Meth K (cB K) "lit" (He.ma K (cB K) "lit")
  mB4 : Meth K (cB K) "anew" (He.ma K (cB K) "anew")
  mk1 : Mk K (cS K) (He.ma K (cS K) "__init__")
  mk2 : Mk K (cB K) (He.ma K (cB K) "__init__")
  gS : mg "Switch" = some (.ref (cS K))
  gB : mg "Box" = some (.ref (cB K))
/-- a switch turned -/
def swS (lo hi pl : Int) (st : Bool) : Bool := if hi ≤ pl then true else if pl ≤ lo then false else st
def spSwInit (K : PySem.W.Frag) : Sp := fun vs H Q E => ∃ (a dx : Addr) (lo hi : Int), vs = [.ref a, .int lo, .int hi] ∧ H a = some (.ins (cS K) dx []) ∧ (¬ (0 ≤ lo ∧ lo < hi) → E (.ref (ecK K 5)) none H) ∧ (0 ≤ lo ∧ lo < hi → Q .non (upd H a (.ins (cS K) dx (swF lo hi false))))
def spSwTurn (K : PySem.W.Frag) : Sp := fun vs H Q _ => ∃ (a dx : Addr) (lo hi pl : Int) (st : Bool), vs = [.ref a, .int pl] ∧ H a = some (.ins (cS K) dx (swF lo hi st)) ∧ Q .non (upd H a (.ins (cS K) dx (swF lo hi (swS lo hi pl st))))
def spSwOn (K : PySem.W.Frag) : Sp := fun vs H Q _ => ∃ (a dx : Addr) (lo hi : Int) (st : Bool), vs = [.ref a] ∧ H a = some (.ins (cS K) dx (swF lo hi st)) ∧ Q (.bl st) H
theorem swF_low (lo hi : Int) (st : Bool) : (swF lo hi st).lookup ("low" : Str) = some (.int lo) := by rfl
theorem swF_high (lo hi : Int) (st : Bool) : (swF lo hi st).lookup ("high" : Str) = some (.int hi) := by rfl
theorem swF_state (lo hi : Int) (st : Bool) : (swF lo hi st).lookup ("state" : Str) = some (.bl st) := by rfl
theorem swF_no1 (lo hi : Int) (st : Bool) : (swF lo hi st).lookup ("turn" : Str) = none := by rfl
theorem swF_no2 (lo hi : Int) (st : Bool) : (swF lo hi st).lookup ("on" : Str) = none := by rfl
theorem swF_put (lo hi : Int) (st st' : Bool) : putF "state" (.bl st') (swF lo hi st) = swF lo hi st' := by rfl
theorem swF_mk (lo hi : Int) (st : Bool) : putF "state" (.bl st) (putF "high" (.int hi) (putF "low" (.int lo) [])) = swF lo hi st := by rfl
theorem bxF_top (t a : Int) (p : Addr) : (bxF t p a).lookup ("top" : Str) = some (.int t) := by rfl
theorem bxF_parts (t a : Int) (p : Addr) : (bxF t p a).lookup ("parts" : Str) = some (.ref p) := by rfl
theorem bxF_at (t a : Int) (p : Addr) : (bxF t p a).lookup ("at" : Str) = some (.int a) := by rfl
theorem bxF_put (t a a' : Int) (p : Addr) : putF "at" (.int a') (bxF t p a) = bxF t p a' := by rfl
theorem bxF_mk (t a : Int) (p : Addr) : putF "at" (.int a) (putF "parts" (.ref p) (putF "top" (.int t) [])) = bxF t p a := by rfl
theorem bxF_no1 (t a : Int) (p : Addr) : (bxF t p a).lookup ("turn" : Str) = none := by rfl
theorem bxF_no2 (t a : Int) (p : Addr) : (bxF t p a).lookup ("answer" : Str) = none := by rfl
theorem bxF_no3 (t a : Int) (p : Addr) : (bxF t p a).lookup ("lit" : Str) = none := by rfl
theorem bxF_no4 (t a : Int) (p : Addr) : (bxF t p a).lookup ("anew" : Str) = none := by rfl
/-- a part of a box: its tuple, its switch, the switch's dict -/
structure Pt where
  t : Addr
  s : Addr
  d : Addr
  lo : Int
  hi : Int
  w : Int
  st : Bool
def Pt.turn (pl : Int) (q : Pt) : Pt := { q with st := swS q.lo q.hi pl q.st }
structure PtsAt (K : PySem.W.Frag) (H : Hp) (ps : List Pt) : Prop where
  tp : ∀ q ∈ ps, H q.t = some (.tup [.ref q.s, .int q.w])
  sw : ∀ q ∈ ps, H q.s = some (.ins (cS K) q.d (swF q.lo q.hi q.st))
  nd : (ps.map Pt.s).Nodup
structure BxAt (K : PySem.W.Frag) (H : Hp) (b dx p : Addr) (top at_ : Int) (ps : List Pt) : Prop where
  ob : H b = some (.ins (cB K) dx (bxF top p at_))
  ls : H p = some (.lst (ps.map fun q => .ref q.t))
  pt : PtsAt K H ps
def ansP (ps : List Pt) : Int := ((ps.filter (·.st)).map (·.w)).sum
/-- nothing else has changed -/
def Keeps (H H' : Hp) (b : Addr) (ps : List Pt) : Prop := ∀ c o, H c = some o → c ≠ b → (∀ q ∈ ps, c ≠ q.s) → H' c = some o
def spBxAns (K : PySem.W.Frag) : Sp := fun vs H Q _ => ∃ (b dx p : Addr) (top at_ : Int) (ps : List Pt), vs = [.ref b] ∧ BxAt K H b dx p top at_ ps ∧ ps.length ≤ 100000 ∧ ∀ H', Same H H' → Q (.int (ansP ps)) H'
abbrev no3 : XK := fun _ _ _ => False
theorem tr_bx_answer (T : BxT K mg) {N : List Str} {vs : List V} {H : Hp} {Q : VK} {E : XK} (hN : N.length = 3) (h : spBxAns K vs H Q E) :
    tRet (tCB (rSum K) (tCons (tLc (iList K (tFld K (tVar 0) "parts")) (gTup K 2 (gCons (gName 1) (gCons (gName 2) gNil))) (tB (tMeth (cS K) "on" (spSwOn K) [] no3 (tVar 1) tNil)) (tVar 2) [1, 2]) tNil)) { nx := fun _ H' => Q .non H', rt := Q } (L2.start N vs) H := by
  obtain ⟨b, dx, p, top, at_, ps, rfl, B, hl, q⟩ := h
  have e0 : L2.start N [.ref b] = [some (.ref b), none, none] := by
    unfold L2.start
    rw [hN]
    rfl
  rw [e0]
  refine ⟨_, rfl, b, _, dx, _, _, rfl, B.ob, T.clB, T.n5, bxF_parts _ _ _, p, rfl, ⟨_, .inl (.inl B.ls)⟩, fun D hD => ?_⟩
  have hne : ∀ c o, H c = some o → c ≠ D := fun c o e z => by
    subst z
    rw [hD] at e
    cases e
  refine lc_list (xs := ps.map fun q => .ref q.t) (fun i H' => H' = upd H D (.lst (((ps.take i).filter (·.st)).map fun q => .int q.w))) (by simp) ?_ ?_ ?_
  · rintro i H' - rfl
    exact .inl (.inl ((upd_ne (hne _ _ B.ls)).trans B.ls))
  · rintro i x H' hx rfl
    obtain ⟨z, hz, rfl⟩ : ∃ z, ps[i]? = some z ∧ x = .ref z.t := by
      rw [List.getElem?_map] at hx
      obtain ⟨z, h1, h2⟩ := Option.map_eq_some_iff.mp hx
      exact ⟨z, h1, h2.symm⟩
    have hm : z ∈ ps := List.mem_of_getElem? hz
    have h1 := B.pt.tp z hm
    have h2 := B.pt.sw z hm
    refine ⟨z.t, _, rfl, .inl (.inl ((upd_ne (hne _ _ h1)).trans h1)), rfl, ?_⟩
    refine ⟨_, _, rfl, _, _, rfl, rfl, rfl, ?_⟩
    have h3 : upd H D (.lst (((ps.take i).filter (·.st)).map fun q => V.int q.w)) z.s = some (.ins (cS K) z.d (swF z.lo z.hi z.st)) := (upd_ne (hne _ _ h2)).trans h2
    refine ⟨_, rfl, z.s, z.d, _, rfl, h3, swF_no2 _ _ _, z.s, z.d, _, _, _, rfl, h3, z.st, rfl, ?_⟩
    have hi : i < ps.length := (List.getElem?_eq_some_iff.mp hz).1
    have ht : ps.take (i + 1) = ps.take i ++ [z] := by
      rw [List.take_add_one, hz]
      rfl
    rw [ht, List.filter_append, List.map_append]
    by_cases c : z.st = true
    · refine ifY c ⟨_, rfl, _, upd_same, ?_, ?_⟩
      · have h1 := List.length_filter_le (fun q : Pt => q.st) (ps.take i)
        have h2 := List.length_take_le i ps
        rw [List.length_map, sizeLine_eq]
        omega
      · rw [L2.upd_upd]
        simp [c]
    · have c' : z.st = false := by simpa using c
      refine ifN c' ?_
      simp [c']
  · rintro H' rfl
    have hlen : (ps.map fun q => V.ref q.t).length = ps.length := by simp
    rw [hlen, List.take_length]
    refine ⟨D, (ps.filter (·.st)).map (·.w), rfl, .inl (.inl ?_), ?_⟩
    · rw [upd_same, List.map_map]
      rfl
    · refine q _ fun c o e => ?_
      rw [upd_ne (hne _ _ e)]
      exact e
theorem BxAt.mono {H H' : Hp} {b dx p : Addr} {top at_ : Int} {ps : List Pt} (B : BxAt K H b dx p top at_ ps) (s : Same H H') : BxAt K H' b dx p top at_ ps :=
  ⟨s _ _ B.ob, s _ _ B.ls, ⟨fun q hq => s _ _ (B.pt.tp q hq), fun q hq => s _ _ (B.pt.sw q hq), B.pt.nd⟩⟩
theorem ne_ho {H : Hp} {a b : Addr} {x y : HO} (h1 : H a = some x) (h2 : H b = some y) (h : x ≠ y) : a ≠ b := fun e => by
  subst e
  rw [h1] at h2
  exact h (Option.some.inj h2)
theorem sw_bx {C C' d d' p : Addr} {lo hi top at_ : Int} {st : Bool} : HO.ins C d (swF lo hi st) ≠ HO.ins C' d' (bxF top p at_) := fun e => by
  injection e with _ _ e2
  unfold swF bxF at e2
  injection e2 with e3 _
  injection e3 with e4 _
  exact absurd e4 (by decide +kernel)
theorem PtsAt.step {H : Hp} {A B : List Pt} {z : Pt} (h : PtsAt K H (A ++ z :: B)) (st : Bool) : PtsAt K (upd H z.s (.ins (cS K) z.d (swF z.lo z.hi st))) (A ++ { z with st := st } :: B) := by
  have hz := h.sw z (by simp)
  have nd := h.nd
  rw [List.map_append, List.map_cons] at nd
  have hA : ∀ q ∈ A, q.s ≠ z.s := fun q hq e => by
    have := (List.nodup_append.mp nd).2.2 q.s (List.mem_map_of_mem hq) z.s List.mem_cons_self
    exact this e
  have hB : ∀ q ∈ B, q.s ≠ z.s := fun q hq e => by
    have := (List.nodup_cons.mp (List.nodup_append.mp nd).2.1).1
    exact this (e ▸ List.mem_map_of_mem hq)
  have old : ∀ q ∈ A ++ { z with st := st } :: B, q = { z with st := st } ∨ (q ∈ A ++ z :: B ∧ q.s ≠ z.s) := by
    intro q hq
    rcases List.mem_append.mp hq with hq | hq
    · exact .inr ⟨List.mem_append_left _ hq, hA q hq⟩
    · rcases List.mem_cons.mp hq with hq | hq
      · exact .inl hq
      · exact .inr ⟨List.mem_append_right _ (List.mem_cons_of_mem _ hq), hB q hq⟩
  refine ⟨fun q hq => ?_, fun q hq => ?_, ?_⟩
  · rcases old q hq with rfl | ⟨h1, h2⟩
    · have := h.tp z (by simp)
      exact (upd_ne (ne_ho this hz (by intro e; cases e))).trans this
    · have := h.tp q h1
      exact (upd_ne (ne_ho this hz (by intro e; cases e))).trans this
  · rcases old q hq with rfl | ⟨h1, h2⟩
    · exact upd_same
    · exact (upd_ne h2).trans (h.sw q h1)
  · rw [List.map_append, List.map_cons]
    exact nd
def spBxTurn (K : PySem.W.Frag) : Sp := fun vs H Q E => ∃ (b dx p : Addr) (top at_ : Int) (ps : List Pt) (pl : Int), vs = [.ref b, .int pl] ∧ BxAt K H b dx p top at_ ps ∧ ps.length ≤ 100000 ∧
  (¬ (0 ≤ pl ∧ pl ≤ top) → E (.ref (ecK K 6)) none H) ∧ (0 ≤ pl ∧ pl ≤ top → ∀ H', BxAt K H' b dx p top pl (ps.map (Pt.turn pl)) → Keeps H H' b ps → Q (.int (ansP (ps.map (Pt.turn pl)))) H')
theorem tr_bx_turn (T : BxT K mg) {N : List Str} {vs : List V} {H : Hp} {Q : VK} {E : XK} (hN : N.length = 4) (h : spBxTurn K vs H Q E) :
    tSeq (tIfS (tNot (tTest (tChain (rI0 fun i j => .bl (decide (i ≤ j))) (rI0 fun i j => .bl (decide (i ≤ j))) (tC (.int 0)) (tVar 1) (tFld K (tVar 0) "top")))) (fun _ _ H => E (.ref (ecK K 6)) none H) tNext)
      (tSeq (sFld K (tVar 0) (tVar 1) "at") (tSeq (tFor (iList K (tFld K (tVar 0) "parts")) (gTup K 2 (gCons (gName 2) (gCons (gName 3) gNil))) (tDrop (tMeth (cS K) "turn" (spSwTurn K) [] E (tVar 2) (tCons (tVar 1) tNil))))
        (tRet (tMeth (cB K) "answer" (spBxAns K) [] E (tVar 0) tNil)))) { nx := fun _ H' => Q .non H', rt := Q } (L2.start N vs) H := by
  obtain ⟨b, dx, p, top, at_, ps, pl, rfl, B, hl, hE, q⟩ := h
  have e0 : L2.start N [.ref b, .int pl] = [some (.ref b), some (.int pl), none, none] := by
    unfold L2.start
    rw [hN]
    rfl
  rw [e0]
  refine ⟨_, rfl, _, _, rfl, rfl, _, rfl, ?_⟩
  by_cases c0 : 0 ≤ pl
  rotate_left
  · refine ifN (decide_eq_false c0) ?_
    exact ⟨_, rfl, ifY rfl (hE fun z => c0 z.1)⟩
  refine ifY (decide_eq_true c0) ?_
  refine ⟨_, rfl, b, _, dx, _, _, rfl, B.ob, T.clB, T.n4, bxF_top _ _ _, _, _, rfl, rfl, _, rfl, ?_⟩
  by_cases c1 : pl ≤ top
  rotate_left
  · have : (!decide (pl ≤ top)) = true := by simpa using c1
    exact ifY this (hE fun z => c1 z.2)
  have : (!decide (pl ≤ top)) = false := by simpa using c1
  refine ifN this ?_
  refine ⟨_, rfl, _, rfl, b, _, dx, _, rfl, B.ob, T.clB, T.n6, (by show 3 < 1000; decide), ?_⟩
  rw [bxF_put]
  have nbp : p ≠ b := ne_ho B.ls B.ob (by intro e; cases e)
  refine ⟨_, rfl, b, _, dx, _, _, rfl, upd_same, T.clB, T.n5, bxF_parts _ _ _, p, rfl, ⟨_, .inl (.inl ((upd_ne nbp).trans B.ls))⟩, ?_⟩
  refine for_list (K := K) (a := p) (xs := ps.map fun q => .ref q.t) (fun i σ' H' => (∃ s2 s3, σ' = [some (.ref b), some (.int pl), s2, s3]) ∧ H' b = some (.ins (cB K) dx (bxF top p pl)) ∧ H' p = some (.lst (ps.map fun q => .ref q.t)) ∧ PtsAt K H' ((ps.take i).map (Pt.turn pl) ++ ps.drop i) ∧ Keeps H H' b ps) ?_ ?_ ?_ ?_
  · refine ⟨⟨_, _, rfl⟩, upd_same, (upd_ne nbp).trans B.ls, ?_, fun c o e h1 _ => (upd_ne h1).trans e⟩
    rw [List.take_zero, List.drop_zero]
    exact ⟨fun q hq => (upd_ne (ne_ho (B.pt.tp q hq) B.ob (by intro e; cases e))).trans (B.pt.tp q hq), fun q hq => (upd_ne (ne_ho (B.pt.sw q hq) B.ob sw_bx)).trans (B.pt.sw q hq), B.pt.nd⟩
  · rintro i σ' H' - ⟨_, _, h2, _⟩
    exact .inl (.inl h2)
  · rintro i x σ' H' hx ⟨⟨s2, s3, rfl⟩, h1, h2, h3, h4⟩
    obtain ⟨z, hz, rfl⟩ : ∃ z, ps[i]? = some z ∧ x = .ref z.t := by
      rw [List.getElem?_map] at hx
      obtain ⟨z, h1, h2⟩ := Option.map_eq_some_iff.mp hx
      exact ⟨z, h1, h2.symm⟩
    have hi : i < ps.length := (List.getElem?_eq_some_iff.mp hz).1
    have hd : ps.drop i = z :: ps.drop (i + 1) := by
      rw [List.drop_eq_getElem_cons hi]
      congr 1
      exact Option.some.inj ((List.getElem?_eq_getElem hi).symm.trans hz)
    have ht : ps.take (i + 1) = ps.take i ++ [z] := by
      rw [List.take_add_one, hz]
      rfl
    rw [hd] at h3
    have hm : z ∈ (ps.take i).map (Pt.turn pl) ++ z :: ps.drop (i + 1) := by simp
    have k1 := h3.tp z hm
    have k2 := h3.sw z hm
    refine ⟨z.t, _, rfl, .inl (.inl k1), rfl, ?_⟩
    refine ⟨_, _, rfl, _, _, rfl, rfl, ?_⟩
    refine ⟨_, rfl, z.s, z.d, _, rfl, k2, swF_no1 _ _ _, _, rfl, z.s, z.d, _, _, _, _, rfl, k2, ?_⟩
    have hsb : z.s ≠ b := ne_ho k2 h1 sw_bx
    have hsp : z.s ≠ p := ne_ho k2 h2 (by intro e; cases e)
    refine ⟨⟨_, _, rfl⟩, (upd_ne hsb.symm).trans h1, (upd_ne hsp.symm).trans h2, ?_, ?_⟩
    · have := h3.step (swS z.lo z.hi pl z.st)
      rw [ht, List.map_append, List.append_assoc]
      exact this
    · intro c o e hc1 hc2
      rw [upd_ne (hc2 z (List.mem_of_getElem? hz))]
      exact h4 c o e hc1 hc2
  · rintro σ' H' ⟨⟨s2, s3, rfl⟩, h1, h2, h3, h4⟩
    rw [List.length_map, List.take_length, List.drop_length, List.append_nil] at h3
    have hps : (ps.map (Pt.turn pl)).map (fun q => V.ref q.t) = ps.map fun q => V.ref q.t := by
      rw [List.map_map]
      rfl
    have B2 : BxAt K H' b dx p top pl (ps.map (Pt.turn pl)) := ⟨h1, by rw [hps]; exact h2, h3⟩
    refine ⟨_, rfl, b, dx, _, rfl, h1, bxF_no2 _ _ _, b, dx, p, _, _, _, rfl, B2, by rw [List.length_map]; exact hl, fun H'' hs => ?_⟩
    exact q ⟨c0, c1⟩ H'' (B2.mono hs) fun c o e hc1 hc2 => hs _ _ (h4 c o e hc1 hc2)
end Sm
/-! Sm, part R: a box is made, turned, asked; the mirrors of the defs that make one. -/
namespace Sm
open PySem L2
variable {K : PySem.W.Frag}
abbrev Rw := Int × Int × Int
def rowD (r : Rw) : D := .tup [.int r.1, .int r.2.1, .int r.2.2]
structure RwAt (H : Hp) (sl : Addr) (zs : List (Addr × Rw)) : Prop where
  ls : H sl = some (.lst (zs.map fun z => .ref z.1))
  tp : ∀ z ∈ zs, H z.1 = some (.tup [.int z.2.1, .int z.2.2.1, .int z.2.2.2])
theorem RwAt.mono {H H' : Hp} {sl : Addr} {zs : List (Addr × Rw)} (h : RwAt H sl zs) (s : Same H H') : RwAt H' sl zs := ⟨s _ _ h.ls, fun z hz => s _ _ (h.tp z hz)⟩
theorem rows_of {U : Hp} : ∀ {vs : List V} {rows : List Rw}, Rps K U vs (rows.map rowD) → ∃ zs : List (Addr × Rw), zs.map (·.2) = rows ∧ vs = zs.map (fun z => V.ref z.1) ∧ ∀ z ∈ zs, U z.1 = some (.tup [.int z.2.1, .int z.2.2.1, .int z.2.2.2])
  | _, [], h => by
    cases h
    exact ⟨[], rfl, rfl, fun z hz => by simp at hz⟩
  | _, r :: rows, h => by
    cases h with
    | cons a b =>
      obtain ⟨zs, e1, e2, e3⟩ := rows_of b
      obtain ⟨p, ws, rfl, hp, rp⟩ := Rp.tupI a
      cases rp with
      | cons a1 b1 =>
        cases b1 with
        | cons a2 b2 =>
          cases b2 with
          | cons a3 b3 =>
            cases b3
            cases a1
            cases a2
            cases a3
            refine ⟨(p, r) :: zs, by simp [e1], by simp [e2], fun z hz => ?_⟩
            rcases List.mem_cons.mp hz with rfl | hz
            · exact hp
            · exact e3 z hz
theorem rwAt_of {U : Hp} {v : V} {rows : List Rw} (h : Rp K U v (.lst (rows.map rowD))) : ∃ sl zs, v = .ref sl ∧ zs.map (·.2) = rows ∧ RwAt U sl zs := by
  obtain ⟨a, vs, rfl, ha, r⟩ := Rp.lstI h
  obtain ⟨zs, e1, e2, e3⟩ := rows_of r
  subst e2
  exact ⟨a, zs, rfl, e1, ha, e3⟩
def Pt.row (q : Pt) : Rw := (q.lo, q.hi, q.w)
def Pt.rb (q : Pt) : Rw × Bool := (q.row, q.st)
/-- a box, plainly: its rows, each with its state -/
def turnB (pl : Int) (bx : List (Rw × Bool)) : List (Rw × Bool) := bx.map fun z => (z.1, swS z.1.1 z.1.2.1 pl z.2)
def ansB (bx : List (Rw × Bool)) : Int := ((bx.filter (·.2)).map (·.1.2.2)).sum
def offB (rows : List Rw) : List (Rw × Bool) := rows.map fun r => (r, false)
theorem rb_turn (pl : Int) (ps : List Pt) : (ps.map (Pt.turn pl)).map Pt.rb = turnB pl (ps.map Pt.rb) := by
  unfold turnB
  rw [List.map_map, List.map_map]
  rfl
theorem ansP_rb : ∀ ps : List Pt, ansP ps = ansB (ps.map Pt.rb)
  | [] => rfl
  | q :: ps => by
    have ih := ansP_rb ps
    unfold ansP ansB at ih ⊢
    rw [List.map_cons, List.filter_cons, List.filter_cons]
    have e : (Pt.rb q).2 = q.st := rfl
    rw [e]
    split
    · rw [List.map_cons, List.map_cons, List.sum_cons, List.sum_cons, ih]
      rfl
    · exact ih
def spBxInit (K : PySem.W.Frag) : Sp := fun vs H Q E => ∃ (b dx sl : Addr) (top : Int) (zs : List (Addr × Rw)), vs = [.ref b, .int top, .ref sl] ∧ H b = some (.ins (cB K) dx []) ∧ RwAt H sl zs ∧ zs.length ≤ 100000 ∧
  (¬ (1 ≤ top ∧ top ≤ 16) → E (.ref (ecK K 4)) none H) ∧ (1 ≤ top ∧ top ≤ 16 → (∃ z ∈ zs, top < z.2.2.1) → E (.ref (ecK K 5)) none H) ∧
  (1 ≤ top ∧ top ≤ 16 → (∀ z ∈ zs, z.2.2.1 ≤ top) → ((∃ z ∈ zs, ¬ (0 ≤ z.2.1 ∧ z.2.1 < z.2.2.1)) → ∀ H', (∀ c o, H c = some o → c ≠ b → H' c = some o) → E (.ref (ecK K 5)) none H') ∧ ((∀ z ∈ zs, 0 ≤ z.2.1 ∧ z.2.1 < z.2.2.1) → ∀ H' p ps, BxAt K H' b dx p top 0 ps → ps.map Pt.rb = offB (zs.map (·.2)) → (∀ q ∈ ps, H q.s = none) → (∀ c o, H c = some o → c ≠ b → H' c = some o) → Q .non H'))
def bF1 (top : Int) : List (Str × V) := [("top", .int top)]
def bF2 (top : Int) (p : Addr) : List (Str × V) := [("top", .int top), ("parts", .ref p)]
theorem bF1_mk (top : Int) : putF "top" (.int top) [] = bF1 top := by rfl
theorem bF2_mk (top : Int) (p : Addr) : putF "parts" (.ref p) (bF1 top) = bF2 top p := by rfl
theorem bF3_mk (top : Int) (p : Addr) : putF "at" (.int 0) (bF2 top p) = bxF top p 0 := by rfl
abbrev rLe : R2 := rI0 fun i j => .bl (decide (i ≤ j))
abbrev rGt : R2 := rI0 fun i j => .bl (decide (j < i))
theorem keepN {H : Hp} {a c : Addr} {o x : HO} (h : H a = none) (hc : H c = some o) : upd H a x c = some o := (upd_ne (ne_of_none hc h)).trans hc
theorem ix_tup {K : PySem.W.Frag} {H : Hp} {a : Addr} {xs : List V} {i : Int} {v : V} {Q : VK} (h : H a = some (.tup xs)) (e : atI xs i = some v) (q : Q v H) : rIx K (.ref a) (.int i) H Q := .inr (.inl ⟨a, xs, i, v, rfl, rfl, .inl (.inl h), e, q⟩)
theorem tr_bx_init (T : BxT K mg) {N : List Str} {vs : List V} {H : Hp} {Q : VK} {E : XK} (hN : N.length = 4) (h : spBxInit K vs H Q E) :
    tSeq (tIfS (tNot (tTest (tChain rLe rLe (tC (.int 1)) (tVar 1) (tC (.int 16))))) (fun _ _ H => E (.ref (ecK K 4)) none H) tNext)
      (tSeq (tFor (iList K (tVar 2)) (gName 3) (tIfS (tTest (tOp rGt (tOp (rIx K) (tVar 3) (tC (.int 1))) (tVar 1))) (fun _ _ H => E (.ref (ecK K 5)) none H) tNext))
        (tSeq (sFld K (tVar 0) (tVar 1) "top")
          (tSeq (sFld K (tVar 0) (tLc (iList K (tVar 2)) (gName 3) tYes (tTup (tCons (tMake (cS K) (spSwInit K) [] E (tCons (tOp (rIx K) (tVar 3) (tC (.int 0))) (tCons (tOp (rIx K) (tVar 3) (tC (.int 1))) tNil))) (tCons (tOp (rIx K) (tVar 3) (tC (.int 2))) tNil))) [3]) "parts")
            (sFld K (tVar 0) (tC (.int 0)) "at")))) { nx := fun _ H' => Q .non H', rt := Q } (L2.start N vs) H := by
  obtain ⟨b, dx, sl, top, zs, rfl, hb, R, hl, h4, h5, hq⟩ := h
  have e0 : L2.start N [.ref b, .int top, .ref sl] = [some (.ref b), some (.int top), some (.ref sl), none] := by
    unfold L2.start
    rw [hN]
    rfl
  rw [e0]
  refine ⟨_, rfl, _, _, rfl, rfl, _, rfl, ?_⟩
  by_cases c0 : 1 ≤ top
  rotate_left
  · refine ifN (decide_eq_false c0) ?_
    exact ⟨_, rfl, ifY rfl (h4 fun z => c0 z.1)⟩
  refine ifY (decide_eq_true c0) ?_
  refine ⟨_, _, rfl, rfl, _, rfl, ?_⟩
  by_cases c1 : top ≤ 16
  rotate_left
  · have : (!decide (top ≤ 16)) = true := by simpa using c1
    exact ifY this (h4 fun z => c1 z.2)
  have : (!decide (top ≤ 16)) = false := by simpa using c1
  refine ifN this ?_
  have h5 := h5 ⟨c0, c1⟩
  have hq := hq ⟨c0, c1⟩
  refine ⟨_, rfl, sl, rfl, ⟨_, .inl (.inl R.ls)⟩, ?_⟩
  refine for_list (K := K) (a := sl) (xs := zs.map fun z => .ref z.1) (fun i σ' H' => (∃ s3, σ' = [some (.ref b), some (.int top), some (.ref sl), s3]) ∧ H' = H ∧ ∀ z ∈ zs.take i, z.2.2.1 ≤ top) ?_ ?_ ?_ ?_
  · exact ⟨⟨_, rfl⟩, rfl, fun z hz => by simp at hz⟩
  · rintro i σ' H' - ⟨_, rfl, _⟩
    exact .inl (.inl R.ls)
  · rintro i x σ' H' hx ⟨⟨s3, rfl⟩, rfl, ha⟩
    obtain ⟨z, hz, rfl⟩ : ∃ z, zs[i]? = some z ∧ x = .ref z.1 := by
      rw [List.getElem?_map] at hx
      obtain ⟨z, h1, h2⟩ := Option.map_eq_some_iff.mp hx
      exact ⟨z, h1, h2.symm⟩
    have ht : zs.take (i + 1) = zs.take i ++ [z] := by
      rw [List.take_add_one, hz]
      rfl
    have hm : z ∈ zs := List.mem_of_getElem? hz
    refine ⟨_, rfl, ix_tup (R.tp z hm) rfl ?_⟩
    refine ⟨_, rfl, _, _, rfl, rfl, _, rfl, ?_⟩
    by_cases c : top < z.2.2.1
    · exact ifY (decide_eq_true c) (h5 ⟨z, hm, c⟩)
    · refine ifN (decide_eq_false c) ⟨⟨_, rfl⟩, rfl, fun y hy => ?_⟩
      rw [ht] at hy
      rcases List.mem_append.mp hy with hy | hy
      · exact ha y hy
      · rw [List.mem_singleton.mp hy]
        omega
  · rintro σ' H' ⟨⟨s3, rfl⟩, rfl, ha⟩
    rw [List.length_map, List.take_length] at ha
    obtain ⟨hx5, hq⟩ := hq ha
    refine ⟨_, rfl, _, rfl, b, _, dx, _, rfl, hb, T.clB, T.n4, (by decide), ?_⟩
    rw [bF1_mk]
    have nbs : sl ≠ b := ne_ho R.ls hb (by intro e; cases e)
    refine ⟨_, rfl, sl, rfl, ⟨_, .inl (.inl ((upd_ne nbs).trans R.ls))⟩, fun D hD => ?_⟩
    have hDb : D ≠ b := fun e => by
      rw [e, upd_same] at hD
      cases hD
    have hDn : H' D = none := by
      rw [upd_ne hDb] at hD
      exact hD
    refine lc_list (xs := zs.map fun z => .ref z.1) (fun i H2 => (∀ z ∈ zs.take i, 0 ≤ z.2.1 ∧ z.2.1 < z.2.2.1) ∧ ∃ ps : List Pt, ps.map Pt.rb = offB ((zs.take i).map (·.2)) ∧ H2 D = some (.lst (ps.map fun q => .ref q.t)) ∧ H2 b = some (.ins (cB K) dx (bF1 top)) ∧ PtsAt K H2 ps ∧ (∀ q ∈ ps, H' q.s = none) ∧ (∀ c o, H' c = some o → c ≠ b → H2 c = some o)) ?_ ?_ ?_ ?_
    · refine ⟨fun z hz => by simp at hz, [], rfl, upd_same, ?_, ⟨fun q hq => by simp at hq, fun q hq => by simp at hq, List.nodup_nil⟩, fun q hq => by simp at hq, fun c o e hc => ?_⟩
      · rw [upd_ne hDb.symm, upd_same]
      · rw [upd_ne (ne_of_none e hDn), upd_ne hc]
        exact e
    · rintro i H2 - ⟨_, ps, _, _, _, _, _, k⟩
      exact .inl (.inl (k _ _ R.ls nbs))
    · rintro i x H2 hx ⟨hv, ps, q1, q2, q3, q4, q5, q6⟩
      obtain ⟨z, hz, rfl⟩ : ∃ z, zs[i]? = some z ∧ x = .ref z.1 := by
        rw [List.getElem?_map] at hx
        obtain ⟨z, h1, h2⟩ := Option.map_eq_some_iff.mp hx
        exact ⟨z, h1, h2.symm⟩
      have ht : zs.take (i + 1) = zs.take i ++ [z] := by
        rw [List.take_add_one, hz]
        rfl
      have hm : z ∈ zs := List.mem_of_getElem? hz
      have nbz : z.1 ≠ b := ne_ho (R.tp z hm) hb (by intro e; cases e)
      have kz := q6 _ _ (R.tp z hm) nbz
      have hlen : ps.length ≤ i := by
        have := congrArg List.length q1
        simp [offB] at this
        omega
      have hi : i < zs.length := (List.getElem?_eq_some_iff.mp hz).1
      refine ⟨rfl, ⟨_, rfl, ix_tup kz rfl ⟨_, rfl, ix_tup kz rfl fun x dx' hx hdx hne => ?_⟩⟩⟩
      have k0 : ∀ {c o}, H2 c = some o → upd (upd H2 dx' (.own x)) x (.ins (cS K) dx' []) c = some o := fun {c o} e => by
        rw [upd_ne (ne_of_none e hx), upd_ne (ne_of_none e hdx)]
        exact e
      refine ⟨x, dx', z.2.1, z.2.2.1, rfl, upd_same, fun no => hx5 ⟨z, hm, no⟩ _ fun c o e hc => k0 (q6 c o e hc), fun yes => ⟨rfl, ?_⟩⟩
      rw [L2.upd_upd]
      have k1 : ∀ {c o}, H2 c = some o → upd (upd H2 dx' (.own x)) x (.ins (cS K) dx' (swF z.2.1 z.2.2.1 false)) c = some o := fun {c o} e => by
        rw [upd_ne (ne_of_none e hx), upd_ne (ne_of_none e hdx)]
        exact e
      refine ⟨_, rfl, ix_tup (k1 kz) rfl ⟨(by rw [sizeLine_eq]; show 2 ≤ 16777216; decide), fun p hp => ?_⟩⟩
      have k2 : ∀ {c o}, H2 c = some o → upd (upd (upd H2 dx' (.own x)) x (.ins (cS K) dx' (swF z.2.1 z.2.2.1 false))) p (.tup [.ref x, .int z.2.2.2]) c = some o := fun {c o} e => keepN hp (k1 e)
      have hpx : x ≠ p := fun e => by
        rw [← e, upd_same] at hp
        cases hp
      have hDx : x ≠ D := (ne_of_none q2 hx).symm
      have hDp : p ≠ D := (ne_of_none (k1 q2) hp).symm
      refine ⟨_, k2 q2, by rw [List.length_map, sizeLine_eq]; omega, fun y hy => ?_, ps ++ [⟨p, x, dx', z.2.1, z.2.2.1, z.2.2.2, false⟩], ?_, ?_, ?_, ?_, ?_, ?_⟩
      · rw [ht] at hy
        rcases List.mem_append.mp hy with hy | hy
        · exact hv y hy
        · rw [List.mem_singleton.mp hy]
          exact yes
      · rw [ht, List.map_append, List.map_append, q1]
        unfold offB
        rw [List.map_append]
        rfl
      · rw [upd_same, List.map_append]
        rfl
      · rw [upd_ne hDb.symm]
        exact k2 q3
      · have w : ∀ q ∈ ps, q.t ≠ D ∧ q.s ≠ D := fun q hq => ⟨ne_ho (q4.tp q hq) q2 (by intro e; cases e), ne_ho (q4.sw q hq) q2 (by intro e; cases e)⟩
        refine ⟨fun q hq => ?_, fun q hq => ?_, ?_⟩
        · rcases List.mem_append.mp hq with hq | hq
          · rw [upd_ne (w q hq).1]
            exact k2 (q4.tp q hq)
          · rw [List.mem_singleton.mp hq]
            show upd _ D _ p = _
            rw [upd_ne hDp, upd_same]
        · rcases List.mem_append.mp hq with hq | hq
          · rw [upd_ne (w q hq).2]
            exact k2 (q4.sw q hq)
          · rw [List.mem_singleton.mp hq]
            show upd _ D _ x = _
            rw [upd_ne hDx, upd_ne hpx, upd_same]
        · rw [List.map_append, List.nodup_append]
          refine ⟨q4.nd, by simp, fun a ha c hc => ?_⟩
          obtain ⟨q, hq, rfl⟩ := List.mem_map.mp ha
          have : c = x := by simpa using hc
          subst this
          exact ne_of_none (q4.sw q hq) hx
      · intro q hq
        rcases List.mem_append.mp hq with hq | hq
        · exact q5 q hq
        · rw [List.mem_singleton.mp hq]
          show H' x = none
          cases e : H' x with
          | none => rfl
          | some o =>
            have hxb : x ≠ b := fun e => by
              rw [e] at hx
              rw [hx] at q3
              cases q3
            rw [q6 _ _ e hxb] at hx
            cases hx
      · intro c o e hc
        have := q6 c o e hc
        rw [upd_ne (ne_of_none e hDn)]
        exact k2 this
    · rintro H2 ⟨hv, ps, q1, q2, q3, q4, q5, q6⟩
      rw [List.length_map, List.take_length] at q1 hv
      refine ⟨_, rfl, b, _, dx, _, rfl, q3, T.clB, T.n5, (by show 1 < 1000; decide), ?_⟩
      rw [bF2_mk]
      refine ⟨_, rfl, b, _, dx, _, rfl, upd_same, T.clB, T.n6, (by show 2 < 1000; decide), ?_⟩
      rw [bF3_mk, L2.upd_upd]
      refine hq hv _ D ps ⟨upd_same, ?_, ⟨fun q hq => ?_, fun q hq => ?_, q4.nd⟩⟩ q1 q5 fun c o e hc => ?_
      · rw [upd_ne hDb]
        exact q2
      · rw [upd_ne (ne_ho (q4.tp q hq) q3 (by intro e; cases e))]
        exact q4.tp q hq
      · rw [upd_ne (ne_ho (q4.sw q hq) q3 (by
          intro e
          injection e with _ _ e2
          unfold swF bF1 at e2
          injection e2 with e3 _
          injection e3 with e4 _
          exact absurd e4 (by decide +kernel)))]
        exact q4.sw q hq
      · rw [upd_ne hc]
        exact q6 c o e hc
def spBxAnew (K : PySem.W.Frag) : Sp := fun vs H Q _ => ∃ (b dx p : Addr) (top at_ : Int) (ps : List Pt), vs = [.ref b] ∧ BxAt K H b dx p top at_ ps ∧ ps.length ≤ 100000 ∧ 0 ≤ top ∧ ∀ H', BxAt K H' b dx p top 0 (ps.map (Pt.turn 0)) → Keeps H H' b ps → Q .non H'
theorem tr_bx_anew {N : List Str} {vs : List V} {H : Hp} {Q : VK} {E : XK} (hN : N.length = 1) (h : spBxAnew K vs H Q E) :
    tDrop (tMeth (cB K) "turn" (spBxTurn K) [] E (tVar 0) (tCons (tC (.int 0)) tNil)) { nx := fun _ H' => Q .non H', rt := Q } (L2.start N vs) H := by
  obtain ⟨b, dx, p, top, at_, ps, rfl, B, hl, ht, q⟩ := h
  have e0 : L2.start N [.ref b] = [some (.ref b)] := by
    unfold L2.start
    rw [hN]
    rfl
  rw [e0]
  exact ⟨_, rfl, b, dx, _, rfl, B.ob, bxF_no1 _ _ _, b, dx, p, top, at_, ps, 0, rfl, B, hl, fun z => absurd ⟨Int.le_refl 0, ht⟩ z, fun _ H' B' k => q H' B' k⟩
/-! ### a box and lists beside it -/
structure BxI (K : PySem.W.Frag) (H H' : Hp) (b dx p : Addr) (top : Int) (bx : List (Rw × Bool)) (ls : List (Addr × List V)) : Prop where
  bt : ∃ at_ ps, BxAt K H' b dx p top at_ ps ∧ ps.map Pt.rb = bx ∧ ∀ q ∈ ps, H q.s = none
  bn : H b = none
  sm : Same H H'
  lv : ∀ r ∈ ls, H' r.1 = some (.lst r.2)
  ln : (ls.map (·.1)).Nodup
  lf : ∀ r ∈ ls, H r.1 = none ∧ r.1 ≠ p
variable {H H' : Hp} {b dx p : Addr} {top : Int} {bx : List (Rw × Bool)} {ls l1 l2 : List (Addr × List V)}
theorem BxI.keep {H'' : Hp} {bx' : List (Rw × Bool)} {at_ at2 : Int} {ps ps' : List Pt} (I : BxI K H H' b dx p top bx ls) (B : BxAt K H' b dx p top at_ ps) (B' : BxAt K H'' b dx p top at2 ps') (e : ps'.map Pt.rb = bx') (hs : ps'.map Pt.s = ps.map Pt.s) (f : ∀ q ∈ ps, H q.s = none) (k : Keeps H' H'' b ps) : BxI K H H'' b dx p top bx' ls := by
  refine ⟨⟨at2, ps', B', e, fun q hq => ?_⟩, I.bn, fun c o h => ?_, fun r hr => ?_, I.ln, I.lf⟩
  · have : q.s ∈ ps.map Pt.s := hs ▸ List.mem_map_of_mem hq
    obtain ⟨q', h1, h2⟩ := List.mem_map.mp this
    rw [← h2]
    exact f q' h1
  · exact k c o (I.sm c o h) (ne_of_none h I.bn) fun q hq => ne_of_none h (f q hq)
  · have := I.lv r hr
    exact k _ _ this (ne_ho this B.ob (by intro e; cases e)) fun q hq => ne_ho this (B.pt.sw q hq) (by intro e; cases e)
theorem turn_s (pl : Int) (ps : List Pt) : (ps.map (Pt.turn pl)).map Pt.s = ps.map Pt.s := by
  rw [List.map_map]
  rfl
theorem BxI.turn {Q : VK} {E : XK} {pl : Int} (I : BxI K H H' b dx p top bx ls) (hl : bx.length ≤ 100000) (h0 : 0 ≤ pl) (h1 : pl ≤ top) (q : ∀ H'', BxI K H H'' b dx p top (turnB pl bx) ls → Q (.int (ansB (turnB pl bx))) H'') : spBxTurn K [.ref b, .int pl] H' Q E := by
  obtain ⟨at_, ps, B, e, f⟩ := I.bt
  refine ⟨b, dx, p, top, at_, ps, pl, rfl, B, ?_, fun z => absurd ⟨h0, h1⟩ z, fun _ H'' B' k => ?_⟩
  · have := congrArg List.length e
    simp at this
    omega
  · have e2 : (ps.map (Pt.turn pl)).map Pt.rb = turnB pl bx := by rw [rb_turn, e]
    rw [ansP_rb, e2]
    exact q H'' (I.keep B B' e2 (turn_s pl ps) f k)
theorem BxI.turnX {Q : VK} {E : XK} {pl : Int} (I : BxI K H H' b dx p top bx ls) (hl : bx.length ≤ 100000) (hE : ¬ (0 ≤ pl ∧ pl ≤ top) → E (.ref (ecK K 6)) none H') (q : 0 ≤ pl ∧ pl ≤ top → ∀ H'', BxI K H H'' b dx p top (turnB pl bx) ls → Q (.int (ansB (turnB pl bx))) H'') : spBxTurn K [.ref b, .int pl] H' Q E := by
  obtain ⟨at_, ps, B, e, f⟩ := I.bt
  refine ⟨b, dx, p, top, at_, ps, pl, rfl, B, ?_, hE, fun hin H'' B' k => ?_⟩
  · have := congrArg List.length e
    simp at this
    omega
  · have e2 : (ps.map (Pt.turn pl)).map Pt.rb = turnB pl bx := by rw [rb_turn, e]
    rw [ansP_rb, e2]
    exact q hin H'' (I.keep B B' e2 (turn_s pl ps) f k)
theorem BxI.anew {Q : VK} {E : XK} (I : BxI K H H' b dx p top bx ls) (hl : bx.length ≤ 100000) (h1 : 0 ≤ top) (q : ∀ H'', BxI K H H'' b dx p top (turnB 0 bx) ls → Q .non H'') : spBxAnew K [.ref b] H' Q E := by
  obtain ⟨at_, ps, B, e, f⟩ := I.bt
  refine ⟨b, dx, p, top, at_, ps, rfl, B, ?_, h1, fun H'' B' k => ?_⟩
  · have := congrArg List.length e
    simp at this
    omega
  · have e2 : (ps.map (Pt.turn 0)).map Pt.rb = turnB 0 bx := by rw [rb_turn, e]
    exact q H'' (I.keep B B' e2 (turn_s 0 ps) f k)
theorem BxI.ob (I : BxI K H H' b dx p top bx ls) : ∃ fs, H' b = some (.ins (cB K) dx fs) ∧ fs.lookup ("turn" : Str) = none ∧ fs.lookup ("anew" : Str) = none ∧ fs.lookup ("lit" : Str) = none := by
  obtain ⟨at_, ps, B, e, f⟩ := I.bt
  exact ⟨_, B.ob, bxF_no1 _ _ _, bxF_no4 _ _ _, bxF_no3 _ _ _⟩
theorem BxI.new {a : Addr} {vs : List V} (I : BxI K H H' b dx p top bx ls) (h : H' a = none) : BxI K H (upd H' a (.lst vs)) b dx p top bx ((a, vs) :: ls) := by
  obtain ⟨at_, ps, B, e, f⟩ := I.bt
  refine ⟨⟨at_, ps, B.mono (same_new h), e, f⟩, I.bn, I.sm.trans (same_new h), fun r hr => ?_, ?_, fun r hr => ?_⟩
  · rcases List.mem_cons.mp hr with rfl | hr
    · exact upd_same
    · exact keepN h (I.lv r hr)
  · rw [List.map_cons, List.nodup_cons]
    refine ⟨fun hm => ?_, I.ln⟩
    obtain ⟨r, h1, h2⟩ := List.mem_map.mp hm
    have := I.lv r h1
    rw [h2, h] at this
    cases this
  · rcases List.mem_cons.mp hr with rfl | hr
    · exact ⟨I.sm.free h, (ne_of_none B.ls h).symm⟩
    · exact I.lf r hr
theorem BxI.put {a : Addr} {vs ws : List V} (I : BxI K H H' b dx p top bx (l1 ++ (a, vs) :: l2)) : BxI K H (upd H' a (.lst ws)) b dx p top bx (l1 ++ (a, ws) :: l2) := by
  obtain ⟨at_, ps, B, e, f⟩ := I.bt
  have ha := I.lv (a, vs) (by simp)
  have hf := I.lf (a, vs) (by simp)
  have hp : a ≠ p := hf.2
  have hn : H a = none := hf.1
  have ha : H' a = some (.lst vs) := ha
  have nd := I.ln
  rw [List.map_append, List.map_cons] at nd
  refine ⟨⟨at_, ps, ⟨?_, ?_, ⟨fun q hq => ?_, fun q hq => ?_, B.pt.nd⟩⟩, e, f⟩, I.bn, fun c o h => ?_, fun r hr => ?_, ?_, fun r hr => ?_⟩
  · exact (upd_ne (ne_ho B.ob ha (by intro e; cases e))).trans B.ob
  · exact (upd_ne hp.symm).trans B.ls
  · exact (upd_ne (ne_ho (B.pt.tp q hq) ha (by intro e; cases e))).trans (B.pt.tp q hq)
  · exact (upd_ne (ne_ho (B.pt.sw q hq) ha (by intro e; cases e))).trans (B.pt.sw q hq)
  · exact (upd_ne (ne_of_none h hn)).trans (I.sm c o h)
  · rcases List.mem_append.mp hr with hr | hr
    · have hne : r.1 ≠ a := (List.nodup_append.mp nd).2.2 r.1 (List.mem_map_of_mem hr) a List.mem_cons_self
      exact (upd_ne hne).trans (I.lv r (List.mem_append_left _ hr))
    · rcases List.mem_cons.mp hr with rfl | hr
      · exact upd_same
      · have hne : r.1 ≠ a := fun e => (List.nodup_cons.mp (List.nodup_append.mp nd).2.1).1 (List.mem_map.mpr ⟨r, hr, e⟩)
        exact (upd_ne hne).trans (I.lv r (List.mem_append_right _ (List.mem_cons_of_mem _ hr)))
  · rw [List.map_append, List.map_cons]
    exact nd
  · rcases List.mem_append.mp hr with hr | hr
    · exact I.lf r (List.mem_append_left _ hr)
    · rcases List.mem_cons.mp hr with rfl | hr
      · exact hf
      · exact I.lf r (List.mem_append_right _ (List.mem_cons_of_mem _ hr))
end Sm
/-! Sm, part S: the mirrors of the defs that make a box, and their promises. -/
namespace Sm
open PySem L2
variable {K : PySem.W.Frag}
def rowOf : D → Option Rw
  | .tup [.int a, .int b, .int c] => some (a, b, c)
  | _ => none
def rowsOf : List D → Option (List Rw)
  | [] => some []
  | d :: ds => match rowOf d, rowsOf ds with
    | some r, some rs => some (r :: rs)
    | _, _ => none
theorem rowOf_eq {d : D} {r : Rw} (h : rowOf d = some r) : d = rowD r := by
  unfold rowOf at h
  split at h
  · cases h; rfl
  · cases h
theorem rowsOf_eq : ∀ {ds : List D} {rows : List Rw}, rowsOf ds = some rows → ds = rows.map rowD
  | [], rows, h => by cases h; rfl
  | d :: ds, rows, h => by
    unfold rowsOf at h
    split at h
    · rename_i r rs e1 e2
      cases h
      rw [rowOf_eq e1, rowsOf_eq e2]
      rfl
    · cases h
theorem rowsOf_map : ∀ rows : List Rw, rowsOf (rows.map rowD) = some rows
  | [] => rfl
  | r :: rows => by
    rw [List.map_cons]
    unfold rowsOf
    rw [rowsOf_map rows]
    rfl
def intOf : D → Option Int
  | .int a => some a
  | _ => none
def intsOf : List D → Option (List Int)
  | [] => some []
  | d :: ds => match intOf d, intsOf ds with
    | some r, some rs => some (r :: rs)
    | _, _ => none
theorem intsOf_eq : ∀ {ds : List D} {xs : List Int}, intsOf ds = some xs → ds = xs.map D.int
  | [], rows, h => by cases h; rfl
  | d :: ds, rows, h => by
    unfold intsOf at h
    split at h
    · rename_i r rs e1 e2
      cases h
      have : d = .int r := by
        unfold intOf at e1
        split at e1
        · cases e1; rfl
        · cases e1
      rw [this, intsOf_eq e2]
      rfl
    · cases h
theorem intsOf_map : ∀ xs : List Int, intsOf (xs.map D.int) = some xs
  | [] => rfl
  | r :: rows => by
    rw [List.map_cons]
    unfold intsOf
    rw [intsOf_map rows]
    rfl
theorem rps_ints {U : Hp} : ∀ {vs : List V} {xs : List Int}, Rps K U vs (xs.map D.int) → vs = xs.map V.int
  | _, [], h => by cases h; rfl
  | _, x :: xs, h => by
    cases h with
    | cons a b =>
      cases a
      rw [rps_ints b]
      rfl
def okRow (r : Rw) : Bool := decide (0 ≤ r.1) && decide (r.1 < r.2.1)
/-- whether a box can be made -/
def boxOk (top : Int) (rows : List Rw) : R Unit :=
  if 100000 < rows.length then .bad else if ¬ (1 ≤ top ∧ top ≤ 16) then .exc 4 else if rows.any (fun r => decide (top < r.2.1)) = true then .exc 5 else if rows.all okRow = true then .ok () else .exc 5
def retV (rows : List Rw) (high low : Int) : Int := ((rows.filter fun r => decide (r.2.1 ≤ high) && decide (r.1 < low)).map (·.2.2)).sum
def retRow (rows : List Rw) (h : Nat) : List Int := (List.range (h + 1)).map fun (l : Nat) => retV rows (h : Int) (l : Int)
def intsT (xs : List Int) : T := .lst (xs.map fun i => .dat (.int i))
def m_returns_of : List D → R T
  | [.int top, .lst ds] => (match rowsOf ds with
    | some rows => (boxOk top rows).bind fun _ => .ok (.lst ((List.range (top + 1).toNat).map fun h => intsT (retRow rows h)))
    | none => .bad)
  | _ => .bad
def ansL (bx : List (Rw × Bool)) : List Int → List Int
  | [] => []
  | pl :: r => ansB (turnB pl bx) :: ansL (turnB pl bx) r
def turnsB (bx : List (Rw × Bool)) (l : List Int) : List (Rw × Bool) := l.foldl (fun b p => turnB p b) bx
theorem ansL_app : ∀ (l : List Int) (bx : List (Rw × Bool)) (x : Int), ansL bx (l ++ [x]) = ansL bx l ++ [ansB (turnB x (turnsB bx l))]
  | [], bx, x => rfl
  | y :: l, bx, x => by
    show ansB (turnB y bx) :: ansL (turnB y bx) (l ++ [x]) = ansB (turnB y bx) :: (ansL (turnB y bx) l ++ [_])
    rw [ansL_app l]
    rfl
theorem turnsB_app (l : List Int) (bx : List (Rw × Bool)) (x : Int) : turnsB bx (l ++ [x]) = turnB x (turnsB bx l) := by
  unfold turnsB
  rw [List.foldl_append]
  rfl
theorem ansL_len : ∀ (l : List Int) (bx : List (Rw × Bool)), (ansL bx l).length = l.length
  | [], bx => rfl
  | y :: l, bx => by
    show (ansL (turnB y bx) l).length + 1 = l.length + 1
    rw [ansL_len l]
theorem turnB_fst (pl : Int) (bx : List (Rw × Bool)) : (turnB pl bx).map (·.1) = bx.map (·.1) := by
  unfold turnB
  rw [List.map_map]
  rfl
theorem turnsB_fst : ∀ (l : List Int) (bx : List (Rw × Bool)), (turnsB bx l).map (·.1) = bx.map (·.1)
  | [], bx => rfl
  | y :: l, bx => by
    show (turnsB (turnB y bx) l).map (·.1) = _
    rw [turnsB_fst l, turnB_fst]
theorem offB_fst (rows : List Rw) : (offB rows).map (·.1) = rows := by
  unfold offB
  rw [List.map_map]
  exact List.map_id _
def m_answers_of : List D → R T
  | [.int top, .lst ds, .lst es] => (match rowsOf ds, intsOf es with
    | some rows, some pls => (boxOk top rows).bind fun _ => if pls.length ≤ 100000 then (if pls.all (fun p => decide (0 ≤ p) && decide (p ≤ top)) = true then .ok (intsT (ansL (offB rows) pls)) else .exc 6) else .bad
    | _, _ => .bad)
  | _ => .bad
theorem ansB_of {f : Rw → Bool} : ∀ {bx : List (Rw × Bool)}, (∀ z ∈ bx, z.2 = f z.1) → ansB bx = (((bx.map (·.1)).filter f).map (·.2.2)).sum
  | [], _ => rfl
  | z :: bx, h => by
    have ih := ansB_of (f := f) (bx := bx) fun y hy => h y (List.mem_cons_of_mem _ hy)
    unfold ansB at ih ⊢
    rw [List.map_cons, List.filter_cons, List.filter_cons, h z List.mem_cons_self]
    split
    · rw [List.map_cons, List.map_cons, List.sum_cons, List.sum_cons, ih]
    · exact ih
theorem sw3 {lo hi high low : Int} {st : Bool} (h0 : 0 ≤ lo) (h1 : lo < hi) (h3 : low ≤ high) : swS lo hi low (swS lo hi high (swS lo hi 0 st)) = (decide (hi ≤ high) && decide (lo < low)) := by
  unfold swS
  rw [if_neg (show ¬ hi ≤ 0 by omega), if_pos h0]
  by_cases a : hi ≤ high <;> by_cases c : lo < low <;> by_cases d : hi ≤ low <;> by_cases e : high ≤ lo <;> simp [a, c, d, e] <;> omega
theorem ret_eq {rows : List Rw} {bx : List (Rw × Bool)} {high low : Int} (e : bx.map (·.1) = rows) (ok : ∀ r ∈ rows, 0 ≤ r.1 ∧ r.1 < r.2.1) (h : low ≤ high) : ansB (turnB low (turnB high (turnB 0 bx))) = retV rows high low := by
  rw [ansB_of (f := fun r => decide (r.2.1 ≤ high) && decide (r.1 < low)), turnB_fst, turnB_fst, turnB_fst, e]
  · rfl
  · intro z hz
    unfold turnB at hz
    rw [List.map_map, List.map_map] at hz
    obtain ⟨y, hy, rfl⟩ := List.mem_map.mp hz
    have := ok y.1 (e ▸ List.mem_map_of_mem hy)
    exact sw3 this.1 this.2 h
theorem boxOk_4 {top : Int} {rows : List Rw} (hl : ¬ 100000 < rows.length) (h : ¬ (1 ≤ top ∧ top ≤ 16)) : boxOk top rows = .exc 4 := by
  unfold boxOk
  rw [if_neg hl, if_pos h]
theorem boxOk_5 {top : Int} {rows : List Rw} (hl : ¬ 100000 < rows.length) (h : 1 ≤ top ∧ top ≤ 16) (h2 : ∃ r ∈ rows, top < r.2.1) : boxOk top rows = .exc 5 := by
  unfold boxOk
  rw [if_neg hl, if_neg (fun z => z h), if_pos]
  obtain ⟨r, h3, h4⟩ := h2
  exact List.any_eq_true.mpr ⟨r, h3, decide_eq_true h4⟩
theorem boxOk_ok {top : Int} {rows : List Rw} (hl : ¬ 100000 < rows.length) (h : 1 ≤ top ∧ top ≤ 16) (h2 : ∀ r ∈ rows, r.2.1 ≤ top) : boxOk top rows = if rows.all okRow = true then .ok () else .exc 5 := by
  unfold boxOk
  rw [if_neg hl, if_neg (fun z => z h), if_neg]
  intro z
  obtain ⟨r, h3, h4⟩ := List.any_eq_true.mp z
  have := h2 r h3
  have := of_decide_eq_true h4
  omega
/-- a box is made: what comes of it -/
theorem make_box {H U0 : Hp} {Q : VK} {E : XK} {sl : Addr} {top : Int} {zs : List (Addr × Rw)} {f : Unit → R T} {b dx : Addr} {q : Hp → Prop}
    (R : RwAt H sl zs) (h : PC K (ecK K) H U0 Q E ((boxOk top (zs.map (·.2))).bind f)) (hb : H b = none) (hdx : H dx = none) (hne : dx ≠ b)
    (hq : 1 ≤ top ∧ top ≤ 16 → zs.length ≤ 100000 → (∀ r ∈ zs.map (·.2), 0 ≤ r.1 ∧ r.1 < r.2.1) → PC K (ecK K) H U0 Q E (f ()) → ∀ H' p, BxI K H H' b dx p top (offB (zs.map (·.2))) [] → q H') :
    spBxInit K (.ref b :: ([.int top, .ref sl] ++ [])) (upd (upd H dx (.own b)) b (.ins (cB K) dx [])) (fun v H2 => v = .non ∧ q H2) E := by
  have k1 : upd H dx (.own b) b = none := by rw [upd_ne hne.symm]; exact hb
  have s : Same H (upd (upd H dx (.own b)) b (.ins (cB K) dx [])) := (same_new hdx).trans (same_new k1)
  have hl : ¬ 100000 < (zs.map (·.2)).length := fun z => by
    unfold boxOk at h
    rw [if_pos z] at h
    exact h
  refine ⟨b, dx, sl, top, zs, rfl, upd_same, R.mono s, by rw [List.length_map] at hl; omega, fun c => ?_, fun c1 c2 => ?_, fun c1 c2 => ?_⟩
  · rw [boxOk_4 hl c] at h
    exact h _ s
  · rw [boxOk_5 hl c1] at h
    · exact h _ s
    · obtain ⟨z, h1, h2⟩ := c2
      exact ⟨z.2, List.mem_map_of_mem h1, h2⟩
  · rw [boxOk_ok hl c1 (fun r hr => by
      obtain ⟨z, h1, rfl⟩ := List.mem_map.mp hr
      exact c2 z h1)] at h
    refine ⟨fun hx H' k => ?_, fun hv0 => ?_⟩
    · rw [if_neg (fun z => by
        obtain ⟨y, hy, no⟩ := hx
        have := List.all_eq_true.mp z y.2 (List.mem_map_of_mem hy)
        unfold okRow at this
        rw [Bool.and_eq_true, decide_eq_true_iff, decide_eq_true_iff] at this
        exact no this)] at h
      exact h _ fun c o e => k c o (s _ _ e) (ne_of_none e hb)
    have ha : (zs.map (·.2)).all okRow = true := List.all_eq_true.mpr fun r hr => by
      obtain ⟨y, hy, rfl⟩ := List.mem_map.mp hr
      unfold okRow
      rw [Bool.and_eq_true, decide_eq_true_iff, decide_eq_true_iff]
      exact hv0 y hy
    rw [if_pos ha] at h
    have hv : ∀ r ∈ zs.map (·.2), 0 ≤ r.1 ∧ r.1 < r.2.1 := fun r hr => by
      have := List.all_eq_true.mp ha r hr
      unfold okRow at this
      rw [Bool.and_eq_true, decide_eq_true_iff, decide_eq_true_iff] at this
      exact this
    refine fun H' p ps B e fr k => ⟨rfl, ?_⟩
    refine hq c1 (by rw [List.length_map] at hl; omega) hv h H' p ⟨⟨0, ps, B, e, fun q hq => s.free (fr q hq)⟩, hb, fun c o e => k c o (s _ _ e) (ne_of_none e hb), fun r hr => by simp at hr, List.nodup_nil, fun r hr => by simp at hr⟩
theorem trs_ints {U H : Hp} : ∀ xs : List Int, TRs K U H (xs.map V.int) (xs.map fun i => .dat (.int i)) []
  | [] => .nil
  | x :: xs => .cons (G := []) (.dat (.int x)) (trs_ints xs)
theorem tr_ints {U H : Hp} {a : Addr} {xs : List Int} (h : H a = some (.lst (xs.map V.int))) : TR K U H (.ref a) (intsT xs) [a] := .lst h (trs_ints xs)
theorem trs_rows {U H : Hp} : ∀ {rs : List (Addr × List Int)}, (∀ r ∈ rs, H r.1 = some (.lst (r.2.map V.int))) → TRs K U H (rs.map fun r => .ref r.1) (rs.map fun r => intsT r.2) (rs.map (·.1))
  | [], _ => .nil
  | r :: rs, h => .cons (G := [r.1]) (tr_ints (h r List.mem_cons_self)) (trs_rows fun y hy => h y (List.mem_cons_of_mem _ hy))
abbrev rAdd : R2 := rI0 fun i j => .int (i + j)
theorem lenN {bx : List (Rw × Bool)} {rows : List Rw} (e : bx.map (·.1) = rows) (h : rows.length ≤ 100000) : bx.length ≤ 100000 := by
  rw [← e, List.length_map] at h
  exact h
theorem nil_i {σ : L2.St} {H : Hp} {Q : List V → Hp → Prop} (h : Q [] H) : tNil σ H Q := h
theorem tr_returns_of (T : BxT K mg) {N : List Str} {vs : List V} {H : Hp} {Q : VK} {E : XK} (hN : N.length = 7) (h : spM K (ecK K) 2 m_returns_of vs H Q E) :
    tSeq (tAsg (tMake (cB K) (spBxInit K) [] E (tCons (tVar 0) (tCons (tVar 1) tNil))) (gName 2))
      (tSeq (tAsg (tLst tNil) (gName 3))
        (tSeq (tFor (iRng1 (tCons (tOp rAdd (tVar 0) (tC (.int 1))) tNil)) (gName 4)
            (tSeq (tAsg (tLst tNil) (gName 5))
              (tSeq (tFor (iRng1 (tCons (tOp rAdd (tVar 4) (tC (.int 1))) tNil)) (gName 6)
                  (tSeq (tDrop (tMeth (cB K) "anew" (spBxAnew K) [] E (tVar 2) tNil))
                    (tSeq (tDrop (tMeth (cB K) "turn" (spBxTurn K) [] E (tVar 2) (tCons (tVar 4) tNil)))
                      (tDrop (tBM K "list" rAppend (tVar 5) (tCons (tMeth (cB K) "turn" (spBxTurn K) [] E (tVar 2) (tCons (tVar 6) tNil)) tNil))))))
                (tDrop (tBM K "list" rAppend (tVar 3) (tCons (tVar 5) tNil))))))
          (tRet (tVar 3)))) { nx := fun _ H' => Q .non H', rt := Q } (L2.start N vs) H := by
  obtain ⟨ds, U0, hn, sU, r, h⟩ := h
  unfold m_returns_of at h
  split at h
  rotate_left
  · exact h.elim
  rename_i top es
  split at h
  rotate_left
  · exact h.elim
  rename_i rows er
  rw [rowsOf_eq er] at r
  cases r with
  | cons r1 r2 =>
  cases r1
  cases r2 with
  | cons r2 r3 =>
  cases r3
  obtain ⟨sl, zs, rfl, rfl, R⟩ := rwAt_of r2
  have R := R.mono sU
  have e0 : L2.start N [.int top, .ref sl] = [some (.int top), some (.ref sl), none, none, none, none, none] := by
    unfold L2.start
    rw [hN]
    rfl
  rw [e0]
  refine ⟨_, rfl, _, rfl, fun b dx hb hdx hne => ?_⟩
  refine make_box R h hb hdx hne fun ht hlen hok hQ H1 p I0 => ?_
  refine ⟨by rw [sizeLine_eq]; decide, fun D hD => ?_⟩
  have I1 := I0.new (vs := []) hD
  refine ⟨_, rfl, _, _, rfl, rfl, _, rfl, by omega, by omega, ?_⟩
  refine for_range (lo := 0) (n := (top + 1).toNat) (fun i σ' H' => ∃ (s4 s5 s6 : Option V) (bx : List (Rw × Bool)) (rs : List (Addr × List Int)), σ' = [some (.int top), some (.ref sl), some (.ref b), some (.ref D), s4, s5, s6] ∧ rs.map (·.2) = (List.range i).map (retRow (zs.map (·.2))) ∧ bx.map (·.1) = zs.map (·.2) ∧
    BxI K H H' b dx p top bx ((D, rs.map fun r : Addr × List Int => V.ref r.1) :: rs.map fun r => (r.1, r.2.map V.int))) ?_ ?_ ?_
  · exact ⟨_, _, _, _, [], rfl, rfl, offB_fst _, I1⟩
  · rintro i σ' H2 hi ⟨s4, s5, s6, bx, rs, rfl, e1, e2, I⟩
    refine ⟨by rw [sizeLine_eq]; decide, fun R' hR => ?_⟩
    have I2 := I.new (vs := []) hR
    refine ⟨_, rfl, _, _, rfl, rfl, _, rfl, by omega, by omega, ?_⟩
    have hn2 : ((0 : Int) + (i : Int) + 1).toNat = i + 1 := by omega
    rw [hn2]
    refine for_range (lo := 0) (n := i + 1) (fun j σ' H' => ∃ (s6 : Option V) (bx : List (Rw × Bool)), σ' = [some (.int top), some (.ref sl), some (.ref b), some (.ref D), some (.int (0 + (i : Int))), some (.ref R'), s6] ∧ bx.map (·.1) = zs.map (·.2) ∧
      BxI K H H' b dx p top bx ((R', ((List.range j).map fun (l : Nat) => retV (zs.map (·.2)) (i : Int) (l : Int)).map V.int) :: (D, rs.map fun r : Addr × List Int => V.ref r.1) :: rs.map fun r => (r.1, r.2.map V.int))) ?_ ?_ ?_
    · exact ⟨_, _, rfl, e2, I2⟩
    · rintro j σ' H3 hj ⟨s6, bx, rfl, e2, I⟩
      have hrl : (zs.map (·.2)).length ≤ 100000 := by rw [List.length_map]; exact hlen
      obtain ⟨fs, o1, o2, o3, _⟩ := I.ob
      refine ⟨_, rfl, b, dx, fs, rfl, o1, o3, nil_i (I.anew (lenN e2 hrl) (by omega) fun H4 I => ?_)⟩
      obtain ⟨fs, o1, o2, o3, _⟩ := I.ob
      refine ⟨_, rfl, b, dx, fs, rfl, o1, o2, _, rfl, nil_i (I.turn (lenN ((turnB_fst _ _).trans e2) hrl) (by omega) (by omega) fun H5 I => ?_)⟩
      obtain ⟨fs, o1, o2, o3, _⟩ := I.ob
      refine ⟨_, rfl, .inl ⟨rfl, _, .inl (.inl (I.lv _ List.mem_cons_self))⟩, ?_⟩
      refine ⟨_, rfl, b, dx, fs, rfl, o1, o2, _, rfl, nil_i (I.turn (lenN ((turnB_fst _ _).trans ((turnB_fst _ _).trans e2)) hrl) (by omega) (by omega) fun H6 I => ?_)⟩
      refine ⟨R', _, _, rfl, rfl, I.lv _ List.mem_cons_self, ?_, ?_⟩
      · show (List.map V.int _).length < _
        rw [List.length_map, List.length_map, List.length_range, sizeLine_eq]
        omega
      · refine ⟨_, turnB (0 + (j : Int)) (turnB (0 + (i : Int)) (turnB 0 bx)), rfl, (turnB_fst _ _).trans ((turnB_fst _ _).trans ((turnB_fst _ _).trans e2)), ?_⟩
        have := I.put (l1 := []) (ws := ((List.range j).map fun (l : Nat) => retV (zs.map (·.2)) (i : Int) (l : Int)).map V.int ++ [.int (ansB (turnB (0 + (j : Int)) (turnB (0 + (i : Int)) (turnB 0 bx))))])
        rw [ret_eq e2 hok (by omega)] at this ⊢
        rw [List.range_succ, List.map_append, List.map_append]
        have z1 : (0 : Int) + (i : Int) = (i : Int) := by omega
        have z2 : (0 : Int) + (j : Int) = (j : Int) := by omega
        rw [z1, z2] at this ⊢
        exact this
    · rintro σ' H3 ⟨s6, bx, rfl, e2, I⟩
      refine ⟨_, rfl, .inl ⟨rfl, _, .inl (.inl (I.lv _ (List.mem_cons_of_mem _ List.mem_cons_self)))⟩, ?_⟩
      refine ⟨_, rfl, D, _, _, rfl, rfl, I.lv _ (List.mem_cons_of_mem _ List.mem_cons_self), ?_, ?_⟩
      · show (List.map _ rs).length < _
        have := congrArg List.length e1
        rw [List.length_map, List.length_map, List.length_range] at this
        rw [List.length_map, sizeLine_eq, this]
        omega
      · have I := I.put (l1 := [_]) (ws := rs.map (fun r : Addr × List Int => V.ref r.1) ++ [.ref R'])
        refine ⟨_, _, _, bx, rs ++ [(R', retRow (zs.map (·.2)) i)], rfl, ?_, e2, ?_⟩
        · rw [List.range_succ, List.map_append, List.map_append, e1]
          rfl
        · obtain ⟨q1, q2, q3, q4, q5, q6⟩ := I
          have pm : (((D, (rs ++ [(R', retRow (zs.map (·.2)) i)]).map fun r : Addr × List Int => V.ref r.1) :: (rs ++ [(R', retRow (zs.map (·.2)) i)]).map fun r => (r.1, r.2.map V.int))).Perm ([(R', ((List.range (i + 1)).map fun (l : Nat) => retV (zs.map (·.2)) (i : Int) (l : Int)).map V.int)] ++ (D, rs.map (fun r : Addr × List Int => V.ref r.1) ++ [V.ref R']) :: rs.map fun r => (r.1, r.2.map V.int)) := by
            rw [List.map_append, List.map_append]
            refine List.Perm.trans ?_ (List.Perm.swap ..)
            refine List.Perm.cons _ ?_
            exact List.perm_append_comm
          exact ⟨q1, q2, q3, fun r hr => q4 r (pm.mem_iff.mp hr), (pm.map _).nodup_iff.mpr q5, fun r hr => q6 r (pm.mem_iff.mp hr)⟩
  · rintro σ' H2 ⟨s4, s5, s6, bx, rs, rfl, e1, e2, I⟩
    refine ⟨_, rfl, ?_⟩
    have hQ : ∀ v U' H', Fin K H U0 U' H' v (.lst ((List.range (top + 1).toNat).map fun h => intsT (retRow (zs.map (·.2)) h))) → Q v H' := hQ
    refine hQ _ U0 _ ⟨I.sm, Same.refl _, sU.trans I.sm, fun a o x y => (by rw [x] at y; cases y), ?_⟩
    have e3 : (List.range (top + 1).toNat).map (fun h => intsT (retRow (zs.map (·.2)) h)) = rs.map fun r => intsT r.2 := by
      have := congrArg (List.map intsT) e1
      rw [List.map_map, List.map_map] at this
      exact this.symm
    rw [e3]
    refine ⟨(D :: rs.map (·.1)) ++ [], .cons (.lst (I.lv _ List.mem_cons_self) (trs_rows fun r hr => I.lv (r.1, r.2.map V.int) (List.mem_cons_of_mem _ (List.mem_map_of_mem hr)))) .nil, ?_, fun a ha => ?_⟩
    · have := I.ln
      rw [List.map_cons, List.map_map] at this
      rw [List.append_nil]
      exact this
    · rw [List.append_nil] at ha
      have : H a = none := by
        rcases List.mem_cons.mp ha with rfl | ha
        · exact (I.lf _ List.mem_cons_self).1
        · obtain ⟨r, h1, rfl⟩ := List.mem_map.mp ha
          exact (I.lf (r.1, r.2.map V.int) (List.mem_cons_of_mem _ (List.mem_map_of_mem h1))).1
      exact ⟨sU.free this, this⟩
theorem tr_answers_of (T : BxT K mg) {N : List Str} {vs : List V} {H : Hp} {Q : VK} {E : XK} (hN : N.length = 5) (h : spM K (ecK K) 3 m_answers_of vs H Q E) :
    tSeq (tAsg (tMake (cB K) (spBxInit K) [] E (tCons (tVar 0) (tCons (tVar 1) tNil))) (gName 3))
      (tRet (tLc (iList K (tVar 2)) (gName 4) tYes (tMeth (cB K) "turn" (spBxTurn K) [] E (tVar 3) (tCons (tVar 4) tNil)) [4])) { nx := fun _ H' => Q .non H', rt := Q } (L2.start N vs) H := by
  obtain ⟨ds, U0, hn, sU, r, h⟩ := h
  unfold m_answers_of at h
  split at h
  rotate_left
  · exact h.elim
  rename_i top es fs
  split at h
  rotate_left
  · exact h.elim
  rename_i rows pls er ei
  rw [rowsOf_eq er, intsOf_eq ei] at r
  cases r with
  | cons r1 r2 =>
  cases r1
  cases r2 with
  | cons r2 r3 =>
  cases r3 with
  | cons r3 r4 =>
  cases r4
  obtain ⟨sl, zs, rfl, rfl, R⟩ := rwAt_of r2
  obtain ⟨rl, ws, rfl, hr, rr⟩ := Rp.lstI r3
  have ew := rps_ints rr
  subst ew
  have hr := sU _ _ hr
  have R := R.mono sU
  have e0 : L2.start N [.int top, .ref sl, .ref rl] = [some (.int top), some (.ref sl), some (.ref rl), none, none] := by
    unfold L2.start
    rw [hN]
    rfl
  rw [e0]
  refine ⟨_, rfl, _, rfl, fun b dx hb hdx hne => ?_⟩
  refine make_box R h hb hdx hne fun ht hlen hok hQ H1 p I0 => ?_
  have hrl : (zs.map (·.2)).length ≤ 100000 := by rw [List.length_map]; exact hlen
  split at hQ
  rotate_left
  · exact hQ.elim
  rename_i hpl
  refine ⟨_, rfl, rl, rfl, ⟨_, .inl (.inl (I0.sm _ _ hr))⟩, fun D hD => ?_⟩
  have I1 := I0.new (vs := []) hD
  refine lc_list (xs := pls.map V.int) (fun i H2 => (∀ x ∈ pls.take i, 0 ≤ x ∧ x ≤ top) ∧ BxI K H H2 b dx p top (turnsB (offB (zs.map (·.2))) (pls.take i)) [(D, (ansL (offB (zs.map (·.2))) (pls.take i)).map V.int)]) ?_ ?_ ?_ ?_
  · exact ⟨fun x hx => by simp at hx, I1⟩
  · rintro i H2 - ⟨_, I⟩
    exact .inl (.inl (I.sm _ _ hr))
  · rintro i x H2 hx ⟨hin, I⟩
    obtain ⟨z, hz, rfl⟩ : ∃ z, pls[i]? = some z ∧ x = .int z := by
      rw [List.getElem?_map] at hx
      obtain ⟨z, h1, h2⟩ := Option.map_eq_some_iff.mp hx
      exact ⟨z, h1, h2.symm⟩
    have hi : i < pls.length := (List.getElem?_eq_some_iff.mp hz).1
    have ht : pls.take (i + 1) = pls.take i ++ [z] := by
      rw [List.take_add_one, hz]
      rfl
    obtain ⟨fs, o1, o2, o3, _⟩ := I.ob
    refine ⟨rfl, ⟨_, rfl, b, dx, fs, rfl, o1, o2, _, rfl, nil_i (I.turnX (lenN ((turnsB_fst _ _).trans (offB_fst _)) hrl) (fun hn => ?_) fun hz' H3 I => ?_)⟩⟩
    · rw [if_neg (fun q => hn (by
        have := List.all_eq_true.mp q z (List.mem_of_getElem? hz)
        rw [Bool.and_eq_true, decide_eq_true_iff, decide_eq_true_iff] at this
        exact this))] at hQ
      exact hQ _ I.sm
    refine ⟨_, I.lv _ List.mem_cons_self, ?_, ?_, ?_⟩
    · show (List.map V.int _).length < _
      rw [List.length_map, ansL_len, List.length_take, sizeLine_eq]
      omega
    · intro y hy
      rw [ht] at hy
      rcases List.mem_append.mp hy with hy | hy
      · exact hin y hy
      · rw [List.mem_singleton.mp hy]
        exact hz'
    · rw [ht, ansL_app, turnsB_app, List.map_append]
      exact I.put (l1 := [])
  · rintro H2 ⟨hin, I⟩
    rw [List.length_map, List.take_length] at I hin
    rw [if_pos (List.all_eq_true.mpr fun y hy => by
      rw [Bool.and_eq_true, decide_eq_true_iff, decide_eq_true_iff]
      exact hin y hy)] at hQ
    have hQ : ∀ v U' H', Fin K H U0 U' H' v (intsT (ansL (offB (zs.map (·.2))) pls)) → Q v H' := hQ
    refine hQ _ U0 _ ⟨I.sm, Same.refl _, sU.trans I.sm, fun a o x y => (by rw [x] at y; cases y), ?_⟩
    refine ⟨[D] ++ [], .cons (tr_ints (I.lv _ List.mem_cons_self)) .nil, by simp, fun a ha => ?_⟩
    have ha : a = D := by simpa using ha
    subst ha
    have := (I.lf _ List.mem_cons_self).1
    exact ⟨sU.free this, this⟩
end Sm
/-! Sm, part T: range(i, j) of numbers of any size. -/
namespace Sm
open PySem PySem.Spec PyProof.Rows L2
variable {K : PySem.W.Frag}
def lgAt (it : Addr) (lo : Int) (n : Nat) (i : Nat) (h : Heap) : Prop := IsLongIter h it (lo + (i : Nat) * 1) ((n : Int) - (i : Nat)) 1
theorem turn_long {P : Program} {w : World} {tg : Expr} (it : Addr) (lo : Int) (n : Nat) : Turn P w K tg (Itr lo n) [it] it (lgAt it lo n) := by
  refine ⟨by simp, fun i h st b hb => ?_, fun i h h' st k => k it (by simp) _ st, ?_, ?_, fun _ _ _ _ _ st h => wpAny_pyIter_longiter st h⟩
  · cases List.mem_singleton.mp hb
    refine ⟨_, st, fun v z => ?_⟩
    have z2 : Data.fields _ = Data.cell v := z
    cases z2
  · rintro X rfl rfl rfl hc i pins s σ H E I hf st hg
    obtain ⟨g0, g1, -, g3, g4, g5⟩ := hf it (by simp)
    refine (Walks.longrange (prog := X.prog) (w := X.w) (I.ok.hd hc) it lo 1 n).item i s _ _ hg st fun v h' tk hv st' kk => ?_
    obtain ⟨t, rfl⟩ := hv
    have I2 := I.turned (t' := tk) (h' := h') (fun b o hb e => kk b o (by simpa using hb) e) g0 g1 g3 g4 g5
    refine ⟨_, rfl, ?_⟩
    refine go_of (s := { s with heap := h', toks := tk }) (n := "longrange_iterator") st' rfl rfl (by decide) ?_
    refine ⟨.int (lo + i), H, I2, ⟨t, by rw [Int.mul_one]⟩, ⟨rfl, rfl⟩, st', fun b hb => (hf b hb).1⟩
  · rintro X rfl rfl rfl hc i pins s σ H E I hf st hg
    obtain ⟨g0, g1, -, g3, g4, g5⟩ := hf it (by simp)
    have hle : n ≤ i := hg
    refine wpAny_pyNext_long_end (I.ok.hd hc) st (by omega) fun h' eb => ⟨rfl, ?_⟩
    exact I.turned (t' := s.toks) (fun b o hb e => eb b o hb e) g0 g1 g3 g4 g5
theorem cnt_one (lo hi : Int) : (((hi - lo).toNat : Nat) : Int) - ((0 : Nat) : Int) = Builtin.Range.rangeSize lo hi 1 := by
  rw [rangeSize_one]
  split <;> omega
section
variable {X : Cx} {tg : Expr}
theorem range_any {pins : List (Addr × Obj)} {σ : L2.St} {H : Hp} {s : Shared} {R : It → Hp → Prop} {E : Value → Shared → Prop} {lo hi : Int} {t u v : Tok} {tk : Nat} (I : Inv X pins σ H s) (q : R (Itr lo (hi - lo).toNat) H) :
    wpAny (model X.prog X.w) X.A (pyIter (.ref s.heap.objs.size)) (PIE X pins σ tg R) E { s with heap := s.heap.push { cls := .type "range", data := .fields #[.int lo t, .int hi u, .int 1 v] }, toks := tk } := by
  have I1 : Inv X pins σ H { s with heap := s.heap.push { cls := .type "range", data := .fields #[.int lo t, .int hi u, .int 1 v] }, toks := tk } := I.kept fun b o e => Heap.get?_push_of_some _ e
  have e1 : lo + ((0 : Nat) : Int) * 1 = lo := by simp
  cases hsm : Builtin.Range.small lo hi 1 with
  | true =>
    refine wpAny_pyIter_range (IsRange.new ..) hsm ?_
    refine ⟨_, [(s.heap.push { cls := .type "range", data := .fields #[.int lo t, .int hi u, .int 1 v] }).objs.size], _, _, H, rfl, I1.kept (t' := tk) fun b o e => Heap.get?_push_of_some _ e, turn_range _ lo (hi - lo).toNat, ?_, fun b hb => ?_, q⟩
    · show IsRangeIter _ _ (lo + ((0 : Nat) : Int) * 1) ((((hi - lo).toNat : Nat) : Int) - ((0 : Nat) : Int)) 1
      rw [e1, cnt_one]
      exact Heap.get?_push_size _ rfl
    · cases List.mem_singleton.mp hb
      exact I1.fpOk (Nat.le_refl _) (I1.hok.fresh (Nat.le_refl _))
  | false =>
    refine wpAny_pyIter_longrange (IsRange.new ..) hsm ?_
    refine ⟨_, [(s.heap.push { cls := .type "range", data := .fields #[.int lo t, .int hi u, .int 1 v] }).objs.size], _, _, H, rfl, I1.kept (t' := tk) fun b o e => Heap.get?_push_of_some _ e, turn_long _ lo (hi - lo).toNat, ?_, fun b hb => ?_, q⟩
    · show IsLongIter _ _ (lo + ((0 : Nat) : Int) * 1) ((((hi - lo).toNat : Nat) : Int) - ((0 : Nat) : Int)) 1
      rw [e1, cnt_one]
      exact Heap.get?_push_size _ rfl
    · cases List.mem_singleton.mp hb
      exact I1.fpOk (Nat.le_refl _) (I1.hok.fresh (Nat.le_refl _))
def iRng2W (ta : TA) : TI := fun σ H R => ta σ H fun vs H1 => ∃ i j : Int, vs = [.int i, .int j] ∧ R (Itr i (j - i).toNat) H1
theorem pi_range2W {a b : Expr} {ta : TA} {p pos : Pos} (hg : Gl X "range") (hm : X.mg "range" = none) (ha : PA X [a, b] ta) (hs : starEach [a, b] X.env = [(false, eval a X.env), (false, eval b X.env)] := by rfl) (hs2 : starEach [b] X.env = [(false, eval b X.env)] := by rfl) :
    PI X tg (.Call (.Name "range" p) [a, b] [] pos) (iRng2W ta) := by
  constructor
  intro pins s σ H R I h
  refine Call_ (ld_blt I hg hm boot_range (callWith_type1 (thn (ha.run pos pins s σ H _ I h) ?_) (by rw [hs, hs2]) (by rw [hs2]; rfl)))
  rintro us s1 ⟨vs, H1, I1, r1, i, j, rfl, q⟩
  cases r1 with
  | cons r rr =>
    cases rr with
    | cons r' rr =>
      cases rr
      obtain ⟨t, rfl⟩ := r
      obtain ⟨t', rfl⟩ := r'
      exact call_range_2 (range_any I1 q)
end
def iR2W (mr : Env → Sm.R (List D)) (ρ : Env) : O3 := match mr ρ with
  | .ok [.int i, .int j] => .ok (rangeT i 1 (j - i).toNat) ρ
  | .exc c => .exc c ρ
  | _ => .bad
theorem si_r2W {ec : Nat → Addr} {ex : L2.St → XK} {tr : TA} {mr : Env → Sm.R (List D)} (ha : SBs K ec ex tr mr) : SI K ec ex (iRng2W tr) (iR2W mr) := by
  intro E U0 L U H σ ρ tmp g Q h
  refine ha g _ ?_
  unfold iR2W at h
  generalize mr ρ = z at h ⊢
  cases z with
  | ok ds =>
    intro vs H1 s1 r
    split at h
    · rename_i i j e
      cases e
      cases r with
      | cons a b =>
        cases b with
        | cons b c =>
          cases c
          cases a
          cases b
          exact ⟨_, _, rfl, h U H1 _ (g.heap s1) itOk_rng⟩
    · rename_i e; cases e
    · exact h.elim
  | exc c => exact fun H' s => h U H' (g.heap s)
  | bad => exact h
theorem keep_iR2W {mr : Env → Sm.R (List D)} : KeepD (iR2W mr) := fun ρ ts ρ1 h e => by
  unfold iR2W at e
  split at e
  · cases e
    exact h
  · cases e
  · cases e
end Sm
/-! Sm, part U: a box's lit and place; two boxes side by side. -/
namespace Sm
open PySem L2
variable {K : PySem.W.Frag}
theorem lc_enum {a : Addr} {xs : List V} {g : TG} {tt : TT} {te : TE} {vs : List Nat} {σ : L2.St} {H1 : Hp} {D : Addr} {Qd : Hp → Prop} (Pv : Nat → Hp → Prop) (h0 : Pv 0 (upd H1 D (.lst []))) (hl : ∀ i H, i ≤ xs.length → Pv i H → SqL K H a xs)
    (hs : ∀ i x H p, xs[i]? = some x → Pv i H → H p = none → g (.ref p) (wipe σ vs) (upd H p (.tup [.int (i : Nat), x])) fun σ2 H2 => wipe σ2 vs = wipe σ vs ∧ tt σ2 H2 fun b H3 =>
      if b = true then te σ2 H3 fun y H4 => ∃ acc, H4 D = some (.lst acc) ∧ acc.length < sizeLine ∧ Pv (i + 1) (upd H4 D (.lst (acc ++ [y]))) else Pv (i + 1) H3) (hd : ∀ H, Pv xs.length H → Qd H) :
    ∃ W : Nat → Nat → Hp → Prop, (∃ m, W 0 m (upd H1 D (.lst []))) ∧ ∀ i m H, W i m H →
      ((Ite K a).stop i H ∧ Qd H) ∨ ((Ite K a).go i H ∧ ∃ Nx : Hp → Prop, (∀ H', Nx H' → ∃ m', m' < m ∧ W (i + 1) m' H') ∧ ∀ x H', (Ite K a).yld i H x H' → g x (wipe σ vs) H' fun σ2 H2 => wipe σ2 vs = wipe σ vs ∧ tt σ2 H2 fun b H3 =>
        if b = true then te σ2 H3 fun y H4 => ∃ acc, H4 D = some (.lst acc) ∧ acc.length < sizeLine ∧ Nx (upd H4 D (.lst (acc ++ [y]))) else Nx H3) := by
  refine ⟨fun i m H => m = xs.length - i ∧ i ≤ xs.length ∧ Pv i H, ⟨_, rfl, Nat.zero_le _, h0⟩, ?_⟩
  rintro i m H ⟨rfl, hi, p⟩
  have hq := hl i H hi p
  rcases Nat.lt_or_ge i xs.length with h | h
  · obtain ⟨x, hx⟩ : ∃ x, xs[i]? = some x := ⟨_, List.getElem?_eq_getElem h⟩
    refine .inr ⟨⟨xs, x, hq, hx⟩, Pv (i + 1), fun H' q => ⟨_, by omega, rfl, by omega, q⟩, ?_⟩
    rintro v H' ⟨t, y, rfl, ht, rfl, hy⟩
    have : y = x := Option.some.inj ((hy xs hq).symm.trans hx)
    subst this
    exact hs i y H t hx p ht
  · have : i = xs.length := by omega
    subst this
    exact .inl ⟨⟨xs, hq, Nat.le_refl _⟩, hd H p⟩
/-- the numbers of those that are on -/
def litK (k : Nat) : List Bool → List Int
  | [] => []
  | b :: r => if b = true then (k : Int) :: litK (k + 1) r else litK (k + 1) r
theorem litK_app : ∀ (l : List Bool) (k : Nat) (b : Bool), litK k (l ++ [b]) = litK k l ++ if b = true then [((k + l.length : Nat) : Int)] else []
  | [], k, b => by
    cases b <;> rfl
  | c :: l, k, b => by
    have ih := litK_app l (k + 1) b
    rw [show k + 1 + l.length = k + (c :: l).length by simp; omega] at ih
    show (if c = true then (k : Int) :: litK (k + 1) (l ++ [b]) else litK (k + 1) (l ++ [b])) = (if c = true then (k : Int) :: litK (k + 1) l else litK (k + 1) l) ++ _
    rw [ih]
    cases c <;> rfl
theorem litK_len : ∀ (l : List Bool) (k : Nat), (litK k l).length ≤ l.length
  | [], k => Nat.le_refl _
  | c :: l, k => by
    have ih := litK_len l (k + 1)
    show (if c = true then (k : Int) :: litK (k + 1) l else litK (k + 1) l).length ≤ l.length + 1
    cases c
    · show (litK (k + 1) l).length ≤ _
      omega
    · show (litK (k + 1) l).length + 1 ≤ _
      omega
def spBxLit (K : PySem.W.Frag) : Sp := fun vs H Q _ => ∃ (b dx p : Addr) (top at_ : Int) (ps : List Pt), vs = [.ref b] ∧ BxAt K H b dx p top at_ ps ∧ ps.length ≤ 100000 ∧ ∀ H' D, Same H H' → H D = none → H' D = some (.lst ((litK 0 (ps.map (·.st))).map V.int)) → Q (.ref D) H'
def spBxPlace (K : PySem.W.Frag) : Sp := fun vs H Q _ => ∃ (b dx p : Addr) (top at_ : Int) (ps : List Pt), vs = [.ref b] ∧ BxAt K H b dx p top at_ ps ∧ Q (.int at_) H
theorem tr_bx_place (T : BxT K mg) {N : List Str} {vs : List V} {H : Hp} {Q : VK} {E : XK} (hN : N.length = 1) (h : spBxPlace K vs H Q E) : tRet (tFld K (tVar 0) "at") { nx := fun _ H' => Q .non H', rt := Q } (L2.start N vs) H := by
  obtain ⟨b, dx, p, top, at_, ps, rfl, B, q⟩ := h
  have e0 : L2.start N [.ref b] = [some (.ref b)] := by
    unfold L2.start
    rw [hN]
    rfl
  rw [e0]
  exact ⟨_, rfl, b, _, dx, _, _, rfl, B.ob, T.clB, T.n6, bxF_at _ _ _, q⟩
theorem tr_bx_lit (T : BxT K mg) {N : List Str} {vs : List V} {H : Hp} {Q : VK} {E : XK} (hN : N.length = 3) (h : spBxLit K vs H Q E) :
    tRet (tLc (iEnum K (tCons (tFld K (tVar 0) "parts") tNil)) (gTup K 2 (gCons (gName 1) (gCons (gName 2) gNil))) (tB (tMeth (cS K) "on" (spSwOn K) [] no3 (tOp (rIx K) (tVar 2) (tC (.int 0))) tNil)) (tVar 1) [1, 2]) { nx := fun _ H' => Q .non H', rt := Q } (L2.start N vs) H := by
  obtain ⟨b, dx, p, top, at_, ps, rfl, B, hl, q⟩ := h
  have e0 : L2.start N [.ref b] = [some (.ref b), none, none] := by
    unfold L2.start
    rw [hN]
    rfl
  rw [e0]
  refine ⟨_, rfl, b, _, dx, _, _, rfl, B.ob, T.clB, T.n5, bxF_parts _ _ _, p, _, rfl, .inl (.inl B.ls), fun D hD => ?_⟩
  refine lc_enum (xs := ps.map fun q => .ref q.t) (fun i H' => Same H H' ∧ H' D = some (.lst ((litK 0 ((ps.take i).map (·.st))).map V.int))) ⟨same_new hD, upd_same⟩ ?_ ?_ ?_
  · rintro i H' - ⟨s, -⟩
    exact .inl (.inl (s _ _ B.ls))
  · rintro i x H' t hx ⟨s, hd⟩ ht
    obtain ⟨z, hz, rfl⟩ : ∃ z, ps[i]? = some z ∧ x = .ref z.t := by
      rw [List.getElem?_map] at hx
      obtain ⟨z, h1, h2⟩ := Option.map_eq_some_iff.mp hx
      exact ⟨z, h1, h2.symm⟩
    have hm : z ∈ ps := List.mem_of_getElem? hz
    have hi : i < ps.length := (List.getElem?_eq_some_iff.mp hz).1
    have s2 : Same H (upd H' t (.tup [.int (i : Nat), .ref z.t])) := s.trans (same_new ht)
    have hd2 : upd H' t (.tup [.int (i : Nat), .ref z.t]) D = some (.lst ((litK 0 ((ps.take i).map (·.st))).map V.int)) := keepN ht hd
    refine ⟨t, _, rfl, .inl (.inl upd_same), rfl, ?_⟩
    refine ⟨_, _, rfl, _, _, rfl, rfl, rfl, ?_⟩
    have h3 := s2 _ _ (B.pt.sw z hm)
    refine ⟨_, rfl, ix_tup (s2 _ _ (B.pt.tp z hm)) rfl ?_⟩
    refine ⟨z.s, z.d, _, rfl, h3, swF_no2 _ _ _, z.s, z.d, _, _, _, rfl, h3, z.st, rfl, ?_⟩
    have htk : ps.take (i + 1) = ps.take i ++ [z] := by
      rw [List.take_add_one, hz]
      rfl
    have hln : ((ps.take i).map (·.st)).length = i := by
      simp
      omega
    have e1 : litK 0 ((ps.take (i + 1)).map (·.st)) = litK 0 ((ps.take i).map (·.st)) ++ if z.st = true then [(i : Int)] else [] := by
      rw [htk, List.map_append]
      have := litK_app ((ps.take i).map (·.st)) 0 z.st
      rw [hln, Nat.zero_add] at this
      exact this
    have hlk := litK_len ((ps.take i).map (·.st)) 0
    by_cases c : z.st = true
    · refine ifY c ⟨_, rfl, _, hd2, ?_, ?_, ?_⟩
      · rw [List.length_map, sizeLine_eq]
        omega
      · intro c' o e
        rw [upd_ne (ne_of_none e hD)]
        exact s2 _ _ e
      · rw [upd_same, e1, if_pos c, List.map_append]
        rfl
    · have c' : z.st = false := by simpa using c
      refine ifN c' ⟨s2, ?_⟩
      rw [hd2, e1, if_neg c, List.append_nil]
  · rintro H' ⟨s, hd⟩
    rw [List.length_map, List.take_length] at hd
    exact q H' D s hD hd
/-! ### two boxes -/
structure Bx2 (K : PySem.W.Frag) (H H' : Hp) (b1 d1 p1 b2 d2 p2 : Addr) (top a1 a2 : Int) (x1 x2 : List (Rw × Bool)) (ls : List (Addr × List V)) : Prop where
  ex : ∃ ps qs, BxAt K H' b1 d1 p1 top a1 ps ∧ BxAt K H' b2 d2 p2 top a2 qs ∧ ps.map Pt.rb = x1 ∧ qs.map Pt.rb = x2 ∧ (∀ q ∈ ps, H q.s = none) ∧ (∀ q ∈ qs, H q.s = none) ∧ ∀ q ∈ ps, ∀ r ∈ qs, q.s ≠ r.s
  bn1 : H b1 = none
  bn2 : H b2 = none
  nb : b1 ≠ b2
  sm : Same H H'
  lv : ∀ r ∈ ls, H' r.1 = some (.lst r.2)
section
variable {H H' H'' : Hp} {b1 d1 p1 b2 d2 p2 : Addr} {top a1 a2 : Int} {x1 x2 : List (Rw × Bool)} {ls : List (Addr × List V)}
theorem Bx2.swap (I : Bx2 K H H' b1 d1 p1 b2 d2 p2 top a1 a2 x1 x2 ls) : Bx2 K H H' b2 d2 p2 b1 d1 p1 top a2 a1 x2 x1 ls := by
  obtain ⟨⟨ps, qs, B1, B2, e1, e2, f1, f2, dj⟩, n1, n2, nb, sm, lv⟩ := I
  exact ⟨⟨qs, ps, B2, B1, e2, e1, f2, f1, fun q hq r hr => (dj r hr q hq).symm⟩, n2, n1, nb.symm, sm, lv⟩
theorem Bx2.mono (I : Bx2 K H H' b1 d1 p1 b2 d2 p2 top a1 a2 x1 x2 ls) (s : Same H' H'') : Bx2 K H H'' b1 d1 p1 b2 d2 p2 top a1 a2 x1 x2 ls := by
  obtain ⟨⟨ps, qs, B1, B2, h⟩, n1, n2, nb, sm, lv⟩ := I
  exact ⟨⟨ps, qs, B1.mono s, B2.mono s, h⟩, n1, n2, nb, sm.trans s, fun r hr => s _ _ (lv r hr)⟩
theorem Bx2.add {a : Addr} {vs : List V} (I : Bx2 K H H' b1 d1 p1 b2 d2 p2 top a1 a2 x1 x2 ls) (h : H' a = some (.lst vs)) : Bx2 K H H' b1 d1 p1 b2 d2 p2 top a1 a2 x1 x2 ((a, vs) :: ls) := by
  refine ⟨I.ex, I.bn1, I.bn2, I.nb, I.sm, fun r hr => ?_⟩
  rcases List.mem_cons.mp hr with rfl | hr
  · exact h
  · exact I.lv r hr
theorem Bx2.turn {Q : VK} {E : XK} {pl : Int} (I : Bx2 K H H' b1 d1 p1 b2 d2 p2 top a1 a2 x1 x2 ls) (hl : x1.length ≤ 100000) (h0 : 0 ≤ pl) (h1 : pl ≤ top) (q : ∀ H'', Bx2 K H H'' b1 d1 p1 b2 d2 p2 top pl a2 (turnB pl x1) x2 ls → Q (.int (ansB (turnB pl x1))) H'') : spBxTurn K [.ref b1, .int pl] H' Q E := by
  obtain ⟨⟨ps, qs, B1, B2, e1, e2, f1, f2, dj⟩, n1, n2, nb, sm, lv⟩ := I
  refine ⟨b1, d1, p1, top, a1, ps, pl, rfl, B1, ?_, fun z => absurd ⟨h0, h1⟩ z, fun _ H'' B' k => ?_⟩
  · have := congrArg List.length e1
    simp at this
    omega
  · have e3 : (ps.map (Pt.turn pl)).map Pt.rb = turnB pl x1 := by rw [rb_turn, e1]
    have hs : ∀ z ∈ ps.map (Pt.turn pl), ∃ y ∈ ps, z.s = y.s := fun z hz => by
      obtain ⟨y, hy, rfl⟩ := List.mem_map.mp hz
      exact ⟨y, hy, rfl⟩
    rw [ansP_rb, e3]
    refine q H'' ⟨⟨ps.map (Pt.turn pl), qs, B', ⟨?_, ?_, ⟨fun r hr => ?_, fun r hr => ?_, B2.pt.nd⟩⟩, e3, e2, fun z hz => ?_, f2, fun z hz r hr => ?_⟩, n1, n2, nb, fun c o h => ?_, fun r hr => ?_⟩
    · exact k _ _ B2.ob nb.symm fun y hy => (ne_ho (B1.pt.sw y hy) B2.ob sw_bx).symm
    · exact k _ _ B2.ls (ne_ho B2.ls B1.ob (by intro e; cases e)) fun y hy => ne_ho B2.ls (B1.pt.sw y hy) (by intro e; cases e)
    · exact k _ _ (B2.pt.tp r hr) (ne_ho (B2.pt.tp r hr) B1.ob (by intro e; cases e)) fun y hy => ne_ho (B2.pt.tp r hr) (B1.pt.sw y hy) (by intro e; cases e)
    · exact k _ _ (B2.pt.sw r hr) (ne_ho (B2.pt.sw r hr) B1.ob sw_bx) fun y hy => (dj y hy r hr).symm
    · obtain ⟨y, hy, e⟩ := hs z hz
      rw [e]
      exact f1 y hy
    · obtain ⟨y, hy, e⟩ := hs z hz
      rw [e]
      exact dj y hy r hr
    · exact k c o (sm c o h) (ne_of_none h n1) fun y hy => ne_of_none h (f1 y hy)
    · have := lv r hr
      exact k _ _ this (ne_ho this B1.ob (by intro e; cases e)) fun y hy => ne_ho this (B1.pt.sw y hy) (by intro e; cases e)
theorem Bx2.ans {Q : VK} {E : XK} (I : Bx2 K H H' b1 d1 p1 b2 d2 p2 top a1 a2 x1 x2 ls) (hl : x1.length ≤ 100000) (q : ∀ H'', Bx2 K H H'' b1 d1 p1 b2 d2 p2 top a1 a2 x1 x2 ls → Q (.int (ansB x1)) H'') : spBxAns K [.ref b1] H' Q E := by
  obtain ⟨ps, qs, B1, B2, e1, h⟩ := I.ex
  refine ⟨b1, d1, p1, top, a1, ps, rfl, B1, ?_, fun H'' s => ?_⟩
  · have := congrArg List.length e1
    simp at this
    omega
  · rw [ansP_rb, e1]
    exact q H'' (I.mono s)
theorem Bx2.lit {Q : VK} {E : XK} (I : Bx2 K H H' b1 d1 p1 b2 d2 p2 top a1 a2 x1 x2 ls) (hl : x1.length ≤ 100000) (q : ∀ H'' D, Same H' H'' → Bx2 K H H'' b1 d1 p1 b2 d2 p2 top a1 a2 x1 x2 ls → H'' D = some (.lst ((litK 0 (x1.map (·.2))).map V.int)) → Q (.ref D) H'') : spBxLit K [.ref b1] H' Q E := by
  obtain ⟨ps, qs, B1, B2, e1, h⟩ := I.ex
  refine ⟨b1, d1, p1, top, a1, ps, rfl, B1, ?_, fun H'' D s hn hD => ?_⟩
  · have := congrArg List.length e1
    simp at this
    omega
  · refine q H'' D s (I.mono s) ?_
    have e : ps.map (·.st) = x1.map (·.2) := by
      rw [← e1, List.map_map]
      rfl
    rw [← e]
    exact hD
theorem Bx2.place {Q : VK} {E : XK} (I : Bx2 K H H' b1 d1 p1 b2 d2 p2 top a1 a2 x1 x2 ls) (q : Q (.int a1) H') : spBxPlace K [.ref b1] H' Q E := by
  obtain ⟨ps, qs, B1, B2, e1, h⟩ := I.ex
  exact ⟨b1, d1, p1, top, a1, ps, rfl, B1, q⟩
theorem bxF_no5 (t a : Int) (p : Addr) : (bxF t p a).lookup ("place" : Str) = none := by rfl
theorem Bx2.ob (I : Bx2 K H H' b1 d1 p1 b2 d2 p2 top a1 a2 x1 x2 ls) : ∃ fs, H' b1 = some (.ins (cB K) d1 fs) ∧ fs.lookup ("turn" : Str) = none ∧ fs.lookup ("answer" : Str) = none ∧ fs.lookup ("lit" : Str) = none ∧ fs.lookup ("place" : Str) = none := by
  obtain ⟨ps, qs, B, _⟩ := I.ex
  exact ⟨_, B.ob, bxF_no1 _ _ _, bxF_no2 _ _ _, bxF_no3 _ _ _, bxF_no5 _ _ _⟩
end
def RowsV (top : Int) (rows : List Rw) : Prop := ∀ r ∈ rows, 0 ≤ r.1 ∧ r.1 < r.2.1 ∧ r.2.1 ≤ top
theorem bx_made {H : Hp} {E : XK} {sl : Addr} {top : Int} {zs : List (Addr × Rw)} {b dx : Addr} {q : Hp → Prop}
    (R : RwAt H sl zs) (ht : 1 ≤ top ∧ top ≤ 16) (hv : RowsV top (zs.map (·.2))) (hl : zs.length ≤ 100000) (hb : H b = none) (hdx : H dx = none) (hne : dx ≠ b)
    (hq : ∀ H' p ps, BxAt K H' b dx p top 0 ps → ps.map Pt.rb = offB (zs.map (·.2)) → (∀ q ∈ ps, H q.s = none) → Same H H' → q H') :
    spBxInit K (.ref b :: ([.int top, .ref sl] ++ [])) (upd (upd H dx (.own b)) b (.ins (cB K) dx [])) (fun v H2 => v = .non ∧ q H2) E := by
  have k1 : upd H dx (.own b) b = none := by rw [upd_ne hne.symm]; exact hb
  have s : Same H (upd (upd H dx (.own b)) b (.ins (cB K) dx [])) := (same_new hdx).trans (same_new k1)
  refine ⟨b, dx, sl, top, zs, rfl, upd_same, R.mono s, hl, fun c => absurd ht c, fun _ c2 => ?_, fun _ _ => ⟨fun c3 => ?_, fun _ H' p ps B e fr k => ⟨rfl, ?_⟩⟩⟩
  · obtain ⟨z, h1, h2⟩ := c2
    have := (hv z.2 (List.mem_map_of_mem h1)).2.2
    omega
  · obtain ⟨z, h1, h2⟩ := c3
    exact absurd ⟨(hv z.2 (List.mem_map_of_mem h1)).1, (hv z.2 (List.mem_map_of_mem h1)).2.1⟩ h2
  · exact hq H' p ps B e (fun q hq => s.free (fr q hq)) fun c o e => k c o (s _ _ e) (ne_of_none e hb)
def lastA (l : List Int) : Int := l.getLast?.getD 0
theorem lastA_app (l : List Int) (p : Int) : lastA (l ++ [p]) = p := by
  unfold lastA
  simp
/-- what law k27 needs from its boxes on -/
def k27C (mst mpl mca : List D → R T) (ρ : Env) : Prop := ∃ (ns : List Int) (top : Int) (rows : List Rw) (row st pl : List Int) (c : Int) (t2 t5 : T) (c3 c4 : Cell),
  ρ = [.at (.dat (.scr ns)), .at (.dat (.int top)), .at t2, c3, c4, .at t5, .no, .no] ∧ t2.er = .lst (rows.map rowD) ∧ t5.er = .lst (row.map D.int) ∧ (1 ≤ top ∧ top ≤ 16) ∧ RowsV top rows ∧ rows.length ≤ 100000 ∧ row.length ≤ 100000 ∧
  mst [.lst ((0 :: row).map D.int)] = .ok (intsT st) ∧ mca [.scr ns, .int 3] = .ok (.dat (.int c)) ∧ mpl [.int c, .int 6, .int top] = .ok (intsT pl) ∧ pl.length ≤ 100000 ∧ (∀ p ∈ row, 0 ≤ p ∧ p ≤ top) ∧ (∀ p ∈ st, 0 ≤ p ∧ p ≤ top) ∧ (∀ p ∈ pl, 0 ≤ p ∧ p ≤ top) ∧
  turnsB (offB rows) row = turnsB (offB rows) st ∧ lastA row = lastA st
open Classical in
noncomputable def k27T (mst mpl mca : List D → R T) (ρ : Env) : Out := if k27C mst mpl mca ρ then .rt (.dat (.bl true)) else .bad
end Sm
/-! Sm, part V: the def lit_behind from its box on. -/
namespace Sm
open PySem L2
variable {K : PySem.W.Frag}
theorem Good.valS {E U0 U H : Hp} {L : List (Nat × V)} {σ : L2.St} {ρ : Env} {tmp : List (V × T)} (g : Good K E U0 L U H σ ρ tmp) {i : Nat} {t : T} (h : ρ[i]? = some (.at t)) : ∃ v, σ[i]? = some (some v) ∧ Rp K H v t.er := by
  obtain ⟨l, lv, o⟩ := g.own
  obtain ⟨v, h1, h2⟩ := lv.mem (.inl h)
  obtain ⟨G, hh, _⟩ := o.left
  exact ⟨v, h1, TRs.each g.uh hh (v, t) h2⟩
def inTop (top : Int) (p : Int) : Bool := decide (0 ≤ p) && decide (p ≤ top)
def litE (top : Int) (rows : List Rw) (pls : List Int) (ρ : Env) : Out := match boxOk top rows with
  | .ok _ => if pls.length ≤ 100000 then (if pls.all (inTop top) = true then .rt (intsT (litK 0 ((turnsB (offB rows) pls).map (·.2)))) else .exc 6 ρ) else .bad
  | .exc c => .exc c ρ
  | .bad => .bad
def litD (a b c : D) (ρ : Env) : Out := match a, b, c with
  | .int top, .lst es, .lst ds => (match rowsOf ds, intsOf es with
    | some rows, some pls => litE top rows pls ρ
    | _, _ => .bad)
  | _, _, _ => .bad
def litT (ρ : Env) : Out := match ρ with
  | [.at a, .at b, .at c, _, _, _, _] => litD a.er b.er c.er ρ
  | _ => .bad
abbrev litTr (K : PySem.W.Frag) (E : XK) : TS :=
  tSeq (tAsg (tMake (cB K) (spBxInit K) [] E (tCons (tVar 0) (tCons (tVar 2) tNil))) (gName 5))
    (tSeq (tFor (iList K (tVar 1)) (gName 6) (tDrop (tMeth (cB K) "turn" (spBxTurn K) [] E (tVar 5) (tCons (tVar 6) tNil))))
      (tRet (tMeth (cB K) "lit" (spBxLit K) [] E (tVar 5) tNil)))
theorem BxI.lit {H H' : Hp} {b dx p : Addr} {top : Int} {bx : List (Rw × Bool)} {ls : List (Addr × List V)} {Q : VK} {E : XK} (I : BxI K H H' b dx p top bx ls) (hl : bx.length ≤ 100000) (q : ∀ H'' D, Same H H'' → H D = none → H'' D = some (.lst ((litK 0 (bx.map (·.2))).map V.int)) → Q (.ref D) H'') : spBxLit K [.ref b] H' Q E := by
  obtain ⟨at_, ps, B, e, f⟩ := I.bt
  refine ⟨b, dx, p, top, at_, ps, rfl, B, ?_, fun H'' D s hn hD => ?_⟩
  · have := congrArg List.length e
    simp at this
    omega
  · refine q H'' D (I.sm.trans s) (I.sm.free hn) ?_
    have e : ps.map (·.st) = bx.map (·.2) := by
      rw [← e, List.map_map]
      rfl
    rw [← e]
    exact hD
theorem lit_ss {E : XK} : SS K (ecK K) (fun _ => E) (litTr K E) litT := by
  intro E0 U0 L U H σ ρ tmp g D h
  unfold litT at h
  split at h
  rotate_left
  · exact h.elim
  rename_i a b c c3 c4 c5 c6
  obtain ⟨v0, s0, r0⟩ := g.valS (i := 0) rfl
  obtain ⟨v1, s1, r1⟩ := g.valS (i := 1) rfl
  obtain ⟨v2, s2, r2⟩ := g.valS (i := 2) rfl
  have hlen : σ.length = 7 := by
    obtain ⟨l, lv, _⟩ := g.own
    exact lv.len
  match σ, hlen with
  | [y0, y1, y2, y3, y4, y5, y6], _ =>
  have z0 : y0 = some v0 := by simpa using s0
  have z1 : y1 = some v1 := by simpa using s1
  have z2 : y2 = some v2 := by simpa using s2
  subst z0 z1 z2
  unfold litD at h
  generalize a.er = ad at h r0
  generalize b.er = bd at h r1
  generalize c.er = cd at h r2
  split at h
  rotate_left
  · exact h.elim
  rename_i top es ds
  split at h
  rotate_left
  · exact h.elim
  rename_i rows pls er ei
  cases r0
  rw [intsOf_eq ei] at r1
  rw [rowsOf_eq er] at r2
  obtain ⟨sl, zs, rfl, rfl, R⟩ := rwAt_of r2
  obtain ⟨rl, ws, rfl, hr, rr⟩ := Rp.lstI r1
  have ew := rps_ints rr
  subst ew
  have hX : ∀ n : Nat, PS1 K (ecK K) (fun _ => E) E0 U0 L tmp D (.exc n [.at a, .at b, .at c, c3, c4, c5, c6]) → ∀ H', Same H H' → E (.ref (ecK K n)) none H' := fun n q H' s => q U H' _ (g.heap s)
  have hl : ¬ 100000 < (zs.map (·.2)).length := fun z => by
    unfold litE boxOk at h
    rw [if_pos z] at h
    exact h
  have hrl : (zs.map (·.2)).length ≤ 100000 := by omega
  refine ⟨_, rfl, _, rfl, fun bb dx hb hdx hne => ?_⟩
  have k1 : upd H dx (.own bb) bb = none := by rw [upd_ne hne.symm]; exact hb
  have s : Same H (upd (upd H dx (.own bb)) bb (.ins (cB K) dx [])) := (same_new hdx).trans (same_new k1)
  refine ⟨bb, dx, sl, top, zs, rfl, upd_same, R.mono s, by rw [List.length_map] at hl; omega, fun q => ?_, fun q1 q2 => ?_, fun q1 q2 => ?_⟩
  · unfold litE at h
    rw [boxOk_4 hl q] at h
    exact hX 4 h _ s
  · unfold litE at h
    rw [boxOk_5 hl q1 (by
      obtain ⟨z, h1, h2⟩ := q2
      exact ⟨z.2, List.mem_map_of_mem h1, h2⟩)] at h
    exact hX 5 h _ s
  · unfold litE at h
    rw [boxOk_ok hl q1 (fun r hr => by
      obtain ⟨z, h1, rfl⟩ := List.mem_map.mp hr
      exact q2 z h1)] at h
    refine ⟨fun hx H' k => ?_, fun hv0 => ?_⟩
    · rw [if_neg (fun z => by
        obtain ⟨y, hy, no⟩ := hx
        have := List.all_eq_true.mp z y.2 (List.mem_map_of_mem hy)
        unfold okRow at this
        rw [Bool.and_eq_true, decide_eq_true_iff, decide_eq_true_iff] at this
        exact no this)] at h
      exact hX 5 h _ fun c o e => k c o (s _ _ e) (ne_of_none e hb)
    have ha : (zs.map (·.2)).all okRow = true := List.all_eq_true.mpr fun r hr => by
      obtain ⟨y, hy, rfl⟩ := List.mem_map.mp hr
      unfold okRow
      rw [Bool.and_eq_true, decide_eq_true_iff, decide_eq_true_iff]
      exact hv0 y hy
    rw [if_pos ha] at h
    have h : PS1 K (ecK K) (fun _ => E) E0 U0 L tmp D (if pls.length ≤ 100000 then (if pls.all (inTop top) = true then .rt (intsT (litK 0 ((turnsB (offB (zs.map (·.2))) pls).map (·.2)))) else .exc 6 [.at a, .at b, .at c, c3, c4, c5, c6]) else .bad) := h
    split at h
    rotate_left
    · exact h.elim
    have hv : ∀ r ∈ zs.map (·.2), 0 ≤ r.1 ∧ r.1 < r.2.1 := fun r hr => by
      have := List.all_eq_true.mp ha r hr
      unfold okRow at this
      rw [Bool.and_eq_true, decide_eq_true_iff, decide_eq_true_iff] at this
      exact this
    refine fun H' p ps B e fr k => ⟨rfl, ?_⟩
    have I0 : BxI K H H' bb dx p top (offB (zs.map (·.2))) [] := ⟨⟨0, ps, B, e, fun q hq => s.free (fr q hq)⟩, hb, fun c o e => k c o (s _ _ e) (ne_of_none e hb), fun r hr => by simp at hr, List.nodup_nil, fun r hr => by simp at hr⟩
    have htl : ∀ l, (turnsB (offB (zs.map (·.2))) l).length ≤ 100000 := fun l => lenN ((turnsB_fst l _).trans (offB_fst _)) hrl
    refine ⟨_, rfl, rl, rfl, ⟨_, .inl (.inl (I0.sm _ _ hr))⟩, ?_⟩
    refine for_list (K := K) (a := rl) (xs := pls.map V.int) (fun i σ' H' => (∃ s6, σ' = [some (.int top), some (.ref rl), some (.ref sl), y3, y4, some (.ref bb), s6]) ∧ BxI K H H' bb dx p top (turnsB (offB (zs.map (·.2))) (pls.take i)) [] ∧ ∀ x ∈ pls.take i, 0 ≤ x ∧ x ≤ top) ?_ ?_ ?_ ?_
    · exact ⟨⟨_, rfl⟩, I0, fun x hx => by simp at hx⟩
    · rintro i σ' H' - ⟨_, I, _⟩
      exact .inl (.inl (I.sm _ _ hr))
    · rintro i x σ' H' hx ⟨⟨s6, rfl⟩, I, hin⟩
      obtain ⟨z, hz, rfl⟩ : ∃ z, pls[i]? = some z ∧ x = .int z := by
        rw [List.getElem?_map] at hx
        obtain ⟨z, h1, h2⟩ := Option.map_eq_some_iff.mp hx
        exact ⟨z, h1, h2.symm⟩
      have htk : pls.take (i + 1) = pls.take i ++ [z] := by
        rw [List.take_add_one, hz]
        rfl
      obtain ⟨fs, o1, o2, _⟩ := I.ob
      refine ⟨_, rfl, bb, dx, fs, rfl, o1, o2, _, rfl, nil_i (I.turnX (htl _) (fun hn => ?_) fun hz' H3 I => ?_)⟩
      · rw [if_neg (fun q => hn (by
          have := List.all_eq_true.mp q z (List.mem_of_getElem? hz)
          unfold inTop at this
          rw [Bool.and_eq_true, decide_eq_true_iff, decide_eq_true_iff] at this
          exact this))] at h
        exact hX 6 h _ I.sm
      · refine ⟨⟨_, rfl⟩, ?_, fun y hy => ?_⟩
        · rw [htk, turnsB_app]
          exact I
        · rw [htk] at hy
          rcases List.mem_append.mp hy with q | q
          · exact hin y q
          · rw [List.mem_singleton.mp q]
            exact hz'
    · rintro σ' H' ⟨⟨s6, rfl⟩, I, hin⟩
      rw [List.length_map, List.take_length] at I hin
      rw [if_pos (List.all_eq_true.mpr fun x hx => by
        unfold inTop
        rw [Bool.and_eq_true, decide_eq_true_iff, decide_eq_true_iff]
        exact hin x hx)] at h
      have h : ∀ v U' H', Fin K E0 U0 U' H' v (intsT (litK 0 ((turnsB (offB (zs.map (·.2))) pls).map (·.2)))) → D.rt v H' := h
      obtain ⟨fs, o1, _, _, o4⟩ := I.ob
      refine ⟨_, rfl, bb, dx, fs, rfl, o1, o4, nil_i (I.lit (htl _) fun H'' D' s2 hn hD => ?_)⟩
      refine h _ U _ ⟨g.eh.trans s2, g.uu, g.uh.trans s2, g.nw, ⟨[D'] ++ [], .cons (tr_ints hD) .nil, by simp, fun x hx => ?_⟩⟩
      have : x = D' := by simpa using hx
      subst this
      exact ⟨g.uh.free hn, g.eh.free hn⟩
end Sm
/-! Sm, part W: a part of what a name owns is changed, and the name is not asked again. -/
namespace Sm
open PySem L2
variable {K : PySem.W.Frag}
def T.at1 (t : T) (j : Int) : Option T := match t with
  | .tup ts => atI ts j
  | .lst ts => atI ts j
  | .dat _ => none
theorem TRs.get {U H : Hp} : ∀ {vs : List V} {ts : List T} {G} {n : Nat} {t : T}, TRs K U H vs ts G → ts[n]? = some t → ∃ v G', vs[n]? = some v ∧ TR K U H v t G' ∧ ∀ a ∈ G', a ∈ G
  | _, _, _, n, t, .nil, e => by simp at e
  | _, _, _, 0, t, .cons a b, e => by
    cases e
    exact ⟨_, _, rfl, a, fun x hx => List.mem_append_left _ hx⟩
  | _, _, _, n + 1, t, .cons a b, e => by
    obtain ⟨v, G', h1, h2, h3⟩ := TRs.get b (by simpa using e)
    exact ⟨v, G', by simpa using h1, h2, fun x hx => List.mem_append_right _ (h3 x hx)⟩
theorem atI_some {α : Type} {xs : List α} {j : Int} {x : α} (h : atI xs j = some x) : ∃ n, ixN xs.length j = some n ∧ xs[n]? = some x := by
  unfold atI at h
  cases e : ixN xs.length j with
  | none => rw [e] at h; cases h
  | some n => rw [e] at h; exact ⟨n, rfl, h⟩
theorem atI_of {α : Type} {xs : List α} {j : Int} {x : α} {n : Nat} (h : ixN xs.length j = some n) (e : xs[n]? = some x) : atI xs j = some x := by
  unfold atI
  rw [h]
  exact e
theorem TR.at1 {U H : Hp} {v : V} {t t' : T} {G : List Addr} {j : Int} (h : TR K U H v t G) (e : t.at1 j = some t') : ∃ v' G', TR K U H v' t' G' ∧ (∀ a ∈ G', a ∈ G) ∧ ∀ Q : VK, Q v' H → rIx K v (.int j) H Q := by
  cases h with
  | dat => cases e
  | lst hp r =>
    obtain ⟨n, h1, h2⟩ := atI_some (show atI _ j = some t' from e)
    obtain ⟨v', G', h3, h4, h5⟩ := r.get h2
    refine ⟨v', G', h4, fun a ha => List.mem_cons_of_mem _ (h5 a ha), fun Q q => .inl ⟨_, _, j, v', rfl, rfl, .inl (.inl hp), atI_of (by rw [r.len]; exact h1) h3, q⟩⟩
  | tup hp r =>
    obtain ⟨n, h1, h2⟩ := atI_some (show atI _ j = some t' from e)
    obtain ⟨v', G', h3, h4, h5⟩ := r.get h2
    refine ⟨v', G', h4, fun a ha => List.mem_cons_of_mem _ (h5 a ha), fun Q q => .inr (.inl ⟨_, _, j, v', rfl, rfl, .inl (.inl hp), atI_of (by rw [r.len]; exact h1) h3, q⟩)⟩
/-- a place of one name's own is written: that name alone is lost -/
theorem Good.lose {E U0 U H : Hp} {L : List (Nat × V)} {σ : L2.St} {ρ : Env} {tmp : List (V × T)} (g : Good K E U0 L U H σ ρ tmp) {i : Nat} {t : T} (h : ρ[i]? = some (.at t)) : ∃ v G, σ[i]? = some (some v) ∧ TR K U H v t G ∧ ∀ q ∈ G, ∀ o, Good K E U0 L U (upd H q o) σ (ρ.set i .no) tmp := by
  obtain ⟨l, lv, o⟩ := g.own
  obtain ⟨v, l', h1, pm, lv'⟩ := lv.out h
  have o2 := o.perm (l' := (v, t) :: (l' ++ tmp)) (List.Perm.append_right tmp pm)
  obtain ⟨G, hh, nd, k⟩ := o2
  cases hh with
  | cons a b =>
    rename_i G1 G2
    refine ⟨v, G1, h1, a, fun q hq ho => ?_⟩
    have kq := k q (List.mem_append_left _ hq)
    have hn : ∀ x ∈ G2, x ≠ q := fun x hx e => (List.nodup_append.mp nd).2.2 q hq x hx e.symm
    refine ⟨fun c u e => ?_, g.uu, fun c u e => ?_, g.nw, ⟨l', lv', G2, ?_, (List.nodup_append.mp nd).2.1, fun x hx => k x (List.mem_append_right _ hx)⟩, fun j w hj => ?_⟩
    · rw [upd_ne (ne_of_none e kq.2)]
      exact g.eh c u e
    · rw [upd_ne (ne_of_none e kq.1)]
      exact g.uh c u e
    · exact b.keep (Same.refl _) fun x hx => upd_ne (hn x hx)
    · obtain ⟨q1, t1, q2⟩ := g.pin j w hj
      refine ⟨q1, t1, ?_⟩
      by_cases e : j = i
      · subst e
        rw [h] at q2
        cases q2
      · rw [List.getElem?_set_ne (fun q => e q.symm)]
        exact q2
def T.isLst : T → Bool
  | .lst ts => decide (ts.length ≤ 1000000)
  | _ => false
def dropA1 (i : Nat) (j : Int) (ρ : Env) : Out := match ρ[i]? with
  | some (.at t) => (match t.at1 j with
    | some t' => if t'.isLst = true then .nx (ρ.set i .no) else .bad
    | none => .bad)
  | _ => .bad
def dropA2 (i : Nat) (j k : Int) (ρ : Env) : Out := match ρ[i]? with
  | some (.at t) => (match t.at1 j with
    | some t1 => (match t1.at1 k with
      | some t' => if t'.isLst = true then .nx (ρ.set i .no) else .bad
      | none => .bad)
    | none => .bad)
  | _ => .bad
theorem isLst_app {U H : Hp} {v : V} {t : T} {G : List Addr} (h : TR K U H v t G) (e : t.isLst = true) : ∃ q ∈ G, ∃ xs, v = .ref q ∧ H q = some (.lst xs) ∧ xs.length < sizeLine := by
  cases h with
  | dat => cases e
  | tup => cases e
  | lst hp r =>
    refine ⟨_, List.mem_cons_self, _, rfl, hp, ?_⟩
    unfold T.isLst at e
    rw [decide_eq_true_iff] at e
    rw [r.len, sizeLine_eq]
    omega
section
variable {ec : Nat → Addr} {ex : L2.St → XK}
theorem ss_dropA1 {i : Nat} {j n : Int} : SS K ec ex (tDrop (tBM K "list" rAppend (tOp (rIx K) (tVar i) (tC (.int j))) (tCons (tC (.int n)) tNil))) (dropA1 i j) := by
  intro E U0 L U H σ ρ tmp g D h
  unfold dropA1 at h
  split at h
  rotate_left
  · exact h.elim
  rename_i t et
  split at h
  rotate_left
  · exact h.elim
  rename_i t' et'
  split at h
  rotate_left
  · exact h.elim
  rename_i hl
  obtain ⟨v, G, h1, h2, h3⟩ := g.lose et
  obtain ⟨v', G', r1, r2, r3⟩ := h2.at1 et'
  obtain ⟨q, hq, xs, rfl, hx, hs⟩ := isLst_app r1 hl
  refine ⟨v, h1, r3 _ ⟨.inl ⟨rfl, _, .inl (.inl hx)⟩, q, xs, _, rfl, rfl, hx, hs, ?_⟩⟩
  exact h U _ σ (h3 q (r2 q hq) _)
theorem ss_dropA2 {i : Nat} {j k n : Int} : SS K ec ex (tDrop (tBM K "list" rAppend (tOp (rIx K) (tOp (rIx K) (tVar i) (tC (.int j))) (tC (.int k))) (tCons (tC (.int n)) tNil))) (dropA2 i j k) := by
  intro E U0 L U H σ ρ tmp g D h
  unfold dropA2 at h
  split at h
  rotate_left
  · exact h.elim
  rename_i t et
  split at h
  rotate_left
  · exact h.elim
  rename_i t1 et1
  split at h
  rotate_left
  · exact h.elim
  rename_i t' et'
  split at h
  rotate_left
  · exact h.elim
  rename_i hl
  obtain ⟨v, G, h1, h2, h3⟩ := g.lose et
  obtain ⟨v1, G1, s1, s2, s3⟩ := h2.at1 et1
  obtain ⟨v', G', r1, r2, r3⟩ := s1.at1 et'
  obtain ⟨q, hq, xs, rfl, hx, hs⟩ := isLst_app r1 hl
  refine ⟨v, h1, s3 _ (r3 _ ⟨.inl ⟨rfl, _, .inl (.inl hx)⟩, q, xs, _, rfl, rfl, hx, hs, ?_⟩)⟩
  exact h U _ σ (h3 q (s2 q (r2 q hq)) _)
end
theorem mt_ins {X : Cx} : MtR X "list.insert" rIns := by
  intro pins s σ H x vs v us Q I rx rv h
  refine mt_insert pins s σ H x vs v us Q I rx rv ?_
  obtain ⟨l, xs, i, y, h1, h2, h3, h4, h5, h6, q⟩ := h
  refine ⟨l, xs, i, y, h1, h2, h3, h4, h5, h6, ?_⟩
  rw [List.append_assoc]
  exact q
end Sm
/-! Sm, part X: sorted(d), d a dict whose keys are pairs of ints. -/
namespace Sm
open PySem PySem.Spec PyProof.Rows L2
/-- the pair at a place -/
def keyP (H : Hp) (x : V) : Int × Int := match x with
  | .ref b => (match H b with
    | some (.tup [.int i, .int j]) => (i, j)
    | _ => (0, 0))
  | _ => (0, 0)
theorem keyP_at {H : Hp} {b : Addr} {i j : Int} (h : H b = some (.tup [.int i, .int j])) : keyP H (.ref b) = (i, j) := by
  unfold keyP
  simp only [h]
def rSortedDT : List V → Hp → VK → Prop := fun vs H Q => ∃ (d : Addr) (kvs : List (List L2.Key × V)), vs = [V.ref d] ∧ H d = some (.dT kvs) ∧ (∀ p ∈ kvs, ∃ i j : Int, p.1 = [.inl i, .inl j]) ∧
  ∀ bs ys p, IsKeys H kvs bs → SrtO.Srtd (ltP (keyP H)) ys → SrtO.Stb (ltP (keyP H)) ys (bs.map V.ref) → H p = none → Q (.ref p) (upd H p (.lst ys))
theorem isKeys_mem {H : Hp} : ∀ {kvs : List (List L2.Key × V)} {bs : List Addr}, IsKeys H kvs bs → (∀ p ∈ kvs, ∃ i j : Int, p.1 = [.inl i, .inl j]) → ∀ b ∈ bs, ∃ i j : Int, H b = some (.tup [.int i, .int j])
  | _, _, .nil, _, b, hb => by cases hb
  | _, _, .cons h t, hk, b, hb => by
    rcases List.mem_cons.mp hb with rfl | hb
    · obtain ⟨i, j, e⟩ := hk _ List.mem_cons_self
      refine ⟨i, j, ?_⟩
      rw [h, e]
      rfl
    · exact isKeys_mem t (fun p hp => hk p (List.mem_cons_of_mem _ hp)) b hb
theorem cr_sortedDT {X : Cx} (hc : X.calm = true) : CallR X (.builtin "sorted") rSortedDT := by
  intro pins s σ H vs us Q I r h
  obtain ⟨d, kvs, rfl, hd, hk, q⟩ := h
  obtain ⟨u0, rfl, ru⟩ := vals1 r
  obtain rfl : u0 = Value.ref d := ru
  obtain ⟨z, hsys, kks, pr, ob, es, ep, hob, hex, hdat, hent, hnd⟩ := (show ObjOk X.prog X.w H s.heap d (.dT kvs) from I.hok _ _ hd)
  have l1 : es.size = kks.length := size_of_entries hent
  have l2 : kvs.length = kks.length := Paired.length pr
  have hK := isKeys_of pr
  have hM := isKeys_mem hK hk
  refine Calls.call_function_entry kind_sorted plain_sorted entry_sorted (args_sorted1 _) ?_
  unfold Builtin.«sorted»
  refine wpAny_bind (m := checkCount "sorted" 1 1 1) (wpAny_pure ?_)
  refine wpAny_bind (PySem.W.kdu_collect (A := X.A.in1) (kdl_raw hsys hex hdat) (I.ok.hd hc) hob (by omega) ?_)
  intro h1 tk acc kp it
  have eb : acc.toList = (kks.map fun x => x.2.1).map Value.ref := by
    have hlen : acc.toList.length = kks.length := (Array.length_toList ..).trans (it.1.trans l1)
    refine List.ext_getElem? fun j => ?_
    rw [List.getElem?_map, List.getElem?_map]
    cases hj : acc.toList[j]? with
    | none =>
      have := List.getElem?_eq_none_iff.mp hj
      rw [List.getElem?_eq_none (l := kks) (by omega)]
      rfl
    | some v =>
      obtain ⟨en, hen, hv⟩ := it.2 j v ((Array.getElem?_toList ..).symm.trans hj)
      have qe := entry_at hent j
      rw [hen] at qe
      cases hb : kks[j]? with
      | none => rw [hb] at qe; cases qe
      | some b =>
        rw [hb] at qe
        have e2 := Option.some.inj qe
        rw [hv, e2]
        rfl
  have hz : acc.toList.length ≤ sizeLine := by rw [eb, List.length_map, List.length_map]; omega
  have I1 : Inv X pins σ H { s with heap := h1, toks := tk } := I.kept kp
  refine wpAny_bind (wpAny_newList ?_ hz)
  have hoL : (h1.push (seqObj "list" acc.toList.toArray 0)).get? h1.objs.size = some (seqObj "list" acc.toList.toArray 0) := Heap.get?_push_size _ rfl
  show wpAny _ _ _ _ _ { s with heap := h1.push (seqObj "list" acc.toList.toArray 0), toks := tk }
  have hb2 : ∀ v ∈ acc.toList, ∃ a, v = Value.ref a ∧ a ∈ kks.map fun x => x.2.1 := fun v hv => by
    rw [eb] at hv
    obtain ⟨a, ha, rfl⟩ := List.mem_map.mp hv
    exact ⟨a, rfl, ha⟩
  have hpair : ∀ v ∈ acc.toList, Srt.IsPair (h1.push (seqObj "list" acc.toList.toArray 0)) v (keyP H (backV v)).1 (keyP H (backV v)).2 := fun v hv => by
    obtain ⟨a, rfl, ha⟩ := hb2 v hv
    obtain ⟨i, j, e⟩ := hM a ha
    obtain ⟨_, its2, r2, o, ho, hcl, n, hdt⟩ := I1.hok _ _ e
    obtain ⟨u1, u2, rfl, ri, rj⟩ := vals2 r2
    obtain ⟨t1, rfl⟩ := ri
    obtain ⟨t2, rfl⟩ := rj
    have ek : keyP H (backV (Value.ref a)) = (i, j) := keyP_at e
    rw [ek]
    exact ⟨a, o, t1, t2, n, rfl, Heap.get?_push_of_some _ ho, hcl, hdt⟩
  refine wpAny_bind (wpAny_holding (wpAny_call_entry slot_list_sort ⟨_, hoL, rfl⟩ entry_list_sort (SrtO.list_sort_ord (SrtO.swo_lex fun v => keyP H (backV v)) hoL hz (fun h2 => ?_) fun out hs hb => ⟨_, rfl, ?_⟩) (args_list_sort _)))
  · refine SrtO.pairs_sortableO (by omega) hpair fun o e => ?_
    have e' := e.symm.trans hoL
    cases e'
    exact fun c => absurd (Value.type.inj c) (by decide)
  · have h3 : ∀ u ∈ out, ∃ a, u = Value.ref a := fun u hu => by
      obtain ⟨a, e, _⟩ := hb2 u (hb.perm.mem_iff.mp hu)
      exact ⟨a, e⟩
    have e1 : acc.toList.map backV = (kks.map fun x => x.2.1).map V.ref := by
      rw [eb, List.map_map]
      rfl
    have hbb : SrtO.Stb (ltP (keyP H)) (out.map backV) ((kks.map fun x => x.2.1).map V.ref) := by
      rw [← e1]
      exact SrtO.Stb.map (ltP_swo (keyP H)) backV hb
    obtain ⟨n, hn⟩ := sortedHeap_at (vs := acc.toList) (out := out.toArray) hoL
    refine wpAny_pure ⟨_, rfl, .ref h1.objs.size, upd H h1.objs.size (.lst (out.map backV)), I1.laid (t' := tk) (fun b o e => ?_) (Nat.le_refl _) ⟨?_, out, n, vals_back h3, hn⟩, rfl, q _ _ _ hK (SrtO.srtd_map hs) hbb (I1.hok.fresh (Nat.le_refl _))⟩
    · have hlt : b < h1.objs.size := Heap.lt_size e
      rw [sortedHeap_old (Nat.ne_of_lt hlt) (by rw [size_push']; exact Nat.lt_succ_of_lt hlt)]
      exact Heap.get?_push_of_some _ e
    · rw [hbb.len, List.length_map, List.length_map]
      omega
end Sm
/-! Sm, part Y: the def _law_merged: a dict by pairs, walked in order. -/
namespace Sm
open PySem L2
variable {K : PySem.W.Frag}
/-! ### plainly -/
def ltK (p q : Int × Int) : Prop := p.1 < q.1 ∨ (p.1 = q.1 ∧ p.2 < q.2)
def insK (k : Int × Int) : List (Int × Int) → List (Int × Int)
  | [] => [k]
  | x :: r => if k = x then x :: r else if k.1 < x.1 ∨ (k.1 = x.1 ∧ k.2 < x.2) then k :: x :: r else x :: insK k r
def srtK (rows : List Rw) : List (Int × Int) := rows.foldr (fun r l => insK (r.1, r.2.1) l) []
def wtS (rows : List Rw) (lo hi : Int) : Int := (rows.map fun r => if r.1 = lo ∧ r.2.1 = hi then r.2.2 else 0).sum
def hasK (rows : List Rw) (lo hi : Int) : Prop := ∃ r ∈ rows, r.1 = lo ∧ r.2.1 = hi
def mergedS (rows : List Rw) : List Rw := ((srtK rows).map fun k => (k.1, k.2, wtS rows k.1 k.2)).filter fun r => decide (r.2.2 ≠ 0)
theorem ltK_tri {p q : Int × Int} (h : p ≠ q) : ltK p q ∨ ltK q p := by
  unfold ltK
  rcases Int.lt_trichotomy p.1 q.1 with a | a | a
  · exact .inl (.inl a)
  · rcases Int.lt_trichotomy p.2 q.2 with b | b | b
    · exact .inl (.inr ⟨a, b⟩)
    · exact absurd (Prod.ext a b) h
    · exact .inr (.inr ⟨a.symm, b⟩)
  · exact .inr (.inl a)
theorem ltK_irr {p q : Int × Int} (h : ltK p q) (h' : ltK q p) : False := by
  unfold ltK at h h'
  omega
theorem ltK_trans {p q r : Int × Int} (h : ltK p q) (h' : ltK q r) : ltK p r := by
  unfold ltK at h h' ⊢
  omega
theorem insK_mem {k x : Int × Int} : ∀ {l : List (Int × Int)}, x ∈ insK k l ↔ x = k ∨ x ∈ l
  | [] => by simp [insK]
  | y :: r => by
    unfold insK
    split
    · rename_i e
      subst e
      simp
    · split
      · simp
      · rw [List.mem_cons, List.mem_cons, insK_mem (l := r)]
        constructor
        · rintro (h | h | h)
          · exact .inr (.inl h)
          · exact .inl h
          · exact .inr (.inr h)
        · rintro (h | h | h)
          · exact .inr (.inl h)
          · exact .inl h
          · exact .inr (.inr h)
theorem insK_srt {k : Int × Int} : ∀ {l : List (Int × Int)}, l.Pairwise ltK → (insK k l).Pairwise ltK
  | [], _ => by simp [insK]
  | y :: r, h => by
    obtain ⟨h1, h2⟩ := List.pairwise_cons.mp h
    unfold insK
    split
    · exact h
    · rename_i hne
      split
      · rename_i hlt
        refine List.pairwise_cons.mpr ⟨fun z hz => ?_, h⟩
        rcases List.mem_cons.mp hz with rfl | hz
        · exact hlt
        · exact ltK_trans hlt (h1 z hz)
      · rename_i hlt
        refine List.pairwise_cons.mpr ⟨fun z hz => ?_, insK_srt h2⟩
        rcases insK_mem.mp hz with rfl | hz
        · rcases ltK_tri hne with q | q
          · exact absurd q hlt
          · exact q
        · exact h1 z hz
theorem srtK_srt : ∀ rows : List Rw, (srtK rows).Pairwise ltK
  | [] => .nil
  | r :: rows => insK_srt (srtK_srt rows)
theorem srtK_mem {k : Int × Int} : ∀ {rows : List Rw}, k ∈ srtK rows ↔ hasK rows k.1 k.2
  | [] => by
    constructor
    · intro h; cases h
    · rintro ⟨r, h, _⟩; cases h
  | r :: rows => by
    show k ∈ insK (r.1, r.2.1) (srtK rows) ↔ _
    rw [insK_mem, srtK_mem (rows := rows)]
    constructor
    · rintro (h | ⟨x, h1, h2⟩)
      · exact ⟨r, List.mem_cons_self, by rw [h], by rw [h]⟩
      · exact ⟨x, List.mem_cons_of_mem _ h1, h2⟩
    · rintro ⟨x, h1, h2, h3⟩
      rcases List.mem_cons.mp h1 with rfl | h1
      · exact .inl (Prod.ext h2.symm h3.symm)
      · exact .inr ⟨x, h1, h2, h3⟩
/-- two lists in order with the same pairs are one -/
theorem srt_uniq : ∀ {l l' : List (Int × Int)}, l.Pairwise ltK → l'.Pairwise ltK → (∀ x, x ∈ l ↔ x ∈ l') → l = l'
  | [], [], _, _, _ => rfl
  | [], b :: r', _, _, h => by have := (h b).mpr List.mem_cons_self; cases this
  | a :: r, [], _, _, h => by have := (h a).mp List.mem_cons_self; cases this
  | a :: r, b :: r', h1, h2, h => by
    obtain ⟨p1, p2⟩ := List.pairwise_cons.mp h1
    obtain ⟨q1, q2⟩ := List.pairwise_cons.mp h2
    have e : a = b := by
      rcases List.mem_cons.mp ((h a).mp List.mem_cons_self) with e | e
      · exact e
      · rcases List.mem_cons.mp ((h b).mpr List.mem_cons_self) with e' | e'
        · exact e'.symm
        · exact (ltK_irr (p1 b e') (q1 a e)).elim
    subst e
    congr 1
    refine srt_uniq p2 q2 fun x => ?_
    constructor
    · intro hx
      rcases List.mem_cons.mp ((h x).mp (List.mem_cons_of_mem _ hx)) with e | e
      · subst e
        exact (ltK_irr (p1 _ hx) (p1 _ hx)).elim
      · exact e
    · intro hx
      rcases List.mem_cons.mp ((h x).mpr (List.mem_cons_of_mem _ hx)) with e | e
      · subst e
        exact (ltK_irr (q1 _ hx) (q1 _ hx)).elim
      · exact e
theorem wtS_app (rows : List Rw) (r : Rw) (lo hi : Int) : wtS (rows ++ [r]) lo hi = wtS rows lo hi + if r.1 = lo ∧ r.2.1 = hi then r.2.2 else 0 := by
  unfold wtS
  rw [List.map_append, List.sum_append]
  simp
theorem wtS_no {rows : List Rw} {lo hi : Int} (h : ¬ hasK rows lo hi) : wtS rows lo hi = 0 := by
  unfold wtS
  induction rows with
  | nil => rfl
  | cons r rows ih =>
    rw [List.map_cons, List.sum_cons, ih (fun ⟨x, h1, h2⟩ => h ⟨x, List.mem_cons_of_mem _ h1, h2⟩), if_neg (fun q => h ⟨r, List.mem_cons_self, q⟩)]
    rfl
theorem hasK_app {rows : List Rw} {r : Rw} {lo hi : Int} : hasK (rows ++ [r]) lo hi ↔ hasK rows lo hi ∨ (r.1 = lo ∧ r.2.1 = hi) := by
  constructor
  · rintro ⟨x, h1, h2⟩
    rcases List.mem_append.mp h1 with h1 | h1
    · exact .inl ⟨x, h1, h2⟩
    · rw [List.mem_singleton.mp h1] at h2
      exact .inr h2
  · rintro (⟨x, h1, h2⟩ | h)
    · exact ⟨x, List.mem_append_left _ h1, h2⟩
    · exact ⟨r, by simp, h⟩
/-! ### the dict -/
abbrev kk (lo hi : Int) : List L2.Key := [.inl lo, .inl hi]
theorem putK_len' (c : List (List L2.Key × V)) (k : List L2.Key) (x : V) : (putK c k x).length ≤ c.length + 1 := by
  unfold putK
  split
  · rw [List.length_map]
    omega
  · rw [List.length_append]
    simp
structure DcOk (kvs : List (List L2.Key × V)) (pre : List Rw) : Prop where
  sh : ∀ p ∈ kvs, ∃ i j : Int, p.1 = kk i j
  nd : (kvs.map (·.1)).Nodup
  yes : ∀ i j, hasK pre i j → valV kvs (kk i j) = some (.int (wtS pre i j))
  no : ∀ i j, ¬ hasK pre i j → valV kvs (kk i j) = none
  ln : kvs.length ≤ pre.length
theorem kk_inj {i j i' j' : Int} (h : kk i j = kk i' j') : i = i' ∧ j = j' := by
  injection h with h1 h2
  injection h2 with h3 _
  injection h1 with h1
  injection h3 with h3
  exact ⟨h1, h3⟩
open Classical in
theorem DcOk.get {kvs : List (List L2.Key × V)} {pre : List Rw} (h : DcOk kvs pre) (i j : Int) : (valV kvs (kk i j)).getD (.int 0) = .int (wtS pre i j) := by
  by_cases c : hasK pre i j
  · rw [h.yes i j c]
    rfl
  · rw [h.no i j c, wtS_no c]
    rfl
theorem DcOk.put {kvs : List (List L2.Key × V)} {pre : List Rw} (h : DcOk kvs pre) (r : Rw) : DcOk (putK kvs (kk r.1 r.2.1) (.int (wtS pre r.1 r.2.1 + r.2.2))) (pre ++ [r]) := by
  refine ⟨fun p hp => ?_, ?_, fun i j c => ?_, fun i j c => ?_, ?_⟩
  · unfold putK at hp
    split at hp
    · obtain ⟨x, hx, rfl⟩ := List.mem_map.mp hp
      obtain ⟨i, j, e⟩ := h.sh x hx
      refine ⟨i, j, ?_⟩
      split <;> exact e
    · rcases List.mem_append.mp hp with hp | hp
      · exact h.sh p hp
      · rw [List.mem_singleton.mp hp]
        exact ⟨_, _, rfl⟩
  · unfold putK
    split
    · rw [List.map_map]
      have : (kvs.map ((fun x => x.1) ∘ fun kv => if kv.1 = kk r.1 r.2.1 then (kv.1, V.int (wtS pre r.1 r.2.1 + r.2.2)) else kv)) = kvs.map (·.1) := by
        refine List.map_congr_left fun x _ => ?_
        show (if x.1 = kk r.1 r.2.1 then (x.1, V.int (wtS pre r.1 r.2.1 + r.2.2)) else x).1 = x.1
        split <;> rfl
      rw [this]
      exact h.nd
    · rename_i hn
      rw [List.map_append, List.nodup_append]
      refine ⟨h.nd, by simp, fun a ha b hb e => hn ?_⟩
      have hb : b = kk r.1 r.2.1 := by simpa using hb
      obtain ⟨x, hx, rfl⟩ := List.mem_map.mp ha
      exact List.any_eq_true.mpr ⟨x, hx, decide_eq_true (e.trans hb)⟩
  · rw [valV_put]
    split
    · rename_i e
      obtain ⟨rfl, rfl⟩ := kk_inj e
      rw [wtS_app, if_pos ⟨rfl, rfl⟩]
    · rename_i e
      have ne : ¬ (r.1 = i ∧ r.2.1 = j) := fun q => e (by rw [q.1, q.2])
      rcases hasK_app.mp c with c | c
      · rw [h.yes i j c, wtS_app, if_neg ne, Int.add_zero]
      · exact absurd c ne
  · rw [valV_put]
    have ne : ¬ (r.1 = i ∧ r.2.1 = j) := fun q => c (hasK_app.mpr (.inr q))
    rw [if_neg (fun e => ne (by obtain ⟨a, b⟩ := kk_inj e; exact ⟨a.symm, b.symm⟩))]
    exact h.no i j fun q => c (hasK_app.mpr (.inl q))
  · have := putK_len' kvs (kk r.1 r.2.1) (.int (wtS pre r.1 r.2.1 + r.2.2))
    have := h.ln
    rw [List.length_append, List.length_singleton]
    omega
theorem valV_mem {kvs : List (List L2.Key × V)} {k : List L2.Key} : (∃ p ∈ kvs, p.1 = k) ↔ ∃ v, valV kvs k = some v := by
  have := valV_any k kvs
  constructor
  · rintro ⟨p, h1, h2⟩
    have e : (kvs.any fun kv => decide (kv.1 = k)) = true := List.any_eq_true.mpr ⟨p, h1, decide_eq_true h2⟩
    rw [this] at e
    exact Option.isSome_iff_exists.mp e
  · intro h
    rw [← Option.isSome_iff_exists, ← this] at h
    obtain ⟨p, h1, h2⟩ := List.any_eq_true.mp h
    exact ⟨p, h1, of_decide_eq_true h2⟩
open Classical in
theorem DcOk.mem {kvs : List (List L2.Key × V)} {pre : List Rw} (h : DcOk kvs pre) {i j : Int} : (∃ p ∈ kvs, p.1 = kk i j) ↔ hasK pre i j := by
  rw [valV_mem]
  by_cases c : hasK pre i j
  · exact ⟨fun _ => c, fun _ => ⟨_, h.yes i j c⟩⟩
  · refine ⟨fun ⟨v, e⟩ => ?_, fun q => absurd q c⟩
    rw [h.no i j c] at e
    cases e
def kp (p : List L2.Key × V) : Int × Int := match p.1 with
  | [.inl i, .inl j] => (i, j)
  | _ => (0, 0)
theorem kp_kk {p : List L2.Key × V} {i j : Int} (h : p.1 = kk i j) : kp p = (i, j) := by
  unfold kp
  rw [h]
theorem keys_map {H : Hp} : ∀ {kvs : List (List L2.Key × V)} {bs : List Addr}, IsKeys H kvs bs → (∀ p ∈ kvs, ∃ i j : Int, p.1 = kk i j) → bs.map (fun b => keyP H (.ref b)) = kvs.map kp
  | _, _, .nil, _ => rfl
  | _, _, .cons h t, hk => by
    obtain ⟨i, j, e⟩ := hk _ List.mem_cons_self
    rw [List.map_cons, List.map_cons, keys_map t fun p hp => hk p (List.mem_cons_of_mem _ hp), kp_kk e]
    congr 1
    refine keyP_at ?_
    rw [h, e]
    rfl
theorem kp_nodup : ∀ {kvs : List (List L2.Key × V)}, (∀ p ∈ kvs, ∃ i j : Int, p.1 = kk i j) → (kvs.map (·.1)).Nodup → (kvs.map kp).Nodup
  | [], _, _ => .nil
  | p :: kvs, h, nd => by
    rw [List.map_cons, List.nodup_cons] at nd ⊢
    obtain ⟨i, j, e⟩ := h p List.mem_cons_self
    refine ⟨fun hm => nd.1 ?_, kp_nodup (fun q hq => h q (List.mem_cons_of_mem _ hq)) nd.2⟩
    obtain ⟨q, hq, eq⟩ := List.mem_map.mp hm
    obtain ⟨i', j', e'⟩ := h q (List.mem_cons_of_mem _ hq)
    rw [kp_kk e, kp_kk e'] at eq
    injection eq with e1 e2
    refine List.mem_map.mpr ⟨q, hq, ?_⟩
    rw [e, e', e1, e2]
def unref : V → Addr
  | .ref a => a
  | _ => 0
theorem sorted_keys {H : Hp} {kvs : List (List L2.Key × V)} {pre : List Rw} {bs : List Addr} {ys : List V} (D : DcOk kvs pre) (hK : IsKeys H kvs bs) (hs : SrtO.Srtd (ltP (keyP H)) ys) (hb : SrtO.Stb (ltP (keyP H)) ys (bs.map V.ref)) :
    ∃ cs : List Addr, ys = cs.map V.ref ∧ (∀ c ∈ cs, ∃ i j : Int, H c = some (.tup [.int i, .int j])) ∧ cs.map (fun c => keyP H (.ref c)) = srtK pre := by
  have hM := isKeys_mem hK D.sh
  have pm := hb.perm
  have hr : ∀ y ∈ ys, ∃ b ∈ bs, y = V.ref b := fun y hy => by
    obtain ⟨b, h1, h2⟩ := List.mem_map.mp (pm.mem_iff.mp hy)
    exact ⟨b, h1, h2.symm⟩
  have ey : ys = (ys.map unref).map V.ref := by
    have e : ys.map (V.ref ∘ unref) = ys.map id := List.map_congr_left fun y hy => by
      obtain ⟨b, _, rfl⟩ := hr y hy
      rfl
    rw [List.map_map, e, List.map_id]
  have ek : (ys.map unref).map (fun c => keyP H (.ref c)) = ys.map (keyP H) := by
    rw [List.map_map]
    refine List.map_congr_left fun y hy => ?_
    obtain ⟨b, _, rfl⟩ := hr y hy
    rfl
  refine ⟨ys.map unref, ey, fun c hc => ?_, ?_⟩
  · obtain ⟨y, hy, rfl⟩ := List.mem_map.mp hc
    obtain ⟨b, h1, rfl⟩ := hr y hy
    exact hM b h1
  · rw [ek]
    have pk : (ys.map (keyP H)).Perm (kvs.map kp) := by
      have := pm.map (keyP H)
      rw [List.map_map] at this
      rw [← keys_map hK D.sh]
      exact this
    have nd : (ys.map (keyP H)).Nodup := pk.nodup_iff.mpr (kp_nodup D.sh D.nd)
    refine srt_uniq ?_ (srtK_srt pre) fun x => ?_
    · have hs : ys.Pairwise fun x y => SrtO.lexB (keyP H y) (keyP H x) = false := hs
      have h2 : (ys.map (keyP H)).Pairwise fun a b => ¬ ltK b a := List.pairwise_map.mpr (hs.imp (S := fun x y => ¬ ltK (keyP H y) (keyP H x)) fun h => SrtO.lexB_no.mp h)
      have h3 : (ys.map (keyP H)).Pairwise (· ≠ ·) := nd
      refine (List.Pairwise.and h2 h3).imp fun {a b} ⟨q1, q2⟩ => ?_
      rcases ltK_tri q2 with q | q
      · exact q
      · exact absurd q q1
    · rw [srtK_mem, ← D.mem, pk.mem_iff]
      constructor
      · intro h
        obtain ⟨p, h1, h2⟩ := List.mem_map.mp h
        obtain ⟨i, j, e⟩ := D.sh p h1
        rw [kp_kk e] at h2
        subst h2
        exact ⟨p, h1, e⟩
      · rintro ⟨p, h1, h2⟩
        exact List.mem_map.mpr ⟨p, h1, kp_kk h2⟩
end Sm
/-! Sm, part Z: what _law_merged tells. -/
namespace Sm
open PySem L2
variable {K : PySem.W.Frag}
def rowT (r : Rw) : T := .tup [.dat (.int r.1), .dat (.int r.2.1), .dat (.int r.2.2)]
def rowsT (rows : List Rw) : T := .lst (rows.map rowT)
def m_law_merged : List D → R T
  | [.lst ds] => (match rowsOf ds with
    | some rows => if rows.length ≤ 100000 then .ok (rowsT (mergedS rows)) else .bad
    | none => .bad)
  | _ => .bad
theorem ne_ints {H : Hp} {a b : Int} {Q : VK} (q : Q (.bl (!decide (a = b))) H) : rNeD K (.int a) (.int b) H Q := by
  refine ⟨_, _, (Rp.int a).dp, (Rp.int b).dp, rfl, rfl, ?_⟩
  have e : PyData.eqv (Sm.D.int a).py (Sm.D.int b).py = decide (a = b) := by
    by_cases h : a = b
    · subst h
      simp [D.py, PyData.eqv]
    · simp [D.py, PyData.eqv, h]
  rw [e]
  exact q
theorem c_i {v : V} {σ : L2.St} {H : Hp} {Q : VK} (h : Q v H) : tC v σ H Q := h
abbrev tKey : TE := tTup (tCons (tVar 2) (tCons (tVar 3) tNil))
theorem tup2 {σ : L2.St} {H : Hp} {Q : VK} {a b : V} (h2 : σ[2]? = some (some a)) (h3 : σ[3]? = some (some b)) (q : ∀ p, H p = none → Q (.ref p) (upd H p (.tup [a, b]))) : tKey σ H Q := ⟨a, h2, b, h3, by rw [sizeLine_eq]; show 2 ≤ 16777216; decide, q⟩
theorem insK_len (k : Int × Int) : ∀ l : List (Int × Int), (insK k l).length ≤ l.length + 1
  | [] => Nat.le_refl _
  | x :: r => by
    unfold insK
    split
    · simp
    · split
      · simp
      · have := insK_len k r
        simp
        omega
theorem srtK_len : ∀ rows : List Rw, (srtK rows).length ≤ rows.length
  | [] => Nat.le_refl _
  | r :: rows => by
    have := insK_len (r.1, r.2.1) (srtK rows)
    have := srtK_len rows
    show (insK (r.1, r.2.1) (srtK rows)).length ≤ rows.length + 1
    omega
/-- rows made so far -/
structure RwI (H H2 : Hp) (Dd : Addr) (ts : List (Addr × Rw)) : Prop where
  ls : H2 Dd = some (.lst (ts.map fun t => .ref t.1))
  tp : ∀ t ∈ ts, H2 t.1 = some (.tup [.int t.2.1, .int t.2.2.1, .int t.2.2.2])
  nd : (ts.map (·.1)).Nodup
  fr : ∀ t ∈ ts, H t.1 = none
theorem RwI.mono {H H2 H3 : Hp} {Dd : Addr} {ts : List (Addr × Rw)} (h : RwI H H2 Dd ts) (s : Same H2 H3) : RwI H H3 Dd ts := ⟨s _ _ h.ls, fun t ht => s _ _ (h.tp t ht), h.nd, h.fr⟩
theorem RwI.add {H H2 : Hp} {Dd p : Addr} {ts : List (Addr × Rw)} {r : Rw} (h : RwI H H2 Dd ts) (s : Same H H2) (hp : H2 p = none) : RwI H (upd (upd H2 p (.tup [.int r.1, .int r.2.1, .int r.2.2])) Dd (.lst ((ts.map fun t => V.ref t.1) ++ [.ref p]))) Dd (ts ++ [(p, r)]) := by
  have hpD : p ≠ Dd := (ne_of_none h.ls hp).symm
  refine ⟨?_, fun t ht => ?_, ?_, fun t ht => ?_⟩
  · rw [upd_same, List.map_append]
    rfl
  · rcases List.mem_append.mp ht with ht | ht
    · have := h.tp t ht
      rw [upd_ne (ne_ho this h.ls (by intro e; cases e))]
      exact keepN hp this
    · cases List.mem_singleton.mp ht
      rw [upd_ne hpD, upd_same]
  · rw [List.map_append, List.nodup_append]
    refine ⟨h.nd, by simp, fun a ha b hb => ?_⟩
    obtain ⟨t, ht, rfl⟩ := List.mem_map.mp ha
    have hb : b = p := by simpa using hb
    rw [hb]
    exact ne_of_none (h.tp t ht) hp
  · rcases List.mem_append.mp ht with ht | ht
    · exact h.fr t ht
    · cases List.mem_singleton.mp ht
      exact s.free hp
theorem trs_rw {U H : Hp} : ∀ {ts : List (Addr × Rw)}, (∀ t ∈ ts, H t.1 = some (.tup [.int t.2.1, .int t.2.2.1, .int t.2.2.2])) → TRs K U H (ts.map fun t => .ref t.1) (ts.map fun t => rowT t.2) (ts.map (·.1))
  | [], _ => .nil
  | t :: ts, h => .cons (G := [t.1]) (.tup (h t List.mem_cons_self) (.cons (G := []) (.dat (.int _)) (.cons (G := []) (.dat (.int _)) (.cons (G := []) (.dat (.int _)) .nil)))) (trs_rw fun y hy => h y (List.mem_cons_of_mem _ hy))
theorem tr_law_merged {N : List Str} {vs : List V} {H : Hp} {Q : VK} {E : XK} (hN : N.length = 5) (h : spM K (ecK K) 1 m_law_merged vs H Q E) :
    tSeq (tAsg tDNewT (gName 1))
      (tSeq (tFor (iList K (tVar 0)) (gTup K 3 (gCons (gName 2) (gCons (gName 3) (gCons (gName 4) gNil)))) (sDPut (tVar 1) tKey (tOp rAddU (tDGet2 (tVar 1) tKey (tC (.int 0))) (tVar 4))))
        (tRet (tLc (iList K (tCB rSortedDT (tCons (tVar 1) tNil))) (gTup K 2 (gCons (gName 2) (gCons (gName 3) gNil))) (tTest (tOp (rNeD K) (tDGet (tVar 1) tKey) (tC (.int 0)))) (tTup (tCons (tVar 2) (tCons (tVar 3) (tCons (tDGet (tVar 1) tKey) tNil)))) [2, 3])))
      { nx := fun _ H' => Q .non H', rt := Q } (L2.start N vs) H := by
  obtain ⟨ds, U0, hn, sU, r, h⟩ := h
  unfold m_law_merged at h
  split at h
  rotate_left
  · exact h.elim
  rename_i es
  split at h
  rotate_left
  · exact h.elim
  rename_i rows er
  split at h
  rotate_left
  · exact h.elim
  rename_i hrl
  rw [rowsOf_eq er] at r
  cases r with
  | cons r1 r2 =>
  cases r2
  obtain ⟨sl, zs, rfl, rfl, R⟩ := rwAt_of r1
  have R := R.mono sU
  have e0 : L2.start N [.ref sl] = [some (.ref sl), none, none, none, none] := by
    unfold L2.start
    rw [hN]
    rfl
  rw [e0]
  intro d hd
  refine ⟨_, rfl, sl, rfl, ⟨_, .inl (.inl (keepN hd R.ls))⟩, ?_⟩
  refine for_list (K := K) (a := sl) (xs := zs.map fun z => .ref z.1) (fun i σ' H' => (∃ s2 s3 s4, σ' = [some (.ref sl), some (.ref d), s2, s3, s4]) ∧ Same H H' ∧ ∃ kvs, H' d = some (.dT kvs) ∧ DcOk kvs ((zs.map (·.2)).take i)) ?_ ?_ ?_ ?_
  · refine ⟨⟨_, _, _, rfl⟩, same_new hd, [], upd_same, ⟨fun p hp => (by cases hp), List.nodup_nil, fun i j c => ?_, fun i j _ => rfl, Nat.le_refl _⟩⟩
    obtain ⟨x, hx, _⟩ := c
    cases hx
  · rintro i σ' H' - ⟨_, s, _⟩
    exact .inl (.inl (s _ _ R.ls))
  · rintro i x σ' H' hx ⟨⟨s2, s3, s4, rfl⟩, s, kvs, hk, D⟩
    obtain ⟨z, hz, rfl⟩ : ∃ z, zs[i]? = some z ∧ x = .ref z.1 := by
      rw [List.getElem?_map] at hx
      obtain ⟨z, h1, h2⟩ := Option.map_eq_some_iff.mp hx
      exact ⟨z, h1, h2.symm⟩
    have hm : z ∈ zs := List.mem_of_getElem? hz
    have hi : i < zs.length := (List.getElem?_eq_some_iff.mp hz).1
    have htk : (zs.map (·.2)).take (i + 1) = (zs.map (·.2)).take i ++ [z.2] := by
      rw [List.take_add_one, List.getElem?_map, hz]
      rfl
    have kz := s _ _ (R.tp z hm)
    refine ⟨z.1, _, rfl, .inl (.inl kz), rfl, ?_⟩
    refine ⟨_, _, rfl, _, _, rfl, _, _, rfl, rfl, ?_⟩
    refine ⟨_, rfl, d, rfl, .inr ⟨kvs, .inl hk⟩, tup2 rfl rfl fun p1 h1 => ?_⟩
    refine ⟨_, DGet.t (k := kk z.2.1 z.2.2.1) (keepN h1 hk) upd_same, ?_⟩
    rw [D.get]
    refine ⟨_, rfl, .inl ⟨_, _, rfl, rfl, ?_⟩⟩
    refine ⟨_, rfl, tup2 rfl rfl fun p2 h2 => ?_⟩
    have hk2 := keepN (x := HO.tup [.int z.2.1, .int z.2.2.1]) h2 (keepN (x := HO.tup [.int z.2.1, .int z.2.2.1]) h1 hk)
    have hkl := D.ln
    have hpd : p2 ≠ d := (ne_of_none (keepN h1 hk) h2).symm
    refine ⟨d, _, rfl, DPut.t (k := kk z.2.1 z.2.2.1) hk2 upd_same (by rw [sizeLine_eq]; rw [List.length_take] at hkl; omega), ⟨_, _, _, rfl⟩, fun c o e => ?_, _, upd_same, ?_⟩
    · rw [upd_ne (ne_of_none e hd)]
      exact keepN h2 (keepN h1 (s _ _ e))
    · rw [htk]
      exact D.put z.2
  · rintro σ' H' ⟨⟨s2, s3, s4, rfl⟩, s, kvs, hk, D⟩
    rw [List.length_map, List.take_of_length_le (by simp)] at D
    have h : ∀ v U' H', Fin K H U0 U' H' v (rowsT (mergedS (zs.map (·.2)))) → Q v H' := h
    refine ⟨_, rfl, d, kvs, rfl, hk, D.sh, fun bs ys p hK hs hb hp => ?_⟩
    obtain ⟨cs, rfl, hcs, hck⟩ := sorted_keys D hK hs hb
    refine ⟨p, rfl, ⟨_, .inl (.inl upd_same)⟩, fun Dd hD => ?_⟩
    have sH : Same H' (upd H' p (.lst (cs.map V.ref))) := same_new hp
    have hDp : Dd ≠ p := fun e => by
      rw [e, upd_same] at hD
      cases hD
    have hDd : Dd ≠ d := (ne_of_none (sH _ _ hk) hD).symm
    refine lc_list (xs := cs.map V.ref) (fun i H2 => Same (upd H' p (.lst (cs.map V.ref))) H2 ∧ ∃ ts : List (Addr × Rw), RwI H H2 Dd ts ∧ ts.map (·.2) = (((srtK (zs.map (·.2))).take i).map fun k => ((k.1, k.2, wtS (zs.map (·.2)) k.1 k.2) : Rw)).filter fun r => decide (r.2.2 ≠ 0)) ?_ ?_ ?_ ?_
    · exact ⟨same_new hD, [], ⟨upd_same, fun t ht => (by cases ht), List.nodup_nil, fun t ht => (by cases ht)⟩, rfl⟩
    · rintro i H2 - ⟨s2, _⟩
      exact .inl (.inl (s2 _ _ upd_same))
    · rintro i x H2 hx ⟨sq, ts, I, et⟩
      obtain ⟨c, hc, rfl⟩ : ∃ c, cs[i]? = some c ∧ x = .ref c := by
        rw [List.getElem?_map] at hx
        obtain ⟨z, h1, h2⟩ := Option.map_eq_some_iff.mp hx
        exact ⟨z, h1, h2.symm⟩
      obtain ⟨lo, hi, hch⟩ := hcs c (List.mem_of_getElem? hc)
      have hkey := keyP_at hch
      have hsr : (srtK (zs.map (·.2)))[i]? = some (lo, hi) := by
        rw [← hck, List.getElem?_map, hc]
        exact congrArg some hkey
      have hhas : hasK (zs.map (·.2)) lo hi := srtK_mem.mp (List.mem_of_getElem? hsr)
      have htk : (srtK (zs.map (·.2))).take (i + 1) = (srtK (zs.map (·.2))).take i ++ [(lo, hi)] := by
        rw [List.take_add_one, hsr]
        rfl
      have hil : i < (srtK (zs.map (·.2))).length := (List.getElem?_eq_some_iff.mp hsr).1
      have hkd := sq _ _ (sH _ _ hk)
      have hW := D.yes lo hi hhas
      refine ⟨c, _, rfl, .inl (.inl (sq _ _ (sH _ _ hch))), rfl, ?_⟩
      refine ⟨_, _, rfl, _, _, rfl, rfl, rfl, ?_⟩
      refine ⟨_, rfl, tup2 rfl rfl fun p1 h1 => ?_⟩
      refine ⟨d, .int (wtS (zs.map (·.2)) lo hi), rfl, by rw [← hW]; exact DGet.t (k := kk lo hi) (keepN h1 hkd) upd_same, ?_⟩
      show tC (V.int 0) _ _ _
      refine c_i (ne_ints ?_)
      refine ⟨_, rfl, ?_⟩
      have s3 : Same (upd H' p (.lst (cs.map V.ref))) (upd H2 p1 (.tup [.int lo, .int hi])) := sq.trans (same_new h1)
      have I1 := I.mono (same_new (o := .tup [.int lo, .int hi]) h1)
      rw [htk, List.map_append, List.filter_append, ← et]
      by_cases c0 : wtS (zs.map (·.2)) lo hi = 0
      · refine ifN (by simp [c0]) ⟨s3, ts, I1, ?_⟩
        simp [c0]
      · refine ifY (by simp [c0]) ?_
        refine ⟨_, rfl, _, rfl, ?_⟩
        refine ⟨_, rfl, tup2 rfl rfl fun p2 h2 => ?_⟩
        refine ⟨d, .int (wtS (zs.map (·.2)) lo hi), rfl, by rw [← hW]; exact DGet.t (k := kk lo hi) (keepN h2 (keepN h1 hkd)) upd_same, ?_⟩
        refine ⟨by rw [sizeLine_eq]; show 3 ≤ 16777216; decide, fun p3 h3 => ?_⟩
        have s4 := s3.trans (same_new (o := .tup [.int lo, .int hi]) h2)
        have I2 := I1.mono (same_new (o := .tup [.int lo, .int hi]) h2)
        have hal : ts.length ≤ (srtK (zs.map (·.2))).length := by
          have := congrArg List.length et
          rw [List.length_map] at this
          rw [this]
          refine Nat.le_trans (List.length_filter_le _ _) ?_
          rw [List.length_map, List.length_take]
          omega
        refine ⟨_, keepN h3 I2.ls, ?_, ?_, ts ++ [(p3, (lo, hi, wtS (zs.map (·.2)) lo hi))], I2.add (r := (lo, hi, wtS (zs.map (·.2)) lo hi)) ((s.trans sH).trans s4) h3, ?_⟩
        · have := srtK_len (zs.map (·.2))
          rw [List.length_map, sizeLine_eq]
          omega
        · intro b o e
          rw [upd_ne (ne_of_none e hD)]
          exact keepN h3 (s4 _ _ e)
        · simp [c0]
    · rintro H2 ⟨sq, ts, I, et⟩
      have hls : (cs.map V.ref).length = (srtK (zs.map (·.2))).length := by
        rw [← hck, List.length_map, List.length_map]
      rw [hls, List.take_length] at et
      have et : ts.map (·.2) = mergedS (zs.map (·.2)) := et
      have sF : Same H H2 := (s.trans sH).trans sq
      have hDn : H Dd = none := (s.trans sH).free hD
      have eT : rowsT (mergedS (zs.map (·.2))) = .lst (ts.map fun t => rowT t.2) := by
        unfold rowsT
        rw [← et, List.map_map]
        rfl
      rw [eT] at h
      refine h _ U0 _ ⟨sF, Same.refl _, sU.trans sF, fun a o x y => (by rw [x] at y; cases y), ⟨(Dd :: ts.map (·.1)) ++ [], .cons (.lst I.ls (trs_rw I.tp)) .nil, ?_, fun a ha => ?_⟩⟩
      · rw [List.append_nil, List.nodup_cons]
        refine ⟨fun hm => ?_, I.nd⟩
        obtain ⟨t, ht, e⟩ := List.mem_map.mp hm
        have := I.tp t ht
        rw [e, I.ls] at this
        cases this
      · rw [List.append_nil] at ha
        have : H a = none := by
          rcases List.mem_cons.mp ha with rfl | ha
          · exact hDn
          · obtain ⟨t, ht, rfl⟩ := List.mem_map.mp ha
            exact I.fr t ht
        exact ⟨sU.free this, this⟩
end Sm
/-! Sm, part ZA: list(zip(a, b)); xs[::-1]; sorted(xs, reverse=True). -/
namespace Sm
open PySem PySem.Spec PyProof.Rows L2
/-- pairs laid one by one -/
inductive ZU (xs ys : List V) (H0 : Hp) : Nat → List V → Hp → Prop
  | zero : ZU xs ys H0 0 [] H0
  | succ {n : Nat} {vs : List V} {H : Hp} {x y : V} {T : Addr} : ZU xs ys H0 n vs H → xs[n]? = some x → ys[n]? = some y → H T = none → ZU xs ys H0 (n + 1) (vs ++ [.ref T]) (upd H T (.tup [x, y]))
theorem ZU.same {xs ys : List V} {H0 : Hp} {n : Nat} {vs : List V} {H : Hp} (z : ZU xs ys H0 n vs H) : Same H0 H := by
  induction z with
  | zero => exact Same.refl _
  | succ _ _ _ h ih => exact ih.trans (same_new h)
theorem ZU.len {xs ys : List V} {H0 : Hp} {n : Nat} {vs : List V} {H : Hp} (z : ZU xs ys H0 n vs H) : vs.length = n := by
  induction z with
  | zero => rfl
  | succ _ _ _ h ih => simp [ih]
theorem zip_no_len : typeLookup (.type "zip") "__len__" = pure none := by rw [typeLookup_type, builtinLookup_eq_fast]; kernel_rfl
theorem zip_no_hint : typeLookup (.type "zip") "__length_hint__" = pure none := by rw [typeLookup_type, builtinLookup_eq_fast]; kernel_rfl
/-- a zip between two of its turns, its tuple perhaps still out -/
def LzSt (z TI TO i1 i2 a b S : Addr) (i : Nat) (h : Heap) : Prop := (∃ o, h.get? TO = some o) ∧ IsPair h TI (.ref i1) (.ref i2) ∧ h.IsListIter i1 a i ∧ h.IsListIter i2 b i ∧
  ((IsZip h z TI TO .none ∧ ∃ p q, IsPair h TO p q) ∨ ∃ T f oT, IsZipHeld h z TI TO T f ∧ h.get? T = some oT ∧ T ≠ z ∧ T ≠ i1 ∧ T ≠ i2 ∧ T ≠ S)
section
variable {X : Cx} {pins : List (Addr × Obj)} {σ : L2.St} {A : Around} {R : Result → Shared → Prop} {z TI TO i1 i2 a b S : Addr} {xs ys : List V} {s : Shared} {H0 : Hp}
theorem fpUpd {H : Hp} {T c : Addr} {o : HO} (h : FpOk X pins H c) (ne : c ≠ T) : FpOk X pins (upd H T o) c := ⟨(upd_ne ne).trans h.1, h.2⟩
theorem lz_loop (hh : A.handled = none) (D : ZipApart z TI TO i1 i2 a b) (hS : S ∉ [z, TI, TO, i1, i2]) (res : Value)
    (hn : min xs.length ys.length ≤ sizeLine)
    (hR : ∀ h' tk acc c vs H', Inv X pins σ H' { s with heap := h', toks := tk } → ZU xs ys H0 (min xs.length ys.length) vs H' → h'.get? S = some { cls := .type "list", dict := none, data := .seq acc c, slots := #[] } → Vals vs acc.toList → FpOk X pins H' S → R (.ok (.ret res)) { s with heap := h', toks := tk }) :
    ∀ (k i : Nat) (h : Heap) (tk c : Nat) (acc : Array Value) (vs : List V) (H : Hp), min xs.length ys.length - i = k → i ≤ min xs.length ys.length →
      Inv X pins σ H { s with heap := h, toks := tk } → ZU xs ys H0 i vs H → SqL X.K H a xs → SqL X.K H b ys → LzSt z TI TO i1 i2 a b S i h → (∀ c ∈ [S, z, TI, TO, i1, i2], FpOk X pins H c) →
      h.get? S = some { cls := .type "list", dict := none, data := .seq acc c, slots := #[] } → Vals vs acc.toList →
      codeAny (model X.prog X.w) A (.builtin "list.extend.loop" ⟨[.ref S, .ref z, res], []⟩) R { s with heap := h, toks := tk } := by
  have nz : S ≠ z := fun e => hS (by simp [e])
  have nTI : S ≠ TI := fun e => hS (by simp [e])
  have nTO : S ≠ TO := fun e => hS (by simp [e])
  have n1 : S ≠ i1 := fun e => hS (by simp [e])
  have n2 : S ≠ i2 := fun e => hS (by simp [e])
  intro k
  induction k with
  | zero =>
    intro i h tk c acc vs H hk hi I zu qa qb st hf hSo hv
    have hin : i = min xs.length ys.length := by omega
    obtain ⟨its, rv, p, _⟩ := I.list qa
    obtain ⟨its2, rv2, p2, _⟩ := I.list qb
    have l1 := rv.length
    have l2 := rv2.length
    have he : its.toArray[i]? = none ∨ its2.toArray[i]? = none := by
      rcases Nat.le_total xs.length ys.length with q | q
      · exact .inl (by simp; omega)
      · exact .inr (by simp; omega)
    obtain ⟨⟨oTO, eTO⟩, hTI, h1, h2, hz⟩ := st
    refine codeAny_builtin PySem.F.entry_extend_loop ?_
    rw [Around.under_plainId PySem.F.plain_extend_loop _]
    show wpAny _ A.in1 (pyNext (.ref z) >>= _) _ _ _
    have fin : ∀ h' : Heap, (∀ c o, c ≠ z → c ≠ TO → c ≠ i1 → c ≠ i2 → h.get? c = some o → h'.get? c = some o) → R (.ok (.ret res)) { s with heap := h', toks := tk } := fun h' hk' =>
      hR h' tk acc c vs H (Inv.turnedL (s := { s with heap := h, toks := tk }) (h' := h') (t' := tk) (ch := [z, TO, i1, i2]) I (fun c o hb q => hk' c o (fun q' => hb (by simp [q'])) (fun q' => hb (by simp [q'])) (fun q' => hb (by simp [q'])) (fun q' => hb (by simp [q'])) q) (fun c hc => hf c (by simp only [List.mem_cons, List.not_mem_nil, or_false] at hc ⊢; rcases hc with e | e | e | e <;> simp [e])))
        (hin ▸ zu) (hk' S _ nz nTO n1 n2 hSo) hv (hf S (by simp))
    rcases hz with ⟨hz, p0, q0, hTO⟩ | ⟨T, f, oT, hz, hT, r1, r2, r3, r4⟩
    · exact wpAny_bind (wpAny_pyNext_zip_end (s := { s with heap := h, toks := tk }) (A := A.in1) hh D hz hTI hTO h1 h2 p.isList p2.isList he fun h' hk' => wpAny_pure (fin h' hk'))
    · exact wpAny_bind (wpAny_pyNext_zip_end_held (s := { s with heap := h, toks := tk }) (A := A.in1) hh D hz hT hTI h1 h2 p.isList p2.isList he fun h' hk' => wpAny_pure (fin h' fun c o c1 _ c3 c4 e => hk' c o c1 c3 c4 e))
  | succ k ih =>
    intro i h tk c acc vs H hk hi I zu qa qb st hf hSo hv
    have hlt : i < min xs.length ys.length := by omega
    obtain ⟨its, rv, p, _⟩ := I.list qa
    obtain ⟨its2, rv2, p2, _⟩ := I.list qb
    have hx : xs[i]? = some xs[i] := List.getElem?_eq_getElem (by omega)
    have hy : ys[i]? = some ys[i] := List.getElem?_eq_getElem (by omega)
    obtain ⟨u, hu, ru⟩ := rv.get hx
    obtain ⟨u2, hu2, ru2⟩ := rv2.get hy
    obtain ⟨⟨oTO, eTO⟩, hTI, h1, h2, hz⟩ := st
    have hacc : acc.size = i := by
      have e1 := hv.length
      rw [zu.len, Array.length_toList] at e1
      exact e1.symm
    have hSl : S < h.objs.size := Heap.lt_size hSo
    have lt : ∀ {c o}, h.get? c = some o → h.objs.size ≠ c := fun e => Nat.ne_of_gt (Heap.lt_size e)
    have m1 : h.objs.size ≠ i1 := let ⟨_, e, _⟩ := h1; lt e
    have m2 : h.objs.size ≠ i2 := let ⟨_, e, _⟩ := h2; lt e
    have mTI : h.objs.size ≠ TI := lt hTI
    have mz : h.objs.size ≠ z := by
      rcases hz with ⟨hz, _⟩ | ⟨T, f, oT, hz, _⟩
      · exact lt hz
      · exact lt hz
    have fr : H h.objs.size = none := I.hok.fresh (Nat.le_refl _)
    have mTO : h.objs.size ≠ TO := lt eTO
    refine codeAny_builtin PySem.F.entry_extend_loop ?_
    rw [Around.under_plainId PySem.F.plain_extend_loop _]
    show wpAny _ A.in1 (pyNext (.ref z) >>= _) _ _ _
    have go : ∀ h' : Heap, IsPair h' h.objs.size u u2 → (∀ c o, c ≠ z → c ≠ TO → c ≠ i1 → c ≠ i2 → h.get? c = some o → h'.get? c = some o) → h'.objs.size = h.objs.size + 1 → (∃ o, h'.get? TO = some o) →
        IsPair h' TI (.ref i1) (.ref i2) → h'.IsListIter i1 a (i + 1) → h'.IsListIter i2 b (i + 1) → ((IsZip h' z TI TO .none ∧ ∃ p q, IsPair h' TO p q) ∨ ∃ T f oT, IsZipHeld h' z TI TO T f ∧ h'.get? T = some oT ∧ T ≠ z ∧ T ≠ i1 ∧ T ≠ i2 ∧ T ≠ S) →
        wpAny (model X.prog X.w) A.in1 (updateSeq S (·.push (Value.ref h.objs.size)) >>= fun _ => again (.builtin "list.extend.loop" ⟨[.ref S, .ref z, res], []⟩))
          (fun fin s' => match fin with | .done f => R (.ok f) s' | .again c' => c'.quiet = true ∧ codeAny (model X.prog X.w) A c' R s') (fun e s' => R (.error e) s') { s with heap := h', toks := tk } := by
      intro h' hT hkp hsz ⟨oT', eT'⟩ kTI k1 k2 kz
      have hS' := hkp S _ nz nTO n1 n2 hSo
      have new : ObjOk X.prog X.w (upd H h.objs.size (.tup [xs[i], ys[i]])) h' h.objs.size (.tup [xs[i], ys[i]]) :=
        ⟨by show 2 ≤ sizeLine; decide, [u, u2], .cons ru (.cons ru2 .nil), ⟨_, hT, rfl, _, rfl⟩⟩
      have I1 : Inv X pins σ (upd H h.objs.size (.tup [xs[i], ys[i]])) { s with heap := h', toks := tk } :=
        I.turnedNew (t' := tk) (ch := [z, TO, i1, i2]) (fun c o hb q => hkp c o (fun q' => hb (by simp [q'])) (fun q' => hb (by simp [q'])) (fun q' => hb (by simp [q'])) (fun q' => hb (by simp [q'])) q) (fun c hc => hf c (by simp only [List.mem_cons, List.not_mem_nil, or_false] at hc ⊢; rcases hc with e | e | e | e <;> simp [e])) (Nat.le_refl _) new
      have ne : ∀ c ∈ [S, z, TI, TO, i1, i2], c ≠ h.objs.size := fun c hc => by
        simp only [List.mem_cons, List.not_mem_nil, or_false] at hc
        rcases hc with e | e | e | e | e | e
        · rw [e]; exact Nat.ne_of_lt hSl
        · rw [e]; exact mz.symm
        · rw [e]; exact mTI.symm
        · rw [e]; exact mTO.symm
        · rw [e]; exact m1.symm
        · rw [e]; exact m2.symm
      have hf1 : ∀ c ∈ [S, z, TI, TO, i1, i2], FpOk X pins (upd H h.objs.size (.tup [xs[i], ys[i]])) c := fun c hc => fpUpd (hf c hc) (ne c hc)
      have up : ∀ b o, b ≠ S → h'.get? b = some o → (h'.update S (Obj.mapSeq (·.push (Value.ref h.objs.size)))).get? b = some o := fun b o hb e => (Heap.get?_update_other _ _ (Ne.symm hb)).trans e
      have I2 := I1.turnedL (h' := h'.update S (Obj.mapSeq (·.push (Value.ref h.objs.size)))) (t' := tk) (ch := [S]) (fun c o hb q => up c o (fun q' => hb (by simp [q'])) q) (fun c hc => hf1 c (by simp at hc ⊢; exact .inl hc))
      refine wpAny_bind (wpAny_updateSeq hS' rfl (wpAny_pure ⟨plainId_quiet PySem.F.plain_extend_loop _, ih (i + 1) _ tk _ (acc.push (Value.ref h.objs.size)) (vs ++ [.ref h.objs.size]) _ (by omega) hlt I2 (.succ zu hx hy fr)
        (SqL.mono (same_new fr) qa) (SqL.mono (same_new fr) qb) ⟨⟨_, up _ _ nTO.symm eT'⟩, up _ _ nTI.symm kTI, k1.at fun o e => up _ o n1.symm e, k2.at fun o e => up _ o n2.symm e, ?_⟩ hf1 (Heap.get?_update_self _ hS' rfl) ?_⟩)
        (by rw [hacc]; omega) (by show (acc.push (Value.ref h.objs.size)).size ≤ sizeLine + 1; rw [Array.size_push, hacc]; omega))
      · rcases kz with ⟨hz, p0, q0, hTO⟩ | ⟨T, f, oT, hz, hT, r1, r2, r3, r4⟩
        · exact .inl ⟨up _ _ nz.symm hz, p0, q0, up _ _ nTO.symm hTO⟩
        · exact .inr ⟨T, f, oT, up _ _ nz.symm hz, up _ _ r4 hT, r1, r2, r3, r4⟩
      · rw [Array.toList_push]
        exact hv.append (.cons rfl .nil)
    rcases hz with ⟨hz, p0, q0, hTO⟩ | ⟨T, f, oT, hz, hT, r1, r2, r3, r4⟩
    · refine wpAny_bind (wpAny_pyNext_zip_item (s := { s with heap := h, toks := tk }) D hz hTI hTO h1 h2 p.isList p2.isList (x := u) (y := u2) (by simpa using hu) (by simpa using hu2) fun h' z' TO' h1' h2' hT hsz hk' => ?_)
      exact go h' hT hk' hsz ⟨_, TO'⟩ (hk' _ _ D.TIz D.TITO D.TIi1 D.TIi2 hTI) h1' h2' (.inr ⟨h.objs.size, false, _, z', hT, mz, m1, m2, Nat.ne_of_gt hSl⟩)
    · refine wpAny_bind (wpAny_pyNext_zip_item_held (s := { s with heap := h, toks := tk }) D hz hT hTI h1 h2 p.isList p2.isList (x := u) (y := u2) (by simpa using hu) (by simpa using hu2) fun h' z' h1' h2' hT2 hsz hk' => ?_)
      exact go h' hT2 (fun c o c1 _ c3 c4 e => hk' c o c1 c3 c4 e) hsz ⟨_, hk' _ _ D.TOz D.TOi1 D.TOi2 eTO⟩ (hk' _ _ D.TIz D.TIi1 D.TIi2 hTI) h1' h2' (.inr ⟨T, true, oT, z', hk' _ _ r1 r2 r3 hT, r1, r2, r3, r4⟩)
theorem lz_extend (hh : A.handled = none) (D : ZipApart z TI TO i1 i2 a b) (hS : S ∉ [z, TI, TO, i1, i2]) (res : Value) (hn : min xs.length ys.length ≤ sizeLine)
    (hR : ∀ h' tk acc c vs H', Inv X pins σ H' { s with heap := h', toks := tk } → ZU xs ys H0 (min xs.length ys.length) vs H' → h'.get? S = some { cls := .type "list", dict := none, data := .seq acc c, slots := #[] } → Vals vs acc.toList → FpOk X pins H' S → R (.ok (.ret res)) { s with heap := h', toks := tk })
    (I : Inv X pins σ H0 s) (qa : SqL X.K H0 a xs) (qb : SqL X.K H0 b ys) (st : LzSt z TI TO i1 i2 a b S 0 s.heap) (hz0 : IsZip s.heap z TI TO .none) (hf : ∀ c ∈ [S, z, TI, TO, i1, i2], FpOk X pins H0 c) (c₀ : Nat) (hSo : s.heap.get? S = some { cls := .type "list", data := .seq #[] c₀ }) :
    wpAny (model X.prog X.w) A.in1 (Builtin.List.listExtendWith (.ref S) (.ref z) res)
      (fun fin s' => match fin with | .done f => R (.ok f) s' | .again c' => c'.quiet = true ∧ codeAny (model X.prog X.w) A c' R s') (fun e s' => R (.error e) s') s := by
  have nz : S ≠ z := fun e => hS (by simp [e])
  have hT : s.TypeIs (.ref z) "zip" := ⟨_, hz0, rfl⟩
  unfold Builtin.List.listExtendWith
  refine wpAny_bind (wpAny_typeOf hT ?_)
  have h1 : Builtin.List.listSameRef (.ref S) (.ref z) = false := by simp [Builtin.List.listSameRef, nz]
  have h2 : (Value.type "zip" == Value.type "list") = false := by decide
  have h3 : (Value.type "zip" == Value.type "tuple") = false := by decide
  simp only [h1, h2, h3, Bool.or_false, Bool.false_eq_true, if_false]
  refine wpAny_bind (wpAny_pyIter_zip hz0 ?_)
  refine wpAny_bind (wpAny_holding ?_)
  unfold Builtin.List.listLengthHint
  refine wpAny_bind (wpAny_specialOf hT zip_no_len ?_)
  show wpAny _ A.in1 (specialOf (Value.ref z) (Str.ofString "__length_hint__") >>= _) _ _ _
  refine wpAny_bind (wpAny_specialOf hT zip_no_hint ?_)
  refine wpAny_pure ?_
  show wpAny _ A.in1 (rule "list.extend.makes-room" >>= fun _ => Builtin.List.listTouch (.ref S) >>= fun _ =>
    again (.builtin "list.extend.loop" ⟨[.ref S, .ref z, res], []⟩)) _ _ _
  refine wpAny_bind (wpAny_rule ?_)
  refine wpAny_bind ?_
  show wpAny _ A.in1 (updateSeq S (·.push .none) >>= fun _ => updateSeq S (·.pop)) _ _ _
  refine wpAny_bind (wpAny_updateSeq hSo rfl ?_)
  have hS₂ := Heap.get?_update_self (Obj.mapSeq (·.push Value.none)) hSo rfl
  refine wpAny_updateSeq (hz := by seq_fits) hS₂ rfl ?_
  have hS₃ := Heap.get?_update_self (Obj.mapSeq (·.pop)) hS₂ rfl
  have up : ∀ b o, b ≠ S → s.heap.get? b = some o → ((s.heap.update S (Obj.mapSeq (·.push Value.none))).update S (Obj.mapSeq (·.pop))).get? b = some o :=
    fun b o hb e => (Heap.get?_update_other _ _ (Ne.symm hb)).trans ((Heap.get?_update_other _ _ (Ne.symm hb)).trans e)
  have I2 := Inv.turnedL (h' := ((s.heap.update S (Obj.mapSeq (·.push Value.none))).update S (Obj.mapSeq (·.pop)))) (t' := s.toks) (ch := [S]) I (fun c o hb q => up c o (fun q' => hb (by simp [q'])) q) (fun c hc => hf c (by simp at hc ⊢; exact .inl hc))
  refine wpAny_pure ⟨plainId_quiet PySem.F.plain_extend_loop _, ?_⟩
  obtain ⟨⟨oTO, eTO⟩, hTI, k1, k2, hz⟩ := st
  refine lz_loop (s := s) hh D hS res hn hR _ 0 _ s.toks _ _ [] H0 rfl (Nat.zero_le _) I2 .zero qa qb ⟨⟨_, up _ _ (fun e => hS (by simp [← e])) eTO⟩, up _ _ (fun e => hS (by simp [← e])) hTI, k1.at fun o e => up _ o (fun e => hS (by simp [← e])) e, k2.at fun o e => up _ o (fun e => hS (by simp [← e])) e, ?_⟩ hf hS₃ (by simpa using Paired.nil)
  rcases hz with ⟨hz, p0, q0, hTO⟩ | ⟨T, f, oT, hz, hT, r1, r2, r3, r4⟩
  · exact .inl ⟨up _ _ nz.symm hz, p0, q0, up _ _ (fun e => hS (by simp [← e])) hTO⟩
  · exact .inr ⟨T, f, oT, up _ _ nz.symm hz, up _ _ r4 hT, r1, r2, r3, r4⟩
theorem lz_call {E : Value → Shared → Prop} {Q : Value → Shared → Prop} (hh : A.handled = none) (D : ZipApart z TI TO i1 i2 a b) (hn : min xs.length ys.length ≤ sizeLine) (I : Inv X pins σ H0 s) (qa : SqL X.K H0 a xs) (qb : SqL X.K H0 b ys)
    (hTI : IsPair s.heap TI (.ref i1) (.ref i2)) {p0 q0 : Value} (hTO : IsPair s.heap TO p0 q0) (k1 : s.heap.IsListIter i1 a 0) (k2 : s.heap.IsListIter i2 b 0) (hz : IsZip s.heap z TI TO .none) (hf : ∀ c ∈ [z, TI, TO, i1, i2], FpOk X pins H0 c)
    (hQ : ∀ h' tk acc c vs H', Inv X pins σ H' { s with heap := h', toks := tk } → ZU xs ys H0 (min xs.length ys.length) vs H' → h'.get? s.heap.objs.size = some { cls := .type "list", dict := none, data := .seq acc c, slots := #[] } → Vals vs acc.toList → FpOk X pins H' s.heap.objs.size → Q (.ref s.heap.objs.size) { s with heap := h', toks := tk }) :
    wpAny (model X.prog X.w) A (call (.type "list") [.ref z]) Q E s := by
  refine callType_codes (Q₁ := fun obj s₁ => obj = .ref s.heap.objs.size ∧ s₁ = { s with heap := s.heap.push { cls := .type "list", data := .seq #[] } }) PySem.F.called_list (PySem.F.typeCall_list_1 _) PySem.F.entry_list_init
    (code_list_new _ ⟨rfl, rfl⟩) fun obj s₁ h₁ => ?_
  obtain ⟨rfl, rfl⟩ := h₁
  have hS : (s.heap.push { cls := .type "list", data := .seq #[] }).get? s.heap.objs.size = some { cls := .type "list", data := .seq #[] } := Heap.get?_push_size _ rfl
  refine ⟨⟨_, hS, rfl⟩, PySem.F.args_list_init_2 _ _, ?_⟩
  have lt : ∀ {c o}, s.heap.get? c = some o → s.heap.objs.size ≠ c := fun e => Nat.ne_of_gt (Heap.lt_size e)
  have m1 : s.heap.objs.size ≠ i1 := let ⟨_, e, _⟩ := k1; lt e
  have m2 : s.heap.objs.size ≠ i2 := let ⟨_, e, _⟩ := k2; lt e
  have hSn : s.heap.objs.size ∉ [z, TI, TO, i1, i2] := by
    intro e
    simp only [List.mem_cons, List.not_mem_nil, or_false] at e
    rcases e with e | e | e | e | e
    · exact lt hz e
    · exact lt hTI e
    · exact lt hTO e
    · exact m1 e
    · exact m2 e
  have fS : FpOk X pins H0 s.heap.objs.size := I.fpOk (Nat.le_refl _) (I.hok.fresh (Nat.le_refl _))
  have hf2 : ∀ c ∈ [s.heap.objs.size, z, TI, TO, i1, i2], FpOk X pins H0 c := fun c hc => by
    rcases List.mem_cons.mp hc with e | hc
    · rw [e]; exact fS
    · exact hf c hc
  show wpAny _ A.in1.in1 (do let old ← Builtin.List.listItems (.ref s.heap.objs.size); Builtin.List.listUpdate (.ref s.heap.objs.size) (fun _ => #[]); letGo old.toList.reverse; Builtin.List.listExtendWith (.ref s.heap.objs.size) (.ref z) .none) _ _ _
  refine wpAny_bind ?_
  unfold Builtin.List.listItems
  refine wpAny_bind (wpAny_seqItems hS rfl (wpAny_pure ?_))
  show wpAny _ A.in1.in1 (updateSeq s.heap.objs.size (fun _ => #[]) >>= fun _ => letGo (#[] : Array Value).toList.reverse >>= fun _ => Builtin.List.listExtendWith (.ref s.heap.objs.size) (.ref z) .none) _ _ _
  refine wpAny_bind (wpAny_updateSeq hS rfl ?_)
  have hS₂ := Heap.get?_update_self (Obj.mapSeq (fun _ => (#[] : Array Value))) hS rfl
  have up : ∀ b o, s.heap.get? b = some o → ((s.heap.push { cls := .type "list", data := .seq #[] }).update s.heap.objs.size (Obj.mapSeq (fun _ => (#[] : Array Value)))).get? b = some o :=
    fun b o e => (Heap.get?_update_other _ _ (lt e)).trans (Heap.get?_push_of_some _ e)
  refine wpAny_bind (wpAny_letGo ?_)
  refine lz_extend (A := A.in1) (s := { s with heap := (s.heap.push { cls := .type "list", data := .seq #[] }).update s.heap.objs.size (Obj.mapSeq (fun _ => (#[] : Array Value))) }) hh D hSn .none hn (fun h' tk acc c vs H' I' zu hS' hv hf' => ⟨rfl, hQ h' tk acc c vs H' I' zu hS' hv hf'⟩)
    (I.kept (t' := s.toks) up) qa qb ⟨⟨_, up _ _ hTO⟩, up _ _ hTI, k1.at fun o e => up _ o e, k2.at fun o e => up _ o e, .inl ⟨up _ _ hz, p0, q0, up _ _ hTO⟩⟩ (up _ _ hz) hf2 _ hS₂
end
/-- an object of ours that stands is tracked -/
theorem inv_track {X : Cx} {pins : List (Addr × Obj)} {σ : L2.St} {H : Hp} {s : Shared} {S : Addr} {ob : HO} (I : Inv X pins σ H s) (hf : FpOk X pins H S) (new : ObjOk X.prog X.w (upd H S ob) s.heap S ob) : Inv X pins σ (upd H S ob) s := by
  have hn : H S = none := hf.1
  refine I.step (g' := s.gens) (d' := s.drawn) (ch := [S]) (h' := s.heap) (t' := s.toks) (fun b hb => ?_) (fun b o _ _ hc e _ => e) (fun b o _ _ hc e _ => ⟨o.slots, e⟩)
    (fun b o hc e n => ?_) (fun b o hc e => ⟨o, e⟩) (fun b xs e => ?_) (fun b o u e => ?_) (fun b ps e => ⟨#[], ?_⟩) (fun m hm => hm) (fun b u e => ?_) I.bare
  · have e : b = S := by simpa using hb
    subst e
    exact ⟨hf.2.2.2.1, hf.2.1, hf.2.2.2.2.1, hf.2.2.2.2.2⟩
  · rw [upd_ne (fun z => hc (by simp [z]))]; exact n
  · rw [upd_ne (ne_of_none e hn)]; exact e
  · rw [upd_ne (ne_of_none e hn)]; exact e
  · rw [upd_ne (ne_of_none e hn), e]; simp
  · by_cases hb : b = S
    · subst hb
      rw [upd_same] at e
      cases e
      exact new
    · rw [upd_ne hb] at e
      exact (I.hok b u e).stay (fun c v hc q => q) (fun c q => by rw [upd_ne (ne_of_none q hn)]; exact q) fun c xs q => by rw [upd_ne (ne_of_none q hn)]; exact q
/-- list(zip(a, b)) -/
def tListZip (K : PySem.W.Frag) (ta : TA) : TE := fun σ H Q => ta σ H fun vs H1 => ∃ a b xs ys, vs = [.ref a, .ref b] ∧ SqL K H1 a xs ∧ SqL K H1 b ys ∧ ∀ ws H2 l, ZU xs ys H1 (min xs.length ys.length) ws H2 → H2 l = none → Q (.ref l) (upd H2 l (.lst ws))
theorem pe_listZip {X : Cx} {e e2 : Expr} {ta : TA} {p p2 q pos : Pos} (hg : Gl X "list") (hm : X.mg "list" = none) (hg2 : Gl X "zip") (hm2 : X.mg "zip" = none) (ha : PA X [e, e2] ta) (hc : X.calm = true := by rfl)
    (hs : starEach [e, e2] X.env = (false, eval e X.env) :: starEach [e2] X.env := by rfl) (hpl : (backTo q (starEach [e2] X.env)).any (·.1) = false := by rfl) :
    PE X (.Call (.Name "list" p) [.Call (.Name "zip" p2) [e, e2] [] q] [] pos) (tListZip X.K ta) := by
  refine ⟨fun pins s σ H Q I h => ?_⟩
  refine Call_ (ld_blt I hg hm boot_list ?_)
  refine PyProof.Rows.callWith_type1 (PyProof.Rows.args_cons ?_ rfl) rfl rfl
  refine Call_ (ld_blt I hg2 hm2 PyProof.Rows.boot_zip (PyProof.Rows.callWith_type1 (thn (ha.run q pins s σ H _ I h) fun us s1 ⟨vs, H1, I1, r1, q1⟩ => ?_) hs hpl))
  obtain ⟨a, b, xs, ys, ex, hqx, hqy, qq⟩ := q1
  subst ex
  cases r1 with
  | cons r rr =>
    cases rr with
    | cons r' rr =>
      cases rr
      cases r
      cases r'
      obtain ⟨its, rv, p1, z1⟩ := I1.list hqx
      obtain ⟨its2, rv2, p2, z2⟩ := I1.list hqy
      have la : a < s1.heap.objs.size := p1.lt
      have lb : b < s1.heap.objs.size := p2.lt
      refine call_zip_2 p1.isList p2.isList fun h' hz hTI hTO h1 h2 hsz hk => PyProof.Rows.args_nil ?_
      have I2 : Inv X pins σ H1 { s1 with heap := h' } := I1.kept (t' := s1.toks) hk
      refine lz_call (s := { s1 with heap := h' }) (I1.ok.hd hc) (PySem.W.ktu_apart s1.heap.objs.size a b la lb) (by omega) I2 hqx hqy hTI hTO h1 h2 hz (fun c hcm => ?_) fun h2 tk acc c ws H2 I3 zu hS hv hf => ?_
      · have e' : c = s1.heap.objs.size + 4 ∨ c = s1.heap.objs.size + 2 ∨ c = s1.heap.objs.size + 3 ∨ c = s1.heap.objs.size ∨ c = s1.heap.objs.size + 1 := by simpa using hcm
        have hle : s1.heap.objs.size ≤ c := by
          rcases e' with z | z | z | z | z
          · rw [z]; exact Nat.le_add_right _ _
          · rw [z]; exact Nat.le_add_right _ _
          · rw [z]; exact Nat.le_add_right _ _
          · rw [z]; exact Nat.le_refl _
          · rw [z]; exact Nat.le_add_right _ _
        exact I1.fpOk hle (I1.hok.fresh hle)
      · refine ⟨.ref _, _, inv_track (ob := .lst ws) I3 hf ⟨?_, acc.toList, c, hv, ?_⟩, rfl, qq ws H2 _ zu hf.1⟩
        · rw [zu.len]; omega
        · rw [Array.toArray_toList]; exact hS
section
variable {K : PySem.W.Frag} {ec : Nat → Addr} {ex : L2.St → XK} {ta : TE} {tr : TA} {ma : Env → R D} {mr : Env → R (List D)}
/-- xs[::-1] -/
def fRev (ma : Env → R D) (ρ : Env) : R (List D) := (ma ρ).bind fun a => match a.litems with
  | some xs => .ok xs.reverse
  | none => .bad
theorem sf_rev (ha : SB K ec ex ta ma) : SF K ec ex (tRevL K ta) (fRev ma) := by
  intro E U0 L U H σ ρ tmp g Q h
  refine ha g _ (PX.bindF h fun a v H1 _ s1 r1 h1 => ?_)
  split at h1
  · rename_i xs e
    obtain ⟨p, vs, rfl, hs, rs⟩ := r1.litemsI (K := K) e
    exact ⟨p, vs, rfl, hs, fun l hl => h1 l _ H1 (Same.refl _) hl rs.rev⟩
  · exact h1.elim
/-- sorted(xs, reverse=True), of ints -/
def sortedRD : List D → R (List D)
  | [d] => match d.litems with
    | some xs => match D.ints xs with
      | some ns => .ok ((sortI ns).reverse.map D.int)
      | none => .bad
    | none => .bad
  | _ => .bad
theorem sf_sortedR (ha : SBs K ec ex tr mr) : SF K ec ex (tCKw (rSortedKw K true [.bl true]) tr (tCons (tC (.bl true)) tNil)) (fCb sortedRD mr) := by
  intro E U0 L U H σ ρ tmp g Q h
  refine ha g _ (PX.bindF h fun as vs H1 _ s1 r1 h1 => ?_)
  unfold sortedRD at h1
  split at h1
  · cases r1 with
    | cons a b =>
      cases b
      split at h1
      · rename_i xs e
        split at h1
        · rename_i ns ei
          obtain ⟨p, vs, rfl, hs, rs⟩ := a.litemsI (K := K) e
          have ev := rs.intsI ei
          subst ev
          refine ⟨p, ns, rfl, rfl, hs, fun ms q pm st hq => ?_⟩
          have : ms.reverse = sortI ns := sorted_eq ((List.reverse_perm _).trans (pm.trans (sortI_perm ns).symm)) (List.pairwise_reverse.mpr st) (sortI_sorted ns)
          have e2 : ms = (sortI ns).reverse := by rw [← this, List.reverse_reverse]
          subst e2
          exact h1 q _ H1 (Same.refl _) hq (Rps.ints _)
        · exact h1.elim
      · exact h1.elim
  · exact h1.elim
/-- list(zip(a, b)), of flat things -/
def zipW (xs ys : List D) : List T := List.zipWith (fun x y => T.tup [.dat x, .dat y]) xs ys
def pZip (mr : Env → R (List D)) (ρ : Env) : R T := (mr ρ).bind fun ds => match ds with
  | [a, b] => (match a.litems, b.litems with
    | some xs, some ys => if xs.all D.flat = true ∧ ys.all D.flat = true then .ok (.lst (zipW xs ys)) else .bad
    | _, _ => .bad)
  | _ => .bad
theorem zu_good {xs ys : List V} {ds es : List D} {H0 : Hp} {n : Nat} {vs : List V} {H : Hp} (z : ZU xs ys H0 n vs H) {E U0 U : Hp} {L : List (Nat × V)} {σ : L2.St} {ρ : Env} {tmp : List (V × T)} (g : Good K E U0 L U H0 σ ρ tmp)
    (rx : Rps K U xs ds) (ry : Rps K U ys es) : ∃ vts : List (V × T), vts.map (·.1) = vs ∧ vts.map (·.2) = (zipW ds es).take n ∧ Good K E U0 L U H σ ρ (vts ++ tmp) := by
  induction z with
  | zero => exact ⟨[], rfl, rfl, g⟩
  | succ z hx hy hn ih =>
    rename_i n vs H x y T
    obtain ⟨vts, e1, e2, g1⟩ := ih
    obtain ⟨d, hd⟩ : ∃ d, ds[n]? = some d := ⟨_, List.getElem?_eq_getElem (by rw [← rx.len]; exact (List.getElem?_eq_some_iff.mp hx).1)⟩
    obtain ⟨e, he⟩ : ∃ d, es[n]? = some d := ⟨_, List.getElem?_eq_getElem (by rw [← ry.len]; exact (List.getElem?_eq_some_iff.mp hy).1)⟩
    have rd := rx.at n _ _ hx hd
    have re := ry.at n _ _ hy he
    have g2 := Good.mkT (vts := [(x, .dat d), (y, .dat e)]) ((g1.dat re).dat rd) hn
    refine ⟨vts ++ [(.ref T, .tup [.dat d, .dat e])], by simp [e1], ?_, g2.perm ?_⟩
    · rw [List.map_append, e2, List.take_add_one]
      congr 1
      unfold zipW
      rw [List.getElem?_zipWith, hd, he]
      rfl
    · rw [List.append_assoc]
      exact List.perm_middle.symm
theorem sp_zip (ha : SBs K ec ex tr mr) : SP K ec ex (tListZip K tr) (pZip mr) := by
  intro E U0 L U H σ ρ tmp g Q h
  refine ha g _ (PX.bindP h fun as vs H1 _ s1 r1 h1 => ?_)
  split at h1
  · rename_i a b
    split at h1
    · rename_i xs ys ex1 ey1
      split at h1
      · rename_i hf
        cases r1 with
        | cons ra rr =>
          cases rr with
          | cons rb rr =>
            cases rr
            obtain ⟨p, ws, rfl, hs, rs⟩ := ra.litemsI (K := K) ex1
            obtain ⟨q, ws', rfl, hs', rs'⟩ := rb.litemsI (K := K) ey1
            refine ⟨p, q, ws, ws', rfl, hs, hs', fun us H2 l zu hl => ?_⟩
            obtain ⟨vts, e1, e2, g2⟩ := zu_good zu (g.heap s1) (rs.flats (U' := U) hf.1) (rs'.flats (U' := U) hf.2)
            have g3 := g2.mkL hl
            rw [e1, e2, List.take_of_length_le] at g3
            · exact h1 _ U _ (zu.same.trans (same_new hl)) g3
            · unfold zipW
              rw [List.length_zipWith, rs.len, rs'.len]
              exact Nat.le_refl _
      · exact h1.elim
    · exact h1.elim
  · exact h1.elim
end
end Sm
/-! Sm, part ZB: xs[k][m] = e; a list repeated that is frozen; parts of tuples; >= of tuples. -/
namespace Sm
open PySem PySem.Spec PyProof.Rows L2
variable {K : PySem.W.Frag}
section
variable {ec : Nat → Addr} {ex : L2.St → XK} {ta tb te : TE} {ma mb : Env → R D} {me : Env → O2} {tl th : TO} {ml mh : Env → R (Option Int)}
def sSetII (i : Nat) (m : Int) (mb : Env → R D) (ma : Env → R D) (ρ : Env) : Out := match ma ρ with
  | .ok d => if d.flat = true then (match ρ[i]? with
    | some (.at (.lst ts)) => (match mb ρ with
      | .ok (.int k) => (match ixN ts.length k with
        | some j => (match ts[j]? with
          | some (.lst us) => (match ixN us.length m with
            | some j2 => .nx (ρ.set i (.at (.lst (ts.set j (.lst (us.set j2 (.dat d)))))))
            | none => .bad)
          | _ => .bad)
        | none => .bad)
      | _ => .bad)
    | _ => .bad) else .bad
  | _ => .bad
theorem ss_setII {i : Nat} {m : Int} (hb : SB K ec ex tb mb) (he : SB K ec ex te ma) : SS K ec ex (tAsg te (gSub (tOp (rIx K) (tVar i) tb) (tC (.int m)) rSetL)) (sSetII i m mb ma) := by
  intro E U0 L U H σ ρ tmp g D h
  refine he g _ ?_
  unfold sSetII at h
  generalize ma ρ = z at h ⊢
  cases z with
  | exc c => exact h.elim
  | bad => exact h.elim
  | ok d =>
    intro y H0 s0 r0
    simp only [] at h
    split at h
    · rename_i hfl
      have g0 := (g.heap s0).dat (r0.flat (U' := U) hfl)
      split at h
      · rename_i ts e0
        obtain ⟨p, vs, ev, hp, hl, _⟩ := Good.chg (xs := []) g0 e0
        refine ⟨.ref p, ev, ?_⟩
        refine hb g0 _ ?_
        generalize mb ρ = w at h ⊢
        cases w with
        | exc c => exact h.elim
        | bad => exact h.elim
        | ok dk =>
          intro kv H1 s1 rk
          cases dk <;> first | exact h.elim | skip
          rename_i k
          cases rk
          simp only [] at h
          split at h
          · rename_i j ej
            split at h
            · rename_i us et
              split at h
              · rename_i j2 ej2
                have hj : j < vs.length := by rw [hl]; exact ixN_lt ej
                have eat : atI vs k = some vs[j] := by
                  unfold atI
                  rw [hl, ej]
                  exact List.getElem?_eq_getElem hj
                refine .inl ⟨p, vs, k, vs[j], rfl, rfl, SqL.of (s1 _ _ hp), eat, ?_⟩
                have g2 := g0.heap s1
                have hp2 := s1 _ _ hp
                obtain ⟨v, ev2, g3⟩ := g2.at e0
                have : v = .ref p := Option.some.inj (Option.some.inj (ev2.symm.trans ev))
                subst this
                obtain ⟨l, lv, o⟩ := g3.own
                obtain ⟨vs', hp', hl', nU, nE, w⟩ := Own.inner (rest := l ++ ((y, .dat d) :: tmp)) (o.perm List.perm_middle)
                have evs : vs' = vs := by
                  rw [hp2] at hp'
                  cases hp'
                  rfl
                subst evs
                obtain ⟨A, B, eAB, lA⟩ := get_split (l := vs'.zip ts) (j := j) (x := (vs'[j], .lst us)) (by rw [List.getElem?_zip_eq_some]; exact ⟨List.getElem?_eq_getElem hj, et⟩)
                rw [eAB] at w
                have w2 : Own K (upd E p (.lst vs')) U H1 ((vs'[j], .lst us) :: ((A ++ B) ++ (l ++ ((y, .dat d) :: tmp)))) := w.perm (by
                  rw [List.append_assoc, List.cons_append, List.append_assoc]
                  exact List.perm_middle)
                have hq : ∃ q, vs'[j] = .ref q := by
                  obtain ⟨G, h, _⟩ := w2
                  cases h with
                  | cons a b => generalize vs'[j] = z at a; cases a with | lst => exact ⟨_, rfl⟩
                obtain ⟨q, eq⟩ := hq
                rw [eq] at w2
                have w3 : Own K (upd E p (.lst vs')) U H1 ((.ref q, .lst us) :: ([(y, .dat d)] ++ ((A ++ B) ++ (l ++ tmp)))) := w2.perm (List.Perm.cons _ (by
                  refine List.Perm.trans (List.Perm.append_left _ List.perm_middle) ?_
                  exact List.perm_middle))
                obtain ⟨xs, hx, lx, nUq, nEq, mk⟩ := Own.mut (xs := [(y, .dat d)]) (rest := (A ++ B) ++ (l ++ tmp)) w3
                have hj2 : j2 < us.length := ixN_lt ej2
                have hz2 : j2 < (xs.zip us).length := by rw [List.length_zip, lx]; omega
                have w4 := mk ((xs.zip us).set j2 (y, .dat d)) [(xs.zip us)[j2]] (set_perm hz2)
                rw [← zip_set lx, zip_map1 (by simp [lx]), zip_map2 (by simp [lx])] at w4
                have w4 : Own K (upd E p (.lst vs')) U (upd H1 q (.lst (xs.set j2 y))) ((.ref q, .lst (us.set j2 (.dat d))) :: ((A ++ B) ++ (l ++ tmp))) := (w4.perm (List.Perm.swap ..)).tail
                have npq : p ≠ q := fun e => by
                  subst e
                  rw [upd_same] at nEq
                  cases nEq
                have hpn : (upd H1 q (.lst (xs.set j2 y))) p = some (.lst vs') := by rw [upd_ne npq]; exact hp2
                have lts : vs'.length = (ts.set j (.lst (us.set j2 (.dat d)))).length := by rw [List.length_set]; exact hl'
                have ez : vs'.zip (ts.set j (.lst (us.set j2 (.dat d)))) = A ++ (.ref q, .lst (us.set j2 (.dat d))) :: B := by
                  have e1 : vs'.zip (ts.set j (.lst (us.set j2 (.dat d)))) = (vs'.zip ts).set j (vs'[j], .lst (us.set j2 (.dat d))) := by
                    have := zip_set (xs := vs') (ys := ts) (j := j) (x := vs'[j]) (y := (.lst (us.set j2 (.dat d)) : T)) hl'
                    rw [List.set_getElem_self] at this
                    exact this
                  rw [e1, eAB, eq]
                  have : ∀ (X : List (V × T)) (n : Nat), X.length = n → ∀ a b Y, (X ++ a :: Y).set n b = X ++ b :: Y := by
                    intro X n hn a b Y
                    subst hn
                    rw [List.set_append_right _ _ (Nat.le_refl _), Nat.sub_self, List.set_cons_zero]
                  exact this A j lA _ _ B
                have w5 : Own K E U (upd H1 q (.lst (xs.set j2 y))) ((.ref p, .lst (ts.set j (.lst (us.set j2 (.dat d))))) :: (l ++ tmp)) := by
                  refine Own.outer lts hpn nU nE (o := .lst vs') ?_
                  rw [ez]
                  refine w4.perm ?_
                  have e3 : A ++ (V.ref q, T.lst (us.set j2 (.dat d))) :: B ++ (l ++ tmp) = A ++ (V.ref q, T.lst (us.set j2 (.dat d))) :: (B ++ (l ++ tmp)) := by simp
                  rw [e3, List.append_assoc]
                  exact List.perm_middle.symm
                have g4 : Good K E U0 L U (upd H1 q (.lst (xs.set j2 y))) σ (ρ.set i .no) ((.ref p, .lst (ts.set j (.lst (us.set j2 (.dat d))))) :: tmp) := by
                  refine ⟨fun x u e => ?_, g3.uu, fun x u e => ?_, g3.nw, ⟨l, lv, w5.perm List.perm_middle.symm⟩, g3.pin⟩
                  · have nE' : E q = none := by
                      rw [upd_ne npq.symm] at nEq
                      exact nEq
                    rw [upd_ne (ne_of_none e nE')]
                    exact g3.eh x u e
                  · rw [upd_ne (ne_of_none e nUq)]
                    exact g3.uh x u e
                rw [eq]
                exact ⟨q, xs, m, j2, rfl, rfl, hx, by rw [lx]; exact ej2, h U _ σ (g4.re ev2 (List.getElem?_eq_some_iff.mp e0).1)⟩
              · exact h.elim
            · exact h.elim
          · exact h.elim
      · exact h.elim
    · exact h.elim
/-- xs * k, xs frozen -/
def eRepF (me : Env → O2) (mb : Env → R D) (ρ : Env) : O2 := match me ρ with
  | .ok (.dat (.lst ds)) ρ1 => (match mb ρ1 with
    | .ok (.int k) => if 0 ≤ k ∧ k < 100000000 ∧ ds.length * k.toNat ≤ sizeLine then .ok (.lst ((List.replicate k.toNat ds).flatten.map T.dat)) ρ1 else .bad
    | _ => .bad)
  | .exc c ρ1 => .exc c ρ1
  | _ => .bad
theorem se_repF (ha : SE K ec ex ta me) (hb : SB K ec ex tb mb) : SE K ec ex (tOp rMulU ta tb) (eRepF me mb) := by
  intro E U0 L U H σ ρ tmp g Q h
  refine ha g _ ?_
  unfold eRepF at h
  generalize me ρ = z at h ⊢
  cases z with
  | exc c ρ1 => exact h
  | bad => exact h.elim
  | ok τ ρ1 =>
    intro v U1 H1 g1
    cases τ with
    | lst => exact h.elim
    | tup => exact h.elim
    | dat d =>
      cases d <;> first | exact h.elim | skip
      rename_i ds
      simp only [] at h
      refine hb g1 _ ?_
      generalize mb ρ1 = w at h ⊢
      cases w with
      | exc c => exact h.elim
      | bad => exact h.elim
      | ok dk =>
        intro kv H2 s2 rk
        cases dk <;> first | exact h.elim | skip
        rename_i k
        cases rk
        simp only [] at h
        split at h
        · rename_i hz
          have g2 := g1.heap s2
          have rv : Rp K U1 v (.lst ds) := by
            obtain ⟨l, lv, o⟩ := g1.own
            obtain ⟨G, hh, _⟩ := o.perm (List.perm_middle)
            cases hh with
            | cons a _ => cases a with | dat r => exact r
          obtain ⟨p, vs, rfl, hp, rs⟩ := rv.lstI
          refine .inr ⟨p, k, vs, rfl, rfl, g2.uh _ _ hp, by omega, by omega, by rw [rs.len]; exact hz.2.2, fun l n => ?_⟩
          have g3 := g2.tail.dats (rs.rep k.toNat)
          have g4 := g3.mkL n
          rw [zip_dat1 (rs.rep k.toNat), zip_dat2 (rs.rep k.toNat)] at g4
          exact h _ U1 _ g4
        · exact h.elim
/-- t[i:j], less than t -/
def slTD (a : D) (lo hi : Option Int) : R D := match a with
  | .tup ds => if HT.sIx ds.length 0 lo = 0 ∧ HT.sIx ds.length ds.length hi = ds.length then .bad else .ok (.tup (cutD ds lo hi))
  | _ => .bad
def bSlT (ma : Env → R D) (ml mh : Env → R (Option Int)) (ρ : Env) : R D := (ma ρ).bind fun a => (ml ρ).bind fun lo => (mh ρ).bind fun hi => slTD a lo hi
theorem sb_slT (ha : SB K ec ex ta ma) (hl : SBo K ec ex tl ml) (hh : SBo K ec ex th mh) : SB K ec ex (tSl (rSlT K) ta tl th) (bSlT ma ml mh) := by
  intro E U0 L U H σ ρ tmp g Q h
  refine ha g _ (PX.bind h fun a v H1 _ s1 r1 h1 => ?_)
  refine hl (g.heap s1) _ (PX.bind h1 fun lo w H2 _ s2 r2 h2 => ?_)
  refine hh (g.heap (s1.trans s2)) _ (PX.bind h2 fun hi w' H3 _ s3 r3 h3 => ?_)
  cases r2
  cases r3
  unfold slTD at h3
  split at h3
  · rename_i ds
    split at h3
    · exact h3.elim
    · rename_i hw
      obtain ⟨p, vs, rfl, hs, rs⟩ := (r1.mono (s2.trans s3)).tupI
      refine ⟨p, vs, rfl, SqT.of hs, by rw [rs.len]; exact hw, fun q hq => ?_⟩
      exact h3 _ _ (same_new hq) (Rp.mkT upd_same ((rs.cut _ _).mono (same_new hq)))
  · exact h3.elim
end
/-- t >= u, of ints -/
def geI (ns ms : List Int) : Bool := Ob.lexAt (fun j => decide (ns.getD j 0 = ms.getD j 0)) (fun j => decide (ms.getD j 0 ≤ ns.getD j 0)) (decide (ns.length ≥ ms.length)) 0 (min ns.length ms.length)
def rGeT (K : PySem.W.Frag) : R2 := fun x y H Q => ∃ (a b : Addr) (ns ms : List Int), x = .ref a ∧ y = .ref b ∧ SqT K H a (ns.map V.int) ∧ SqT K H b (ms.map V.int) ∧ Q (.bl (geI ns ms)) H
theorem op_geT {X : Cx} (hu : X.A.units < cLine) : OpR X (compareOp .GtE) (rGeT X.K) := by
  intro pins s σ H x y v u Q I rx ry h
  obtain ⟨a, b, ns, ms, rfl, rfl, ha, hb, q⟩ := h
  cases rx
  cases ry
  obtain ⟨its, r1, p1, _⟩ := I.tuple ha
  obtain ⟨its2, r2, p2, _⟩ := I.tuple hb
  have i1 : IntsAre its ns := Vals.ints r1
  have i2 : IntsAre its2 ms := Vals.ints r2
  have e1 : its.toArray.size = ns.length := by rw [List.size_toArray]; exact i1.length
  have e2 : its2.toArray.size = ms.length := by rw [List.size_toArray]; exact i2.length
  have at1 : ∀ j (h1 : j < its.toArray.size), ∃ t, its.toArray[j] = .int (ns.getD j 0) t := fun j h1 => PyProof.Rows.IntsAre.int_at i1 _ _ (by simp at h1; simp [h1])
  have at2 : ∀ j (h1 : j < its2.toArray.size), ∃ t, its2.toArray[j] = .int (ms.getD j 0) t := fun j h1 => PyProof.Rows.IntsAre.int_at i2 _ _ (by simp at h1; simp [h1])
  have R := Ob.RcOp.tuples_ge (A := X.A) (s := s) (e := fun j => decide (ns.getD j 0 = ms.getD j 0)) (r := fun j => decide (ms.getD j 0 ≤ ns.getD j 0)) p1 p2 hu (fun j h1 h2 => by
    obtain ⟨t, et⟩ := at1 j h1
    obtain ⟨t', et'⟩ := at2 j h2
    rw [et, et']
    have z : (ns.getD j 0 == ms.getD j 0) = decide (ns.getD j 0 = ms.getD j 0) := by
      by_cases q : ns.getD j 0 = ms.getD j 0
      · rw [decide_eq_true q]; exact beq_iff_eq.mpr q
      · rw [decide_eq_false q]; exact beq_eq_false_iff_ne.mpr q
    rw [← z]
    exact SeqAt.EqAt.int_int _ _ _ _) (fun j h1 h2 _ => by
    obtain ⟨t, et⟩ := at1 j h1
    obtain ⟨t', et'⟩ := at2 j h2
    rw [et, et']
    exact Ob.RcOp.ge_int _ _ _ _)
  rw [e1, e2] at R
  have z : wpAny (model X.prog X.w) X.A (compareOp .GtE (.ref a) (.ref b)) (EP X pins σ Q) X.xe s := R X.prog X.w X.xe (EP X pins σ Q) ⟨.bl _, H, I, rfl, q⟩
  exact z
def geTD (a b : D) : R D := match a, b with
  | .tup xs, .tup ys => (match D.ints xs, D.ints ys with
    | some ns, some ms => .ok (.bl (geI ns ms))
    | _, _ => .bad)
  | _, _ => .bad
theorem opd_geT : OpD K (rGeT K) geTD := by
  intro ec x H v w a b Q ra rb h
  unfold geTD at h
  split at h
  · rename_i xs ys
    split at h
    · rename_i ns ms f1 f2
      obtain ⟨p, vs, rfl, hs, rs⟩ := ra.tupI
      obtain ⟨q, us, rfl, hq, rq⟩ := rb.tupI
      have ev := rs.intsI f1
      subst ev
      have eu := rq.intsI f2
      subst eu
      exact ⟨p, q, ns, ms, rfl, rfl, SqT.of hs, SqT.of hq, h _ _ (Same.refl _) (.bl _)⟩
    · exact h.elim
  · exact h.elim
end Sm
/-! Sm, part ZC: an exception that a call lets out of a comprehension's element. -/
namespace Sm
open PySem PySem.Spec PyProof.Rows L2
/-- what a call within a block of X let out -/
def XEb (X Y : Cx) (E : XK) : Value → Shared → Prop := fun u s' => ∃ pins σ H s0, Inv Y pins σ H s0 ∧ L2.CX X.prog X.w X.stack H s0 E u s'
abbrev blkX (X : Cx) (s : Shared) (H : Hp) (scope : Scope) (cenv : PySem.Env) (fp : List Addr) (E : XK) : Cx := (X.blk s H scope cenv fp).wish (XEb X (X.blk s H scope cenv fp) E)
theorem passB {X : Cx} {s : Shared} {H : Hp} {scope : Scope} {cenv : PySem.Env} {fp : List Addr} {E : XK} : Passes (L2.CX X.prog X.w) (blkX X s H scope cenv fp E) E := fun pins σ H s e s' I h => ⟨pins, σ, H, s, I.unwish, h⟩
theorem flying_less {B B' h : Heap} {l : List PySem.Env} {a : Addr} {Z : Obj → Prop} (hs : ∀ b o, B'.get? b = some o → B.get? b = some o) (x : HandSPX.FlyingZ B l a Z h) : HandSPX.FlyingZ B' l a Z h := by
  have no : ∀ b, B.get? b = none → B'.get? b = none := fun b e => by
    cases q : B'.get? b with
    | none => rfl
    | some o =>
      rw [hs b o q] at e
      cases e
  obtain ⟨x1, x2, x3, oe, vs, T, oT, ts, y1, y2, y3, y4, y5, y6⟩ := x
  refine ⟨fun b o e => x1 b o (hs b o e), no _ x2, funFrames_none x3 fun b hb => ?_, oe, vs, T, oT, ts, y1, y2, y3, y4, no _ y5, y6⟩
  exact no b (x3.mem hb).1
theorem held_but {B h h' : Heap} {l : List PySem.Env} {a L C : Addr} {Z : Obj → Prop} {m m' : Str → Option Value} (hC : B.get? C = none) (hn : h.Ns C m) (hn' : h'.Ns C m') (sb : Heap.SameBut C h h') (x : HandSPX.HeldZ B l a Z L h) : HandSPX.HeldZ B l a Z L h' := by
  obtain ⟨x1, x2, x3, oe, vs, T, oT, ts, y1, y2, y3, y4, y5, y6, y7, y8, y9⟩ := x
  have neC : ∀ b o us, h.get? b = some o → o.data = .fields us → b ≠ C := fun b o us e hd z => by
    obtain ⟨o', es, ep, ho', hd', _⟩ := hn
    rw [z, ho'] at e
    cases e
    rw [hd'] at hd
    cases hd
  refine ⟨fun b o e => (sb.2 b fun z => by rw [z, hC] at e; cases e).trans (x1 b o e), x2, Heap.FunFrames.sameBut sb hn' x3, oe, vs, T, oT, ts, (sb.2 a (neC _ _ _ y1 y3)).trans y1, y2, y3, y4, y5, y6, (sb.2 T (neC _ _ _ y7 y8)).trans y7, y8, y9⟩
section
variable {X : Cx}
/-- [elt for target in iter if ..], calls in elt may raise -/
theorem pe_lcX {elt tg iter : Expr} {ifs : List Expr} {scope : Scope} {own : List (Str × Nat)} {pos : Pos} {wi : TI} {g : TG} {tt : TT} {te : TE} {E : XK} (hs1 : X.stack = X.env :: X.outer) (hf : X.env.frame = some X.env.locals) (tk : Takes X (fun cls d _ H => E cls d H)) (hc : X.calm = true) (hN : X.N.Nodup) (hi : PI X tg iter wi) (ok : BlkOk X.N X.env.scope scope own)
    (hg : ∀ (s : Shared) (H : Hp) (C : Addr) (cl : List (Str × Addr)) (fp : List Addr), PG (X.blk s H scope (compEnvC scope cl C X.env) fp) tg g) (ht : ∀ (s : Shared) (H : Hp) (C : Addr) (cl : List (Str × Addr)) (fp : List Addr), PTs (X.blk s H scope (compEnvC scope cl C X.env) fp) ifs tt)
    (he : ∀ (s : Shared) (H : Hp) (C : Addr) (cl : List (Str × Addr)) (fp : List Addr), PE (blkX X s H scope (compEnvC scope cl C X.env) fp E) elt te) (hs : ∀ x, foldedSetIterable iter X.env x = pure x := by intro _; rfl) :
    PE X (.ListComp elt [⟨tg, iter, ifs, 0⟩] scope pos) (tLc wi g tt te (own.map (·.2))) := by
  refine ⟨fun pins s σ H Q I h => ?_⟩
  rw [eval_ListComp]
  have hfree : ∀ y ∈ scope.names, y.2 = .free → ∃ c, X.env.cells.lookup y.1 = some c := fun y hy e => by
    rcases ok.free y hy e with k | k
    · exact I.ok.has _ (.inl k)
    · exact I.ok.has _ (.inr k)
  refine comprehension_at (use := none) rfl hs (closure_ok hfree) ok.kind (fun y hy e => by rw [ok.uniq y hy, e])
    (thn (hi.run pins s σ H _ I h) fun xv s1 hx => thn hx fun itv s2 h2 => ?_)
  obtain ⟨it, fp, tn, J, H2, e, I2, T, st2, f2, q⟩ := h2
  subst e
  refine wpAny_newObj_type (newEnv_comp ?_) (by show 0 ≤ sizeLine; decide)
  generalize hD : s2.heap.objs.size = D
  have hDn : H2 D = none := I2.hok.fresh (Nat.le_of_eq hD)
  obtain ⟨W, ⟨m0, w0⟩, turn⟩ := q D hDn
  generalize hs3 : ({ s2 with heap := s2.heap.push { cls := .type "list", data := .seq ([] : List Value).toArray } } : Shared) = s3
  have I3 : Inv X pins σ (upd H2 D (.lst [])) s3 := by
    rw [← hs3]
    refine I2.laid (t' := s2.toks) (fun b o e => Heap.get?_push_of_some _ e) (Nat.le_of_eq hD) ⟨Nat.zero_le _, [], 0, .nil, ?_⟩
    rw [← hD]
    exact Heap.get?_push_size _ rfl
  have h3 : s3.heap = s2.heap.push { cls := .type "list", data := .seq ([] : List Value).toArray } := by rw [← hs3]
  have sz : ∀ b ∈ fp, b < s2.heap.objs.size := fun b hb => by
    obtain ⟨o, e, _⟩ := T.obj _ _ st2 b hb
    exact Heap.lt_size e
  have f3 : ∀ b ∈ fp, FpOk X pins (upd H2 D (.lst [])) b ∧ b < s3.heap.objs.size := fun b hb => by
    have hlt := sz b hb
    refine ⟨⟨?_, (f2 b hb).2⟩, by rw [h3, Heap.size_push]; exact Nat.lt_succ_of_lt hlt⟩
    rw [upd_ne (by rw [← hD]; exact Nat.ne_of_lt hlt)]
    exact (f2 b hb).1
  have st3 : tn 0 s3.heap := T.keep _ _ _ st2 fun b _ o e => by rw [h3]; exact Heap.get?_push_of_some _ e
  have I4 := block_start I3 ok hN f3
  have pg := hg s3 (upd H2 D (.lst [])) s3.heap.objs.size (cellsFrom (s3.heap.objs.size + 1) scope.names (cloFrom X.env.cells scope.names [])) fp
  have pt := ht s3 (upd H2 D (.lst [])) s3.heap.objs.size (cellsFrom (s3.heap.objs.size + 1) scope.names (cloFrom X.env.cells scope.names [])) fp
  have pe := he s3 (upd H2 D (.lst [])) s3.heap.objs.size (cellsFrom (s3.heap.objs.size + 1) scope.names (cloFrom X.env.cells scope.names [])) fp
  show codeAny _ _ (.compStart (.ListComp elt [⟨tg, iter, ifs, 0⟩] scope pos) 0 (.ref it) (.ref D) (compEnvC scope (cellsFrom (s3.heap.objs.size + 1) scope.names (cloFrom X.env.cells scope.names [])) s3.heap.objs.size X.env)) (compEnds (model X.prog X.w) X.A X.xe none (EP X pins σ Q) (.ref D) (compEnvC scope (cellsFrom (s3.heap.objs.size + 1) scope.names (cloFrom X.env.cells scope.names [])) s3.heap.objs.size X.env)) { s3 with heap := pushCells (s3.heap.push { cls := .type "dict", data := .dict #[] }) scope.names }
  have nfp : ∀ b ∈ fp, (upd H2 D (.lst [])) b = none := fun b hb => (f3 b hb).1.1
  generalize hce : compEnvC scope (cellsFrom (s3.heap.objs.size + 1) scope.names (cloFrom X.env.cells scope.names [])) s3.heap.objs.size X.env = ce at I4 pg pt pe ⊢
  have cL : ce.locals = s3.heap.objs.size := by subst hce; rfl
  have cF : ce.frame = X.env.frame := by subst hce; rfl
  generalize hH3 : upd H2 D (.lst []) = H3 at I3 I4 pg pt pe w0 nfp f3
  generalize hs4 : ({ s3 with heap := pushCells (s3.heap.push { cls := .type "dict", data := .dict #[] }) scope.names } : Shared) = s4 at I4 ⊢
  have st4 : tn 0 s4.heap := T.keep _ _ _ st3 fun b _ o e => by rw [← hs4]; exact pushCells_keeps _ _ _ _ (Heap.get?_push_of_some _ e)
  have stat : ∀ {σ' : L2.St} {H' : Hp} {s' : Shared}, Inv (X.blk s3 H3 scope ce fp) [] σ' H' s' → (∀ b ∈ fp, H' b = none) → ∀ b ∈ fp, FpOk (X.blk s3 H3 scope ce fp) [] H' b := fun {σ' H' s'} I' hn b hb =>
    ⟨hn b hb, (I'.ok.exf b hb).1, I'.ok.exfs b hb, .inl hb, fun x c e => (I'.ok.exf b hb).2 x c e, fun p hp => absurd (show p ∈ ([] : List (Addr × Obj)) ++ [] from hp) (by simp)⟩
  -- back in the def's context
  have back : ∀ {pins' : List (Addr × Obj)} {σ' : L2.St} {H' : Hp} {s' : Shared}, Inv (X.blk s3 H3 scope ce fp) pins' σ' H' s' → Inv X pins σ H' s' ∧ FpOk X pins H' s3.heap.objs.size := fun {pins' σ' H' s'} I6 => by
    have nC : H' s3.heap.objs.size = none := by
      have z : H' ce.locals = none := I6.free
      rw [cL] at z
      exact z
    exact ⟨I3.call' (ch := fp) I6.os I6.base I6.hok I6.bare fun b hb => ⟨(f3 b hb).1.2.2.2.1, (f3 b hb).1.2.1, (f3 b hb).1.2.2.2.2.1, (f3 b hb).1.2.2.2.2.2⟩, I3.fpOk (Nat.le_refl _) nC⟩
  have hfr : X.A.frames = some (X.env :: X.outer) := by rw [I.ok.frames, hs1]
  -- what a call lets out leaves the block
  have out : ∀ u s', XEb X (X.blk s3 H3 scope ce fp) E u s' → notedBy (model X.prog X.w) X.A ce (fun e s' => CompFails (model X.prog X.w) X.A X.xe ce e s') u s' := by
    rintro u s' ⟨pins', σ', H', s0, Ib, a, B, H1, cls, d, rfl, fl, hok, ub, na, os, ag, hE⟩
    -- the state without the exception, in the block
    obtain ⟨G, g1, g2⟩ := restrict s'.heap fun b => (B.get? b).isSome || decide (b ∈ frs X.stack)
    have st : B.StaysIn s'.heap := fl.1
    have gB : ∀ b o, B.get? b = some o → G.get? b = some o := fun b o e => by
      rw [g1 b (by simp [e])]
      exact st b o e
    have gF : ∀ b, b ∈ frs X.stack → G.get? b = s'.heap.get? b := fun b hb => g1 b (by simp [hb])
    have og : ∀ b o, G.get? b = some o → s'.heap.get? b = some o ∧ ((B.get? b).isSome = true ∨ b ∈ frs X.stack) := fun b o e => by
      cases q : ((B.get? b).isSome || decide (b ∈ frs X.stack)) with
      | false => rw [g2 b q] at e; cases e
      | true =>
        rw [g1 b q] at e
        exact ⟨e, by simpa [Bool.or_eq_true] using q⟩
    have I1 : Inv (X.blk s3 H3 scope ce fp) pins' σ' H1 { s0 with heap := G, gens := s'.gens, drawn := s'.drawn, toks := s'.toks } := by
      refine Ib.call (ch := []) ⟨fun b o e n hb _ => gB b o (ub.keep b o e n hb), fun b o e n hb _ => ?_, fun b o e n _ => ub.free b o e n, fun b o e _ => ?_, ub.tups, ub.frzs, ub.tbls⟩ (hok.kept gB) ag (fun _ z => nomatch z)
      · obtain ⟨sl, q⟩ := ub.slot b o e hb
        exact ⟨sl, by rw [gF b hb]; exact q⟩
      · by_cases hb : b ∈ frs X.stack
        · obtain ⟨sl, q⟩ := ub.slot b o e hb
          exact ⟨_, by rw [gF b hb]; exact q⟩
        · obtain ⟨o', q⟩ := ub.there b o e hb
          exact ⟨o', gB b o' q⟩
    have nb : ∀ b o, G.get? b = some o → b ∉ frs X.stack → B.get? b = some o := fun b o e hb => by
      obtain ⟨e', h⟩ := og b o e
      rcases h with h | h
      · obtain ⟨o', q⟩ := Option.isSome_iff_exists.mp h
        have z := st b o' q
        rw [e'] at z; cases z
        exact q
      · exact absurd h hb
    obtain ⟨IX, fC⟩ := back I1
    -- the block's names there
    have hNs : ∃ m, s'.heap.Ns ce.locals m := by
      obtain ⟨m, hn, _⟩ := I1.loc
      have hn : G.Ns ce.locals m := hn
      exact ⟨m, Heap.Ns.keeps hn fun b o e => (og b o e).1⟩
    obtain ⟨m, hn⟩ := hNs
    obtain ⟨B', eB⟩ : ∃ B', B' = PySem.W.hideAll B [ce.locals] := ⟨_, rfl⟩
    have bC : B'.get? ce.locals = none := by rw [eB]; exact PySem.W.hideAll_none _ (List.mem_singleton.mpr rfl)
    have fl' : HandSPX.FlyingZ B' X.stack a (Zc cls d) s'.heap := flying_less (fun b o e => by rw [eB] at e; exact PySem.W.of_hideAll _ e) fl
    rw [hs1] at fl'
    show wpAny _ X.A (noteFrame (.ref a) ce) _ _ s'
    rw [noteFrame_env _ cF]
    refine HandSPX.looks_onZ Zc.steady hfr hf fl' fun h1 hh up1 => ?_
    have hn1 : h1.Ns ce.locals m := Heap.Ns.upToSlots hn up1
    refine ⟨m, hn1, fun h2 m2 hn2 sb => ?_⟩
    have hh2 := held_but bC hn1 hn2 sb hh
    obtain ⟨x1, x2, x3, oe, vs, TT, oT, ts, y1, y2, y3, y4, y5⟩ := hh2
    unfold PySem.passOn
    refine wpAny_bind (wpAny_field y1 y3 y4 ?_)
    rw [if_neg (show ¬ ((Value.ref TT == Value.none) = true) from by simp)]
    rw [cF, hf]
    refine wpAny_bind (HandSPX.setFlight_onZ (l := X.env :: X.outer) ⟨x1, x2, x3, oe, vs, TT, oT, ts, y1, y2, y3, y4, y5⟩ fun h4 hh4 up4 => ?_)
    refine wpAny_throw (tk _ _ ?_)
    refine ⟨a, B', { s0 with heap := PySem.W.hideAll G [ce.locals], gens := s'.gens, drawn := s'.drawn, toks := s'.toks }, pins, σ, H1, cls, d, rfl, ?_, fun b o e hb => ?_, fun b o e hnf => ?_, .inr (.inr ?_), na, os, ag, hE⟩
    · obtain ⟨f0, f1, f2, f3, f4, f5⟩ := fC
      refine IX.turned (it := s3.heap.objs.size) (t' := s'.toks) (fun b o hb e => PySem.W.hideAll_get _ e fun z => hb ?_) f0 f1 f3 f4 f5
      rw [← cL]
      exact List.mem_singleton.mp z
    · have e1 := PySem.W.of_hideAll _ e
      have nC : b ≠ ce.locals := fun z => by
        have := PySem.W.hideAll_none (h := G) [ce.locals] (List.mem_singleton.mpr z)
        rw [this] at e
        cases e
      rw [eB]
      exact PySem.W.hideAll_get _ (nb b o e1 hb) fun z => nC (List.mem_singleton.mp z)
    · have e1 := PySem.W.of_hideAll _ e
      have nC : b ≠ ce.locals := fun z => by
        have := PySem.W.hideAll_none (h := G) [ce.locals] (List.mem_singleton.mpr z)
        rw [this] at e
        cases e
      obtain ⟨sl, e2⟩ := up1 b o (og b o e1).1 hnf
      have e3 := (sb.2 b nC).trans e2
      obtain ⟨sl2, e4⟩ := up4 b _ e3 hnf
      exact ⟨sl2, e4⟩
    · rw [hs1]
      exact hh4
  have loop : codeAny (model X.prog X.w) X.A (.compLoop (.ListComp elt [⟨tg, iter, ifs, 0⟩] scope pos) 0 (.ref it) (.ref D) ce) (compEnds (model X.prog X.w) X.A X.xe none (EP X pins σ Q) (.ref D) ce) s4 := by
    refine compLoop_any (fun n s' => ∃ i H', Inv (X.blk s3 H3 scope ce fp) [] (wipe σ (own.map (·.2))) H' s' ∧ tn i s'.heap ∧ (∀ b ∈ fp, H' b = none) ∧ W i n H') ?_ m0 ⟨0, H3, I4, st4, nfp, w0⟩
    rintro n s5 ⟨i, H5, I5, st5, n5, w5⟩
    rcases turn i n H5 w5 with ⟨stop, qq⟩ | ⟨go, Nx, hNx, step⟩
    · have td := T.done (X.blk s3 H3 scope ce fp) rfl rfl rfl hc i [] s5 _ H5 (fun _ _ => False) I5 (stat I5 n5) st5 stop
      refine thnF td fun r s6 ⟨hr, I6⟩ => ?_
      subst hr
      obtain ⟨I7, f0, f1, f2, f3, f4, f5⟩ := back I6
      obtain ⟨m, hn, _⟩ := I6.loc
      have hn : s6.heap.Ns ce.locals m := hn
      refine ⟨m, hn, fun h'' sb => ?_⟩
      rw [cL] at sb
      exact ⟨.ref D, H5, I7.turned (t' := s6.toks) (fun b o hb e => (sb.2 b hb).trans e) f0 f1 f3 f4 f5, rfl, qq⟩
    · have ti := T.item (X.blk s3 H3 scope ce fp) rfl rfl rfl hc i [] s5 _ H5 (fun _ _ => False) I5 (stat I5 n5) st5 go
      refine thnF ti fun r s6 ⟨u, hr, h6⟩ => ?_
      subst hr
      refine thnF h6 fun _ s7 ⟨x, H7, I7, r7, y7, st7, n7⟩ => ?_
      have I7' := I7.pinned (stat I7 n7) (T.obj _ _ st7)
      refine thnF (pg.run _ s7 _ H7 x u _ I7' r7 (step x H7 y7)) fun _ s8 ⟨σ8, H8, I8, hw8, q8⟩ => ?_
      refine thnF (pt.run _ s8 σ8 H8 _ I8 q8) fun b s9 ⟨H9, I9, q9⟩ => ?_
      have fin : ∀ {s' : Shared} {H' : Hp}, Inv (X.blk s3 H3 scope ce fp) ([] ++ pinsAt fp s7.heap) σ8 H' s' → Nx H' → ∃ m, m < n ∧ ∃ i H', Inv (X.blk s3 H3 scope ce fp) [] (wipe σ (own.map (·.2))) H' s' ∧ tn i s'.heap ∧ (∀ b ∈ fp, H' b = none) ∧ W i m H' := fun {s' H'} I' nx => by
        obtain ⟨m', hm, w'⟩ := hNx H' nx
        have pin' : ∀ b ∈ fp, ∀ o, s7.heap.get? b = some o → s'.heap.get? b = some o ∧ H' b = none := fun b hb o e =>
          let z := I'.pin (b, o) (List.mem_append_right _ (List.mem_append_right _ (mem_pinsAt hb e)))
          ⟨z.1, z.2.1⟩
        have hl : (wipe σ (own.map (·.2))).length = σ8.length := by rw [← hw8, wipe_length]
        refine ⟨m', hm, i + 1, H', (I'.unpinned (pins := [])).weak hl (fun j v e => ?_), T.keep _ _ _ st7 fun b hb o e => (pin' b hb o e).1, fun b hb => ?_, w'⟩
        · rw [← hw8] at e
          exact (wipe_some e).1
        · obtain ⟨o, e, _⟩ := T.obj _ _ st7 b hb
          exact (pin' b hb o e).2
      cases b with
      | false =>
        simp only [Bool.false_eq_true, if_false] at q9 ⊢
        exact fin I9 q9
      | true =>
        simp only [if_true] at q9 ⊢
        refine wpAny_mono (pe.run _ s9 σ8 H9 _ (I9.wish _) q9) (fun z s10 ⟨yv, H10, I10, r10, acc, hD10, hz10, nx⟩ => ?_) fun u s' z => out u s' z
        exact app_ok (X := X.blk s3 H3 scope ce fp) I10.unwish hD10 hz10 r10 fun s11 I11 => fin I11 nx
  exact codeAny_compStart_list loop (T.self X.A 0 _ _ _ st4 loop)
end
/-! ### factors of up to eighty figures -/
def mulWD : D → D → R D
  | .int i, .int j => if (-10000000000000000000000000000000000000000000000000000000000000000000000 < i ∧ i < 10000000000000000000000000000000000000000000000000000000000000000000000) ∧ (-10000000000000000000000000000000000000000000000000000000000000000000000 < j ∧ j < 10000000000000000000000000000000000000000000000000000000000000000000000) then .ok (.int (i * j)) else .bad
  | _, _ => .bad
theorem opd_mulW {K : PySem.W.Frag} : OpD K (rI CMulW fun i j => .int (i * j)) mulWD := by
  intro ec x H v w a b Q ra rb h
  unfold mulWD at h
  split at h
  · cases ra; cases rb
    split at h
    · rename_i hc
      have hb : (10000000000000000000000000000000000000000000000000000000000000000000000 : Nat) ≤ 2 ^ 250 := by decide
      exact ⟨_, _, rfl, rfl, wide_mul (a := 250) (b := 250) (Nat.lt_of_lt_of_le (by omega) hb) (Nat.lt_of_lt_of_le (by omega) hb) (by decide) (by decide) (by decide), h _ _ (Same.refl _) (.int _)⟩
    · exact h.elim
  · exact h.elim
end Sm
/-! Sm, part ZD: a thing is made, or a def asked, and what it tells is dropped (law k22). -/
namespace Sm
open PySem PySem.Spec PyProof.Rows L2
variable {K : PySem.W.Frag}
/-! ### a thing is made within a try -/
def tMakeS (C : Addr) (sp : Sp) (E : L2.St → XK) (t : TA) : TE := fun σ H Q => t σ H fun vs H1 => ∀ x dx, H1 x = none → H1 dx = none → dx ≠ x →
  sp (.ref x :: vs) (upd (upd H1 dx (.own x)) x (.ins C dx [])) (fun v H2 => v = .non ∧ Q (.ref x) H2) (E σ)
section
variable {X : Cx} {CX : CXT} {k : Nat} {f C : Addr} {fd : FuncData} {ps : List Str} {sp : Sp} {E : L2.St → XK} {x : Str} {p pos : Pos} {e : Expr} {es : List Expr} {t : TA}
theorem run_makeS {pins : List (Addr × Obj)} {σ : L2.St} {H : Hp} {s : Shared} {Q : VK} {us : List Value} {vs : List V} (M : Mk X.K C f) (F : FnOk X.prog X.w X.K X.mg X.base CX k f fd ps sp) (hr : Room (k + 1) X.A) (hb : Binds X.K fd ps [])
    (hx : PassesAt CX X σ (E σ)) (I : Inv X pins σ H s) (r : Vals vs us)
    (h : ∀ x dx, H x = none → H dx = none → dx ≠ x → sp (.ref x :: vs) (upd (upd H dx (.own x)) x (.ins C dx [])) (fun v H2 => v = .non ∧ Q (.ref x) H2) (E σ)) :
    wpAny (model X.prog X.w) X.A (call (.ref C) us) (EP X pins σ Q) X.xe s := by
  have h : ∀ x dx, H x = none → H dx = none → dx ≠ x → sp (.ref x :: (vs ++ [])) (upd (upd H dx (.own x)) x (.ins C dx [])) (fun v H2 => v = .non ∧ Q (.ref x) H2) (E σ) := by
    rw [List.append_nil]
    exact h
  obtain ⟨ds, eds⟩ : ∃ ds : List Value, ds = [] := ⟨_, rfl⟩
  rw [← eds] at hb
  have hd : Vals [] ds := by rw [eds]; exact .nil
  have hq := h (s.heap.objs.size + 1) s.heap.objs.size (I.hok.fresh (Nat.le_succ _)) (I.hok.fresh (Nat.le_refl _)) (Nat.ne_of_lt (Nat.lt_succ_self _))
  have I2 := Inv.made (C := C) I
  have r2 : Vals (V.ref (s.heap.objs.size + 1) :: (vs ++ [])) (Value.ref (s.heap.objs.size + 1) :: (us ++ ds)) := .cons rfl (r.append hd)
  have hl : (Value.ref (s.heap.objs.size + 1) :: us ++ ds).length = ps.length := by
    have e := r2.length
    rw [F.len _ _ _ _ hq] at e
    exact e.symm
  refine wpAny_call (make_map (f := f) I.kIn M.makes M.init (beq_iff_eq.mp M.fn) (codeAny_mono (F.run _ X.stack _ _ ⟨Value.ref (s.heap.objs.size + 1) :: us, []⟩ (Value.ref (s.heap.objs.size + 1) :: (us ++ ds)) _ _ (E σ) (hr.make C us [])
    (I2.env0.make C us []) (hb _ (Value.ref (s.heap.objs.size + 1) :: us) I2.kIn hl) r2 hq) fun r s' hq' => ?_))
  cases r with
  | error e => exact hx pins _ _ e s' I2 hq'
  | ok fl =>
    cases fl with
    | ret u =>
      obtain ⟨v, H', I3, rv, ev, q3⟩ := I2.after hq'
      subst ev
      exact ⟨rv, ⟨V.ref (s.heap.objs.size + 1), H', I3, rfl, q3⟩⟩
    | next => exact False.elim hq'
    | brk => exact False.elim hq'
    | cont => exact False.elim hq'
theorem pe_makeS (M : Mk X.K C f) (F : FnOk X.prog X.w X.K X.mg X.base CX k f fd ps sp) (hr : Room (k + 1) X.A) (hg : Gl X x) (hm : X.mg x = some (.ref C)) (hb : Binds X.K fd ps []) (hx : ∀ σ, PassesAt CX X σ (E σ))
    (ha : PA X (e :: es) t) (hdb : (x == ("__debug__" : Str)) = false := by decide) (he : starEach (e :: es) X.env = (false, eval e X.env) :: starEach es X.env := by rfl) (hpl : (backTo pos (starEach es X.env)).any (·.1) = false := by rfl) :
    PE X (.Call (.Name x p) (e :: es) [] pos) (tMakeS C sp E t) := by
  refine ⟨fun pins s σ H Q I h => ?_⟩
  refine wpAny_Call_Name_kw (ld_glob I hg hm ?_ hdb)
  refine PySem.W.callWith_K (h₀ := X.base) I.ok.mod.kin M.kp (thn (ha.run pos pins s σ H _ I h) fun us s1 ⟨vs, H1, I1, r, q⟩ => ⟨I1.kIn, ?_⟩) he hpl
  exact run_makeS M F hr hb (hx σ) I1 r q
end
/-! ### a def whose answer is dropped -/
def PQ (ec : Nat → Addr) (H : Hp) (Q : VK) (x : XK) : R T → Prop
  | .ok _ => ∀ v H', Same H H' → Q v H'
  | .exc c => ∀ H', Same H H' → x (.ref (ec c)) none H'
  | .bad => False
def spQ (K : PySem.W.Frag) (ec : Nat → Addr) (n : Nat) (mf : List D → R T) : Sp := fun vs H Q x => ∃ (ds : List D) (U0 : Hp), ds.length = n ∧ Same U0 H ∧ Rps K U0 vs ds ∧ PQ ec H Q x (mf ds)
theorem spQ_len {ec : Nat → Addr} {n : Nat} {mf : List D → R T} {vs : List V} {H : Hp} {Q : VK} {E : XK} (h : spQ K ec n mf vs H Q E) : vs.length = n := by
  obtain ⟨ds, U0, hn, _, r, _⟩ := h
  rw [r.len, hn]
theorem PQ.pc {ec : Nat → Addr} {H H1 U0 : Hp} {Q : VK} {x : XK} {r : R T} (h : PQ ec H Q x r) (s : Same H H1) : PC K ec H1 U0 Q x r := by
  cases r with
  | ok τ => exact fun v U' H' F => h v H' (s.trans F.eh)
  | exc c => exact fun H' s' => h H' (s.trans s')
  | bad => exact h
section
variable {ec : Nat → Addr} {ex : L2.St → XK} {tr : TA} {mr : Env → R (List D)}
def sQ (n : Nat) (mf : List D → R T) (mr : Env → R (List D)) (ρ : Env) : Out := match mr ρ with
  | .ok ds => if ds.length = n then (match mf ds with
    | .ok _ => .nx ρ
    | .exc c => .exc c ρ
    | .bad => .bad) else .bad
  | .exc c => .exc c ρ
  | .bad => .bad
theorem ss_Q {n : Nat} {mf : List D → R T} (ha : SBs K ec ex tr mr) : SS K ec ex (tDrop (tCallS (spQ K ec n mf) ex tr)) (sQ n mf mr) := by
  intro E U0 L U H σ ρ tmp g D h
  refine ha g _ ?_
  unfold sQ at h
  generalize mr ρ = z at h ⊢
  cases z with
  | bad => exact h.elim
  | exc c => exact fun H' s => h U H' σ (g.heap s)
  | ok ds =>
    intro vs H1 s1 r1
    simp only [] at h
    split at h
    · rename_i hn
      refine ⟨ds, H1, hn, Same.refl _, r1, ?_⟩
      generalize mf ds = z at h ⊢
      cases z with
      | ok τ => exact fun v H' s => h U H' σ (g.heap (s1.trans s))
      | exc c => exact fun H' s => h U H' σ (g.heap (s1.trans s))
      | bad => exact h.elim
    · exact h.elim
def swK (mr : Env → R (List D)) (ρ : Env) : Out := match mr ρ with
  | .ok [.int lo, .int hi] => if 0 ≤ lo ∧ lo < hi then .nx ρ else .exc 5 ρ
  | .exc c => .exc c ρ
  | _ => .bad
theorem ss_sw (ha : SBs K (ecK K) ex tr mr) : SS K (ecK K) ex (tDrop (tMakeS (cS K) (spSwInit K) ex tr)) (swK mr) := by
  intro E U0 L U H σ ρ tmp g D h
  refine ha g _ ?_
  unfold swK at h
  generalize mr ρ = z at h ⊢
  cases z with
  | bad => exact h.elim
  | exc c => exact fun H' s => h U H' σ (g.heap s)
  | ok ds =>
    intro vs H1 s1 r1
    split at h
    · rename_i lo hi e
      cases e
      cases r1 with
      | cons a1 r2 =>
      cases r2 with
      | cons a2 r3 =>
      cases r3
      cases a1
      cases a2
      intro x dx hx hdx hne
      have k1 : upd H1 dx (.own x) x = none := by rw [upd_ne hne.symm]; exact hx
      have s : Same H1 (upd (upd H1 dx (.own x)) x (.ins (cS K) dx [])) := (same_new hdx).trans (same_new k1)
      refine ⟨x, dx, lo, hi, rfl, upd_same, fun c => ?_, fun c => ⟨rfl, ?_⟩⟩
      · rw [if_neg c] at h
        exact h U _ σ (g.heap (s1.trans s))
      · rw [if_pos c] at h
        rw [L2.upd_upd]
        exact h U _ σ (g.heap (s1.trans ((same_new hdx).trans (same_new k1))))
    · rename_i e
      cases e
    · exact h.elim
end
structure RdyQ (P : Program) (w : World) (K : PySem.W.Frag) (mg : Str → Option Value) (base : Heap) (x : Str) (k : Nat) (ps : List Str) (n : Nat) (m : List D → R T) : Prop where
  ex : ∃ fd, FnOk P w K mg base (L2.CX P w) k (He.ga K x) fd ps (spQ K (ecK K) n m) ∧ Binds K fd ps []
  g : mg x = some (.ref (He.ga K x))
  kp : PySem.W.keepIn K (.ref (He.ga K x)) = true
theorem pe_callQ {X : Cx} {x : Str} {k n : Nat} {ps : List Str} {m : List D → R T} {W : WX} {p pos : Pos} {e : Expr} {es : List Expr} {t : TA} (R : RdyQ X.prog X.w X.K X.mg X.base x k ps n m) (hr : Room k X.A) (hg : Gl X x) (tk : Takes X W) (ha : PA X (e :: es) t) (hdb : (x == ("__debug__" : Str)) = false := by decide)
    (he : starEach (e :: es) X.env = (false, eval e X.env) :: starEach es X.env := by rfl) (hpl : (backTo pos (starEach es X.env)).any (·.1) = false := by rfl) :
    PE X (.Call (.Name x p) (e :: es) [] pos) (tCallS (spQ X.K (ecK X.K) n m) (WE W) t) := by
  obtain ⟨fd, G, b⟩ := R.ex
  exact pe_callS (E := WE W) G hr hg R.g R.kp b (fun σ => passAt tk σ) ha hdb he hpl
/-! ### law k22: what it asks -/
def askM (mt : List D → R T) : List D → R T
  | [.int top, .lst ds, e, .int way] => if way = 0 then (match rowsOf ds with
      | some rows => (boxOk top rows).bind fun _ => .ok (.dat .non)
      | none => .bad)
    else if way = 1 then m_returns_of [.int top, .lst ds]
    else if way = 2 then m_answers_of [.int top, .lst ds, e]
    else if way = 3 then mt [.int top, .lst ds, .lst []]
    else mt [.int top, .lst [], .lst ds]
  | _ => .bad
abbrev askT (k : Int) : TT := tTest (tOp rEq (tVar 3) (tC (.int k)))
theorem tr_law_ask {mt : List D → R T} {N : List Str} {vs : List V} {H : Hp} {Q : VK} {E : XK} (hN : N.length = 4) (h : spQ K (ecK K) 4 (askM mt) vs H Q E) :
    tSeq (tIfS (askT 0) (tRet (tMake (cB K) (spBxInit K) [] E (tCons (tVar 0) (tCons (tVar 1) tNil)))) tNext)
      (tSeq (tIfS (askT 1) (tRet (tCallS (spM K (ecK K) 2 m_returns_of) (fun _ => E) (tCons (tVar 0) (tCons (tVar 1) tNil)))) tNext)
        (tSeq (tIfS (askT 2) (tRet (tCallS (spM K (ecK K) 3 m_answers_of) (fun _ => E) (tCons (tVar 0) (tCons (tVar 1) (tCons (tVar 2) tNil))))) tNext)
          (tSeq (tIfS (askT 3) (tRet (tCallS (spM K (ecK K) 3 mt) (fun _ => E) (tCons (tVar 0) (tCons (tVar 1) (tCons (tLst tNil) tNil))))) tNext)
            (tRet (tCallS (spM K (ecK K) 3 mt) (fun _ => E) (tCons (tVar 0) (tCons (tLst tNil) (tCons (tVar 1) tNil)))))))) { nx := fun _ H' => Q .non H', rt := Q } (L2.start N vs) H := by
  obtain ⟨ds, U0, hn, sU, r, h⟩ := h
  unfold askM at h
  split at h
  rotate_left
  · exact h.elim
  rename_i top es e way
  cases r with
  | cons r1 r2 =>
  cases r1
  cases r2 with
  | @cons v1 _ _ _ r2 r3 =>
  cases r3 with
  | @cons v2 _ _ _ r3 r4 =>
  cases r4 with
  | cons r4 r5 =>
  cases r4
  cases r5
  have e0 : L2.start N [.int top, v1, v2, .int way] = [some (.int top), some v1, some v2, some (.int way)] := by
    unfold L2.start
    rw [hN]
    rfl
  rw [e0]
  have d : ∀ k : Int, decide (V.int way = V.int k) = decide (way = k) := fun k => by
    rw [dec_int]
    rfl
  refine ⟨_, rfl, rfl, _, rfl, ?_⟩
  rw [d]
  by_cases c0 : way = 0
  · rw [if_pos c0] at h
    refine ifY (decide_eq_true c0) ?_
    split at h
    rotate_left
    · exact h.elim
    rename_i rows er
    rw [rowsOf_eq er] at r2
    obtain ⟨sl, zs, rfl, rfl, R⟩ := rwAt_of r2
    have R := R.mono sU
    refine ⟨_, rfl, _, rfl, fun b dx hb hdx hne => ?_⟩
    have h' : PC K (ecK K) H U0 (fun _ _ => ∀ v H', Same H H' → Q v H') E ((boxOk top (zs.map (·.2))).bind fun _ => .ok (.dat .non)) := by
      generalize boxOk top (zs.map (·.2)) = z at h ⊢
      cases z with
      | ok _ => exact fun _ _ _ _ => h
      | exc c => exact h
      | bad => exact h
    refine make_box R h' hb hdx hne fun ht hlen hok hQ H1 p I0 => ?_
    have hQ : ∀ v U' H', Fin K H U0 U' H' v (.dat .non) → ∀ v H', Same H H' → Q v H' := hQ
    exact hQ .non U0 H ⟨Same.refl _, Same.refl _, sU, fun a o x y => (by rw [x] at y; cases y), ⟨[] ++ [], .cons (.dat .non) .nil, by simp, fun a ha => by simp at ha⟩⟩ _ _ I0.sm
  refine ifN (decide_eq_false c0) ?_
  rw [if_neg c0] at h
  refine ⟨_, rfl, rfl, _, rfl, ?_⟩
  rw [d]
  by_cases c1 : way = 1
  · rw [if_pos c1] at h
    refine ifY (decide_eq_true c1) ?_
    exact ⟨_, rfl, _, rfl, [.int top, .lst es], U0, rfl, sU, .cons (.int _) (.cons r2 .nil), h.pc (Same.refl _)⟩
  refine ifN (decide_eq_false c1) ?_
  rw [if_neg c1] at h
  refine ⟨_, rfl, rfl, _, rfl, ?_⟩
  rw [d]
  by_cases c2 : way = 2
  · rw [if_pos c2] at h
    refine ifY (decide_eq_true c2) ?_
    exact ⟨_, rfl, _, rfl, _, rfl, [.int top, .lst es, e], U0, rfl, sU, .cons (.int _) (.cons r2 (.cons r3 .nil)), h.pc (Same.refl _)⟩
  refine ifN (decide_eq_false c2) ?_
  rw [if_neg c2] at h
  refine ⟨_, rfl, rfl, _, rfl, ?_⟩
  rw [d]
  by_cases c3 : way = 3
  · rw [if_pos c3] at h
    refine ifY (decide_eq_true c3) ?_
    refine ⟨_, rfl, _, rfl, by rw [sizeLine_eq]; decide, fun p hp => ?_⟩
    have s := same_new (o := .lst []) hp
    exact ⟨[.int top, .lst es, .lst []], _, rfl, Same.refl _, .cons (.int _) (.cons (r2.mono (sU.trans s)) (.cons (Rp.mkL upd_same .nil) .nil)), h.pc s⟩
  refine ifN (decide_eq_false c3) ?_
  rw [if_neg c3] at h
  refine ⟨_, rfl, by rw [sizeLine_eq]; decide, fun p hp => ?_⟩
  have s := same_new (o := .lst []) hp
  exact ⟨_, rfl, [.int top, .lst [], .lst es], _, rfl, Same.refl _, .cons (.int _) (.cons (Rp.mkL upd_same .nil) (.cons (r2.mono (sU.trans s)) .nil)), h.pc s⟩
end Sm
/-! Sm, part ZE: zip of three lists. -/
namespace Sm
open PySem PySem.Spec PyProof.Rows L2
def Itz3 (K : PySem.W.Frag) (a b c : Addr) : It :=
  ⟨fun i H => ∃ (xs ys zs : List V) (x y z : V), SqL K H a xs ∧ SqL K H b ys ∧ SqL K H c zs ∧ xs[i]? = some x ∧ ys[i]? = some y ∧ zs[i]? = some z,
    fun i H v H' => ∃ T x y z, v = .ref T ∧ H T = none ∧ H' = upd H T (.tup [x, y, z]) ∧ (∀ xs, SqL K H a xs → xs[i]? = some x) ∧ (∀ ys, SqL K H b ys → ys[i]? = some y) ∧ ∀ zs, SqL K H c zs → zs[i]? = some z,
    fun i H => ∃ xs ys zs : List V, SqL K H a xs ∧ SqL K H b ys ∧ SqL K H c zs ∧ xs.length = i ∧ ys.length = i ∧ zs.length = i⟩
theorem turn_zip3 {P : Program} {w : World} {K : PySem.W.Frag} {elts : List Expr} {kk : Nat} {tpos : Pos} {a b c z TI TO i1 i2 i3 : Addr} (S : ZipSep3 z TI TO i1 i2 i3 [i1, a] [i2, b] [i3, c]) (n1 : a ≠ i1) (n2 : b ≠ i2) (n3 : c ≠ i3) :
    Turn P w K (.Tuple elts kk tpos) (Itz3 K a b c) [z, TI, TO, i1, i2, i3] z (fun i h => IsZip h z TI TO .none ∧ IsTupOf3 h TI (.ref i1) (.ref i2) (.ref i3) ∧ (∃ x y z, IsTupOf3 h TO x y z) ∧ h.IsListIter i1 a i ∧ h.IsListIter i2 b i ∧ h.IsListIter i3 c i) where
  mem := by simp
  obj := fun i h st e he => by
    obtain ⟨hz, hTI, ⟨x, y, zz, hTO⟩, ⟨o1, e1, _, d1⟩, ⟨o2, e2, _, d2⟩, ⟨o3, e3, _, d3⟩⟩ := st
    have e' : e = z ∨ e = TI ∨ e = TO ∨ e = i1 ∨ e = i2 ∨ e = i3 := by simpa using he
    rcases e' with q | q | q | q | q | q
    · rw [q]; exact ⟨_, hz, fun v q => nomatch q⟩
    · rw [q]; exact ⟨_, hTI, fun v q => nomatch q⟩
    · rw [q]; exact ⟨_, hTO, fun v q => nomatch q⟩
    · rw [q]; exact ⟨o1, e1, fun v q => by rw [d1] at q; cases q⟩
    · rw [q]; exact ⟨o2, e2, fun v q => by rw [d2] at q; cases q⟩
    · rw [q]; exact ⟨o3, e3, fun v q => by rw [d3] at q; cases q⟩
  keep := fun i h h' st k => by
    obtain ⟨hz, hTI, ⟨x, y, zz, hTO⟩, h1, h2, h3⟩ := st
    exact ⟨k z (by simp) _ hz, k TI (by simp) _ hTI, ⟨x, y, zz, k TO (by simp) _ hTO⟩, h1.at fun o q => k i1 (by simp) o q, h2.at fun o q => k i2 (by simp) o q, h3.at fun o q => k i3 (by simp) o q⟩
  item := by
    intro X hP hw hK hc i pins s σ H E I hf st hg
    subst hP hw hK
    obtain ⟨hz, hTI, ⟨x0, y0, z0, hTO⟩, h1, h2, h3⟩ := st
    obtain ⟨xs, ys, zs, x, y, zz, hqx, hqy, hqz, hx, hy, hzz⟩ := hg
    obtain ⟨its, rv, p, _⟩ := I.list hqx
    obtain ⟨its2, rv2, p2, _⟩ := I.list hqy
    obtain ⟨its3, rv3, p3, _⟩ := I.list hqz
    obtain ⟨u, hu, ru⟩ := rv.get hx
    obtain ⟨u2, hu2, ru2⟩ := rv2.get hy
    obtain ⟨u3, hu3, ru3⟩ := rv3.get hzz
    have hzl : z < s.heap.objs.size := Heap.lt_size hz
    have hh : X.A.in1.handled = none := I.ok.hd hc
    have lt1 : i < its.toArray.size := by have := (List.getElem?_eq_some_iff.mp hu).1; simpa using this
    have lt2 : i < its2.toArray.size := by have := (List.getElem?_eq_some_iff.mp hu2).1; simpa using this
    have lt3 : i < its3.toArray.size := by have := (List.getElem?_eq_some_iff.mp hu3).1; simpa using this
    refine wpAny_pyNext_zipD3_item S (Draws.list hh i1 a n1 its.toArray) (Draws.list hh i2 b n2 its2.toArray) (Draws.list hh i3 c n3 its3.toArray) hz hTI hTO ⟨h1, p.isList⟩ ⟨h2, p2.isList⟩ ⟨h3, p3.isList⟩ lt1 lt2 lt3
      fun v1 v2 v3 h' tk q1 q2 q3 z' TO' d1 d2 d3 hT hsz hk => ?_
    have w1 : v1 = u := by
      have q1 : its.toArray[i]? = some v1 := q1
      rw [List.getElem?_toArray, hu] at q1
      exact (Option.some.inj q1).symm
    have w2 : v2 = u2 := by
      have q2 : its2.toArray[i]? = some v2 := q2
      rw [List.getElem?_toArray, hu2] at q2
      exact (Option.some.inj q2).symm
    have w3 : v3 = u3 := by
      have q3 : its3.toArray[i]? = some v3 := q3
      rw [List.getElem?_toArray, hu3] at q3
      exact (Option.some.inj q3).symm
    subst w1 w2 w3
    refine ⟨_, rfl, wpAny_letOwnedTupleGo_zip (s := { s with heap := h', toks := tk }) z' fun h'' z'' sb => ?_⟩
    have hT2 : h''.get? s.heap.objs.size = some { cls := .type "tuple", data := .seq #[v1, v2, v3] } := (sb.2 _ (Nat.ne_of_gt hzl)).trans hT
    have new : ObjOk X.prog X.w (upd H s.heap.objs.size (.tup [x, y, zz])) h'' s.heap.objs.size (.tup [x, y, zz]) :=
      ⟨by show 3 ≤ sizeLine; decide, [v1, v2, v3], .cons ru (.cons ru2 (.cons ru3 .nil)), ⟨_, hT2, rfl, _, rfl⟩⟩
    have I1 : Inv X pins σ (upd H s.heap.objs.size (.tup [x, y, zz])) { s with heap := h'', toks := tk } :=
      I.turnedNew (t' := tk) (ch := [z, TI, TO, i1, i2, i3]) (fun c o hb q => (sb.2 c (fun q' => hb (by simp [q']))).trans (hk c o (fun q' => hb (by simp [q'])) (fun q' => hb (by simp [q'])) (fun q' => hb (by simp [q'])) (fun q' => hb (by simp [q'])) (fun q' => hb (by simp [q'])) q)) hf (Nat.le_refl _) new
    refine ⟨.ref s.heap.objs.size, _, I1, rfl, ⟨_, x, y, zz, rfl, I.hok.fresh (Nat.le_refl _), rfl, fun l hl => by rw [I.list_inj hl hqx]; exact hx, fun l hl => by rw [I.list_inj hl hqy]; exact hy, fun l hl => by rw [I.list_inj hl hqz]; exact hzz⟩, ⟨z'', ?_, ⟨v1, v2, v3, ?_⟩, ?_, ?_, ?_⟩, fun c hcm => ?_⟩
    · exact (sb.2 _ S.TIz).trans (hk _ _ S.TIz S.TITO S.TIi1 S.TIi2 S.TIi3 hTI)
    · exact (sb.2 _ S.TOz).trans TO'
    · exact d1.1.at fun o q => (sb.2 _ S.zi1.symm).trans q
    · exact d2.1.at fun o q => (sb.2 _ S.zi2.symm).trans q
    · exact d3.1.at fun o q => (sb.2 _ S.zi3.symm).trans q
    · have hlt : c < s.heap.objs.size := by
        have e' : c = z ∨ c = TI ∨ c = TO ∨ c = i1 ∨ c = i2 ∨ c = i3 := by simpa using hcm
        rcases e' with q | q | q | q | q | q
        · rw [q]; exact hzl
        · rw [q]; exact Heap.lt_size hTI
        · rw [q]; exact Heap.lt_size hTO
        · rw [q]; obtain ⟨_, e1, _⟩ := h1; exact Heap.lt_size e1
        · rw [q]; obtain ⟨_, e2, _⟩ := h2; exact Heap.lt_size e2
        · rw [q]; obtain ⟨_, e3, _⟩ := h3; exact Heap.lt_size e3
      rw [upd_ne (Nat.ne_of_lt hlt)]
      exact (hf c hcm).1
  done := by
    intro X hP hw hK hc i pins s σ H E I hf st hg
    subst hP hw hK
    obtain ⟨hz, hTI, ⟨x0, y0, z0, hTO⟩, h1, h2, h3⟩ := st
    obtain ⟨xs, ys, zs, hqx, hqy, hqz, k1, k2, k3⟩ := hg
    obtain ⟨its, rv, p, _⟩ := I.list hqx
    obtain ⟨its2, rv2, p2, _⟩ := I.list hqy
    obtain ⟨its3, rv3, p3, _⟩ := I.list hqz
    have l1 := rv.length
    have l2 := rv2.length
    have l3 := rv3.length
    have hh : X.A.in1.handled = none := I.ok.hd hc
    exact wpAny_pyNext_zipD3_end S (Draws.list hh i1 a n1 its.toArray) (Draws.list hh i2 b n2 its2.toArray) (Draws.list hh i3 c n3 its3.toArray) hz hTI hTO ⟨h1, p.isList⟩ ⟨h2, p2.isList⟩ ⟨h3, p3.isList⟩ (by simp; omega) (by simp; omega) (by simp; omega) (.inl (by simp; omega))
      fun h' tk hk => ⟨rfl, I.turnedL (t' := tk) (ch := [z, TI, TO, i1, i2, i3]) (fun c o hb q =>
        hk c o (fun q' => hb (by simp [q'])) (fun q' => hb (by simp [q'])) (fun q' => hb (by simp [q'])) (fun q' => hb (by simp [q'])) (fun q' => hb (by simp [q'])) q) hf⟩
  self := fun A i s Q E st h => wpAny_pyIter_zip st.1 h
def iZip3 (K : PySem.W.Frag) (ta : TA) : TI := fun σ H R => ta σ H fun vs H1 => ∃ a b c xs ys zs, vs = [.ref a, .ref b, .ref c] ∧ SqL K H1 a xs ∧ SqL K H1 b ys ∧ SqL K H1 c zs ∧ R (Itz3 K a b c) H1
theorem pi_zip3 {X : Cx} {e e2 e3 : Expr} {ta : TA} {p pos tpos : Pos} {elts : List Expr} {kk : Nat} (hg : Gl X "zip") (hm : X.mg "zip" = none) (ha : PA X [e, e2, e3] ta)
    (hs : starEach [e, e2, e3] X.env = (false, eval e X.env) :: starEach [e2, e3] X.env := by rfl) (hpl : (backTo pos (starEach [e2, e3] X.env)).any (·.1) = false := by rfl) :
    PI X (.Tuple elts kk tpos) (.Call (.Name "zip" p) [e, e2, e3] [] pos) (iZip3 X.K ta) := by
  refine ⟨fun pins s σ H R I h => ?_⟩
  refine Call_ (ld_blt I hg hm PyProof.Rows.boot_zip (PyProof.Rows.callWith_type1 (thn (ha.run pos pins s σ H _ I h) fun us s1 ⟨vs, H1, I1, r1, q1⟩ => ?_) hs hpl))
  obtain ⟨a, b, c, xs, ys, zs, ex, hqx, hqy, hqz, q⟩ := q1
  subst ex
  cases r1 with
  | cons r rr =>
  cases rr with
  | cons r' rr =>
  cases rr with
  | cons r'' rr =>
    cases rr
    cases r
    cases r'
    cases r''
    have fresh6 : ∀ e, e ∈ [s1.heap.objs.size + 5, s1.heap.objs.size + 3, s1.heap.objs.size + 4, s1.heap.objs.size, s1.heap.objs.size + 1, s1.heap.objs.size + 2] → FpOk X pins H1 e := fun e hem => by
      have hle : s1.heap.objs.size ≤ e := by
        simp only [List.mem_cons, List.not_mem_nil, or_false] at hem
        omega
      exact I1.fpOk hle (I1.hok.fresh hle)
    obtain ⟨its, rv, p1, _⟩ := I1.list hqx
    obtain ⟨its2, rv2, p2, _⟩ := I1.list hqy
    obtain ⟨its3, rv3, p3, _⟩ := I1.list hqz
    have la : a < s1.heap.objs.size := p1.lt
    have lb : b < s1.heap.objs.size := p2.lt
    have lc : c < s1.heap.objs.size := p3.lt
    refine zip_begins3 (begins_list a its.toArray) (begins_list b its2.toArray) (begins_list c its3.toArray) p1.isList p2.isList p3.isList fun h' hz hTI hTO g1 g2 g3 hsz hk => wpAny_pyIter_zip hz ?_
    have I2 : Inv X pins σ H1 { s1 with heap := h' } := I1.kept (t' := s1.toks) hk
    have S : ZipSep3 (s1.heap.objs.size + 5) (s1.heap.objs.size + 3) (s1.heap.objs.size + 4) s1.heap.objs.size (s1.heap.objs.size + 1) (s1.heap.objs.size + 2) [s1.heap.objs.size, a] [s1.heap.objs.size + 1, b] [s1.heap.objs.size + 2, c] := by
      have la : @LE.le Nat _ (a + 1) s1.heap.objs.size := la
      have lb : @LE.le Nat _ (b + 1) s1.heap.objs.size := lb
      have lc : @LE.le Nat _ (c + 1) s1.heap.objs.size := lc
      generalize s1.heap.objs.size = n at la lb lc
      constructor <;> (try simp only [List.mem_cons, List.not_mem_nil, or_false, not_or]) <;> (first | exact List.mem_cons_self | exact Or.inl trivial | (left; rfl) | (intro h; have h : @Eq Nat _ _ := h; omega) | (refine ⟨?_, ?_⟩ <;> (intro h; have h : @Eq Nat _ _ := h; omega)))
    have T3 := turn_zip3 (P := X.prog) (w := X.w) (K := X.K) (elts := elts) (kk := kk) (tpos := tpos) S (Nat.ne_of_lt la) (Nat.ne_of_lt (Nat.lt_succ_of_lt lb)) (Nat.ne_of_lt (Nat.lt_of_lt_of_le lc (Nat.le_add_right _ _)))
    exact ⟨s1.heap.objs.size + 5, [s1.heap.objs.size + 5, s1.heap.objs.size + 3, s1.heap.objs.size + 4, s1.heap.objs.size, s1.heap.objs.size + 1, s1.heap.objs.size + 2], _, _, H1, rfl, I2, T3, ⟨hz, hTI, ⟨_, _, _, hTO⟩, ⟨_, g1, rfl, rfl⟩, ⟨_, g2, rfl, rfl⟩, ⟨_, g3, rfl, rfl⟩⟩, fresh6, q⟩
end Sm
namespace Sm
open PySem L2
def b_law_draws : Env → Out := (sSeq (sAsg (eLst esNil) (setC 3)) (sSeq (sAsg (eSP (pFlat (b2 mulD (bVar 0) (bCall intD (aCons (b2 geD (bVar 0) (b2 powD (bC (.int 10)) (bC (.int 18)))) aNil))))) (setC 4)) (sSeq (sAsg (eSP (pFlat (b2 modD (bVar 0) (bC (.int 2305843009213693951))))) (setC 5)) (sSeq (sForW [0, 1, 6] (iR1 (aCons (b2 addD (bVar 1) (bC (.int 3))) aNil)) (setC 6) (sSeq (sAsg (eSP (pFlat (b2 modD (b2 addD (b2 addD (b2 addD (b2 mulD (bVar 5) (bVar 5)) (b2 mulD (bC (.int 48271)) (bVar 5))) (bVar 6)) (bC (.int 1))) (bC (.int 2305843009213693951))))) (setC 5)) (sIf (tAndM (bT (b2 gtD (bVar 6) (bC (.int 2)))) (bT (b2 gtD (bVar 4) (bC (.int 0))))) (sSeq (sApp 3 (eSP (pFlat (b2 modD (bVar 4) (bVar 2))))) (sAsg (eSP (pFlat (b2 fdivD (bVar 4) (bVar 2)))) (setC 4))) (sIf (bT (b2 gtD (bVar 6) (bC (.int 2)))) (sApp 3 (eSP (pFlat (b2 modD (b2 fdivD (bVar 5) (bC (.int 4096))) (bVar 2))))) sNx)))) (sRet (eMove 3))))))
def m_law_draws : List D → R T := runF 7 b_law_draws
def b_dragged : Env → Out := (sRet (eSP (pFlat (bCall max2D (aCons (b2 subD (bVar 1) (bVar 0)) (aCons (bCall min2D (aCons (b2 addD (bVar 1) (bVar 0)) (aCons (bVar 2) aNil))) aNil))))))
def m_dragged : List D → R T := runF 3 b_dragged
def b_law_whole : Env → Out := (sRet (eSP (pFlat (bAnd (bCall (isiD "int") (aCons (bVar 0) aNil)) (bNot (bCall (isiD "bool") (aCons (bVar 0) aNil)))))))
def m_law_whole : List D → R T := runF 1 b_law_whole
def b_is_train : Env → Out := (sRet (eSP (pFlat (bAnd (bChain leD leD (bC (.int 1)) (bCall lenD (aCons (bVar 0) aNil)) (bC (.int 12))) (b2 geD (bCall minLD (aCons (bVar 0) aNil)) (bC (.int 0)))))))
def m_is_train : List D → R T := runF 1 b_is_train
def b_is_stand : Env → Out := (sSeq (sIf (tNotM (bT (bEr (pCall 1 m_is_train (aCons (bVar 0) aNil))))) (sExc 1) sNx) (sSeq (sIf (bT (b2 neD (bCall lenD (aCons (bVar 2) aNil)) (bCall lenD (aCons (bVar 0) aNil)))) (sRet (eSP (pFlat (bC (.bl false))))) sNx) (sSeq (sAsg (eSP (pFlat (bVar 1))) (setC 3)) (sSeq (sForW [0, 1, 2, 4, 5] (iZp (esCons (eFrz 0) (esCons (eFrz 2) esNil))) (gTp 2 (gsCons (setC 4) (gsCons (setC 5) gsNil))) (sSeq (sIf (bT (b2 gtD (bCall absD (aCons (b2 subD (bVar 5) (bVar 3)) aNil)) (bVar 4))) (sRet (eSP (pFlat (bC (.bl false))))) sNx) (sAsg (eSP (pFlat (bVar 5))) (setC 3)))) (sRet (eSP (pFlat (bC (.bl true)))))))))
def m_is_stand : List D → R T := runF 6 b_is_stand
def b_law_due_kin : Env → Out := (sSeq (sAsg (eLst (esCons (eSP (pFlat (bC (.str "NoTrain")))) (esCons (eSP (pFlat (bC (.str "NoStand")))) (esCons (eSP (pFlat (bC (.str "NoPaper")))) (esCons (eSP (pFlat (bC (.str "NoBox")))) (esCons (eSP (pFlat (bC (.str "NoSwitch")))) (esCons (eSP (pFlat (bC (.str "NoPlace")))) (esCons (eSP (pFlat (bC (.str "NoTable")))) (esCons (eSP (pFlat (bC (.str "NoText")))) (esCons (eSP (pFlat (bC (.str "NoRow")))) esNil)))))))))) (setC 1)) (sSeq (sAsg (eSP (pOfF (f2 catF (bVar 1) (bOfF (fLst (aCons (bC (.str "NoPiece")) (aCons (bC (.str "NothingLeft")) (aCons (bC (.str "TooMany")) aNil)))))))) (setC 1)) (sRet (eSP (pOfF (f2 catF (bLc [2] (iLst (eFrz 1)) (setC 2) (fun _ => .ok true) (pFlat (b2 eqD (bVar 2) (bVar 0)))) (bOfF (fLst (aCons (bC (.bl true)) aNil)))))))))
def m_law_due_kin : List D → R T := runF 3 b_law_due_kin
def b_law_cell_at : Env → Out := (sSeq (sIf (bT (b2 ltD (bVar 1) (bCall lenD (aCons (bVar 0) aNil)))) (sRet (eSP (pFlat (b2 ixD (bVar 0) (bVar 1))))) sNx) (sRet (eSP (pFlat (bC (.int 0))))))
def m_law_cell_at : List D → R T := runF 2 b_law_cell_at
def b_law_train : Env → Out := (sSeq (sAsg (eSP (pCall 3 m_law_draws (aCons (bEr (pCall 2 m_law_cell_at (aCons (bVar 0) (aCons (bC (.int 0)) aNil)))) (aCons (bC (.int 6)) (aCons (bC (.int 1000)) aNil))))) (setC 1)) (sSeq (sAsg (eSP (pFlat (b2 ixD (bOfF (fLst (aCons (b2 addD (bC (.int 1)) (b2 modD (b2 ixD (bVar 1) (bC (.int 0))) (bC (.int 12)))) (aCons (b2 addD (bC (.int 1)) (b2 modD (b2 ixD (bVar 1) (bC (.int 0))) (bC (.int 4)))) (aCons (bC (.int 12)) aNil))))) (b2 modD (b2 ixD (bVar 1) (bC (.int 1))) (bC (.int 3)))))) (setC 2)) (sSeq (sAsg (eSP (pFlat (b2 ixD (bOfF (fLst (aCons (bC (.int 3)) (aCons (bC (.int 9)) (aCons (b2 powD (bC (.int 10)) (bC (.int 20))) (aCons (bC (.int 1)) aNil)))))) (b2 modD (b2 ixD (bVar 1) (bC (.int 2))) (bC (.int 4)))))) (setC 3)) (sSeq (sAsg (eSP (pCall 3 m_law_draws (aCons (bEr (pCall 2 m_law_cell_at (aCons (bVar 0) (aCons (bC (.int 1)) aNil)))) (aCons (bC (.int 36)) (aCons (b2 powD (bC (.int 10)) (bC (.int 9))) aNil))))) (setC 4)) (sSeq (sAsg (eLst esNil) (setC 5)) (sSeq (sAsg (eLst esNil) (setC 6)) (sSeq (sAsg (eSP (pFlat (b2 mulD (b2 subD (b2 ixD (bVar 1) (bC (.int 3))) (bC (.int 500))) (b2 ixD (bOfF (fLst (aCons (bC (.int 1)) (aCons (bC (.int 1)) (aCons (b2 powD (bC (.int 10)) (bC (.int 24))) aNil))))) (b2 modD (b2 ixD (bVar 1) (bC (.int 4))) (bC (.int 3))))))) (setC 7)) (sSeq (sAsg (eSP (pFlat (bVar 7))) (setC 8)) (sSeq (sForW [0, 1, 2, 9, 10, 11] (iR1 (aCons (bVar 2) aNil)) (setC 9) (sSeq (sAsg (eSP (pFlat (b2 modD (b2 mulD (b2 ixD (bVar 4) (bVar 9)) (b2 addD (b2 powD (bC (.int 10)) (bC (.int 12))) (bC (.int 1)))) (b2 addD (bVar 3) (bC (.int 1)))))) (setC 10)) (sSeq (sIf (bT (b2 gtD (b2 modD (b2 ixD (bVar 4) (bVar 9)) (bC (.int 5))) (bC (.int 0)))) (sAsg (eSP (pFlat (b2 modD (b2 ixD (bVar 4) (bVar 9)) (b2 addD (bVar 3) (bC (.int 1)))))) (setC 10)) sNx) (sSeq (sAsg (eSP (pFlat (b2 ixD (bOfF (fLst (aCons (b2 subD (bC (.int 0)) (bVar 10)) (aCons (bVar 10) (aCons (b2 subD (b2 modD (b2 mulD (b2 ixD (bVar 4) (b2 addD (bC (.int 12)) (bVar 9))) (b2 addD (b2 powD (bC (.int 10)) (bC (.int 12))) (bC (.int 1)))) (b2 addD (b2 mulD (bC (.int 2)) (bVar 10)) (bC (.int 1)))) (bVar 10)) aNil))))) (b2 modD (b2 ixD (bVar 4) (b2 addD (bC (.int 24)) (bVar 9))) (bC (.int 3)))))) (setC 11)) (sSeq (sApp 5 (eSP (pFlat (bVar 10)))) (sSeq (sAsg (eSP (pFlat (b2 addD (bVar 8) (bVar 11)))) (setC 8)) (sApp 6 (eSP (pFlat (bVar 8)))))))))) (sRet (eTup (esCons (eMove 5) (esCons (eSP (pFlat (bVar 7))) (esCons (eMove 6) esNil))))))))))))))
def m_law_train : List D → R T := runF 12 b_law_train
def b_need_stand : Env → Out := (sIf (tNotM (bT (bEr (pCall 3 m_is_stand (aCons (bVar 0) (aCons (bVar 1) (aCons (bVar 2) aNil))))))) (sExc 2) sNx)
def m_need_stand : List D → R T := runF 3 b_need_stand
def b_dragged_all : Env → Out := (sSeq (sAsg (eLst esNil) (setC 3)) (sSeq (sAsg (eSP (pFlat (bVar 2))) (setC 4)) (sSeq (sForW [0, 1, 2, 5, 6] (iZp (esCons (eFrz 0) (esCons (eFrz 1) esNil))) (gTp 2 (gsCons (setC 5) (gsCons (setC 6) gsNil))) (sSeq (sAsg (eSP (pFlat (bEr (pCall 3 m_dragged (aCons (bVar 5) (aCons (bVar 4) (aCons (bVar 6) aNil))))))) (setC 4)) (sApp 3 (eSP (pFlat (bVar 4)))))) (sRet (eMove 3)))))
def m_dragged_all : List D → R T := runF 7 b_dragged_all
def b_turned : Env → Out := (sSeq (sDrop (eSP (pFlat (bEr (pCall 3 m_need_stand (aCons (bVar 0) (aCons (bVar 1) (aCons (bVar 2) aNil)))))))) (sRet (eSP (pCall 3 m_dragged_all (aCons (bVar 0) (aCons (bVar 2) (aCons (bVar 3) aNil)))))))
def m_turned : List D → R T := runF 4 b_turned
def b_law_row : Env → Out := (sSeq (sAsg (eLst esNil) (setC 4)) (sSeq (sForW [0, 1, 5, 6, 7, 8] (iLst (eSP (pCall 3 m_law_draws (aCons (bVar 0) (aCons (bVar 1) (aCons (b2 powD (bC (.int 10)) (bC (.int 9))) aNil)))))) (setC 5) (sSeq (sAsg (eSP (pFlat (b2 subD (b2 modD (b2 fdivD (bVar 5) (bC (.int 8))) (bC (.int 13))) (bC (.int 6))))) (setC 6)) (sSeq (sAsg (eSP (pFlat (b2 subD (b2 modD (b2 mulD (bVar 5) (b2 addD (b2 powD (bC (.int 10)) (bC (.int 13))) (bC (.int 1)))) (b2 addD (b2 mulD (bC (.int 2)) (bVar 3)) (bC (.int 1)))) (bVar 3)))) (setC 7)) (sSeq (sAsg (eSP (pFlat (b2 ixD (bOfF (fLst (aCons (b2 subD (bC (.int 0)) (bVar 3)) (aCons (bVar 3) aNil)))) (b2 modD (b2 fdivD (bVar 5) (bC (.int 8))) (bC (.int 2)))))) (setC 8)) (sApp 4 (eSP (pFlat (b2 addD (bVar 2) (b2 ixD (bOfF (fLst (aCons (bVar 6) (aCons (bVar 7) (aCons (bVar 7) (aCons (bVar 8) (aCons (b2 subD (b2 modD (b2 fdivD (bVar 5) (bC (.int 8))) (b2 addD (b2 mulD (bC (.int 2)) (bVar 3)) (bC (.int 1)))) (bVar 3)) aNil))))))) (b2 modD (bVar 5) (bC (.int 5)))))))))))) (sRet (eMove 4))))
def m_law_row : List D → R T := runF 9 b_law_row
def b_law_right : Env → Out := (sSeq (sAsg (eSP (pFlat (bVar 2))) (setC 4)) (sSeq (sForW [2, 5, 6] (iR1 (aCons (bCall lenD (aCons (bVar 0) aNil)) aNil)) (setC 5) (sSeq (sAsg (eSP (pFlat (b2 subD (b2 ixD (bVar 3) (bVar 5)) (bVar 4)))) (setC 6)) (sSeq (sIf (tOrM (bT (b2 gtD (bVar 6) (b2 ixD (bVar 0) (bVar 5)))) (bT (b2 ltD (bVar 6) (b2 subD (bC (.int 0)) (b2 ixD (bVar 0) (bVar 5)))))) (sRet (eSP (pFlat (bC (.bl false))))) sNx) (sSeq (sIf (tAndM (bT (b2 neD (b2 ixD (bVar 3) (bVar 5)) (b2 ixD (bVar 1) (bVar 5)))) (bT (b2 neD (b2 mulD (bVar 6) (b2 ixD (bOfF (fLst (aCons (bC (.int 1)) (aCons (b1 negD (bC (.int 1))) aNil)))) (bCall intD (aCons (b2 ltD (b2 ixD (bVar 1) (bVar 5)) (b2 ixD (bVar 3) (bVar 5))) aNil)))) (b2 ixD (bVar 0) (bVar 5))))) (sRet (eSP (pFlat (bC (.bl false))))) sNx) (sAsg (eSP (pFlat (b2 ixD (bVar 3) (bVar 5)))) (setC 4)))))) (sRet (eSP (pFlat (bC (.bl true)))))))
def m_law_right : List D → R T := runF 7 b_law_right
def b_law_places : Env → Out := (sSeq (sIf (tOrM (tNotM (bT (bCall (isiD "list") (aCons (bVar 0) aNil)))) (bT (b2 neD (bCall lenD (aCons (bVar 0) aNil)) (bVar 1)))) (sRet (eSP (pFlat (bC (.bl false))))) sNx) (sRet (eSP (pFlat (b2 eqD (bLc [2] (iLst (eFrz 0)) (setC 2) (tNotM (bT (bEr (pCall 1 m_law_whole (aCons (bVar 2) aNil))))) (pFlat (bVar 2))) (bOfF (fLst aNil)))))))
def m_law_places : List D → R T := runF 3 b_law_places
def b_law_a_row : Env → Out := (sSeq (sAsg (eLst esNil) (setC 4)) (sSeq (sForW [0, 1, 5, 6, 7, 8] (iLst (eSP (pCall 3 m_law_draws (aCons (bVar 0) (aCons (bVar 1) (aCons (b2 powD (bC (.int 10)) (bC (.int 9))) aNil)))))) (setC 5) (sSeq (sAsg (eSP (pFlat (b2 subD (b2 modD (b2 fdivD (bVar 5) (bC (.int 8))) (bC (.int 13))) (bC (.int 6))))) (setC 6)) (sSeq (sAsg (eSP (pFlat (b2 subD (b2 modD (b2 mulD (bVar 5) (b2 addD (b2 powD (bC (.int 10)) (bC (.int 13))) (bC (.int 1)))) (b2 addD (b2 mulD (bC (.int 2)) (bVar 3)) (bC (.int 1)))) (bVar 3)))) (setC 7)) (sSeq (sAsg (eSP (pFlat (b2 ixD (bOfF (fLst (aCons (b2 subD (bC (.int 0)) (bVar 3)) (aCons (bVar 3) aNil)))) (b2 modD (b2 fdivD (bVar 5) (bC (.int 8))) (bC (.int 2)))))) (setC 8)) (sApp 4 (eSP (pFlat (b2 addD (bVar 2) (b2 ixD (bOfF (fLst (aCons (bVar 6) (aCons (bVar 7) (aCons (bVar 7) (aCons (bVar 8) (aCons (b2 subD (b2 modD (b2 fdivD (bVar 5) (bC (.int 8))) (b2 addD (b2 mulD (bC (.int 2)) (bVar 3)) (bC (.int 1)))) (bVar 3)) aNil))))))) (b2 modD (bVar 5) (bC (.int 5)))))))))))) (sRet (eMove 4))))
def m_law_a_row : List D → R T := runF 9 b_law_a_row
def b_law_all : Env → Out := (sSeq (sAsg (eLst esNil) (setC 3)) (sSeq (sAsg (eSP (pFlat (bVar 2))) (setC 4)) (sSeq (sForW [0, 1, 2, 5, 6] (iZp (esCons (eFrz 0) (esCons (eFrz 1) esNil))) (gTp 2 (gsCons (setC 5) (gsCons (setC 6) gsNil))) (sSeq (sIf (bT (b2 ltD (bVar 6) (b2 subD (bVar 4) (bVar 5)))) (sAsg (eSP (pFlat (b2 subD (bVar 4) (bVar 5)))) (setC 6)) sNx) (sSeq (sIf (bT (b2 gtD (bVar 6) (b2 addD (bVar 4) (bVar 5)))) (sAsg (eSP (pFlat (b2 addD (bVar 4) (bVar 5)))) (setC 6)) sNx) (sSeq (sApp 3 (eSP (pFlat (bVar 6)))) (sAsg (eSP (pFlat (bVar 6))) (setC 4)))))) (sRet (eMove 3)))))
def m_law_all : List D → R T := runF 7 b_law_all
def b_run_of : Env → Out := (sSeq (sDrop (eSP (pFlat (bEr (pCall 3 m_need_stand (aCons (bVar 0) (aCons (bVar 1) (aCons (bVar 2) aNil)))))))) (sSeq (sAsg (eLst esNil) (setC 4)) (sSeq (sAsg (eSP (pOfF (fCb listD (aCons (bVar 2) aNil)))) (setC 5)) (sSeq (sForW [1, 2, 3, 6] (iLst (eFrz 3)) (setC 6) (sSeq (sAsg (eSP (pCall 3 m_dragged_all (aCons (bVar 0) (aCons (bVar 5) (aCons (bVar 6) aNil))))) (setC 5)) (sApp 4 (eSP (pOfF (fCb listD (aCons (bVar 5) aNil))))))) (sRet (eMove 4))))))
def m_run_of : List D → R T := runF 7 b_run_of
def b_depths_of : Env → Out := (sSeq (sIf (tNotM (bT (bEr (pCall 1 m_is_train (aCons (bVar 0) aNil))))) (sExc 1) sNx) (sSeq (sAsg (eLst esNil) (setC 1)) (sSeq (sAsg (eSP (pFlat (bC (.int 0)))) (setC 2)) (sSeq (sForW [0, 3] (iLst (eFrz 0)) (setC 3) (sSeq (sAug 2 (fun i j => i + j) (bVar 3)) (sApp 1 (eSP (pFlat (bVar 2)))))) (sRet (eMove 1))))))
def m_depths_of : List D → R T := runF 4 b_depths_of
def b_law_own (rec : List D → R T) : Env → Out := (sSeq (sIf (bT (bCall (isiD "list") (aCons (bVar 0) aNil))) (sRet (eSP (pLc [3] (iLst (eFrz 0)) (setC 3) (fun _ => .ok true) (pCall 1 rec (aCons (bVar 3) aNil))))) sNx) (sSeq (sIf (bT (bCall (isiD "dict") (aCons (bVar 0) aNil))) sBad sNx) (sSeq (sIf (tAndM (bT (bCall (isiD "tuple") (aCons (bVar 0) aNil))) (tNotM (tAndM (bT (b2 gtD (bCall lenD (aCons (bVar 0) aNil)) (bC (.int 0)))) (bT (bCall (isiD "str") (aCons (b2 ixD (bVar 0) (bC (.int 0))) aNil)))))) (sRet (eSP (pTupOf (pLc [3] (iTp (eFrz 0)) (setC 3) (fun _ => .ok true) (pCall 1 rec (aCons (bVar 3) aNil)))))) sNx) (sRet (eSP (pFlat (bVar 0)))))))
def m_law_own : Nat → List D → R T
  | 0, _ => .bad
  | n + 1, ds => runF 4 (b_law_own (m_law_own n)) ds
def b_law_so_depths_of : Env → Out := (sSeq (sAsg (eLst (esCons (eSP (pCall 1 (m_law_own 8) (aCons (bVar 0) aNil))) esNil)) (setC 1)) (sSeq (sAsg (eSP (pCall 1 m_depths_of (aCons (b2 ixD (bVar 1) (bC (.int 0))) aNil))) (setC 2)) (sSeq (sIf (bT (bCall (isiD "list") (aCons (bVar 2) aNil))) (sApp 2 (eSP (pFlat (bC (.int 0))))) sNx) (sSeq (sAsg (eSP (pFlat (b2 eqD (bVar 1) (bOfF (fLst (aCons (bVar 0) aNil)))))) (setC 3)) (sSeq (sIf (bT (bCall (isiD "list") (aCons (bVar 2) aNil))) (sDrop (ePop 2)) sNx) (sRet (eIf (bT (bVar 3)) (eMove 2) (eSP (pFlat (bC .non))))))))))
def m_law_so_depths_of : List D → R T := runF 4 b_law_so_depths_of
def b_law_a_places : Env → Out := (sSeq (sIf (tOrM (tNotM (bT (bCall (isiD "list") (aCons (bVar 0) aNil)))) (bT (b2 neD (bCall lenD (aCons (bVar 0) aNil)) (bVar 1)))) (sRet (eSP (pFlat (bC (.bl false))))) sNx) (sRet (eSP (pFlat (b2 eqD (bLc [2] (iLst (eFrz 0)) (setC 2) (tNotM (bT (bEr (pCall 1 m_law_whole (aCons (bVar 2) aNil))))) (pFlat (bVar 2))) (bOfF (fLst aNil)))))))
def m_law_a_places : List D → R T := runF 3 b_law_a_places
def b_way_of : Env → Out := (sSeq (sAsg (eSP (pFlat (bC (.int 0)))) (setC 1)) (sSeq (sForW [2] (iR2 (aCons (bC (.int 1)) (aCons (bCall lenD (aCons (bVar 0) aNil)) aNil))) (setC 2) (sAug 1 (fun i j => i + j) (bCall absD (aCons (b2 subD (b2 ixD (bVar 0) (bVar 2)) (b2 ixD (bVar 0) (b2 subD (bVar 2) (bC (.int 1))))) aNil)))) (sRet (eSP (pFlat (bVar 1))))))
def m_way_of : List D → R T := runF 3 b_way_of
def b_law_so_way_of : Env → Out := (sSeq (sAsg (eLst (esCons (eSP (pCall 1 (m_law_own 8) (aCons (bVar 0) aNil))) esNil)) (setC 1)) (sSeq (sAsg (eSP (pFlat (bEr (pCall 1 m_way_of (aCons (b2 ixD (bVar 1) (bC (.int 0))) aNil))))) (setC 2)) (sSeq (sIf (bT (bCall (isiD "list") (aCons (bVar 2) aNil))) (sApp 2 (eSP (pFlat (bC (.int 0))))) sNx) (sSeq (sAsg (eSP (pFlat (b2 eqD (bVar 1) (bOfF (fLst (aCons (bVar 0) aNil)))))) (setC 3)) (sSeq (sIf (bT (bCall (isiD "list") (aCons (bVar 2) aNil))) (sDrop (ePop 2)) sNx) (sRet (eIf (bT (bVar 3)) (eMove 2) (eSP (pFlat (bC .non))))))))))
def m_law_so_way_of : List D → R T := runF 4 b_law_so_way_of
def b_hung_row : Env → Out := (sSeq (sAsg (eLst esNil) (setC 3)) (sSeq (sForW [2, 4] (iLst (eFrz 2)) (setC 4) (sSeq (sAsg (eSP (pFlat (bEr (pCall 3 m_dragged (aCons (bVar 0) (aCons (bVar 4) (aCons (bVar 1) aNil))))))) (setC 1)) (sApp 3 (eSP (pFlat (bVar 1)))))) (sRet (eMove 3))))
def m_hung_row : List D → R T := runF 5 b_hung_row
def b_law_alone : Env → Out := (sSeq (sAsg (eLst esNil) (setC 3)) (sSeq (sForW [2, 4] (iLst (eFrz 2)) (setC 4) (sSeq (sIf (bT (b2 ltD (bVar 1) (b2 subD (bVar 4) (bVar 0)))) (sAsg (eSP (pFlat (b2 subD (bVar 4) (bVar 0)))) (setC 1)) sNx) (sSeq (sIf (bT (b2 gtD (bVar 1) (b2 addD (bVar 4) (bVar 0)))) (sAsg (eSP (pFlat (b2 addD (bVar 4) (bVar 0)))) (setC 1)) sNx) (sApp 3 (eSP (pFlat (bVar 1))))))) (sRet (eMove 3))))
def m_law_alone : List D → R T := runF 5 b_law_alone
def b_once_each : Env → Out := (sSeq (sAsg (eLst esNil) (setC 1)) (sSeq (sForW [0, 2] (iLst (eFrz 0)) (setC 2) (sIf (tOrM (bT (b2 eqD (bVar 1) (bOfF (fLst aNil)))) (bT (b2 neD (b2 ixD (bVar 1) (b1 negD (bC (.int 1)))) (bVar 2)))) (sApp 1 (eSP (pFlat (bVar 2)))) sNx)) (sRet (eMove 1))))
def m_once_each : List D → R T := runF 3 b_once_each
def b_turning_of : Env → Out := (sSeq (sAsg (eLst esNil) (setC 1)) (sSeq (sForW [0, 2] (iLst (eSP (pCall 1 m_once_each (aCons (bVar 0) aNil)))) (setC 2) (sIf (tAndM (bT (b2 gtD (bCall lenD (aCons (bVar 1) aNil)) (bC (.int 1)))) (bT (b2 eqD (b2 ltD (b2 ixD (bVar 1) (b1 negD (bC (.int 2)))) (b2 ixD (bVar 1) (b1 negD (bC (.int 1))))) (b2 ltD (b2 ixD (bVar 1) (b1 negD (bC (.int 1)))) (bVar 2))))) (sSetI 1 (eSP (pFlat (bVar 2))) (b1 negD (bC (.int 1)))) (sApp 1 (eSP (pFlat (bVar 2)))))) (sRet (eMove 1))))
def m_turning_of : List D → R T := runF 3 b_turning_of
def b_law_so_turning_of : Env → Out := (sSeq (sAsg (eLst (esCons (eSP (pCall 1 (m_law_own 8) (aCons (bVar 0) aNil))) esNil)) (setC 1)) (sSeq (sAsg (eSP (pCall 1 m_turning_of (aCons (b2 ixD (bVar 1) (bC (.int 0))) aNil))) (setC 2)) (sSeq (sIf (bT (bCall (isiD "list") (aCons (bVar 2) aNil))) (sApp 2 (eSP (pFlat (bC (.int 0))))) sNx) (sSeq (sAsg (eSP (pFlat (b2 eqD (bVar 1) (bOfF (fLst (aCons (bVar 0) aNil)))))) (setC 3)) (sSeq (sIf (bT (bCall (isiD "list") (aCons (bVar 2) aNil))) (sDrop (ePop 2)) sNx) (sRet (eIf (bT (bVar 3)) (eMove 2) (eSP (pFlat (bC .non))))))))))
def m_law_so_turning_of : List D → R T := runF 4 b_law_so_turning_of
def b_last_time : Env → Out := (sSeq (sAsg (eSP (pFlat (bC (.int 0)))) (setC 2)) (sSeq (sForW [0, 3, 4] (iEn (esCons (eFrz 0) esNil)) (gTp 2 (gsCons (setC 3) (gsCons (setC 4) gsNil))) (sIf (bT (b2 eqD (bVar 4) (bVar 1))) (sAsg (eSP (pFlat (bVar 3))) (setC 2)) sNx)) (sRet (eSP (pFlat (bVar 2))))))
def m_last_time : List D → R T := runF 5 b_last_time
def b_standing_of : Env → Out := (sSeq (sAsg (eSP (pCall 1 m_turning_of (aCons (bVar 0) aNil))) (setC 1)) (sSeq (sIf (bT (b2 ltD (bCall lenD (aCons (bVar 1) aNil)) (bC (.int 2)))) (sRet (eMove 1)) sNx) (sSeq (sAsg (eSP (pFlat (bCall maxLD (aCons (bVar 1) aNil)))) (setC 2)) (sSeq (sAsg (eSP (pFlat (bCall minLD (aCons (bVar 1) aNil)))) (setC 3)) (sSeq (sAsg (eSP (pFlat (b2 gtD (bEr (pCall 2 m_last_time (aCons (bVar 1) (aCons (bVar 2) aNil)))) (bEr (pCall 2 m_last_time (aCons (bVar 1) (aCons (bVar 3) aNil))))))) (setC 4)) (sSeq (sAsg (eLst (esCons (eSP (pFlat (bVar 2))) esNil)) (setC 5)) (sSeq (sIf (bT (bVar 4)) (sAsg (eLst (esCons (eSP (pFlat (bVar 3))) esNil)) (setC 5)) sNx) (sSeq (whW [0, 2, 3, 6] (bT (b2 gtD (bCall lenD (aCons (bVar 1) aNil)) (bC (.int 0)))) (sSeq (sAsg (eSP (pFlat (bCall minLD (aCons (bVar 1) aNil)))) (setC 6)) (sSeq (sIf (bT (bVar 4)) (sAsg (eSP (pFlat (bCall maxLD (aCons (bVar 1) aNil)))) (setC 6)) sNx) (sSeq (sApp 5 (eSP (pFlat (bVar 6)))) (sSeq (sAsg (eSP (pOfF (fSl (bVar 1) (oSome (b2 addD (bEr (pCall 2 m_last_time (aCons (bVar 1) (aCons (bVar 6) aNil)))) (bC (.int 1)))) oNone))) (setC 1)) (sAsg (eSP (pFlat (bNot (bVar 4)))) (setC 4)))))) 1000000) (sRet (eMove 5))))))))))
def m_standing_of : List D → R T := runF 7 b_standing_of
def b_is_inner : Env → Out := (sSeq (sAsg (eSP (pFlat (bCall absD (aCons (b2 subD (b2 ixD (bVar 0) (bC (.int 2))) (b2 ixD (bVar 0) (bC (.int 1)))) aNil)))) (setC 1)) (sRet (eSP (pFlat (bAnd (b2 leD (bVar 1) (bCall absD (aCons (b2 subD (b2 ixD (bVar 0) (bC (.int 1))) (b2 ixD (bVar 0) (bC (.int 0)))) aNil))) (b2 leD (bVar 1) (bCall absD (aCons (b2 subD (b2 ixD (bVar 0) (bC (.int 3))) (b2 ixD (bVar 0) (bC (.int 2)))) aNil))))))))
def m_is_inner : List D → R T := runF 2 b_is_inner
def b_swings_of : Env → Out := (sSeq (sAsg (eLst esNil) (setC 1)) (sSeq (sAsg (eLst esNil) (setC 2)) (sSeq (sForW [0, 3, 4, 5, 6] (iLst (eSP (pCall 1 m_turning_of (aCons (bVar 0) aNil)))) (setC 3) (sSeq (sApp 2 (eSP (pFlat (bVar 3)))) (whW [0, 3, 4, 5, 6] (tAndM (bT (b2 gtD (bCall lenD (aCons (bVar 2) aNil)) (bC (.int 3)))) (bT (bEr (pCall 1 m_is_inner (aCons (bOfF (fSl (bVar 2) (oSome (b1 negD (bC (.int 4)))) oNone)) aNil))))) (sSeq (sAsg (ePop 2) (setC 4)) (sSeq (sAsg (ePop 2) (setC 5)) (sSeq (sAsg (ePop 2) (setC 6)) (sSeq (sApp 1 (eTup (esCons (eSP (pFlat (bCall min2D (aCons (bVar 6) (aCons (bVar 5) aNil))))) (esCons (eSP (pFlat (bCall max2D (aCons (bVar 6) (aCons (bVar 5) aNil))))) esNil)))) (sApp 2 (eSP (pFlat (bVar 4)))))))) 1000000))) (sRet (eTup (esCons (eMove 1) (esCons (eMove 2) esNil)))))))
def m_swings_of : List D → R T := runF 7 b_swings_of
def b_law_a_goal : Env → Out := (sSeq (sAsg (eLst esNil) (setC 2)) (sSeq (sAsg (eSP (pFlat (b2 subD (b2 modD (b2 ixD (bVar 1) (bC (.int 0))) (bC (.int 2001))) (bC (.int 1000))))) (setC 3)) (sSeq (sAsg (eSP (pFlat (bVar 3))) (setC 4)) (sSeq (sForW [0, 5, 6] (iEn (esCons (eFrz 0) esNil)) (gTp 2 (gsCons (setC 5) (gsCons (setC 6) gsNil))) (sSeq (sAsg (eSP (pFlat (b2 addD (bVar 4) (b2 ixD (bOfF (fLst (aCons (bVar 6) (aCons (b2 subD (bC (.int 0)) (bVar 6)) (aCons (b2 subD (b2 modD (b2 ixD (bVar 1) (b2 addD (bVar 5) (bC (.int 1)))) (b2 addD (b2 mulD (bC (.int 2)) (bVar 6)) (bC (.int 1)))) (bVar 6)) aNil))))) (b2 modD (b2 ixD (bVar 1) (b2 addD (bVar 5) (bC (.int 13)))) (bC (.int 3))))))) (setC 4)) (sApp 2 (eSP (pFlat (bVar 4)))))) (sRet (eTup (esCons (eSP (pFlat (bVar 3))) (esCons (eMove 2) esNil))))))))
def m_law_a_goal : List D → R T := runF 7 b_law_a_goal
def b_law_depth : Env → Out := (sRet (eSP (pFlat (bCall sumD (aCons (bOfF (fSl (bVar 0) oNone (oSome (b2 addD (bVar 1) (bC (.int 1)))))) aNil)))))
def m_law_depth : List D → R T := runF 2 b_law_depth
def b_law_place_of : Env → Out := (sSeq (sAsg (eMove 3) (gTp 2 (gsCons (setC 4) (gsCons (setC 5) gsNil)))) (sSeq (sIf (bT (b2 ltD (bVar 4) (bC (.int 0)))) (sRet (eSP (pFlat (bVar 1)))) sNx) (sRet (eSP (pFlat (b2 addD (b2 ixD (bVar 2) (bVar 4)) (b2 mulD (bVar 5) (bEr (pCall 2 m_law_depth (aCons (bVar 0) (aCons (bVar 4) aNil)))))))))))
def m_law_place_of : List D → R T := runF 6 b_law_place_of
def b_law_is_paper : Env → Out := (sSeq (sForW [6, 7, 8, 9, 10, 11, 12] (iR1 (aCons (bCall lenD (aCons (bVar 5) aNil)) aNil)) (setC 6) (sSeq (sAsg (eIx (eFrz 5) (bVar 6)) (gTp 2 (gsCons (setC 7) (gsCons (setC 8) gsNil)))) (sSeq (sIf (tOrM (bT (b2 ltD (bVar 7) (b1 negD (bC (.int 1))))) (tOrM (bT (b2 geD (bVar 7) (bCall lenD (aCons (bVar 0) aNil)))) (bT (b2 neD (b2 mulD (bVar 8) (bVar 8)) (bC (.int 1)))))) (sRet (eSP (pFlat (bC (.bl false))))) sNx) (sSeq (sAsg (eSP (pFlat (b2 ixD (b2 addD (bVar 4) (bOfF (fLst (aCons (bVar 3) aNil)))) (bVar 7)))) (setC 9)) (sIf (bT (b2 eqD (bVar 6) (bC (.int 0)))) (sSeq (sAsg (eSP (pFlat (b2 subD (bVar 9) (b2 ixD (b2 addD (bVar 2) (bOfF (fLst (aCons (bVar 1) aNil)))) (bVar 7))))) (setC 10)) (sIf (bT (b2 leD (b2 mulD (bVar 10) (bVar 8)) (bC (.int 0)))) (sRet (eSP (pFlat (bC (.bl false))))) sNx)) (sSeq (sAsg (eIx (eFrz 5) (b2 subD (bVar 6) (bC (.int 1)))) (setC 11)) (sSeq (sIf (bT (b2 eqD (b2 ixD (bVar 11) (bC (.int 1))) (bVar 8))) (sRet (eSP (pFlat (bC (.bl false))))) sNx) (sSeq (sAsg (eSP (pFlat (b2 addD (bEr (pCall 4 m_law_place_of (aCons (bVar 0) (aCons (bVar 3) (aCons (bVar 4) (aCons (bVar 11) aNil)))))) (b2 mulD (bVar 8) (bEr (pCall 2 m_law_depth (aCons (bVar 0) (aCons (bVar 7) aNil)))))))) (setC 12)) (sIf (tOrM (tAndM (bT (b2 eqD (bVar 8) (b1 negD (bC (.int 1))))) (bT (b2 leD (bVar 12) (bVar 9)))) (tAndM (bT (b2 eqD (bVar 8) (bC (.int 1)))) (bT (b2 geD (bVar 12) (bVar 9))))) (sRet (eSP (pFlat (bC (.bl false))))) sNx))))))))) (sRet (eSP (pFlat (bC (.bl true))))))
def m_law_is_paper : List D → R T := runF 13 b_law_is_paper
def b_is_must : Env → Out := (sRet (eSP (pFlat (bAnd (bChain leD ltD (bC (.int (-1))) (b2 ixD (bVar 1) (bC (.int 0))) (bCall lenD (aCons (bVar 0) aNil))) (b2 (inD false) (b2 ixD (bVar 1) (bC (.int 1))) (bTup (aCons (bC (.int 1)) (aCons (b1 negD (bC (.int 1))) aNil))))))))
def m_is_must : List D → R T := runF 2 b_is_must
def b_wanted : Env → Out := (sSeq (sIf (bT (b2 eqD (bVar 2) (bC (.int (-1))))) (sRet (eSP (pFlat (bVar 0)))) sNx) (sRet (eSP (pFlat (b2 ixD (bVar 1) (bVar 2))))))
def m_wanted : List D → R T := runF 3 b_wanted
def b_is_first : Env → Out := (sRet (eSP (pFlat (b2 gtD (b2 mulD (b2 ixD (bVar 4) (bC (.int 1))) (b2 subD (bEr (pCall 3 m_wanted (aCons (bVar 2) (aCons (bVar 3) (aCons (b2 ixD (bVar 4) (bC (.int 0))) aNil))))) (bEr (pCall 3 m_wanted (aCons (bVar 0) (aCons (bVar 1) (aCons (b2 ixD (bVar 4) (bC (.int 0))) aNil))))))) (bC (.int 0))))))
def m_is_first : List D → R T := runF 5 b_is_first
def b_depth_at : Env → Out := (sSeq (sIf (bT (b2 eqD (bVar 1) (bC (.int (-1))))) (sRet (eSP (pFlat (bC (.int 0))))) sNx) (sRet (eSP (pFlat (b2 ixD (bEr (pCall 1 m_depths_of (aCons (bVar 0) aNil))) (bVar 1))))))
def m_depth_at : List D → R T := runF 2 b_depth_at
def b_must_place : Env → Out := (sRet (eSP (pFlat (b2 addD (bEr (pCall 3 m_wanted (aCons (bVar 1) (aCons (bVar 2) (aCons (b2 ixD (bVar 3) (bC (.int 0))) aNil))))) (b2 mulD (b2 ixD (bVar 3) (bC (.int 1))) (bEr (pCall 2 m_depth_at (aCons (bVar 0) (aCons (b2 ixD (bVar 3) (bC (.int 0))) aNil)))))))))
def m_must_place : List D → R T := runF 4 b_must_place
def b_is_next : Env → Out := (sSeq (sIf (bT (b2 neD (b2 ixD (bVar 4) (bC (.int 1))) (b1 negD (b2 ixD (bVar 3) (bC (.int 1)))))) (sRet (eSP (pFlat (bC (.bl false))))) sNx) (sSeq (sAsg (eSP (pFlat (b2 subD (bEr (pCall 4 m_must_place (aCons (bVar 0) (aCons (bVar 1) (aCons (bVar 2) (aCons (bVar 3) aNil)))))) (b2 mulD (b2 ixD (bVar 3) (bC (.int 1))) (bEr (pCall 2 m_depth_at (aCons (bVar 0) (aCons (b2 ixD (bVar 4) (bC (.int 0))) aNil)))))))) (setC 5)) (sRet (eSP (pFlat (b2 gtD (b2 mulD (b2 ixD (bVar 3) (bC (.int 1))) (b2 subD (bVar 5) (bEr (pCall 3 m_wanted (aCons (bVar 1) (aCons (bVar 2) (aCons (b2 ixD (bVar 4) (bC (.int 0))) aNil))))))) (bC (.int 0))))))))
def m_is_next : List D → R T := runF 6 b_is_next
def b_holds : Env → Out := (sSeq (sForW [6, 7] (iEn (esCons (eFrz 5) esNil)) (gTp 2 (gsCons (setC 6) (gsCons (setC 7) gsNil))) (sSeq (sIf (tNotM (bT (bEr (pCall 2 m_is_must (aCons (bVar 0) (aCons (bVar 7) aNil)))))) (sRet (eSP (pFlat (bC (.bl false))))) sNx) (sSeq (sIf (tAndM (bT (b2 eqD (bVar 6) (bC (.int 0)))) (tNotM (bT (bEr (pCall 5 m_is_first (aCons (bVar 1) (aCons (bVar 2) (aCons (bVar 3) (aCons (bVar 4) (aCons (bVar 7) aNil)))))))))) (sRet (eSP (pFlat (bC (.bl false))))) sNx) (sIf (tAndM (bT (b2 gtD (bVar 6) (bC (.int 0)))) (tNotM (bT (bEr (pCall 5 m_is_next (aCons (bVar 0) (aCons (bVar 3) (aCons (bVar 4) (aCons (b2 ixD (bVar 5) (b2 subD (bVar 6) (bC (.int 1)))) (aCons (bVar 7) aNil)))))))))) (sRet (eSP (pFlat (bC (.bl false))))) sNx)))) (sRet (eSP (pFlat (bC (.bl true))))))
def m_holds : List D → R T := runF 8 b_holds
def b_is_paper : Env → Out := (sSeq (sDrop (eSP (pFlat (bEr (pCall 3 m_need_stand (aCons (bVar 0) (aCons (bVar 1) (aCons (bVar 2) aNil)))))))) (sSeq (sDrop (eSP (pFlat (bEr (pCall 3 m_need_stand (aCons (bVar 0) (aCons (bVar 3) (aCons (bVar 4) aNil)))))))) (sRet (eSP (pFlat (bEr (pCall 6 m_holds (aCons (bVar 0) (aCons (bVar 1) (aCons (bVar 2) (aCons (bVar 3) (aCons (bVar 4) (aCons (bVar 5) aNil)))))))))))))
def m_is_paper : List D → R T := runF 6 b_is_paper
def b_weight_of : Env → Out := (sSeq (sIf (tNotM (bT (bEr (pCall 6 m_is_paper (aCons (bVar 0) (aCons (bVar 1) (aCons (bVar 2) (aCons (bVar 3) (aCons (bVar 4) (aCons (bVar 5) aNil)))))))))) (sExc 3) sNx) (sRet (eSP (pFlat (bEr (pCall 1 m_way_of (aCons (b2 addD (bOfF (fLst (aCons (bVar 1) aNil))) (bLc [6] (iLst (eFrz 5)) (setC 6) (fun _ => .ok true) (pFlat (bEr (pCall 4 m_must_place (aCons (bVar 0) (aCons (bVar 3) (aCons (bVar 4) (aCons (bVar 6) aNil))))))))) aNil)))))))
def m_weight_of : List D → R T := runF 7 b_weight_of
def b_law_a_far_k14 : Env → Out := (sSeq (sAsg (eSP (pFlat (bC (.int 0)))) (setC 1)) (sSeq (sForW [2, 3] (iR2 (aCons (bC (.int 1)) (aCons (bCall lenD (aCons (bVar 0) aNil)) aNil))) (setC 2) (sSeq (sAsg (eSP (pFlat (b2 subD (b2 ixD (bVar 0) (bVar 2)) (b2 ixD (bVar 0) (b2 subD (bVar 2) (bC (.int 1))))))) (setC 3)) (sAsg (eSP (pFlat (b2 addD (bVar 1) (b2 mulD (bVar 3) (b2 ixD (bOfF (fLst (aCons (bC (.int 1)) (aCons (b1 negD (bC (.int 1))) aNil)))) (bCall intD (aCons (b2 ltD (bVar 3) (bC (.int 0))) aNil))))))) (setC 1)))) (sRet (eSP (pFlat (bVar 1))))))
def m_law_a_far_k14 : List D → R T := runF 4 b_law_a_far_k14
def b_law_errand : Env → Out := (sSeq (sAsg (eSP (pCall 1 m_law_train (aCons (bVar 0) aNil))) (gTp 3 (gsCons (setC 1) (gsCons (setC 2) (gsCons (setC 3) gsNil))))) (sSeq (sAsg (eSP (pCall 3 m_law_draws (aCons (bEr (pCall 2 m_law_cell_at (aCons (bVar 0) (aCons (bC (.int 3)) aNil)))) (aCons (bC (.int 6)) (aCons (b2 powD (bC (.int 10)) (bC (.int 9))) aNil))))) (setC 4)) (sSeq (sAsg (eSP (pCall 4 m_law_a_row (aCons (bEr (pCall 2 m_law_cell_at (aCons (bVar 0) (aCons (bC (.int 2)) aNil)))) (aCons (b2 modD (b2 ixD (bVar 4) (bC (.int 0))) (b2 ixD (bOfF (fLst (aCons (bC (.int 4)) (aCons (bC (.int 13)) (aCons (bC (.int 40)) aNil))))) (b2 modD (b2 ixD (bVar 4) (bC (.int 1))) (bC (.int 3))))) (aCons (bVar 2) (aCons (b2 addD (b2 mulD (bC (.int 2)) (bCall sumD (aCons (bVar 1) aNil))) (bC (.int 3))) aNil)))))) (setC 5)) (sSeq (sAsg (eSP (pFlat (bVar 2))) (setC 6)) (sSeq (sAsg (eFrz 3) (setC 7)) (sSeq (sForW [0, 8] (iLst (eFrz 5)) (setC 8) (sSeq (sAsg (eSP (pFlat (bVar 8))) (setC 6)) (sAsg (eSP (pCall 3 m_law_all (aCons (bVar 1) (aCons (bVar 7) (aCons (bVar 8) aNil))))) (setC 7)))) (sRet (eTup (esCons (eMove 1) (esCons (eSP (pFlat (bVar 2))) (esCons (eMove 3) (esCons (eMove 5) (esCons (eSP (pFlat (bVar 6))) (esCons (eMove 7) (esCons (eMove 4) esNil)))))))))))))))
def m_law_errand : List D → R T := runF 9 b_law_errand
def b_side_of : Env → Out := (sRet (eSP (pFlat (b2 subD (bCall intD (aCons (b2 gtD (bVar 1) (bVar 0)) aNil)) (bCall intD (aCons (b2 ltD (bVar 1) (bVar 0)) aNil))))))
def m_side_of : List D → R T := runF 2 b_side_of
def b_first_must : Env → Out := (sSeq (sForW [4] (iR3 (aCons (b2 subD (bCall lenD (aCons (bVar 1) aNil)) (bC (.int 1))) (aCons (b1 negD (bC (.int 1))) (aCons (b1 negD (bC (.int 1))) aNil)))) (setC 4) (sIf (bT (b2 neD (b2 ixD (bVar 1) (bVar 4)) (b2 ixD (bVar 3) (bVar 4)))) (sRet (eTup (esCons (eSP (pFlat (bVar 4))) (esCons (eSP (pFlat (bEr (pCall 2 m_side_of (aCons (b2 ixD (bVar 1) (bVar 4)) (aCons (b2 ixD (bVar 3) (bVar 4)) aNil)))))) esNil)))) sNx)) (sSeq (sIf (bT (b2 neD (bVar 0) (bVar 2))) (sRet (eTup (esCons (eSP (pFlat (bC (.int (-1))))) (esCons (eSP (pFlat (bEr (pCall 2 m_side_of (aCons (bVar 0) (aCons (bVar 2) aNil)))))) esNil)))) sNx) (sRet (eSP (pFlat (bC .non))))))
def m_first_must : List D → R T := runF 5 b_first_must
def b_paper_of : Env → Out := (sSeq (sDrop (eSP (pFlat (bEr (pCall 3 m_need_stand (aCons (bVar 0) (aCons (bVar 1) (aCons (bVar 2) aNil)))))))) (sSeq (sDrop (eSP (pFlat (bEr (pCall 3 m_need_stand (aCons (bVar 0) (aCons (bVar 3) (aCons (bVar 4) aNil)))))))) (sSeq (sAsg (eSP (pCall 4 m_first_must (aCons (bVar 1) (aCons (bVar 2) (aCons (bVar 3) (aCons (bVar 4) aNil)))))) (setC 5)) (sSeq (sIf (bT (b2 isND (bVar 5) (bC .non))) (sRet (eLst esNil)) sNx) (sSeq (sAsg (eLst (esCons (eFrz 5) esNil)) (setC 6)) (sSeq (sForW [1, 2, 5, 7, 8] (iR3 (aCons (b2 subD (b2 ixD (bVar 5) (bC (.int 0))) (bC (.int 1))) (aCons (b2 subD (bC (.int (-1))) (bC (.int 1))) (aCons (b1 negD (bC (.int 1))) aNil)))) (setC 7) (sSeq (sAsg (eTup (esCons (eSP (pFlat (bVar 7))) (esCons (eSP (pFlat (b1 negD (b2 ixD (b2 ixD (bVar 6) (b1 negD (bC (.int 1)))) (bC (.int 1)))))) esNil))) (setC 8)) (sIf (bT (bEr (pCall 5 m_is_next (aCons (bVar 0) (aCons (bVar 3) (aCons (bVar 4) (aCons (b2 ixD (bVar 6) (b1 negD (bC (.int 1)))) (aCons (bVar 8) aNil)))))))) (sApp 6 (eMove 8)) sNx))) (sRet (eMove 6))))))))
def m_paper_of : List D → R T := runF 9 b_paper_of
def b_least_row : Env → Out := (sRet (eSP (pLc [5] (iLst (eCallU 5 m_paper_of (esCons (eFrz 0) (esCons (eSP (pFlat (bVar 1))) (esCons (eFrz 2) (esCons (eSP (pFlat (bVar 3))) (esCons (eFrz 4) esNil))))))) (setC 5) (fun _ => .ok true) (pFlat (bEr (pCall 4 m_must_place (aCons (bVar 0) (aCons (bVar 3) (aCons (bVar 4) (aCons (bVar 5) aNil))))))))))
def m_least_row : List D → R T := runF 6 b_least_row
def b_least_of : Env → Out := (sRet (eSP (pFlat (bEr (pCall 1 m_way_of (aCons (b2 addD (bOfF (fLst (aCons (bVar 1) aNil))) (bEr (pCall 5 m_least_row (aCons (bVar 0) (aCons (bVar 1) (aCons (bVar 2) (aCons (bVar 3) (aCons (bVar 4) aNil)))))))) aNil))))))
def m_least_of : List D → R T := runF 5 b_least_of
def b_law_ways : Env → Out := (sSeq (sAsg (eLst esNil) (setC 3)) (sSeq (sForW [4, 5] (iR1 (aCons (bCall lenD (aCons (bVar 0) aNil)) aNil)) (setC 4) (sSeq (sAsg (eSP (pOfF (f2 catF (bOfF (fLst (aCons (b2 ixD (bVar 0) (bVar 4)) aNil))) (bLc [6] (iLst (eSl (eFrz 1) oNone (oSome (bVar 2)))) (setC 6) (fun _ => .ok true) (pFlat (b2 ixD (bVar 6) (bVar 4))))))) (setC 5)) (sApp 3 (eSP (pFlat (bCall sumD (aCons (bLc [6, 7] (iZp (esCons (eFrz 5) (esCons (eSP (pOfF (fSl (bVar 5) (oSome (bC (.int 1))) oNone))) esNil))) (gTp 2 (gsCons (setC 6) (gsCons (setC 7) gsNil))) (fun _ => .ok true) (pFlat (bCall absD (aCons (b2 subD (bVar 7) (bVar 6)) aNil)))) aNil))))))) (sRet (eMove 3))))
def m_law_ways : List D → R T := runF 8 b_law_ways
end Sm
/-! TyA: mirrors are run by simp. -/
namespace Sm
open PySem L2
@[simp] theorem get_z {α : Type} (c : α) (l : List α) : (c :: l)[0]? = some c := (rfl)
@[simp] theorem get_s {α : Type} (c : α) (l : List α) (n : Nat) : (c :: l)[n + 1]? = l[n]? := (rfl)
@[simp] theorem start_1 (N : Nat) (a : D) : startE (N + 1) [a] = .at (.dat a) :: List.replicate N .no := (rfl)
@[simp] theorem start_2 (N : Nat) (a b : D) : startE (N + 2) [a, b] = .at (.dat a) :: .at (.dat b) :: List.replicate N .no := (rfl)
@[simp] theorem start_3 (N : Nat) (a b c : D) : startE (N + 3) [a, b, c] = .at (.dat a) :: .at (.dat b) :: .at (.dat c) :: List.replicate N .no := (rfl)
@[simp] theorem start_4 (N : Nat) (a b c d : D) : startE (N + 4) [a, b, c, d] = .at (.dat a) :: .at (.dat b) :: .at (.dat c) :: .at (.dat d) :: List.replicate N .no := (rfl)
@[simp] theorem start_5 (N : Nat) (a b c d e : D) : startE (N + 5) [a, b, c, d, e] = .at (.dat a) :: .at (.dat b) :: .at (.dat c) :: .at (.dat d) :: .at (.dat e) :: List.replicate N .no := (rfl)
@[simp] theorem start_6 (N : Nat) (a b c d e f : D) : startE (N + 6) [a, b, c, d, e, f] = .at (.dat a) :: .at (.dat b) :: .at (.dat c) :: .at (.dat d) :: .at (.dat e) :: .at (.dat f) :: List.replicate N .no := (rfl)
/-! ### the steps of a run, each stuck until its argument is known -/
def Out.thn : Out → (Env → Out) → Out
  | .nx ρ, b => b ρ
  | o, _ => o
def R.nxt : R Env → Out
  | .ok ρ => .nx ρ
  | _ => .bad
def O2.asg : O2 → (T → Env → R Env) → Out
  | .ok τ ρ, gm => (gm τ ρ).nxt
  | .exc k ρ, _ => .exc k ρ
  | .bad, _ => .bad
def R.toE : R T → Env → O2
  | .ok t, ρ => .ok t ρ
  | .exc c, ρ => .exc c ρ
  | .bad, _ => .bad
def R.two {α β γ : Type} : R α → R β → (α → β → R γ) → R γ
  | .ok a, y, f => y.bind fun b => f a b
  | .exc c, _, _ => .exc c
  | .bad, _, _ => .bad
def R.ite {α : Type} : R Bool → α → α → (Nat → α) → α → α
  | .ok true, a, _, _, _ => a
  | .ok false, _, b, _, _ => b
  | .exc k, _, _, e, _ => e k
  | .bad, _, _, _, z => z
def O2.ret : O2 → Out
  | .ok τ _ => .rt τ
  | .exc k ρ => .exc k ρ
  | .bad => .bad
def O2.drp : O2 → Out
  | .ok _ ρ => .nx ρ
  | .exc k ρ => .exc k ρ
  | .bad => .bad
def Out.res : Out → R T
  | .rt τ => .ok τ
  | .nx _ => .ok (.dat .non)
  | .exc c _ => .exc c
  | _ => .bad
def O3.for_ : O3 → List Nat → (T → Env → R Env) → (Env → Out) → Out
  | .ok ts ρ, ws, gm, b => forW ws gm b ts ρ
  | .exc k ρ, _, _, _ => .exc k ρ
  | .bad, _, _, _ => .bad
def R.fl (x : R D) : R T := x.bind fun d => if d.flat = true then .ok (.dat d) else .bad
def R.tl (x : R (List D)) : R T := x.bind fun ds => if ds.all D.flat = true then .ok (.lst (ds.map T.dat)) else .bad
def R.ofF (x : R (List D)) : R D := x.bind fun ds => .ok (.lst ds)
def R.len (x : R (List D)) : R (List D) := x.bind fun ds => if ds.length ≤ sizeLine then .ok ds else .bad
section
variable {α β γ : Type} {ρ ρ1 : Env} {a b : Env → Out} {t τ : T} {k : Nat} {gm : T → Env → R Env}
@[simp] theorem thn_nx : (Out.nx ρ).thn b = b ρ := (rfl)
@[simp] theorem thn_rt : (Out.rt τ).thn b = .rt τ := (rfl)
@[simp] theorem thn_bk : (Out.bk ρ).thn b = .bk ρ := (rfl)
@[simp] theorem thn_ct : (Out.ct ρ).thn b = .ct ρ := (rfl)
@[simp] theorem thn_exc : (Out.exc k ρ).thn b = .exc k ρ := (rfl)
@[simp] theorem thn_bad : Out.bad.thn b = .bad := (rfl)
@[simp] theorem nxt_ok : (R.ok ρ : R Env).nxt = .nx ρ := (rfl)
@[simp] theorem nxt_bad : (R.bad : R Env).nxt = .bad := (rfl)
@[simp] theorem asg_ok : (O2.ok τ ρ).asg gm = (gm τ ρ).nxt := (rfl)
@[simp] theorem asg_exc : (O2.exc k ρ).asg gm = .exc k ρ := (rfl)
@[simp] theorem asg_bad : O2.bad.asg gm = .bad := (rfl)
@[simp] theorem toE_ok : (R.ok t).toE ρ = .ok t ρ := (rfl)
@[simp] theorem toE_exc : (R.exc k : R T).toE ρ = .exc k ρ := (rfl)
@[simp] theorem toE_bad : (R.bad : R T).toE ρ = .bad := (rfl)
@[simp] theorem bind_ok {x : α} {f : α → R β} : (R.ok x).bind f = f x := (rfl)
@[simp] theorem bind_exc {f : α → R β} : (R.exc k : R α).bind f = .exc k := (rfl)
@[simp] theorem bind_bad {f : α → R β} : (R.bad : R α).bind f = .bad := (rfl)
@[simp] theorem two_ok {x : α} {y : β} {f : α → β → R γ} : (R.ok x).two (.ok y) f = f x y := (rfl)
@[simp] theorem two_exc {y : R β} {f : α → β → R γ} : (R.exc k : R α).two y f = .exc k := (rfl)
@[simp] theorem two_bad {y : R β} {f : α → β → R γ} : (R.bad : R α).two y f = .bad := (rfl)
@[simp] theorem two_exc2 {x : α} {f : α → β → R γ} : (R.ok x).two (.exc k) f = .exc k := (rfl)
@[simp] theorem two_bad2 {x : α} {f : α → β → R γ} : (R.ok x).two .bad f = .bad := (rfl)
@[simp] theorem ite_t {x y : α} {e : Nat → α} {z : α} : R.ite (.ok true) x y e z = x := (rfl)
@[simp] theorem ite_f {x y : α} {e : Nat → α} {z : α} : R.ite (.ok false) x y e z = y := (rfl)
@[simp] theorem ite_x {x y : α} {e : Nat → α} {z : α} : R.ite (.exc k) x y e z = e k := (rfl)
@[simp] theorem ite_b {x y : α} {e : Nat → α} {z : α} : R.ite .bad x y e z = z := (rfl)
@[simp] theorem ret_ok : (O2.ok τ ρ).ret = .rt τ := (rfl)
@[simp] theorem ret_exc : (O2.exc k ρ).ret = .exc k ρ := (rfl)
@[simp] theorem drp_ok : (O2.ok τ ρ).drp = .nx ρ := (rfl)
@[simp] theorem drp_exc : (O2.exc k ρ).drp = .exc k ρ := (rfl)
@[simp] theorem res_rt : (Out.rt τ).res = .ok τ := (rfl)
@[simp] theorem res_nx : (Out.nx ρ).res = .ok (.dat .non) := (rfl)
@[simp] theorem res_exc : (Out.exc k ρ).res = .exc k := (rfl)
@[simp] theorem for_ok {ts : List T} {ws : List Nat} : (O3.ok ts ρ).for_ ws gm b = forW ws gm b ts ρ := (rfl)
/-- a test that is not known -/
theorem ite_d {c : Prop} [Decidable c] {x y : α} {e : Nat → α} {z : α} : R.ite (.ok (decide c)) x y e z = if c then x else y := by
  by_cases h : c <;> simp [h, R.ite]
theorem thn_ite {c : Prop} [Decidable c] {x y : Out} : (if c then x else y).thn b = if c then x.thn b else y.thn b := by
  by_cases h : c <;> simp [h]
end
section
variable {ρ ρ1 : Env} {a b : Env → Out} {mc nc : Env → R Bool} {ma mb mz : Env → R D} {me mf : Env → O2} {mp : Env → R T} {mr : Env → R (List D)} {ms : Env → O3} {gm : T → Env → R Env} {mq : Env → R (List T)} {ml mh : Env → R (Option Int)}
theorem runF_ev {N : Nat} {ds : List D} : runF N a ds = (a (startE N ds)).res := by
  unfold runF Out.res
  cases a (startE N ds) <;> rfl
@[simp] theorem sSeq_ev : sSeq a b ρ = (a ρ).thn b := by
  unfold sSeq Out.thn
  cases a ρ <;> rfl
@[simp] theorem sAsg_ev : sAsg me gm ρ = (me ρ).asg gm := by
  unfold sAsg O2.asg R.nxt
  cases me ρ with
  | ok t r => cases gm t r <;> rfl
  | exc k r => rfl
  | bad => rfl
@[simp] theorem eSP_ev : eSP mp ρ = (mp ρ).toE ρ := by
  unfold eSP R.toE
  cases mp ρ <;> rfl
@[simp] theorem b2_ev {f : D → D → R D} : b2 f ma mb ρ = (ma ρ).two (mb ρ) f := by
  unfold b2 R.two R.bind
  cases ma ρ <;> rfl
@[simp] theorem f2_ev {f : D → D → R (List D)} : f2 f ma mb ρ = (ma ρ).two (mb ρ) f := by
  unfold f2 R.two R.bind
  cases ma ρ <;> rfl
@[simp] theorem b1_ev {f : D → R D} : b1 f ma ρ = (ma ρ).bind f := (rfl)
@[simp] theorem bC_ev {d : D} : bC d ρ = .ok d := (rfl)
@[simp] theorem bCall_ev {f : List D → R D} : bCall f mr ρ = (mr ρ).bind f := (rfl)
@[simp] theorem fCb_ev {f : List D → R (List D)} : fCb f mr ρ = (mr ρ).bind f := (rfl)
@[simp] theorem aNil_ev : aNil ρ = .ok [] := (rfl)
@[simp] theorem aCons_ev : aCons ma mr ρ = (ma ρ).two (mr ρ) fun x r => .ok (x :: r) := by
  unfold aCons R.two R.bind
  cases ma ρ <;> rfl
@[simp] theorem pFlat_ev : pFlat ma ρ = (ma ρ).fl := (rfl)
@[simp] theorem pOfF_ev : pOfF mr ρ = (mr ρ).tl := (rfl)
@[simp] theorem bOfF_ev : bOfF mr ρ = (mr ρ).ofF := (rfl)
@[simp] theorem bEr_ev : bEr mp ρ = (mp ρ).bind fun t => .ok t.er := (rfl)
@[simp] theorem fLst_ev : fLst mr ρ = (mr ρ).len := (rfl)
@[simp] theorem fl_int {i : Int} : (R.ok (D.int i)).fl = .ok (.dat (.int i)) := (rfl)
@[simp] theorem fl_bl {i : Bool} : (R.ok (D.bl i)).fl = .ok (.dat (.bl i)) := (rfl)
@[simp] theorem fl_str {i : Str} : (R.ok (D.str i)).fl = .ok (.dat (.str i)) := (rfl)
@[simp] theorem fl_non : (R.ok D.non).fl = .ok (.dat .non) := (rfl)
@[simp] theorem fl_exc {k : Nat} : (R.exc k : R D).fl = .exc k := (rfl)
@[simp] theorem fl_bad : (R.bad : R D).fl = .bad := (rfl)
@[simp] theorem tl_exc {k : Nat} : (R.exc k : R (List D)).tl = .exc k := (rfl)
theorem tl_ok {ds : List D} (h : ds.all D.flat = true) : (R.ok ds).tl = .ok (.lst (ds.map T.dat)) := if_pos h
theorem len_ok {ds : List D} (h : ds.length ≤ 1000000) : (R.ok ds).len = .ok ds := if_pos (Nat.le_trans h (by rw [sizeLine_eq]; decide))
@[simp] theorem len_0 : (R.ok ([] : List D)).len = .ok [] := len_ok (by simp)
@[simp] theorem len_1 {a : D} : (R.ok [a]).len = .ok [a] := len_ok (by simp)
@[simp] theorem len_2 {a b : D} : (R.ok [a, b]).len = .ok [a, b] := len_ok (by simp)
@[simp] theorem len_3 {a b c : D} : (R.ok [a, b, c]).len = .ok [a, b, c] := len_ok (by simp)
@[simp] theorem len_4 {a b c d : D} : (R.ok [a, b, c, d]).len = .ok [a, b, c, d] := len_ok (by simp)
@[simp] theorem len_5 {a b c d e : D} : (R.ok [a, b, c, d, e]).len = .ok [a, b, c, d, e] := len_ok (by simp)
@[simp] theorem len_6 {a b c d e f : D} : (R.ok [a, b, c, d, e, f]).len = .ok [a, b, c, d, e, f] := len_ok (by simp)
@[simp] theorem len_exc {k : Nat} : (R.exc k : R (List D)).len = .exc k := (rfl)
@[simp] theorem ofF_exc {k : Nat} : (R.exc k : R (List D)).ofF = .exc k := (rfl)
theorem ofF_ok {ds : List D} : (R.ok ds).ofF = .ok (.lst ds) := (rfl)
@[simp] theorem ofF_0 : (R.ok ([] : List D)).ofF = .ok (.lst []) := (rfl)
@[simp] theorem ofF_1 {a : D} : (R.ok [a]).ofF = .ok (.lst [a]) := (rfl)
@[simp] theorem ofF_2 {a b : D} : (R.ok [a, b]).ofF = .ok (.lst [a, b]) := (rfl)
@[simp] theorem ofF_3 {a b c : D} : (R.ok [a, b, c]).ofF = .ok (.lst [a, b, c]) := (rfl)
@[simp] theorem ofF_4 {a b c d : D} : (R.ok [a, b, c, d]).ofF = .ok (.lst [a, b, c, d]) := (rfl)
@[simp] theorem ofF_5 {a b c d e : D} : (R.ok [a, b, c, d, e]).ofF = .ok (.lst [a, b, c, d, e]) := (rfl)
@[simp] theorem ofF_6 {a b c d e f : D} : (R.ok [a, b, c, d, e, f]).ofF = .ok (.lst [a, b, c, d, e, f]) := (rfl)
@[simp] theorem bTup_ev : bTup mr ρ = (mr ρ).bind fun ds => if ds.length ≤ sizeLine then .ok (.tup ds) else .bad := (rfl)
@[simp] theorem bT_ev : bT ma ρ = (ma ρ).bind D.toB := (rfl)
@[simp] theorem tNotM_ev : tNotM mc ρ = (mc ρ).bind fun a => .ok (!a) := (rfl)
@[simp] theorem tAndM_ev : tAndM mc nc ρ = R.ite (mc ρ) (nc ρ) (.ok false) (fun k => .exc k) .bad := by
  unfold tAndM R.ite R.bind
  cases mc ρ with
  | ok b => cases b <;> rfl
  | exc k => rfl
  | bad => rfl
@[simp] theorem tOrM_ev : tOrM mc nc ρ = R.ite (mc ρ) (.ok true) (nc ρ) (fun k => .exc k) .bad := by
  unfold tOrM R.ite R.bind
  cases mc ρ with
  | ok b => cases b <;> rfl
  | exc k => rfl
  | bad => rfl
@[simp] theorem bAnd_ev : bAnd ma mb ρ = R.ite ((ma ρ).bind D.toB) (mb ρ) (.ok (.bl false)) (fun k => .exc k) .bad := by
  unfold bAnd bT R.ite
  cases (ma ρ).bind D.toB with
  | ok b => cases b <;> rfl
  | exc k => rfl
  | bad => rfl
@[simp] theorem bOr_ev : bOr ma mb ρ = R.ite ((ma ρ).bind D.toB) (.ok (.bl true)) (mb ρ) (fun k => .exc k) .bad := by
  unfold bOr bT R.ite
  cases (ma ρ).bind D.toB with
  | ok b => cases b <;> rfl
  | exc k => rfl
  | bad => rfl
@[simp] theorem bNot_ev : bNot ma ρ = ((ma ρ).bind D.toB).bind fun a => .ok (.bl (!a)) := (rfl)
@[simp] theorem bIf_ev : bIf mc ma mb ρ = R.ite (mc ρ) (ma ρ) (mb ρ) (fun k => .exc k) .bad := by
  unfold bIf R.ite R.bind
  cases mc ρ with
  | ok b => cases b <;> rfl
  | exc k => rfl
  | bad => rfl
@[simp] theorem eIf_ev : eIf mc me mf ρ = R.ite (mc ρ) (me ρ) (mf ρ) (fun k => .exc k ρ) .bad := by
  unfold eIf R.ite
  cases mc ρ with
  | ok b => cases b <;> rfl
  | exc k => rfl
  | bad => rfl
@[simp] theorem sIf_ev : sIf mc a b ρ = R.ite (mc ρ) (a ρ) (b ρ) (fun k => .exc k ρ) .bad := by
  unfold sIf R.ite
  cases mc ρ with
  | ok b => cases b <;> rfl
  | exc k => rfl
  | bad => rfl
@[simp] theorem sRet_ev : sRet me ρ = (me ρ).ret := by
  unfold sRet O2.ret
  cases me ρ <;> rfl
@[simp] theorem sDrop_ev : sDrop me ρ = (me ρ).drp := by
  unfold sDrop O2.drp
  cases me ρ <;> rfl
@[simp] theorem sRetN_ev : sRetN ρ = .rt (.dat .non) := (rfl)
@[simp] theorem sNx_ev : sNx ρ = .nx ρ := (rfl)
@[simp] theorem sBk_ev : sBk ρ = .bk ρ := (rfl)
@[simp] theorem sCt_ev : sCt ρ = .ct ρ := (rfl)
@[simp] theorem sExc_ev {k : Nat} : sExc k ρ = .exc k ρ := (rfl)
@[simp] theorem sForW_ev {ws : List Nat} : sForW ws ms gm b ρ = (ms ρ).for_ ws gm b := by
  unfold sForW O3.for_
  cases ms ρ <;> rfl
@[simp] theorem toB_bl {x : Bool} : D.toB (.bl x) = .ok x := (rfl)
@[simp] theorem oNone_ev : oNone ρ = .ok none := (rfl)
@[simp] theorem oSome_ev : oSome ma ρ = (ma ρ).bind D.toI := (rfl)
@[simp] theorem toI_int {i : Int} : D.toI (.int i) = .ok (some i) := (rfl)
@[simp] theorem fSl_ev : fSl ma ml mh ρ = (ma ρ).bind fun a => (ml ρ).two (mh ρ) fun lo hi => slD a lo hi := by
  unfold fSl R.two R.bind
  cases ma ρ with
  | ok a => cases ml ρ <;> rfl
  | exc k => rfl
  | bad => rfl
@[simp] theorem psNil_ev : psNil ρ = .ok [] := (rfl)
@[simp] theorem psCons_ev : psCons mp mq ρ = (mp ρ).two (mq ρ) fun x r => .ok (x :: r) := by
  unfold psCons R.two R.bind
  cases mp ρ <;> rfl
@[simp] theorem pLst_ev : pLst mq ρ = (mq ρ).bind fun ts => if ts.length ≤ sizeLine then .ok (.lst ts) else .bad := (rfl)
@[simp] theorem pTup_ev : pTup mq ρ = (mq ρ).bind fun ts => if ts.length ≤ sizeLine then .ok (.tup ts) else .bad := (rfl)
@[simp] theorem pU_ev : pU ma ρ = (ma ρ).bind fun d => .ok (.dat d) := (rfl)
def R.call (mf : List D → R T) (n : Nat) (ds : List D) : R T := if ds.length = n then (mf ds).bind fun τ => if τ.clean = true then .ok τ else .bad else .bad
@[simp] theorem pCall_ev {n : Nat} {mf : List D → R T} : pCall n mf mr ρ = (mr ρ).bind (R.call mf n) := (rfl)
theorem call_ok {mf : List D → R T} {n : Nat} {ds : List D} {τ : T} (h : mf ds = .ok τ) (hn : ds.length = n) (hc : τ.clean = true) : R.call mf n ds = .ok τ := by
  unfold R.call
  rw [if_pos hn, h]
  simp [hc]
theorem call_exc {mf : List D → R T} {n : Nat} {ds : List D} {k : Nat} (h : mf ds = .exc k) (hn : ds.length = n) : R.call mf n ds = .exc k := by
  unfold R.call
  rw [if_pos hn, h]
  rfl
/-! trees in order -/
def O2.esc : O2 → (Env → O3) → O3
  | .ok t ρ, mr => (match mr ρ with
    | .ok ts ρ2 => .ok (t :: ts) ρ2
    | .exc c ρ2 => .exc c ρ2
    | .bad => .bad)
  | .exc c ρ, _ => .exc c ρ
  | .bad, _ => .bad
def O3.push : O3 → T → O3
  | .ok ts ρ, t => .ok (t :: ts) ρ
  | .exc c ρ, _ => .exc c ρ
  | .bad, _ => .bad
@[simp] theorem esNil_ev : esNil ρ = .ok [] ρ := (rfl)
@[simp] theorem esCons_ev : esCons me ms ρ = (me ρ).esc ms := by
  unfold esCons O2.esc
  cases me ρ with
  | ok t r => cases ms r <;> rfl
  | exc c r => rfl
  | bad => rfl
@[simp] theorem esc_ok {t : T} : (O2.ok t ρ).esc ms = (ms ρ).push t := by
  show (match ms ρ with
    | .ok ts ρ2 => O3.ok (t :: ts) ρ2
    | .exc c ρ2 => .exc c ρ2
    | .bad => .bad) = _
  cases ms ρ <;> rfl
@[simp] theorem push_ok {t : T} {ts : List T} : (O3.ok ts ρ).push t = .ok (t :: ts) ρ := (rfl)
def O3.mk (k : List T → T) : O3 → O2
  | .ok ts ρ => if ts.length ≤ sizeLine then .ok (k ts) ρ else .bad
  | .exc c ρ => .exc c ρ
  | .bad => .bad
@[simp] theorem eLst_ev : eLst ms ρ = (ms ρ).mk T.lst := by
  unfold eLst O3.mk
  cases ms ρ <;> rfl
@[simp] theorem eTup_ev : eTup ms ρ = (ms ρ).mk T.tup := by
  unfold eTup O3.mk
  cases ms ρ <;> rfl
theorem mk_ok {k : List T → T} {ts : List T} (h : ts.length ≤ 1000) : (O3.ok ts ρ).mk k = .ok (k ts) ρ := by
  unfold O3.mk
  exact if_pos (Nat.le_trans h (by rw [sizeLine_eq]; decide))
@[simp] theorem mk_nil {k : List T → T} : (O3.ok [] ρ).mk k = .ok (k []) ρ := mk_ok (Nat.zero_le _)
@[simp] theorem mk_c1 {k : List T → T} {t1 : T} : (O3.ok [t1] ρ).mk k = .ok (k [t1]) ρ := mk_ok (by simp)
@[simp] theorem mk_c2 {k : List T → T} {t1 t2 : T} : (O3.ok [t1, t2] ρ).mk k = .ok (k [t1, t2]) ρ := mk_ok (by simp)
@[simp] theorem mk_c3 {k : List T → T} {t1 t2 t3 : T} : (O3.ok [t1, t2, t3] ρ).mk k = .ok (k [t1, t2, t3]) ρ := mk_ok (by simp)
@[simp] theorem mk_c4 {k : List T → T} {t1 t2 t3 t4 : T} : (O3.ok [t1, t2, t3, t4] ρ).mk k = .ok (k [t1, t2, t3, t4]) ρ := mk_ok (by simp)
/-! targets of several names -/
@[simp] theorem gTp_tup {n : Nat} {m : List T → Env → R Env} {ts : List T} : gTp n m (.tup ts) ρ = if ts.length = n then m ts ρ else .bad := (rfl)
@[simp] theorem gTp_dat {n : Nat} {m : List T → Env → R Env} {ds : List D} : gTp n m (.dat (.tup ds)) ρ = if ds.length = n then m (ds.map T.dat) ρ else .bad := (rfl)
@[simp] theorem gsNil_ev : gsNil [] ρ = .ok ρ := (rfl)
@[simp] theorem gsCons_ev {m1 : T → Env → R Env} {m2 : List T → Env → R Env} {t : T} {r : List T} : gsCons m1 m2 (t :: r) ρ = (m1 t ρ).bind fun ρ1 => m2 r ρ1 := (rfl)
/-! names -/
def cellD : Option Cell → R D
  | some (.at t) => .ok t.er
  | some (.lent t) => .ok t.er
  | _ => .bad
@[simp] theorem bVar_ev {i : Nat} : bVar i ρ = cellD ρ[i]? := by
  unfold bVar cellD
  split <;> simp_all
@[simp] theorem cellD_at {t : T} : cellD (some (.at t)) = .ok t.er := (rfl)
@[simp] theorem cellD_lent {t : T} : cellD (some (.lent t)) = .ok t.er := (rfl)
def cellU : Option Cell → R D
  | some (.at (.dat d)) => .ok d
  | some (.lent (.dat d)) => .ok d
  | _ => .bad
@[simp] theorem uVar_ev {i : Nat} : uVar i ρ = cellU ρ[i]? := by
  unfold uVar cellU
  split <;> simp_all
@[simp] theorem cellU_at {d : D} : cellU (some (.at (.dat d))) = .ok d := (rfl)
def cellS : Option Cell → R Env → R Env
  | some (.lent _), _ => .bad
  | some _, r => r
  | none, _ => .bad
@[simp] theorem setC_ev {i : Nat} {τ : T} : setC i τ ρ = cellS ρ[i]? (.ok (ρ.set i (.at τ))) := by
  unfold setC cellS
  split <;> simp_all
@[simp] theorem cellS_no {r : R Env} : cellS (some .no) r = r := (rfl)
@[simp] theorem cellS_at {t : T} {r : R Env} : cellS (some (.at t)) r = r := (rfl)
def cellM : Option Cell → (T → O2) → O2
  | some (.at t), f => f t
  | _, _ => .bad
@[simp] theorem eMove_ev {i : Nat} : eMove i ρ = cellM ρ[i]? fun t => .ok t (ρ.set i .no) := by
  unfold eMove cellM
  split <;> simp_all
@[simp] theorem eFrz_ev {i : Nat} : eFrz i ρ = cellM ρ[i]? fun t => .ok (.dat t.er) (ρ.set i (.at (.dat t.er))) := by
  unfold eFrz cellM
  split <;> simp_all
@[simp] theorem cellM_at {t : T} {f : T → O2} : cellM (some (.at t)) f = f t := (rfl)
end
/-! ### operators -/
@[simp] theorem addD_ii (i j : Int) : addD (.int i) (.int j) = .ok (.int (i + j)) := (rfl)
@[simp] theorem subD_ii (i j : Int) : subD (.int i) (.int j) = .ok (.int (i - j)) := (rfl)
@[simp] theorem negD_i (i : Int) : negD (.int i) = .ok (.int (-i)) := (rfl)
theorem mulD_ii {i j : Int} (h : (-18446744073709551616 < i ∧ i < 18446744073709551616) ∨ (-18446744073709551616 < j ∧ j < 18446744073709551616)) : mulD (.int i) (.int j) = .ok (.int (i * j)) := if_pos h
theorem modD_ii {i j : Int} (h : 0 < j) : modD (.int i) (.int j) = .ok (.int (i % j)) := if_pos h
theorem fdivD_ii {i j : Int} (h : 0 < j ∧ j < 1073741824) : fdivD (.int i) (.int j) = .ok (.int (i / j)) := if_pos h
@[simp] theorem cmpD_ii (p : Int → Int → Bool) (i j : Int) : cmpD p (.int i) (.int j) = .ok (.bl (p i j)) := (rfl)
@[simp] theorem absD_i (i : Int) : absD [.int i] = .ok (.int (if i < 0 then -i else i)) := (rfl)
@[simp] theorem max2D_ii (i j : Int) : max2D [.int i, .int j] = .ok (.int (if j > i then j else i)) := (rfl)
@[simp] theorem min2D_ii (i j : Int) : min2D [.int i, .int j] = .ok (.int (if j < i then j else i)) := (rfl)
@[simp] theorem intD_i (i : Int) : intD [.int i] = .ok (.int i) := (rfl)
@[simp] theorem intD_b (b : Bool) : intD [.bl b] = .ok (.int (if b then 1 else 0)) := (rfl)
/-! == by data -/
structure Sh (n : Nat) (d : D) : Prop where
  lay : d.py.canLay0 = true
  dep : d.py.depth ≤ n
theorem Sh.mono {n m : Nat} {d : D} (h : Sh n d) (k : n ≤ m) : Sh m d := ⟨h.lay, Nat.le_trans h.dep k⟩
@[simp] theorem sh_int (n : Nat) (i : Int) : Sh n (.int i) := ⟨rfl, Nat.zero_le _⟩
@[simp] theorem sh_bl (n : Nat) (i : Bool) : Sh n (.bl i) := ⟨rfl, Nat.zero_le _⟩
@[simp] theorem sh_non (n : Nat) : Sh n .non := ⟨rfl, Nat.zero_le _⟩
theorem sh_all {n : Nat} : ∀ {ds : List D}, (∀ d ∈ ds, Sh n d) → PyData.canLayAll0 (D.pys ds) = true ∧ PyData.depthAll (D.pys ds) ≤ n
  | [], _ => ⟨rfl, Nat.zero_le _⟩
  | d :: ds, h => by
    obtain ⟨a, b⟩ := sh_all (ds := ds) fun x hx => h x (List.mem_cons_of_mem _ hx)
    have c := h d List.mem_cons_self
    exact ⟨by simp [D.pys, PyData.canLayAll0, a, c.lay], by
      have := c.dep
      simp only [D.pys, PyData.depthAll]
      omega⟩
theorem sh_lst {n : Nat} {ds : List D} (h : ∀ d ∈ ds, Sh n d) : Sh (n + 1) (.lst ds) := by
  obtain ⟨a, b⟩ := sh_all h
  exact ⟨by simpa [D.py, PyData.canLay0] using a, by simpa [D.py, PyData.depth] using b⟩
theorem sh_tup {n : Nat} {ds : List D} (h : ∀ d ∈ ds, Sh n d) : Sh (n + 1) (.tup ds) := by
  obtain ⟨a, b⟩ := sh_all h
  exact ⟨by simpa [D.py, PyData.canLay0] using a, by simpa [D.py, PyData.depth] using b⟩
def D.eqv (a b : D) : Bool := PyData.eqv a.py b.py
theorem shaped_of {d : D} (h : Sh 64 d) : SeqAt.shaped d.py = true := by
  unfold SeqAt.shaped
  rw [h.lay, decide_eq_true h.dep]
  rfl
theorem eqD_sh {a b : D} (ha : Sh 64 a) (hb : Sh 64 b) : eqD a b = .ok (.bl (a.eqv b)) := if_pos ⟨shaped_of ha, shaped_of hb⟩
theorem neD_sh {a b : D} (ha : Sh 64 a) (hb : Sh 64 b) : neD a b = .ok (.bl (!a.eqv b)) := if_pos ⟨shaped_of ha, shaped_of hb⟩
theorem eqv_ii (i j : Int) : D.eqv (.int i) (.int j) = decide (i = j) := by
  unfold D.eqv
  simp only [D.py, PyData.eqv]
  by_cases h : i = j <;> simp [h]
@[simp] theorem eqD_ii (i j : Int) : eqD (.int i) (.int j) = .ok (.bl (decide (i = j))) := by rw [eqD_sh (sh_int _ _) (sh_int _ _), eqv_ii]
@[simp] theorem neD_ii (i j : Int) : neD (.int i) (.int j) = .ok (.bl (!decide (i = j))) := by rw [neD_sh (sh_int _ _) (sh_int _ _), eqv_ii]
theorem eqvAll_map {α β : Type} {e : α → D} {e' : β → D} {q : α → β → Prop} [∀ a b, Decidable (q a b)] (h : ∀ a b, D.eqv (e a) (e' b) = decide (q a b)) : ∀ (xs : List α) (ys : List β), PyData.eqvAll (D.pys (xs.map e)) (D.pys (ys.map e')) = true ↔ xs.length = ys.length ∧ ∀ (i : Nat) a b, xs[i]? = some a → ys[i]? = some b → q a b
  | [], [] => by simp [D.pys, PyData.eqvAll]
  | [], y :: ys => by simp [D.pys, PyData.eqvAll]
  | x :: xs, [] => by simp [D.pys, PyData.eqvAll]
  | x :: xs, y :: ys => by
    have ih := eqvAll_map h xs ys
    have hx : PyData.eqv (e x).py (e' y).py = decide (q x y) := h x y
    simp only [List.map_cons, D.pys, PyData.eqvAll, Bool.and_eq_true, ih, hx, decide_eq_true_eq, List.length_cons, Nat.add_right_cancel_iff]
    constructor
    · rintro ⟨h1, h2, h3⟩
      refine ⟨h2, fun i a b ea eb => ?_⟩
      cases i with
      | zero => simp at ea eb; subst ea eb; exact h1
      | succ i => exact h3 i a b (by simpa using ea) (by simpa using eb)
    · rintro ⟨h2, h3⟩
      exact ⟨h3 0 x y rfl rfl, h2, fun i a b ea eb => h3 (i + 1) a b (by simpa using ea) (by simpa using eb)⟩
theorem eqv_lists {α : Type} [DecidableEq α] {e : α → D} (h : ∀ a b, D.eqv (e a) (e b) = decide (a = b)) (xs ys : List α) : D.eqv (.lst (xs.map e)) (.lst (ys.map e)) = decide (xs = ys) := by
  have q := eqvAll_map (q := fun a b => a = b) h xs ys
  unfold D.eqv
  simp only [D.py, PyData.eqv]
  rw [Bool.eq_iff_iff, q, decide_eq_true_eq]
  constructor
  · rintro ⟨hl, hi⟩
    apply List.ext_getElem hl
    intro i h1 h2
    exact hi i _ _ (List.getElem?_eq_getElem h1) (List.getElem?_eq_getElem h2)
  · rintro rfl
    exact ⟨rfl, fun i a b ea eb => Option.some.inj (ea.symm.trans eb)⟩
theorem powD_ii {i j : Int} (h : 0 ≤ j ∧ j ≤ 1000 ∧ -1000000 < i ∧ i < 1000000) : powD (.int i) (.int j) = .ok (.int (i ^ j.toNat)) := if_pos h
@[simp] theorem pow_10_6 : powD (.int 10) (.int 6) = .ok (.int 1000000) := (powD_ii (by decide)).trans rfl
@[simp] theorem pow_10_9 : powD (.int 10) (.int 9) = .ok (.int 1000000000) := (powD_ii (by decide)).trans rfl
@[simp] theorem pow_10_12 : powD (.int 10) (.int 12) = .ok (.int 1000000000000) := (powD_ii (by decide)).trans rfl
@[simp] theorem pow_10_13 : powD (.int 10) (.int 13) = .ok (.int 10000000000000) := (powD_ii (by decide)).trans rfl
@[simp] theorem pow_10_18 : powD (.int 10) (.int 18) = .ok (.int 1000000000000000000) := (powD_ii (by decide)).trans rfl
@[simp] theorem pow_10_20 : powD (.int 10) (.int 20) = .ok (.int 100000000000000000000) := (powD_ii (by decide)).trans rfl
@[simp] theorem pow_10_21 : powD (.int 10) (.int 21) = .ok (.int 1000000000000000000000) := (powD_ii (by decide)).trans rfl
@[simp] theorem pow_10_24 : powD (.int 10) (.int 24) = .ok (.int 1000000000000000000000000) := (powD_ii (by decide)).trans rfl
@[simp] theorem pow_10_30 : powD (.int 10) (.int 30) = .ok (.int 1000000000000000000000000000000) := (powD_ii (by decide)).trans rfl
@[simp] theorem pow_10_39 : powD (.int 10) (.int 39) = .ok (.int 1000000000000000000000000000000000000000) := (powD_ii (by decide)).trans rfl
@[simp] theorem pow_10_40 : powD (.int 10) (.int 40) = .ok (.int 10000000000000000000000000000000000000000) := (powD_ii (by decide)).trans rfl
@[simp] theorem pow_10_58 : powD (.int 10) (.int 58) = .ok (.int 10000000000000000000000000000000000000000000000000000000000) := (powD_ii (by decide)).trans rfl
end Sm
/-! TyB: lists of ints, names' lists, loops. -/
namespace Sm
open PySem L2
/-! ### lists of ints -/
def iL (ns : List Int) : D := .lst (ns.map D.int)
def iD (n : Int) : T := .dat (.int n)
def iT (ns : List Int) : T := .lst (ns.map iD)
@[simp] theorem T.ers_nil : T.ers [] = [] := (rfl)
@[simp] theorem T.ers_cons (t : T) (ts : List T) : T.ers (t :: ts) = t.er :: T.ers ts := (rfl)
@[simp] theorem T.er_dat (d : D) : (T.dat d).er = d := (rfl)
theorem T.er_lst (ts : List T) : (T.lst ts).er = .lst (T.ers ts) := (rfl)
@[simp] theorem T.er_tup (ts : List T) : (T.tup ts).er = .tup (T.ers ts) := (rfl)
@[simp] theorem ers_ints (ns : List Int) : T.ers (ns.map iD) = ns.map D.int := by
  rw [T.ers_map, List.map_map]
  rfl
@[simp] theorem iT_er (ns : List Int) : (iT ns).er = iL ns := by
  unfold iT iL
  rw [T.er_lst, ers_ints]
theorem cleans_map {α : Type} (f : α → T) (h : ∀ a, (f a).clean = true) : ∀ l : List α, T.cleans (l.map f) = true
  | [] => rfl
  | a :: l => by simp [T.cleans, h a, cleans_map f h l]
@[simp] theorem clean_dat (d : D) : (T.dat d).clean = d.flat := (rfl)
@[simp] theorem clean_lst (ts : List T) : (T.lst ts).clean = T.cleans ts := (rfl)
@[simp] theorem clean_tup (ts : List T) : (T.tup ts).clean = T.cleans ts := (rfl)
@[simp] theorem cleans_nil : T.cleans [] = true := (rfl)
@[simp] theorem cleans_cons (t : T) (ts : List T) : T.cleans (t :: ts) = (t.clean && T.cleans ts) := (rfl)
@[simp] theorem iT_clean (ns : List Int) : (iT ns).clean = true := cleans_map iD (fun _ => rfl) ns
@[simp] theorem iD_clean (n : Int) : (iD n).clean = true := (rfl)
@[simp] theorem iD_er (n : Int) : (iD n).er = .int n := (rfl)
@[simp] theorem flat_non : D.flat .non = true := (rfl)
@[simp] theorem flat_bl (b : Bool) : D.flat (.bl b) = true := (rfl)
@[simp] theorem flat_int (i : Int) : D.flat (.int i) = true := (rfl)
@[simp] theorem flat_str (s : Str) : D.flat (.str s) = true := (rfl)
@[simp] theorem flat_lst (s : List D) : D.flat (.lst s) = false := (rfl)
@[simp] theorem flat_tup (s : List D) : D.flat (.tup s) = false := (rfl)
@[simp] theorem flats_ints (ns : List Int) : (ns.map D.int).all D.flat = true := by
  rw [List.all_map]
  simp [Function.comp_def]
theorem dats_ints (ns : List Int) : T.lst ((ns.map D.int).map T.dat) = iT ns := by
  unfold iT
  rw [List.map_map]
  rfl
@[simp] theorem ints_ints (ns : List Int) : D.ints (ns.map D.int) = some ns := by
  induction ns with
  | nil => rfl
  | cons n r ih => simp [D.ints, ih]
@[simp] theorem iL_litems (ns : List Int) : (iL ns).litems = some (ns.map D.int) := (rfl)
@[simp] theorem iL_items (ns : List Int) : (iL ns).items = some (ns.map D.int) := (rfl)
@[simp] theorem scr_litems (ns : List Int) : (D.scr ns).litems = some (ns.map D.int) := (rfl)
@[simp] theorem scr_items (ns : List Int) : (D.scr ns).items = some (ns.map D.int) := (rfl)
@[simp] theorem sh_iL (n : Nat) (ns : List Int) : Sh (n + 1) (iL ns) := sh_lst fun d hd => by
  obtain ⟨i, _, rfl⟩ := List.mem_map.mp hd
  exact sh_int _ _
theorem eqv_iL (xs ys : List Int) : D.eqv (iL xs) (iL ys) = decide (xs = ys) := eqv_lists eqv_ii xs ys
@[simp] theorem eqD_iL (xs ys : List Int) : eqD (iL xs) (iL ys) = .ok (.bl (decide (xs = ys))) := by rw [eqD_sh (sh_iL _ _) (sh_iL _ _), eqv_iL]
@[simp] theorem neD_iL (xs ys : List Int) : neD (iL xs) (iL ys) = .ok (.bl (!decide (xs = ys))) := by rw [neD_sh (sh_iL _ _) (sh_iL _ _), eqv_iL]
theorem iL_nil : iL [] = .lst [] := (rfl)
@[simp] theorem eqD_iL_nil (xs : List Int) : eqD (iL xs) (.lst []) = .ok (.bl (decide (xs = []))) := by rw [← iL_nil, eqD_iL]
@[simp] theorem neD_iL_nil (xs : List Int) : neD (iL xs) (.lst []) = .ok (.bl (!decide (xs = []))) := by rw [← iL_nil, neD_iL]
@[simp] theorem tl_ints (ns : List Int) : (R.ok (ns.map D.int)).tl = .ok (iT ns) := by
  rw [tl_ok (flats_ints ns), dats_ints]
@[simp] theorem ofF_ints (ns : List Int) : (R.ok (ns.map D.int)).ofF = .ok (iL ns) := (rfl)
theorem lst_0 : T.lst [] = iT [] := (rfl)
@[simp] theorem tl_0 : (R.ok ([] : List D)).tl = .ok (iT []) := (rfl)
@[simp] theorem lst_1 (a : Int) : T.lst [.dat (.int a)] = iT [a] := (rfl)
@[simp] theorem lst_2 (a b : Int) : T.lst [.dat (.int a), .dat (.int b)] = iT [a, b] := (rfl)
@[simp] theorem lst_3 (a b c : Int) : T.lst [.dat (.int a), .dat (.int b), .dat (.int c)] = iT [a, b, c] := (rfl)
/-! slices -/
def cut {α : Type} (xs : List α) (lo hi : Option Int) : List α := (xs.drop (HT.sIx xs.length 0 lo)).take (HT.sIx xs.length xs.length hi - HT.sIx xs.length 0 lo)
theorem cutD_map {α : Type} (f : α → D) (xs : List α) (lo hi : Option Int) : cutD (xs.map f) lo hi = (cut xs lo hi).map f := by
  unfold cutD cut
  rw [List.length_map, List.map_take, List.map_drop]
@[simp] theorem slD_iL (ns : List Int) (lo hi : Option Int) : slD (iL ns) lo hi = .ok ((cut ns lo hi).map D.int) := by
  show R.ok (cutD (ns.map D.int) lo hi) = _
  rw [cutD_map]
@[simp] theorem slD_scr (ns : List Int) (lo hi : Option Int) : slD (.scr ns) lo hi = .ok ((cut ns lo hi).map D.int) := by
  show R.ok (cutD (ns.map D.int) lo hi) = _
  rw [cutD_map]
theorem sIx_nat' {n k : Nat} {i : Int} (h : 0 ≤ i) : HT.sIx n k (some i) = min i.toNat n := by
  have e := HT.sIx_nat n k i.toNat
  rw [Int.toNat_of_nonneg h] at e
  exact e
theorem cut_to {α : Type} {xs : List α} {i : Int} (h : 0 ≤ i) : cut xs none (some i) = xs.take i.toNat := by
  unfold cut
  rw [sIx_nat' h, HT.sIx_none, List.drop_zero, Nat.sub_zero]
  apply List.ext_getElem?
  intro j
  rw [List.getElem?_take, List.getElem?_take]
  by_cases hj : j < xs.length
  · by_cases h2 : j < i.toNat
    · rw [if_pos h2, if_pos (by omega)]
    · rw [if_neg h2, if_neg (by omega)]
  · rw [List.getElem?_eq_none (by omega)]
    simp
theorem cut_from {α : Type} {xs : List α} {i : Int} (h : 0 ≤ i) : cut xs (some i) none = xs.drop i.toNat := by
  unfold cut
  rw [sIx_nat' h, HT.sIx_none]
  rw [List.take_of_length_le (by rw [List.length_drop]; omega)]
  by_cases hj : i.toNat ≤ xs.length
  · rw [Nat.min_eq_left hj]
  · rw [Nat.min_eq_right (by omega), List.drop_length, List.drop_eq_nil_of_le (by omega)]
theorem cut_mid {α : Type} {xs : List α} {i j : Int} (h : 0 ≤ i) (hj : i ≤ j) : cut xs (some i) (some j) = (xs.take j.toNat).drop i.toNat := by
  unfold cut
  rw [sIx_nat' h, sIx_nat' (by omega)]
  apply List.ext_getElem?
  intro k
  rw [List.getElem?_take, List.getElem?_drop, List.getElem?_drop, List.getElem?_take]
  by_cases h1 : i.toNat ≤ xs.length
  · rw [Nat.min_eq_left h1]
    by_cases h2 : i.toNat + k < xs.length
    · by_cases h3 : i.toNat + k < j.toNat
      · rw [if_pos (by omega), if_pos h3]
      · rw [if_neg (by omega), if_neg h3]
    · rw [List.getElem?_eq_none (by omega)]
      simp
  · rw [Nat.min_eq_right (by omega), if_neg (by omega), List.getElem?_eq_none (by omega)]
    simp
/-! places -/
theorem atI_nat' {α : Type} {xs : List α} {k : Int} (h0 : 0 ≤ k) : atI xs k = xs[k.toNat]? := by
  unfold atI ixN
  rw [if_pos h0]
  by_cases h : k < (xs.length : Int)
  · rw [if_pos h]
    rfl
  · rw [if_neg h]
    exact (List.getElem?_eq_none (by omega)).symm
theorem atI_neg {α : Type} {xs : List α} {k : Int} (h0 : k < 0) (h1 : 0 ≤ k + xs.length) : atI xs k = xs[(k + xs.length).toNat]? := by
  unfold atI ixN
  rw [if_neg (by omega)]
  split
  · rfl
  · omega
theorem ixD_iL {xs : List Int} {k : Int} (h0 : 0 ≤ k) (h : k < xs.length) : ixD (iL xs) (.int k) = .ok (.int (xs.getD k.toNat 0)) := by
  show (match (iL xs).items with
      | some ys => (match atI ys k with
        | some d => R.ok d
        | none => R.bad)
      | none => .bad) = _
  have hk : k.toNat < xs.length := by omega
  rw [iL_items]
  simp only [atI_nat' h0, List.getElem?_map, List.getElem?_eq_getElem hk, Option.map_some, List.getD_eq_getElem?_getD, Option.getD_some]
theorem ixD_scr {xs : List Int} {k : Int} (h0 : 0 ≤ k) (h : k < xs.length) : ixD (.scr xs) (.int k) = .ok (.int (xs.getD k.toNat 0)) := by
  show (match (D.scr xs).items with
      | some ys => (match atI ys k with
        | some d => R.ok d
        | none => R.bad)
      | none => .bad) = _
  have hk : k.toNat < xs.length := by omega
  rw [scr_items]
  simp only [atI_nat' h0, List.getElem?_map, List.getElem?_eq_getElem hk, Option.map_some, List.getD_eq_getElem?_getD, Option.getD_some]
theorem ixD_iLn {xs : List Int} {k : Int} (h0 : k < 0) (h : 0 ≤ k + xs.length) : ixD (iL xs) (.int k) = .ok (.int (xs.getD (k + xs.length).toNat 0)) := by
  show (match (iL xs).items with
      | some ys => (match atI ys k with
        | some d => R.ok d
        | none => R.bad)
      | none => .bad) = _
  have hk : (k + xs.length).toNat < xs.length := by omega
  rw [iL_items]
  have q := atI_neg (xs := xs.map D.int) h0 (by simpa using h)
  simp only [q, List.length_map, List.getElem?_map, List.getElem?_eq_getElem hk, Option.map_some, List.getD_eq_getElem?_getD, Option.getD_some]
@[simp] theorem lenD_iL (xs : List Int) : lenD [iL xs] = .ok (.int xs.length) := by
  show (match (iL xs).items with
    | some ys => R.ok (D.int ys.length)
    | none => .bad) = _
  rw [iL_items]
  simp
@[simp] theorem lenD_scr (xs : List Int) : lenD [.scr xs] = .ok (.int xs.length) := by
  show (match (D.scr xs).items with
    | some ys => R.ok (D.int ys.length)
    | none => .bad) = _
  rw [scr_items]
  simp
/-- a display of ints at a place -/
theorem ixD_lst {ds : List D} {k : Int} (h0 : 0 ≤ k) (h : k < ds.length) : ixD (.lst ds) (.int k) = .ok (ds.getD k.toNat .non) := by
  show (match (D.lst ds).items with
      | some ys => (match atI ys k with
        | some d => R.ok d
        | none => R.bad)
      | none => .bad) = _
  have hk : k.toNat < ds.length := by omega
  simp only [D.items, atI_nat' h0, List.getElem?_eq_getElem hk, List.getD_eq_getElem?_getD, Option.getD_some]
theorem le_sz {n : Nat} (h : n ≤ 1000000) : n ≤ sizeLine := Nat.le_trans h (by rw [sizeLine_eq]; decide)
theorem lt_sz {n : Nat} (h : n ≤ 1000000) : n < sizeLine := Nat.lt_of_le_of_lt h (by rw [sizeLine_eq]; decide)
@[simp] theorem sz0 : 0 ≤ sizeLine := Nat.zero_le _
@[simp] theorem sz1 : 1 ≤ sizeLine := le_sz (by decide)
@[simp] theorem sz2 : 2 ≤ sizeLine := le_sz (by decide)
@[simp] theorem sz3 : 3 ≤ sizeLine := le_sz (by decide)
@[simp] theorem sz4 : 4 ≤ sizeLine := le_sz (by decide)
@[simp] theorem sz5 : 5 ≤ sizeLine := le_sz (by decide)
@[simp] theorem sz6 : 6 ≤ sizeLine := le_sz (by decide)
@[simp] theorem sz7 : 7 ≤ sizeLine := le_sz (by decide)
@[simp] theorem sz8 : 8 ≤ sizeLine := le_sz (by decide)
@[simp] theorem sz9 : 9 ≤ sizeLine := le_sz (by decide)
/-! ### names' lists -/
section
variable {ρ : Env} {me : Env → O2} {ma : Env → R D}
def isL : Option Cell → Bool
  | some (.at (.lst _)) => true
  | _ => false
def appC : Option Cell → Env → Nat → T → Out
  | some (.at (.lst ts)), ρ, i, τ => if ts.length < sizeLine then .nx (ρ.set i (.at (.lst (ts ++ [τ])))) else .bad
  | _, _, _, _ => .bad
def O2.app : O2 → Nat → Out
  | .ok τ ρ, i => appC ρ[i]? ρ i τ
  | .exc k ρ, _ => .exc k ρ
  | .bad, _ => .bad
theorem sApp_ev {i : Nat} (h : isL ρ[i]? = true) : sApp i me ρ = (me ρ).app i := by
  unfold sApp O2.app appC
  unfold isL at h
  split at h
  · rename_i ts e
    try rw [e]
    cases me ρ with
    | ok τ r =>
      simp only []
      first
        | rfl
        | (split <;> simp_all)
    | exc k r => rfl
    | bad => rfl
  · cases h
@[simp] theorem isL_lst {ts : List T} : isL (some (.at (.lst ts))) = true := (rfl)
@[simp] theorem isL_iT {ns : List Int} : isL (some (.at (iT ns))) = true := (rfl)
@[simp] theorem app_ok {i : Nat} {τ : T} : (O2.ok τ ρ).app i = appC ρ[i]? ρ i τ := (rfl)
@[simp] theorem app_exc {i k : Nat} : (O2.exc k ρ).app i = .exc k ρ := (rfl)
theorem appC_lst {i : Nat} {τ : T} {ts : List T} (h : ts.length ≤ 1000000) : appC (some (.at (.lst ts))) ρ i τ = .nx (ρ.set i (.at (.lst (ts ++ [τ])))) := if_pos (lt_sz h)
theorem appC_iT {i : Nat} {n : Int} {ns : List Int} (h : ns.length ≤ 1000000) : appC (some (.at (iT ns))) ρ i (.dat (.int n)) = .nx (ρ.set i (.at (iT (ns ++ [n])))) := by
  refine (appC_lst (ts := ns.map iD) (by simpa using h)).trans ?_
  rw [show ns.map iD ++ [.dat (.int n)] = (ns ++ [n]).map iD by rw [List.map_append]; rfl]
  rfl
theorem appC_iT' {i : Nat} {n : Int} {ns : List Int} (h : ns.length ≤ 1000000) : appC (some (.at (iT ns))) ρ i (iD n) = .nx (ρ.set i (.at (iT (ns ++ [n])))) := appC_iT h
def cellG : Option Cell → (T → Out) → Out
  | some (.at t), f => f t
  | _, _ => .bad
def R.aug (x : R D) (ρ : Env) (i : Nat) (f : Int → Int → Int) (n : Int) : Out := match x with
  | .ok (.int y) => .nx (ρ.set i (.at (.dat (.int (f n y)))))
  | .exc k => .exc k ρ
  | _ => .bad
theorem sAug_ev {i : Nat} {f : Int → Int → Int} {n : Int} (e : ρ[i]? = some (.at (.dat (.int n)))) : sAug i f ma ρ = (ma ρ).aug ρ i f n := by
  unfold sAug R.aug
  rw [e]
  all_goals
    cases ma ρ with
    | ok d => cases d <;> rfl
    | exc k => rfl
    | bad => rfl
@[simp] theorem aug_ok {i : Nat} {f : Int → Int → Int} {n y : Int} : (R.ok (D.int y)).aug ρ i f n = .nx (ρ.set i (.at (.dat (.int (f n y))))) := (rfl)
/-! walked things -/
def mE {α : Type} (enc : α → T) (xs : List α) : List T := xs.map enc
def O2.il : O2 → O3
  | .ok t ρ => (match t.er.litems with | some ds => .ok (ds.map T.dat) ρ | none => .bad)
  | .exc c ρ => .exc c ρ
  | .bad => .bad
@[simp] theorem iLst_ev : iLst me ρ = (me ρ).il := by
  unfold iLst O2.il
  cases me ρ <;> rfl
theorem il_ok {t : T} {ds : List D} (h : t.er.litems = some ds) : (O2.ok t ρ).il = .ok (ds.map T.dat) ρ := by
  unfold O2.il
  simp [h]
theorem il_ints {t : T} {ns : List Int} (h : t.er = iL ns) : (O2.ok t ρ).il = .ok (mE iD ns) ρ := by
  rw [il_ok (ds := ns.map D.int) (by rw [h]; rfl), List.map_map]
  rfl
@[simp] theorem il_iT {ns : List Int} : (O2.ok (iT ns) ρ).il = .ok (mE iD ns) ρ := il_ints (iT_er ns)
@[simp] theorem il_iL {ns : List Int} : (O2.ok (.dat (iL ns)) ρ).il = .ok (mE iD ns) ρ := il_ints rfl
def R.r1 (x : R (List D)) (ρ : Env) : O3 := match x with
  | .ok [.int j] => if okI j = true then .ok (rangeT 0 1 j.toNat) ρ else .bad
  | .exc c => .exc c ρ
  | _ => .bad
def R.r2 (x : R (List D)) (ρ : Env) : O3 := match x with
  | .ok [.int i, .int j] => if (okI i && okI j) = true then .ok (rangeT i 1 (j - i).toNat) ρ else .bad
  | .exc c => .exc c ρ
  | _ => .bad
def R.r3 (x : R (List D)) (ρ : Env) : O3 := match x with
  | .ok [.int i, .int j, .int c] => if (okI i && okI j && decide (c = -1)) = true then .ok (rangeT i (-1) (i - j).toNat) ρ else .bad
  | .exc c => .exc c ρ
  | _ => .bad
@[simp] theorem iR1_ev {mr : Env → R (List D)} : iR1 mr ρ = (mr ρ).r1 ρ := (rfl)
@[simp] theorem iR2_ev {mr : Env → R (List D)} : iR2 mr ρ = (mr ρ).r2 ρ := (rfl)
@[simp] theorem iR3_ev {mr : Env → R (List D)} : iR3 mr ρ = (mr ρ).r3 ρ := (rfl)
def rgI (lo c : Int) (n : Nat) : List Int := (List.range n).map fun (i : Nat) => lo + (i : Int) * c
theorem rangeT_eq (lo c : Int) (n : Nat) : rangeT lo c n = mE iD (rgI lo c n) := by
  unfold rangeT rgI mE
  rw [List.map_map]
  rfl
theorem okI_of {i : Int} (h : -4000000000000000000 ≤ i ∧ i ≤ 4000000000000000000) : okI i = true := okI_iff.mpr ⟨by omega, by omega⟩
theorem r1_ok {j : Int} (h : -4000000000000000000 ≤ j ∧ j ≤ 4000000000000000000) : (R.ok [D.int j]).r1 ρ = .ok (mE iD (rgI 0 1 j.toNat)) ρ := by
  rw [← rangeT_eq]
  exact if_pos (okI_of h)
theorem r2_ok {i j : Int} (h : (-4000000000000000000 ≤ i ∧ i ≤ 4000000000000000000) ∧ -4000000000000000000 ≤ j ∧ j ≤ 4000000000000000000) : (R.ok [D.int i, D.int j]).r2 ρ = .ok (mE iD (rgI i 1 (j - i).toNat)) ρ := by
  rw [← rangeT_eq]
  exact if_pos (by rw [okI_of h.1, okI_of h.2]; rfl)
theorem r3_ok {i j : Int} (h : (-4000000000000000000 ≤ i ∧ i ≤ 4000000000000000000) ∧ -4000000000000000000 ≤ j ∧ j ≤ 4000000000000000000) : (R.ok [D.int i, D.int j, D.int (-1)]).r3 ρ = .ok (mE iD (rgI i (-1) (i - j).toNat)) ρ := by
  rw [← rangeT_eq]
  exact if_pos (by rw [okI_of h.1, okI_of h.2]; rfl)
theorem rgI_nat (n : Nat) : rgI 0 1 n = (List.range n).map fun (i : Nat) => (i : Int) := by
  unfold rgI
  exact List.map_congr_left fun i _ => by omega
end
/-! ### dead names -/
theorem wpE_cons {ρ : Env} {v : Nat} {vs : List Nat} : wpE ρ (v :: vs) = wpE (match ρ[v]? with | some c => ρ.set v c.wp | none => ρ) vs := (rfl)
@[simp] theorem wpE_nil {ρ : Env} : wpE ρ [] = ρ := (rfl)
@[simp] theorem wp_no : Cell.wp .no = .no := (rfl)
@[simp] theorem wp_at {t : T} : Cell.wp (.at t) = .no := (rfl)
/-! ### loops -/
def Out.tw : Out → List Nat → Option Env
  | .nx ρ, ws => some (wpE ρ ws)
  | .ct ρ, ws => some (wpE ρ ws)
  | _, _ => none
def R.trn : R Env → (Env → Out) → List Nat → Option Env
  | .ok ρ, b, ws => (b ρ).tw ws
  | _, _, _ => none
/-- one turn of a loop, and on -/
def turnW (ws : List Nat) (gm : T → Env → R Env) (b : Env → Out) (t : T) (ρ : Env) : Option Env := (gm t ρ).trn b ws
section
variable {ρ : Env} {ws : List Nat} {b : Env → Out} {gm : T → Env → R Env} {t : T}
theorem turnW_ev : turnW ws gm b t ρ = (gm t ρ).trn b ws := (rfl)
@[simp] theorem trn_ok : (R.ok ρ).trn b ws = (b ρ).tw ws := (rfl)
@[simp] theorem tw_nx : (Out.nx ρ).tw ws = some (wpE ρ ws) := (rfl)
@[simp] theorem tw_ct : (Out.ct ρ).tw ws = some (wpE ρ ws) := (rfl)
end
theorem foldl_I {α S : Type} {step : S → α → S} (I : List α → S → Prop) (h : ∀ x r s, I (x :: r) s → I r (step s x)) : ∀ (xs : List α) (s : S), I xs s → I [] (xs.foldl step s)
  | [], s, i => i
  | x :: r, s, i => foldl_I I h r (step s x) (h x r s i)
theorem forW_run {α S : Type} {ws : List Nat} {gm : T → Env → R Env} {b : Env → Out} (enc : α → T) (cl : S → Env) (step : S → α → S) (I : List α → S → Prop) {xs : List α} (s : S) {ρ : Env}
    (h : ∀ x r s, I (x :: r) s → turnW ws gm b (enc x) (cl s) = some (cl (step s x)) ∧ I r (step s x)) (e : wpE ρ ws = cl s) (i : I xs s) : forW ws gm b (mE enc xs) ρ = .nx (cl (xs.foldl step s)) := by
  unfold mE
  induction xs generalizing s ρ with
  | nil => simp only [List.map_nil, forW, e, List.foldl_nil]
  | cons x r ih =>
    obtain ⟨e1, i'⟩ := h x r s i
    simp only [List.map_cons, forW, e, List.foldl_cons]
    unfold turnW R.trn at e1
    split at e1
    · rename_i ρ1 q
      rw [q]
      simp only []
      unfold Out.tw at e1
      split at e1
      · rename_i ρ2 q2
        rw [q2]
        exact ih (step s x) (Option.some.inj e1) i'
      · rename_i ρ2 q2
        rw [q2]
        exact ih (step s x) (Option.some.inj e1) i'
      · cases e1
    · cases e1
end Sm
/-! TyC: displays at a drawn place; draws. -/
namespace Sm
open PySem L2
/-- the item of a display at a place -/
def pick (l : List Int) (k : Int) : Int := l.getD k.toNat 0
theorem pick_all {P : Int → Prop} {l : List Int} {k : Int} (h : ∀ z ∈ l, P z) (h0 : 0 ≤ k) (hk : k < l.length) : P (pick l k) := by
  unfold pick
  have : k.toNat < l.length := by omega
  rw [List.getD_eq_getElem?_getD, List.getElem?_eq_getElem this]
  exact h _ (List.getElem_mem this)
theorem pick_z {P : Int → Prop} {l : List Int} {k : Int} (h : ∀ z ∈ l, P z) (hz : P 0) : P (pick l k) := by
  unfold pick
  rw [List.getD_eq_getElem?_getD]
  cases e : l[k.toNat]? with
  | none => exact hz
  | some z => exact h _ (List.mem_of_getElem? e)
theorem ixD_ints {ns : List Int} {ds : List D} {k : Int} (e : ds = ns.map D.int) (h0 : 0 ≤ k) (h : k < ns.length) : ixD (.lst ds) (.int k) = .ok (.int (pick ns k)) := by
  subst e
  exact ixD_iL h0 h
theorem ixD_p {ns : List Int} {k : Int} (h0 : 0 ≤ k) (h : k < ns.length) : ixD (iL ns) (.int k) = .ok (.int (pick ns k)) := ixD_iL h0 h
theorem ixD_2 {a b k : Int} (h : 0 ≤ k ∧ k < 2) : ixD (.lst [.int a, .int b]) (.int k) = .ok (.int (pick [a, b] k)) := ixD_ints (ns := [a, b]) rfl h.1 h.2
theorem ixD_3 {a b c k : Int} (h : 0 ≤ k ∧ k < 3) : ixD (.lst [.int a, .int b, .int c]) (.int k) = .ok (.int (pick [a, b, c] k)) := ixD_ints (ns := [a, b, c]) rfl h.1 h.2
theorem ixD_4 {a b c d k : Int} (h : 0 ≤ k ∧ k < 4) : ixD (.lst [.int a, .int b, .int c, .int d]) (.int k) = .ok (.int (pick [a, b, c, d] k)) := ixD_ints (ns := [a, b, c, d]) rfl h.1 h.2
theorem ixD_5 {a b c d e k : Int} (h : 0 ≤ k ∧ k < 5) : ixD (.lst [.int a, .int b, .int c, .int d, .int e]) (.int k) = .ok (.int (pick [a, b, c, d, e] k)) := ixD_ints (ns := [a, b, c, d, e]) rfl h.1 h.2
theorem ixD_6 {a b c d e f k : Int} (h : 0 ≤ k ∧ k < 6) : ixD (.lst [.int a, .int b, .int c, .int d, .int e, .int f]) (.int k) = .ok (.int (pick [a, b, c, d, e, f] k)) := ixD_ints (ns := [a, b, c, d, e, f]) rfl h.1 h.2
theorem pick2_sign (k : Int) : -1 ≤ pick [1, -1] k ∧ pick [1, -1] k ≤ 1 := pick_z (P := fun z => -1 ≤ z ∧ z ≤ 1) (by simp) (by omega)
/-! ranges -/
theorem rgI_zero (lo c : Int) : rgI lo c 0 = [] := rfl
theorem rgI_succ (lo c : Int) (n : Nat) : rgI lo c (n + 1) = lo :: rgI (lo + c) c n := by
  unfold rgI
  rw [List.range_succ_eq_map, List.map_cons, List.map_map]
  congr 1
  · simp
  · apply List.map_congr_left
    intro i _
    simp only [Function.comp]
    rw [show ((i.succ : Nat) : Int) = (i : Int) + 1 by omega, Int.add_mul]
    omega
@[simp] theorem rgI_len (lo c : Int) (n : Nat) : (rgI lo c n).length = n := by simp [rgI]
/-! ### draws -/
structure DrS where
  found : List Int
  rest : Int
  stirred : Int
def drStep (base : Int) (s : DrS) (k : Int) : DrS :=
  let st := (s.stirred * s.stirred + 48271 * s.stirred + k + 1) % 2305843009213693951
  if 2 < k then
    if 0 < s.rest then ⟨s.found ++ [s.rest % base], s.rest / base, st⟩ else ⟨s.found ++ [st / 4096 % base], s.rest, st⟩
  else ⟨s.found, s.rest, st⟩
def draws (cell : Int) (many : Nat) (base : Int) : List Int :=
  ((rgI 0 1 (many + 3)).foldl (drStep base) ⟨[], cell * (if 1000000000000000000 ≤ cell then 1 else 0), cell % 2305843009213693951⟩).found
theorem drStep_all (base : Int) (hb : 0 < base) : ∀ (n : Nat) (lo : Int) (s : DrS), (∀ p ∈ s.found, 0 ≤ p ∧ p < base) → ∀ p ∈ ((rgI lo 1 n).foldl (drStep base) s).found, 0 ≤ p ∧ p < base
  | 0, _, _, h => h
  | n + 1, lo, s, h => by
    rw [rgI_succ, List.foldl_cons]
    refine drStep_all base hb n _ _ fun p hp => ?_
    unfold drStep at hp
    split at hp
    · split at hp
      · rcases List.mem_append.mp hp with q | q
        · exact h p q
        · rw [List.mem_singleton.mp q]
          exact ⟨Int.emod_nonneg _ (by omega), Int.emod_lt_of_pos _ hb⟩
      · rcases List.mem_append.mp hp with q | q
        · exact h p q
        · rw [List.mem_singleton.mp q]
          exact ⟨Int.emod_nonneg _ (by omega), Int.emod_lt_of_pos _ hb⟩
    · exact h p hp
theorem drStep_len (base : Int) : ∀ (n : Nat) (lo : Int) (s : DrS), 2 < lo → ((rgI lo 1 n).foldl (drStep base) s).found.length = s.found.length + n
  | 0, _, _, _ => rfl
  | n + 1, lo, s, h => by
    rw [rgI_succ, List.foldl_cons, drStep_len base n _ _ (by omega)]
    unfold drStep
    simp only [h, if_true]
    split <;> (simp; omega)
theorem draws_len (cell base : Int) (many : Nat) : (draws cell many base).length = many := by
  unfold draws
  rw [rgI_succ, rgI_succ, rgI_succ, List.foldl_cons, List.foldl_cons, List.foldl_cons, drStep_len _ _ _ _ (by omega)]
  simp [drStep]
theorem draws_all {cell base : Int} {many : Nat} (hb : 0 < base) : ∀ p ∈ draws cell many base, 0 ≤ p ∧ p < base := drStep_all base hb _ _ _ (by simp)
theorem draws_pick {cell base : Int} {many : Nat} (hb : 0 < base) (k : Int) : 0 ≤ pick (draws cell many base) k ∧ pick (draws cell many base) k < base := pick_z (draws_all hb) (by omega)
end Sm
/-! TyD: pairs, early ends, comprehensions. -/
namespace Sm
open PySem L2
/-! ### pairs -/
def pD (x : Int × Int) : T := .tup [iD x.1, iD x.2]
theorem zipT_ints : ∀ (xs ys : List Int), zipT (xs.map D.int) (ys.map D.int) = (xs.zip ys).map pD
  | [], ys => by simp [zipT]
  | x :: xs, [] => by simp [zipT]
  | x :: xs, y :: ys => by simp [zipT, zipT_ints xs ys, pD, iD]
def O3.zp : O3 → O3
  | .ok [s, t] ρ => (match s.er.litems, t.er.litems with | some ds, some es => .ok (zipT ds es) ρ | _, _ => .bad)
  | .exc c ρ => .exc c ρ
  | _ => .bad
section
variable {ρ : Env} {ms : Env → O3}
@[simp] theorem iZp_ev : iZp ms ρ = (ms ρ).zp := by
  unfold iZp O3.zp
  cases ms ρ with
  | ok ts r =>
    match ts with
    | [] => rfl
    | [a] => rfl
    | [a, b] => rfl
    | _ :: _ :: _ :: _ => rfl
  | exc c r => rfl
  | bad => rfl
theorem zp_ints {s t : T} {xs ys : List Int} (hs : s.er = iL xs) (ht : t.er = iL ys) : (O3.ok [s, t] ρ).zp = .ok (mE pD (xs.zip ys)) ρ := by
  unfold mE
  rw [← zipT_ints]
  show (match s.er.litems, t.er.litems with | some ds, some es => O3.ok (zipT ds es) ρ | _, _ => .bad) = _
  rw [hs, ht]
  rfl
@[simp] theorem zp_LL {xs ys : List Int} : (O3.ok [.dat (iL xs), .dat (iL ys)] ρ).zp = .ok (mE pD (xs.zip ys)) ρ := zp_ints rfl rfl
@[simp] theorem zp_TT {xs ys : List Int} : (O3.ok [iT xs, iT ys] ρ).zp = .ok (mE pD (xs.zip ys)) ρ := zp_ints (iT_er _) (iT_er _)
@[simp] theorem zp_LT {xs ys : List Int} : (O3.ok [.dat (iL xs), iT ys] ρ).zp = .ok (mE pD (xs.zip ys)) ρ := zp_ints rfl (iT_er _)
@[simp] theorem zp_TL {xs ys : List Int} : (O3.ok [iT xs, .dat (iL ys)] ρ).zp = .ok (mE pD (xs.zip ys)) ρ := zp_ints (iT_er _) rfl
end
/-- numbered -/
def enI (k : Int) : List Int → List (Int × Int)
  | [] => []
  | x :: r => (k, x) :: enI (k + 1) r
theorem enumT_ints : ∀ (xs : List Int) (k : Nat), enumT k (xs.map D.int) = (enI k xs).map pD
  | [], k => rfl
  | x :: xs, k => by
    rw [List.map_cons]
    show T.tup [.dat (.int k), .dat (.int x)] :: enumT (k + 1) (xs.map D.int) = _
    rw [enumT_ints xs (k + 1)]
    rfl
def O3.en : O3 → O3
  | .ok [s] ρ => (match s.er.litems with | some ds => .ok (enumT 0 ds) ρ | _ => .bad)
  | .exc c ρ => .exc c ρ
  | _ => .bad
section
variable {ρ : Env} {ms : Env → O3}
@[simp] theorem iEn_ev : iEn ms ρ = (ms ρ).en := by
  unfold iEn O3.en
  cases ms ρ with
  | ok ts r =>
    match ts with
    | [] => rfl
    | [a] => rfl
    | _ :: _ :: _ => rfl
  | exc c r => rfl
  | bad => rfl
theorem en_ints {s : T} {xs : List Int} (hs : s.er = iL xs) : (O3.ok [s] ρ).en = .ok (mE pD (enI 0 xs)) ρ := by
  have e := enumT_ints xs 0
  show (match s.er.litems with | some ds => O3.ok (enumT 0 ds) ρ | _ => .bad) = _
  rw [hs]
  show O3.ok (enumT 0 (xs.map D.int)) ρ = _
  rw [e]
  rfl
@[simp] theorem en_L {xs : List Int} : (O3.ok [.dat (iL xs)] ρ).en = .ok (mE pD (enI 0 xs)) ρ := en_ints rfl
@[simp] theorem en_T {xs : List Int} : (O3.ok [iT xs] ρ).en = .ok (mE pD (enI 0 xs)) ρ := en_ints (iT_er _)
end
@[simp] theorem enI_len : ∀ (xs : List Int) (k : Int), (enI k xs).length = xs.length
  | [], _ => rfl
  | x :: xs, k => by simp [enI, enI_len xs]
/-! ### loops that may end early -/
def Out.fin : Out → List Nat → Out
  | .nx ρ, ws => .nx (wpE ρ ws)
  | .ct ρ, ws => .nx (wpE ρ ws)
  | o, _ => o
def R.tro : R Env → (Env → Out) → List Nat → Out
  | .ok ρ, b, ws => (b ρ).fin ws
  | _, _, _ => .bad
def turnO (ws : List Nat) (gm : T → Env → R Env) (b : Env → Out) (t : T) (ρ : Env) : Out := (gm t ρ).tro b ws
section
variable {ρ : Env} {ws : List Nat} {b : Env → Out} {gm : T → Env → R Env} {t τ : T} {k : Nat}
theorem turnO_ev : turnO ws gm b t ρ = (gm t ρ).tro b ws := (rfl)
@[simp] theorem tro_ok : (R.ok ρ).tro b ws = (b ρ).fin ws := (rfl)
@[simp] theorem fin_nx : (Out.nx ρ).fin ws = .nx (wpE ρ ws) := (rfl)
@[simp] theorem fin_ct : (Out.ct ρ).fin ws = .nx (wpE ρ ws) := (rfl)
@[simp] theorem fin_rt : (Out.rt τ).fin ws = .rt τ := (rfl)
@[simp] theorem fin_exc : (Out.exc k ρ).fin ws = .exc k ρ := (rfl)
end
/-- a walk that may end with a value -/
def scan {α S : Type} (stop : S → α → Option T) (step : S → α → S) : List α → S → T ⊕ S
  | [], s => .inr s
  | x :: r, s => match stop s x with
    | some t => .inl t
    | none => scan stop step r (step s x)
def outS {S : Type} (cl : S → Env) : T ⊕ S → Out
  | .inl t => .rt t
  | .inr s => .nx (cl s)
theorem forW_scan {α S : Type} {ws : List Nat} {gm : T → Env → R Env} {b : Env → Out} (enc : α → T) (cl : S → Env) (stop : S → α → Option T) (step : S → α → S) (I : List α → S → Prop) {xs : List α} (s : S) {ρ : Env}
    (h : ∀ x r s, I (x :: r) s → turnO ws gm b (enc x) (cl s) = (match stop s x with | some t => Out.rt t | none => .nx (cl (step s x))) ∧ (stop s x = none → I r (step s x))) (e : wpE ρ ws = cl s) (i : I xs s) : forW ws gm b (mE enc xs) ρ = outS cl (scan stop step xs s) := by
  unfold mE
  induction xs generalizing s ρ with
  | nil => simp only [List.map_nil, forW, e, scan, outS]
  | cons x r ih =>
    obtain ⟨e1, i'⟩ := h x r s i
    simp only [List.map_cons, forW, e, scan]
    unfold turnO R.tro at e1
    cases q : gm (enc x) (cl s) with
    | ok ρ1 =>
      rw [q] at e1
      simp only [] at e1 ⊢
      cases st : stop s x with
      | some t =>
        rw [st] at e1
        cases qb : b ρ1 with
        | rt τ => rw [qb] at e1; cases e1; rfl
        | nx r2 => rw [qb] at e1; cases e1
        | ct r2 => rw [qb] at e1; cases e1
        | bk r2 => rw [qb] at e1; cases e1
        | exc k r2 => rw [qb] at e1; cases e1
        | bad => rw [qb] at e1; cases e1
      | none =>
        rw [st] at e1
        simp only [] at e1 ⊢
        have i2 := i' st
        cases qb : b ρ1 with
        | nx r2 => rw [qb] at e1; exact ih (step s x) (Out.nx.inj e1) i2
        | ct r2 => rw [qb] at e1; exact ih (step s x) (Out.nx.inj e1) i2
        | rt τ => rw [qb] at e1; cases e1
        | bk r2 => rw [qb] at e1; cases e1
        | exc k r2 => rw [qb] at e1; cases e1
        | bad => rw [qb] at e1; cases e1
    | exc c =>
      rw [q] at e1
      cases st : stop s x <;> rw [st] at e1 <;> cases e1
    | bad =>
      rw [q] at e1
      cases st : stop s x <;> rw [st] at e1 <;> cases e1
theorem forW_ex {α S : Type} {ws : List Nat} {gm : T → Env → R Env} {b : Env → Out} (enc : α → T) (cl : S → Env) (I : List α → S → Prop) {xs : List α} (s : S) {ρ : Env} {F : Out} (hF : forW ws gm b (mE enc xs) ρ = F)
    (h : ∀ x r s, I (x :: r) s → ∃ s', turnW ws gm b (enc x) (cl s) = some (cl s') ∧ I r s') (e : wpE ρ ws = cl s) (i : I xs s) : ∃ s', F = .nx (cl s') ∧ I [] s' := by
  subst hF
  unfold mE
  induction xs generalizing s ρ with
  | nil => exact ⟨s, by simp only [List.map_nil, forW, e], i⟩
  | cons x r ih =>
    obtain ⟨s', e1, i'⟩ := h x r s i
    simp only [List.map_cons, forW, e]
    unfold turnW R.trn at e1
    split at e1
    · rename_i ρ1 q
      rw [q]
      simp only []
      unfold Out.tw at e1
      split at e1
      · rename_i ρ2 q2
        rw [q2]
        exact ih s' (Option.some.inj e1) i'
      · rename_i ρ2 q2
        rw [q2]
        exact ih s' (Option.some.inj e1) i'
      · cases e1
    · cases e1
/-! ### comprehensions -/
def R.lcm : R T → R (Option T)
  | .ok t => .ok (some t)
  | _ => .bad
def R.lco : R Env → (Env → R Bool) → (Env → R T) → R (Option T)
  | .ok ρ, mt, me => R.ite (mt ρ) (me ρ).lcm (.ok none) (fun _ => .bad) .bad
  | _, _, _ => .bad
def lcOne (gm : T → Env → R Env) (mt : Env → R Bool) (me : Env → R T) (t : T) (ρ : Env) : R (Option T) := (gm t ρ).lco mt me
def O3.lc : O3 → List Nat → (T → Env → R Env) → (Env → R Bool) → (Env → R T) → R T
  | .ok ts ρ, vs, gm, mt, me => lcGo gm mt me (wipeE ρ vs) [] ts
  | .exc c _, _, _, _, _ => .exc c
  | .bad, _, _, _, _ => .bad
def R.cln (x : R T) : R T := x.bind fun τ => if τ.clean = true then .ok τ else .bad
section
variable {ρ : Env} {vs : List Nat} {mi : Env → O3} {gm : T → Env → R Env} {mt : Env → R Bool} {me : Env → R T} {t τ : T}
theorem lcOne_ev : lcOne gm mt me t ρ = (gm t ρ).lco mt me := (rfl)
@[simp] theorem lco_ok : (R.ok ρ).lco mt me = R.ite (mt ρ) (me ρ).lcm (.ok none) (fun _ => .bad) .bad := (rfl)
@[simp] theorem lcm_ok : (R.ok t).lcm = .ok (some t) := (rfl)
theorem lcRun_ev : lcRun vs mi gm mt me ρ = (mi ρ).lc vs gm mt me := by
  unfold lcRun O3.lc
  cases mi ρ <;> rfl
@[simp] theorem bLc_ev : bLc vs mi gm mt me ρ = ((mi (frzE ρ)).lc vs gm mt me).bind fun τ => .ok τ.er := by
  unfold bLc
  rw [lcRun_ev]
@[simp] theorem pLc_ev : pLc vs mi gm mt me ρ = ((mi (frzE ρ)).lc vs gm mt me).cln := by
  unfold pLc
  rw [lcRun_ev]
  rfl
@[simp] theorem pLcU_ev : pLcU vs mi gm mt me ρ = (mi (datE ρ)).lc vs gm mt me := by
  unfold pLcU
  rw [lcRun_ev]
theorem cln_ok (h : τ.clean = true) : (R.ok τ).cln = .ok τ := if_pos h
@[simp] theorem cln_iT {ns : List Int} : (R.ok (iT ns)).cln = .ok (iT ns) := cln_ok (iT_clean ns)
@[simp] theorem lc_ok {ts : List T} : (O3.ok ts ρ).lc vs gm mt me = lcGo gm mt me (wipeE ρ vs) [] ts := (rfl)
@[simp] theorem frzE_nil : frzE [] = [] := (rfl)
@[simp] theorem frzE_cons {c : Cell} : frzE (c :: ρ) = c.frz :: frzE ρ := (rfl)
@[simp] theorem frz_no : Cell.frz .no = .no := (rfl)
@[simp] theorem frz_at : Cell.frz (.at t) = .at (.dat t.er) := (rfl)
@[simp] theorem wipeE_nil : wipeE ρ [] = ρ := (rfl)
@[simp] theorem wipeE_cons {v : Nat} : wipeE ρ (v :: vs) = (wipeE ρ vs).set v .no := (rfl)
end
theorem lc_go {α : Type} {gm : T → Env → R Env} {mt : Env → R Bool} {me : Env → R T} {ρ : Env} (enc : α → T) (f : α → Option T) : ∀ {xs : List α} {acc : List T}, (∀ x ∈ xs, lcOne gm mt me (enc x) ρ = .ok (f x)) → acc.length + xs.length ≤ 1000000 → lcGo gm mt me ρ acc (mE enc xs) = .ok (.lst (acc ++ xs.filterMap f))
  | [], acc, _, _ => by simp [mE, lcGo]
  | x :: r, acc, h, hl => by
    have hx := h x List.mem_cons_self
    have ih := fun acc hl => lc_go enc f (xs := r) (acc := acc) (fun y hy => h y (List.mem_cons_of_mem _ hy)) hl
    unfold mE at ih ⊢
    simp only [List.map_cons, lcGo]
    simp only [List.length_cons] at hl
    unfold lcOne R.lco R.lcm R.ite at hx
    cases q : gm (enc x) ρ with
    | exc c => rw [q] at hx; cases hx
    | bad => rw [q] at hx; cases hx
    | ok ρ2 =>
      rw [q] at hx
      simp only [] at hx ⊢
      cases qt : mt ρ2 with
      | exc c => rw [qt] at hx; cases hx
      | bad => rw [qt] at hx; cases hx
      | ok b =>
        rw [qt] at hx
        cases b with
        | false =>
          simp only [] at hx ⊢
          cases hx' : f x with
          | none => rw [ih acc (by omega), List.filterMap_cons, hx']
          | some t => rw [hx'] at hx; cases hx
        | true =>
          simp only [] at hx ⊢
          cases qe : me ρ2 with
          | exc c => rw [qe] at hx; cases hx
          | bad => rw [qe] at hx; cases hx
          | ok t =>
            rw [qe] at hx
            simp only [] at hx ⊢
            rw [if_pos (lt_sz (by omega)), ih (acc ++ [t]) (by simp; omega), List.filterMap_cons]
            have : f x = some t := by cases hx' : f x <;> (rw [hx'] at hx; cases hx) <;> rfl
            rw [this]
            simp
/-- ints out of ints -/
theorem lc_ints {α : Type} {gm : T → Env → R Env} {mt : Env → R Bool} {me : Env → R T} {ρ : Env} (enc : α → T) (f : α → Option Int) {xs : List α} (h : ∀ x ∈ xs, lcOne gm mt me (enc x) ρ = .ok ((f x).map iD)) (hl : xs.length ≤ 1000000) : lcGo gm mt me ρ [] (mE enc xs) = .ok (iT (xs.filterMap f)) := by
  rw [lc_go enc (fun x => (f x).map iD) h (by simpa using hl), List.nil_append]
  unfold iT
  congr 2
  induction xs with
  | nil => rfl
  | cons x r ih =>
    rw [List.filterMap_cons, List.filterMap_cons]
    cases f x with
    | none => exact ih (fun y hy => h y (List.mem_cons_of_mem _ hy)) (by simp at hl; omega)
    | some t => simp [ih (fun y hy => h y (List.mem_cons_of_mem _ hy)) (by simp at hl; omega)]
theorem lc_mapI {α : Type} {gm : T → Env → R Env} {mt : Env → R Bool} {me : Env → R T} {ρ : Env} (enc : α → T) (f : α → Int) {xs : List α} (h : ∀ x ∈ xs, lcOne gm mt me (enc x) ρ = .ok (some (.dat (.int (f x))))) (hl : xs.length ≤ 1000000) : lcGo gm mt me ρ [] (mE enc xs) = .ok (iT (xs.map f)) := by
  rw [lc_ints enc (fun x => some (f x)) h hl]
  simp
end Sm
namespace Sm
open PySem L2
theorem e_draws (cell base : Int) (many : Nat) (hb : 0 < base) (hb2 : base < 1073741824) (hm : many < 100000) :
    m_law_draws [.int cell, .int many, .int base] = .ok (iT (draws cell many base)) := by
  unfold m_law_draws b_law_draws
  rw [runF_ev]
  have h1 : -18446744073709551616 < (if 1000000000000000000 ≤ cell then (1 : Int) else 0) ∧ (if 1000000000000000000 ≤ cell then (1 : Int) else 0) < 18446744073709551616 := by split <;> omega
  simp (disch := omega) [List.replicate, mulD_ii, h1, modD_ii, r1_ok]
  rw [forW_run iD (fun s : DrS => [.no, .no, .at (.dat (.int base)), .at (iT s.found), .at (.dat (.int s.rest)), .at (.dat (.int s.stirred)), .no]) (drStep base)
    (fun r s => 0 ≤ s.stirred ∧ s.stirred < 2305843009213693951 ∧ s.found.length + r.length ≤ 100010) ⟨[], cell * (if 1000000000000000000 ≤ cell then 1 else 0), cell % 2305843009213693951⟩]
  · simp [draws]
    rfl
  · rintro k r ⟨f, rest, st⟩ ⟨i1, i2, i3⟩
    simp only [List.length_cons] at i1 i2 i3
    rw [turnW_ev]
    by_cases h2 : 2 < k
    · by_cases h3 : 0 < rest
      · simp (disch := first | omega | simp) [h2, h3, iD, mulD_ii, modD_ii, fdivD_ii, sApp_ev, appC_iT, wpE_cons, drStep]
        omega
      · simp (disch := first | omega | simp) [h2, h3, iD, mulD_ii, modD_ii, fdivD_ii, sApp_ev, appC_iT, wpE_cons, drStep]
        omega
    · simp (disch := first | omega | simp) [h2, iD, mulD_ii, modD_ii, fdivD_ii, sApp_ev, appC_iT, wpE_cons, drStep]
      omega
  · simp [wpE_cons, iT]
  · simp [rgI]
    omega
theorem c_draws {cell base many : Int} (hb : 0 < base ∧ base < 1073741824 ∧ 0 ≤ many ∧ many < 100000) : R.call m_law_draws 3 [.int cell, .int many, .int base] = .ok (iT (draws cell many.toNat base)) := by
  obtain ⟨h1, h2, h3, h4⟩ := hb
  refine call_ok ?_ rfl (by simp)
  have e := e_draws cell base many.toNat h1 h2 (by omega)
  rw [Int.toNat_of_nonneg h3] at e
  exact e
end Sm
/-! TyTrain: trains, stands, how they are dragged: what the mirrors tell. -/
namespace Sm
open PySem L2
/-- a wheel dragged -/
def drag (p a x : Int) : Int := max (a - p) (min (a + p) x)
def dragAll : List Int → List Int → Int → List Int
  | p :: ps, w :: ws, a => drag p a w :: dragAll ps ws (drag p a w)
  | _, _, _ => []
theorem dragAll_len : ∀ (ps ws : List Int) (a : Int), (dragAll ps ws a).length = min ps.length ws.length
  | [], ws, a => by simp [dragAll]
  | p :: ps, [], a => by simp [dragAll]
  | p :: ps, w :: ws, a => by simp [dragAll, dragAll_len ps ws]
/-- each no farther from the one ahead than its play -/
def goS : List (Int × Int) → Int → Bool
  | [], _ => true
  | (p, w) :: r, a => decide (w - a ≤ p) && decide (a - w ≤ p) && goS r w
def standB (ps : List Int) (h : Int) (ws : List Int) : Bool := decide (ws.length = ps.length) && goS (ps.zip ws) h
def trainB (ps : List Int) : Bool := decide (1 ≤ ps.length) && decide (ps.length ≤ 12) && ps.all fun p => decide (0 ≤ p)
theorem c_dragged (p a x : Int) : R.call m_dragged 3 [.int p, .int a, .int x] = .ok (.dat (.int (drag p a x))) := by
  refine call_ok ?_ rfl rfl
  unfold m_dragged b_dragged drag
  rw [runF_ev]
  simp
  omega
theorem isi_int (i : Int) (c : String) : isiD c [.int i] = (match kitB "int" c with | some b => R.ok (.bl b) | none => .bad) := (rfl)
theorem isi_bl (i : Bool) (c : String) : isiD c [.bl i] = (match kitB "bool" c with | some b => R.ok (.bl b) | none => .bad) := (rfl)
theorem isi_iL (i : List Int) (c : String) : isiD c [iL i] = (match kitB "list" c with | some b => R.ok (.bl b) | none => .bad) := (rfl)
theorem isi_lst (i : List D) (c : String) : isiD c [.lst i] = (match kitB "list" c with | some b => R.ok (.bl b) | none => .bad) := (rfl)
theorem isi_tup (i : List D) (c : String) : isiD c [.tup i] = (match kitB "tuple" c with | some b => R.ok (.bl b) | none => .bad) := (rfl)
theorem isi_non (c : String) : isiD c [.non] = (match kitB "NoneType" c with | some b => R.ok (.bl b) | none => .bad) := (rfl)
theorem kit_int_int : kitB "int" "int" = some true := by decide +kernel
theorem kit_int_bool : kitB "int" "bool" = some false := by decide +kernel
theorem kit_bool_bool : kitB "bool" "bool" = some true := by decide +kernel
theorem kit_list_list : kitB "list" "list" = some true := by decide +kernel
theorem kit_list_dict : kitB "list" "dict" = some false := by decide +kernel
theorem kit_list_tuple : kitB "list" "tuple" = some false := by decide +kernel
theorem kit_int_list : kitB "int" "list" = some false := by decide +kernel
theorem kit_int_dict : kitB "int" "dict" = some false := by decide +kernel
theorem kit_int_tuple : kitB "int" "tuple" = some false := by decide +kernel
theorem kit_non_bool : kitB "NoneType" "bool" = some false := by decide +kernel
theorem kit_non_list : kitB "NoneType" "list" = some false := by decide +kernel
theorem kit_tuple_list : kitB "tuple" "list" = some false := by decide +kernel
theorem kit_tuple_tuple : kitB "tuple" "tuple" = some true := by decide +kernel
theorem kit_tuple_dict : kitB "tuple" "dict" = some false := by decide +kernel
theorem c_whole_int (i : Int) : R.call m_law_whole 1 [.int i] = .ok (.dat (.bl true)) := by
  refine call_ok ?_ rfl rfl
  unfold m_law_whole b_law_whole
  rw [runF_ev]
  simp [isi_int, kit_int_int, kit_int_bool]
/-- the script's cell at a place -/
def cellAt (ns : List Int) (k : Int) : Int := ns.getD k.toNat 0
theorem c_cell_at {ns : List Int} {k : Int} (h : 0 ≤ k) : R.call m_law_cell_at 2 [.scr ns, .int k] = .ok (.dat (.int (cellAt ns k))) := by
  refine call_ok ?_ rfl rfl
  unfold m_law_cell_at b_law_cell_at
  rw [runF_ev]
  by_cases q : k < ns.length
  · simp [q, ixD_scr h q, cellAt]
  · simp [q, cellAt]
    have : ns.length ≤ k.toNat := by omega
    simp [List.getElem?_eq_none this]
/-- draws, told by their length and their bounds -/
theorem ex_draws (cell : Int) (many : Nat) (base : Int) (h : 0 < base ∧ base < 1073741824 ∧ many < 100000) : ∃ l : List Int, R.call m_law_draws 3 [.int cell, .int many, .int base] = .ok (iT l) ∧ l.length = many ∧ (∀ k, 0 ≤ pick l k ∧ pick l k < base) ∧ ∀ p ∈ l, 0 ≤ p ∧ p < base :=
  ⟨_, c_draws (many := many) ⟨h.1, h.2.1, by omega, by omega⟩, draws_len _ _ _, fun k => draws_pick h.1 k, draws_all h.1⟩
theorem least_nonneg (x : Int) (r : List Int) : 0 ≤ leastI x r ↔ 0 ≤ x ∧ ∀ y ∈ r, 0 ≤ y := by
  constructor
  · intro h
    have := leastI_le r x
    exact ⟨by omega, fun y hy => by have := this.2 y hy; omega⟩
  · rintro ⟨h1, h2⟩
    rcases leastI_mem r x with q | q
    · omega
    · exact h2 _ q
theorem minLD_iL {x : Int} {r : List Int} : minLD [iL (x :: r)] = .ok (.int (leastI x r)) := by
  show (match (iL (x :: r)).litems with
    | some xs => (match D.ints xs with
      | some (x :: r) => R.ok (D.int (leastI x r))
      | _ => .bad)
    | none => .bad) = _
  rw [iL_litems]
  simp only [ints_ints]
def bChn (f f' : D → D → R D) (a b : R D) (mc : Env → R D) (ρ : Env) : R D := a.bind fun a => b.bind fun b => (f a b).bind fun k => match k with
  | .bl true => (mc ρ).bind fun c => f' b c
  | .bl false => .ok (.bl false)
  | _ => .bad
@[simp] theorem bChain_ev {f f' : D → D → R D} {ma mb mc : Env → R D} {ρ : Env} : bChain f f' ma mb mc ρ = bChn f f' (ma ρ) (mb ρ) mc ρ := (rfl)
@[simp] theorem bChn_ii {p p' : Int → Int → Bool} {i j : Int} {mc : Env → R D} {ρ : Env} : bChn (cmpD p) (cmpD p') (.ok (.int i)) (.ok (.int j)) mc ρ = R.ite (.ok (p i j)) ((mc ρ).bind fun c => cmpD p' (.int j) c) (.ok (.bl false)) (fun k => .exc k) .bad := by
  unfold bChn
  simp only [bind_ok, cmpD_ii]
  cases p i j <;> simp
theorem c_is_train (ps : List Int) : R.call m_is_train 1 [iL ps] = .ok (.dat (.bl (trainB ps))) := by
  refine call_ok ?_ rfl rfl
  unfold m_is_train b_is_train trainB
  rw [runF_ev]
  cases ps with
  | nil => simp
  | cons x r =>
    by_cases h : r.length + 1 ≤ 12
    · have h' : ((r.length : Int) + 1 ≤ 12) := by omega
      have h1 : (1 : Int) ≤ r.length + 1 := by omega
      simp [h, h', h1, minLD_iL, least_nonneg]
      rw [Bool.eq_iff_iff]
      simp
    · have h' : ¬ ((r.length : Int) + 1 ≤ 12) := by omega
      have h1 : (1 : Int) ≤ r.length + 1 := by omega
      simp [h, h', h1]
def lastP : List (Int × Int) → Int → Int
  | [], a => a
  | x :: r, _ => lastP r x.2
theorem scan_stand : ∀ (l : List (Int × Int)) (a : Int), scan (fun a (x : Int × Int) => if x.1 < (if x.2 - a < 0 then -(x.2 - a) else x.2 - a) then some (T.dat (.bl false)) else none) (fun _ x => x.2) l a = if goS l a then .inr (lastP l a) else .inl (.dat (.bl false))
  | [], a => by simp [scan, goS, lastP]
  | (p, w) :: r, a => by
    unfold scan
    simp only []
    by_cases h : p < (if w - a < 0 then -(w - a) else w - a)
    · rw [if_pos h]
      have : goS ((p, w) :: r) a = false := by
        unfold goS
        split at h
        · have : ¬ (a - w ≤ p) := by omega
          simp [this]
        · have : ¬ (w - a ≤ p) := by omega
          simp [this]
      simp [this]
    · rw [if_neg h]
      simp only []
      rw [scan_stand r w]
      have h1 : w - a ≤ p := by split at h <;> omega
      have h2 : a - w ≤ p := by split at h <;> omega
      simp [goS, h1, h2, lastP]
theorem c_is_stand_t {ps ws : List Int} {h : Int} (ht : trainB ps = true) : R.call m_is_stand 3 [iL ps, .int h, iL ws] = .ok (.dat (.bl (standB ps h ws))) := by
  refine call_ok ?_ rfl rfl
  unfold m_is_stand b_is_stand standB
  rw [runF_ev]
  by_cases hl : ws.length = ps.length
  · simp [c_is_train, ht, hl, List.replicate]
    rw [forW_scan pD (fun a : Int => [.no, .no, .no, .at (.dat (.int a)), .no, .no]) (fun a (x : Int × Int) => if x.1 < (if x.2 - a < 0 then -(x.2 - a) else x.2 - a) then some (T.dat (.bl false)) else none) (fun _ x => x.2) (fun _ _ => True) h]
    · rw [scan_stand]
      cases goS (ps.zip ws) h <;> simp [outS]
    · rintro ⟨p, w⟩ r a -
      rw [turnO_ev]
      by_cases q : p < (if w - a < 0 then -(w - a) else w - a)
      · simp [pD, iD, q]
      · simp [pD, iD, q, wpE_cons]
    · simp [wpE_cons]
    · trivial
  · have hl' : ¬ ((ws.length : Int) = ps.length) := by omega
    simp [c_is_train, ht, hl, hl', List.replicate]
theorem c_is_stand_n {ps : List Int} {h : Int} {ws : List Int} (ht : trainB ps = false) : R.call m_is_stand 3 [iL ps, .int h, iL ws] = .exc 1 := by
  refine call_exc ?_ rfl
  unfold m_is_stand b_is_stand
  rw [runF_ev]
  simp [c_is_train, ht, List.replicate]
theorem c_need_ok {ps : List Int} {h : Int} {ws : List Int} (ht : trainB ps = true) (hs : standB ps h ws = true) : R.call m_need_stand 3 [iL ps, .int h, iL ws] = .ok (.dat .non) := by
  refine call_ok ?_ rfl rfl
  unfold m_need_stand b_need_stand
  rw [runF_ev]
  simp [c_is_stand_t ht, hs]
theorem c_need_1 {ps : List Int} {h : Int} {ws : List Int} (ht : trainB ps = false) : R.call m_need_stand 3 [iL ps, .int h, iL ws] = .exc 1 := by
  refine call_exc ?_ rfl
  unfold m_need_stand b_need_stand
  rw [runF_ev]
  simp [c_is_stand_n ht]
theorem c_need_2 {ps : List Int} {h : Int} {ws : List Int} (ht : trainB ps = true) (hs : standB ps h ws = false) : R.call m_need_stand 3 [iL ps, .int h, iL ws] = .exc 2 := by
  refine call_exc ?_ rfl
  unfold m_need_stand b_need_stand
  rw [runF_ev]
  simp [c_is_stand_t ht, hs]
theorem drag_fold : ∀ (ps ws : List Int) (acc : List Int) (a : Int), ((ps.zip ws).foldl (fun (s : List Int × Int) (x : Int × Int) => (s.1 ++ [drag x.1 s.2 x.2], drag x.1 s.2 x.2)) (acc, a)).1 = acc ++ dragAll ps ws a
  | [], ws, acc, a => by simp [dragAll]
  | p :: ps, [], acc, a => by simp [dragAll]
  | p :: ps, w :: ws, acc, a => by
    rw [List.zip_cons_cons, List.foldl_cons, drag_fold ps ws]
    simp [dragAll]
theorem c_dragged_all {ps ws : List Int} {a : Int} (hl : ps.length ≤ 100000) : R.call m_dragged_all 3 [iL ps, iL ws, .int a] = .ok (iT (dragAll ps ws a)) := by
  refine call_ok ?_ rfl (by simp)
  unfold m_dragged_all b_dragged_all
  rw [runF_ev]
  simp [List.replicate]
  rw [forW_run pD (fun s : List Int × Int => [.no, .no, .no, .at (iT s.1), .at (.dat (.int s.2)), .no, .no]) (fun s x => (s.1 ++ [drag x.1 s.2 x.2], drag x.1 s.2 x.2)) (fun r s => s.1.length + r.length ≤ 100000) ([], a)]
  · simp [drag_fold]
  · rintro ⟨p, w⟩ r ⟨acc, a⟩ i
    simp only [List.length_cons] at i
    rw [turnW_ev]
    simp (disch := first | omega | simp) [pD, iD, c_dragged, sApp_ev, appC_iT, wpE_cons]
    omega
  · simp [wpE_cons, lst_0]
  · simp
    omega
theorem c_turned {ps ws : List Int} {h a : Int} (ht : trainB ps = true) (hs : standB ps h ws = true) : R.call m_turned 4 [iL ps, .int h, iL ws, .int a] = .ok (iT (dragAll ps ws a)) := by
  refine call_ok ?_ rfl (by simp)
  have : ps.length ≤ 100000 := by
    unfold trainB at ht
    simp at ht
    omega
  unfold m_turned b_turned
  rw [runF_ev]
  simp [c_need_ok ht hs, c_dragged_all this]
end Sm
/-! TyLaw: the laws' own drawing of trains and rows. -/
namespace Sm
open PySem L2
/-- a train and a stand, as drawn -/
structure Tr (ps : List Int) (h : Int) (ws : List Int) : Prop where
  train : trainB ps = true
  stand : standB ps h ws = true
  big : ∀ p ∈ ps, p ≤ 100000000000000000000
  hb : -500000000000000000000000000 ≤ h ∧ h ≤ 500000000000000000000000000
theorem goS_app : ∀ (l : List (Int × Int)) (p w a : Int), goS (l ++ [(p, w)]) a = (goS l a && (decide (w - lastP l a ≤ p) && decide (lastP l a - w ≤ p)))
  | [], p, w, a => by simp [goS, lastP] <;> rfl
  | (q, x) :: r, p, w, a => by
    show (decide (x - a ≤ q) && decide (a - x ≤ q) && goS (r ++ [(p, w)]) x) = (decide (x - a ≤ q) && decide (a - x ≤ q) && goS r x && (decide (w - lastP r x ≤ p) && decide (lastP r x - w ≤ p)))
    rw [goS_app r, ← Bool.and_assoc]
theorem lastP_app : ∀ (l : List (Int × Int)) (p w a : Int), lastP (l ++ [(p, w)]) a = w
  | [], p, w, a => rfl
  | (q, x) :: r, p, w, a => by simp [lastP, lastP_app r]
structure TrS where
  ps : List Int
  ws : List Int
  ahead : Int
theorem trainB_of {ps : List Int} (h1 : 1 ≤ ps.length) (h2 : ps.length ≤ 12) (h3 : ∀ p ∈ ps, 0 ≤ p) : trainB ps = true := by
  simp [trainB, h1, h2]
  exact h3
theorem trainB_iff {ps : List Int} : trainB ps = true ↔ (1 ≤ ps.length ∧ ps.length ≤ 12) ∧ ∀ p ∈ ps, 0 ≤ p := by
  simp [trainB]
theorem standB_iff {ps ws : List Int} {h : Int} : standB ps h ws = true ↔ ws.length = ps.length ∧ goS (ps.zip ws) h = true := by
  simp [standB]
theorem forW_k {α S : Type} {ws : List Nat} {gm : T → Env → R Env} {b : Env → Out} (enc : α → T) (cl : S → Env) (I : List α → S → Prop) {xs : List α} (s : S) {ρ : Env} {F : Out} {G : Prop} (hF : forW ws gm b (mE enc xs) ρ = F)
    (k : ∀ s', F = .nx (cl s') → I [] s' → G) (h : ∀ x r s, I (x :: r) s → ∃ s', turnW ws gm b (enc x) (cl s) = some (cl s') ∧ I r s') (e : wpE ρ ws = cl s) (i : I xs s) : G := by
  obtain ⟨s', e', i'⟩ := forW_ex enc cl I s hF h e i
  exact k s' e' i'
theorem rgI_mem {n : Nat} {j : Int} (h : j ∈ rgI 0 1 n) : 0 ≤ j ∧ j < n := by
  unfold rgI at h
  obtain ⟨i, hi, rfl⟩ := List.mem_map.mp h
  have := List.mem_range.mp hi
  omega
theorem c_law_train (ns : List Int) : ∃ ps h ws, Tr ps h ws ∧ R.call m_law_train 1 [.scr ns] = .ok (.tup [iT ps, .dat (.int h), iT ws]) := by
  suffices q : ∃ ps h ws, Tr ps h ws ∧ m_law_train [.scr ns] = .ok (.tup [iT ps, .dat (.int h), iT ws]) by
    obtain ⟨ps, h, ws, t, e⟩ := q
    exact ⟨ps, h, ws, t, call_ok e rfl (by simp)⟩
  obtain ⟨hs, e1, l1, b1, -⟩ := ex_draws (cellAt ns 0) 6 1000 (by decide)
  obtain ⟨pk, e2, l2, b2, -⟩ := ex_draws (cellAt ns 1) 36 1000000000 (by decide)
  simp only [Int.cast_ofNat_Int] at e1 e2
  unfold m_law_train b_law_train
  simp only [runF_ev]
  have b10 := b1 0
  have b11 := b1 1
  have b12 := b1 2
  have b13 := b1 3
  have b14 := b1 4
  have hm : ∃ many, many = pick [1 + pick hs 0 % 12, 1 + pick hs 0 % 4, 12] (pick hs 1 % 3) ∧ 1 ≤ many ∧ many ≤ 12 := ⟨_, rfl, pick_all (P := fun z => 1 ≤ z ∧ z ≤ 12) (by simp; omega) (by omega) (by simp; omega)⟩
  obtain ⟨many, em, hm⟩ := hm
  have hf : ∃ far, far = pick [3, 9, 100000000000000000000, 1] (pick hs 2 % 4) ∧ 1 ≤ far ∧ far ≤ 100000000000000000000 := ⟨_, rfl, pick_all (P := fun z => 1 ≤ z ∧ z ≤ 100000000000000000000) (by simp) (by omega) (by simp; omega)⟩
  obtain ⟨far, ef, hf⟩ := hf
  have hg : ∃ g, g = pick [1, 1, 1000000000000000000000000] (pick hs 4 % 3) ∧ 1 ≤ g ∧ g ≤ 1000000000000000000000000 := ⟨_, rfl, pick_all (P := fun z => 1 ≤ z ∧ z ≤ 1000000000000000000000000) (by simp) (by omega) (by simp; omega)⟩
  obtain ⟨g, eg, hg⟩ := hg
  simp (disch := first | omega | simp) [List.replicate, c_cell_at, e1, e2, mulD_ii, modD_ii, fdivD_ii, ixD_p, ixD_2, ixD_3, ixD_4, ← em, ← ef, ← eg, r1_ok]
  generalize hF : forW _ _ _ _ _ = F
  have hh : -500000000000000000000000000 ≤ (pick hs 3 - 500) * g ∧ (pick hs 3 - 500) * g ≤ 500000000000000000000000000 := by
    have h1 : (pick hs 3 - 500) * g ≤ 500 * g := Int.mul_le_mul_of_nonneg_right (by omega) (by omega)
    have h2 : (-500) * g ≤ (pick hs 3 - 500) * g := Int.mul_le_mul_of_nonneg_right (by omega) (by omega)
    omega
  generalize (pick hs 3 - 500) * g = h at *
  refine forW_k iD (fun s : TrS => [.no, .no, .no, .at (.dat (.int far)), .at (iT pk), .at (iT s.ps), .at (iT s.ws), .at (.dat (.int h)), .at (.dat (.int s.ahead)), .no, .no, .no])
    (fun r s => s.ps.length = s.ws.length ∧ s.ps.length + r.length = many ∧ (∀ j ∈ r, 0 ≤ j ∧ j < 12) ∧ (∀ p ∈ s.ps, 0 ≤ p ∧ p ≤ far) ∧ goS (s.ps.zip s.ws) h = true ∧ lastP (s.ps.zip s.ws) h = s.ahead) ⟨[], [], h⟩ hF ?_ ?_ ?_ ?_
  · rintro ⟨ps, ws, a⟩ rfl i
    simp at i
    obtain ⟨i1, i2, i3, i4, i5⟩ := i
    refine ⟨ps, h, ws, ⟨trainB_of (by omega) (by omega) fun p hp => (i3 p hp).1, ?_, fun p hp => by have := i3 p hp; omega, hh⟩, ?_⟩
    · simp [standB, i1, i4]
    · simp
  · rintro j r ⟨ps, ws, a⟩ ⟨i1, i2, i3, i4, i5, i6⟩
    have hj := i3 j List.mem_cons_self
    simp only [List.length_cons] at i1 i2 i4 i5 i6
    have hp : ∃ p, p = (if 0 < pick pk j % 5 then pick pk j % (far + 1) else pick pk j * 1000000000001 % (far + 1)) ∧ 0 ≤ p ∧ p ≤ far := by
      refine ⟨_, rfl, ?_⟩
      have q1 := Int.emod_nonneg (pick pk j) (b := far + 1) (by omega)
      have q2 := Int.emod_lt_of_pos (pick pk j) (b := far + 1) (by omega)
      have q3 := Int.emod_nonneg (pick pk j * 1000000000001) (b := far + 1) (by omega)
      have q4 := Int.emod_lt_of_pos (pick pk j * 1000000000001) (b := far + 1) (by omega)
      split <;> omega
    obtain ⟨p, ep, hp⟩ := hp
    have hs : ∃ s, s = pick [-p, p, pick pk (12 + j) * 1000000000001 % (2 * p + 1) - p] (pick pk (24 + j) % 3) ∧ -p ≤ s ∧ s ≤ p := by
      refine ⟨_, rfl, pick_all (P := fun z => -p ≤ z ∧ z ≤ p) ?_ (by omega) (by simp; omega)⟩
      have q3 := Int.emod_nonneg (pick pk (12 + j) * 1000000000001) (b := 2 * p + 1) (by omega)
      have q4 := Int.emod_lt_of_pos (pick pk (12 + j) * 1000000000001) (b := 2 * p + 1) (by omega)
      simp
      omega
    obtain ⟨sd, es, hs⟩ := hs
    refine ⟨⟨ps ++ [p], ws ++ [a + sd], a + sd⟩, ?_, ?_⟩
    · rw [turnW_ev]
      by_cases q : 0 < pick pk j % 5
      · rw [if_pos q] at ep
        simp (disch := first | omega | simp) [iD, q, mulD_ii, modD_ii, fdivD_ii, ixD_p, ixD_3, ← ep, ← es, sApp_ev, appC_iT, wpE_cons]
      · rw [if_neg q] at ep
        simp (disch := first | omega | simp) [iD, q, mulD_ii, modD_ii, fdivD_ii, ixD_p, ixD_3, ← ep, ← es, sApp_ev, appC_iT, wpE_cons]
    · refine ⟨by simp [i1], by simp; omega, fun j hj => i3 j (List.mem_cons_of_mem _ hj), ?_, ?_, ?_⟩
      · intro x hx
        rcases List.mem_append.mp hx with q | q
        · exact i4 x q
        · rw [List.mem_singleton.mp q]; omega
      · simp only []
        rw [List.zip_append i1]
        simp [goS_app, i5, i6]
        omega
      · simp only []
        rw [List.zip_append i1]
        simp [lastP_app]
  · simp [wpE_cons, lst_0]
  · refine ⟨rfl, by simp; omega, ?_, by simp, rfl, rfl⟩
    intro j hj
    have := rgI_mem hj
    omega
end Sm
/-! TyE: more of what the mirrors call; loops over ranges; rows. -/
namespace Sm
open PySem L2
theorem sumD_iL (xs : List Int) : sumD [iL xs] = .ok (.int xs.sum) := by
  show (match (iL xs).litems with
    | some xs => (match D.ints xs with
      | some ns => R.ok (D.int ns.sum)
      | none => .bad)
    | none => .bad) = _
  rw [iL_litems]
  simp only [ints_ints]
@[simp] theorem listD_iL (xs : List Int) : listD [iL xs] = .ok (xs.map D.int) := (rfl)
@[simp] theorem listD_scr (xs : List Int) : listD [.scr xs] = .ok (xs.map D.int) := (rfl)
theorem catF_iL {xs ys : List Int} (h : xs.length + ys.length ≤ 1000000) : catF (iL xs) (iL ys) = .ok ((xs ++ ys).map D.int) := by
  unfold catF iL
  simp only [List.length_map]
  rw [if_pos (le_sz h), List.map_append]
theorem cat_tl {xs ys : List Int} (h : xs.length + ys.length ≤ 1000000) : (catF (iL xs) (iL ys)).tl = .ok (iT (xs ++ ys)) := by rw [catF_iL h, tl_ints]
theorem cat_of {xs ys : List Int} (h : xs.length + ys.length ≤ 1000000) : (catF (iL xs) (iL ys)).ofF = .ok (iL (xs ++ ys)) := by rw [catF_iL h, ofF_ints]
theorem cat_add {xs ys : List Int} (h : xs.length + ys.length ≤ 1000000) : addD (iL xs) (iL ys) = .ok (iL (xs ++ ys)) := by
  unfold addD iL
  simp only [List.length_map]
  rw [if_pos (le_sz h), List.map_append]
@[simp] theorem lst_iL1 (a : Int) : D.lst [.int a] = iL [a] := (rfl)
theorem cut_le {α : Type} (xs : List α) (lo hi : Option Int) : (cut xs lo hi).length ≤ xs.length := by
  unfold cut
  simp
  omega
theorem sum_nonneg : ∀ {xs : List Int}, (∀ x ∈ xs, 0 ≤ x) → 0 ≤ xs.sum
  | [], _ => by simp
  | x :: r, h => by
    have := sum_nonneg (xs := r) fun y hy => h y (List.mem_cons_of_mem _ hy)
    have := h x List.mem_cons_self
    simp
    omega
/-! tuples -/
theorem ixD_tup {ds : List D} {k : Int} (h0 : 0 ≤ k) (h : k < ds.length) : ixD (.tup ds) (.int k) = .ok (ds.getD k.toNat .non) := by
  show (match (D.tup ds).items with
      | some ys => (match atI ys k with
        | some d => R.ok d
        | none => R.bad)
      | none => .bad) = _
  have hk : k.toNat < ds.length := by omega
  simp only [D.items, atI_nat' h0, List.getElem?_eq_getElem hk, List.getD_eq_getElem?_getD, Option.getD_some]
@[simp] theorem ixD_tup0 {a : D} {r : List D} : ixD (.tup (a :: r)) (.int 0) = .ok a := by
  rw [ixD_tup (by omega) (by simp <;> omega)]
  rfl
@[simp] theorem ixD_tup1 {a b : D} {r : List D} : ixD (.tup (a :: b :: r)) (.int 1) = .ok b := by
  rw [ixD_tup (by omega) (by simp <;> omega)]
  rfl
@[simp] theorem ixD_tup2 {a b c : D} {r : List D} : ixD (.tup (a :: b :: c :: r)) (.int 2) = .ok c := by
  rw [ixD_tup (by omega) (by simp <;> omega)]
  rfl
theorem eqv_tup2 (a b c d : D) : D.eqv (.tup [a, b]) (.tup [c, d]) = (D.eqv a c && D.eqv b d) := by
  unfold D.eqv
  simp [D.py, D.pys, PyData.eqv, PyData.eqvAll]
theorem eqv_tup3 (a b c d e f : D) : D.eqv (.tup [a, b, c]) (.tup [d, e, f]) = (D.eqv a d && (D.eqv b e && D.eqv c f)) := by
  unfold D.eqv
  simp [D.py, D.pys, PyData.eqv, PyData.eqvAll]
theorem sh_t2 {n : Nat} {a b : D} (ha : Sh n a) (hb : Sh n b) : Sh (n + 1) (.tup [a, b]) := sh_tup (by simp [ha, hb])
theorem sh_t3 {n : Nat} {a b c : D} (ha : Sh n a) (hb : Sh n b) (hc : Sh n c) : Sh (n + 1) (.tup [a, b, c]) := sh_tup (by simp [ha, hb, hc])
@[simp] theorem neD_t2L (a b c d : List Int) : neD (.tup [iL a, iL b]) (.tup [iL c, iL d]) = .ok (.bl (!(decide (a = c) && decide (b = d)))) := by
  rw [neD_sh (sh_t2 (sh_iL _ _) (sh_iL _ _)) (sh_t2 (sh_iL _ _) (sh_iL _ _)), eqv_tup2, eqv_iL, eqv_iL]
@[simp] theorem neD_t3L (a b c d e f : List Int) : neD (.tup [iL a, iL b, iL c]) (.tup [iL d, iL e, iL f]) = .ok (.bl (!(decide (a = d) && (decide (b = e) && decide (c = f))))) := by
  rw [neD_sh (sh_t3 (sh_iL _ _) (sh_iL _ _) (sh_iL _ _)) (sh_t3 (sh_iL _ _) (sh_iL _ _) (sh_iL _ _)), eqv_tup3, eqv_iL, eqv_iL, eqv_iL]
theorem eqv_bb (a b : Bool) : D.eqv (.bl a) (.bl b) = (a == b) := by cases a <;> cases b <;> rfl
@[simp] theorem eqD_bb (a b : Bool) : eqD (.bl a) (.bl b) = .ok (.bl (a == b)) := by rw [eqD_sh (sh_bl _ _) (sh_bl _ _), eqv_bb]
@[simp] theorem neD_bb (a b : Bool) : neD (.bl a) (.bl b) = .ok (.bl (!(a == b))) := by rw [neD_sh (sh_bl _ _) (sh_bl _ _), eqv_bb]
@[simp] theorem neD_nils : neD (.lst []) (.lst []) = .ok (.bl false) := by rw [← iL_nil, neD_iL]; rfl
@[simp] theorem eqD_nils : eqD (.lst []) (.lst []) = .ok (.bl true) := by rw [← iL_nil, eqD_iL]; rfl
@[simp] theorem er_nil : (T.lst []).er = .lst [] := (rfl)
/-! loops over a range -/
theorem forW_rk {S : Type} {ws : List Nat} {gm : T → Env → R Env} {b : Env → Out} (cl : S → Env) (I : Int → S → Prop) {lo : Int} {n : Nat} (s : S) {ρ : Env} {F : Out} {G : Prop} (hF : forW ws gm b (mE iD (rgI lo 1 n)) ρ = F)
    (k : ∀ s', F = .nx (cl s') → I (lo + n) s' → G) (h : ∀ j s, lo ≤ j → j < lo + n → I j s → ∃ s', turnW ws gm b (iD j) (cl s) = some (cl s') ∧ I (j + 1) s') (e : wpE ρ ws = cl s) (i : I lo s) : G := by
  refine forW_k iD cl (fun r s => ∃ m : Nat, r = rgI (lo + n - m) 1 m ∧ m ≤ n ∧ I (lo + n - m) s) s hF ?_ ?_ e ⟨n, by rw [show lo + n - n = lo by omega], Nat.le_refl _, by rw [show lo + n - n = lo by omega]; exact i⟩
  · rintro s' e' ⟨m, em, hm, im⟩
    cases m with
    | zero => exact k s' e' (by simpa using im)
    | succ m => rw [rgI_succ] at em; cases em
  · rintro x r s ⟨m, em, hm, im⟩
    cases m with
    | zero => rw [rgI_zero] at em; cases em
    | succ m =>
      rw [rgI_succ] at em
      obtain ⟨rfl, rfl⟩ := List.cons.inj em
      obtain ⟨s', e1, i1⟩ := h _ s (by omega) (by omega) im
      exact ⟨s', e1, m, by congr 1; omega, by omega, by rw [show lo + n - m = lo + n - ((m + 1 : Nat) : Int) + 1 by omega]; exact i1⟩
theorem drop_pick {l : List Int} {j : Nat} (h : j < l.length) : l.drop j = pick l j :: l.drop (j + 1) := by
  rw [List.drop_eq_getElem_cons h]
  unfold pick
  simp [List.getElem?_eq_getElem h]
/-! a row of drawn places -/
theorem c_law_row {cell many mid span : Int} (hs : 0 ≤ span) (hm : 0 ≤ many ∧ many ≤ 10000) : ∃ l : List Int, R.call m_law_row 4 [.int cell, .int many, .int mid, .int span] = .ok (iT l) ∧ (l.length : Int) = many ∧ ∀ x ∈ l, mid - span - 6 ≤ x ∧ x ≤ mid + span + 6 := by
  suffices q : ∃ l : List Int, m_law_row [.int cell, .int many, .int mid, .int span] = .ok (iT l) ∧ (l.length : Int) = many ∧ ∀ x ∈ l, mid - span - 6 ≤ x ∧ x ≤ mid + span + 6 by
    obtain ⟨l, e, h⟩ := q
    exact ⟨l, call_ok e rfl (by simp), h⟩
  obtain ⟨pk, e1, l1, -, b1⟩ := ex_draws cell many.toNat 1000000000 (by omega)
  rw [show ((many.toNat : Nat) : Int) = many by omega] at e1
  unfold m_law_row b_law_row
  simp only [runF_ev]
  simp (disch := first | omega | simp) [List.replicate, e1]
  generalize hF : forW _ _ _ _ _ = F
  refine forW_k iD (fun s : List Int => [.no, .no, .at (.dat (.int mid)), .at (.dat (.int span)), .at (iT s), .no, .no, .no, .no])
    (fun r s => (∀ p ∈ r, 0 ≤ p ∧ p < 1000000000) ∧ s.length + r.length = many.toNat ∧ ∀ x ∈ s, mid - span - 6 ≤ x ∧ x ≤ mid + span + 6) [] hF ?_ ?_ ?_ ?_
  · rintro s rfl ⟨-, i2, i3⟩
    simp at i2
    exact ⟨s, by simp, by omega, i3⟩
  · rintro p r s ⟨i1, i2, i3⟩
    have hp := i1 p List.mem_cons_self
    simp only [List.length_cons] at i2
    have q1 := Int.emod_nonneg (p * 10000000000001) (b := 2 * span + 1) (by omega)
    have q2 := Int.emod_lt_of_pos (p * 10000000000001) (b := 2 * span + 1) (by omega)
    have q3 := Int.emod_nonneg (p / 8) (b := 2 * span + 1) (by omega)
    have q4 := Int.emod_lt_of_pos (p / 8) (b := 2 * span + 1) (by omega)
    have he : ∃ e, e = pick [-span, span] (p / 8 % 2) ∧ -span ≤ e ∧ e ≤ span := ⟨_, rfl, pick_z (P := fun z => -span ≤ z ∧ z ≤ span) (by simp; omega) (by omega)⟩
    obtain ⟨e, ee, he⟩ := he
    have hz : ∃ z, z = pick [p / 8 % 13 - 6, p * 10000000000001 % (2 * span + 1) - span, p * 10000000000001 % (2 * span + 1) - span, e, p / 8 % (2 * span + 1) - span] (p % 5) ∧ -span - 6 ≤ z ∧ z ≤ span + 6 := ⟨_, rfl, pick_z (P := fun z => -span - 6 ≤ z ∧ z ≤ span + 6) (by simp; omega) (by omega)⟩
    obtain ⟨z, ez, hz⟩ := hz
    refine ⟨s ++ [mid + z], ?_, fun p hp => i1 p (List.mem_cons_of_mem _ hp), by simp; omega, ?_⟩
    · rw [turnW_ev]
      simp (disch := first | omega | simp) [iD, mulD_ii, modD_ii, fdivD_ii, ixD_2, ixD_5, ← ee, ← ez, sApp_ev, appC_iT, wpE_cons]
    · intro x hx
      rcases List.mem_append.mp hx with q | q
      · exact i3 x q
      · rw [List.mem_singleton.mp q]; omega
  · simp [wpE_cons, lst_0]
  · exact ⟨b1, by simp [l1], by simp⟩
theorem c_law_a_row {cell many mid span : Int} (hs : 0 ≤ span) (hm : 0 ≤ many ∧ many ≤ 10000) : ∃ l : List Int, R.call m_law_a_row 4 [.int cell, .int many, .int mid, .int span] = .ok (iT l) ∧ (l.length : Int) = many ∧ ∀ x ∈ l, mid - span - 6 ≤ x ∧ x ≤ mid + span + 6 := c_law_row hs hm
/-! places -/
theorem c_law_places {l : List Int} {many : Int} (h : (l.length : Int) = many) (hl : l.length ≤ 100000) : R.call m_law_places 2 [iL l, .int many] = .ok (.dat (.bl true)) := by
  refine call_ok ?_ rfl rfl
  unfold m_law_places b_law_places
  rw [runF_ev]
  simp [List.replicate, isi_iL, kit_list_list, h]
  rw [lc_ints iD (fun _ => none)]
  · simp
  · intro x _
    rw [lcOne_ev]
    simp [iD, c_whole_int]
  · omega
theorem c_law_a_places {l : List Int} {many : Int} (h : (l.length : Int) = many) (hl : l.length ≤ 100000) : R.call m_law_a_places 2 [iL l, .int many] = .ok (.dat (.bl true)) := c_law_places h hl
/-! a turning is right -/
theorem c_law_right {ps ws : List Int} {a : Int} (hp : ∀ p ∈ ps, 0 ≤ p) (hl : ws.length = ps.length) (h12 : ps.length ≤ 1000) : R.call m_law_right 4 [iL ps, iL ws, .int a, iL (dragAll ps ws a)] = .ok (.dat (.bl true)) := by
  refine call_ok ?_ rfl rfl
  have hlen := dragAll_len ps ws a
  generalize hD : dragAll ps ws a = fd at *
  unfold m_law_right b_law_right
  rw [runF_ev]
  simp (disch := first | omega | simp) [List.replicate, r1_ok]
  generalize hF : forW _ _ _ _ _ = F
  refine forW_rk (fun b : Int => [.at (.dat (iL ps)), .at (.dat (iL ws)), .no, .at (.dat (iL fd)), .at (.dat (.int b)), .no, .no])
    (fun j b => dragAll (ps.drop j.toNat) (ws.drop j.toNat) b = fd.drop j.toNat) a hF ?_ ?_ ?_ ?_
  · rintro s rfl -
    simp
  · intro j b h0 h1 hi
    have hj : j.toNat < ps.length := by omega
    rw [drop_pick hj, drop_pick (l := ws) (by omega), drop_pick (l := fd) (by omega)] at hi
    simp only [dragAll] at hi
    obtain ⟨e1, e2⟩ := List.cons.inj hi
    rw [show ((j.toNat : Nat) : Int) = j by omega] at e1 e2
    have hpj : 0 ≤ pick ps j := pick_z (P := fun z => 0 ≤ z) hp (by omega)
    refine ⟨pick fd j, ?_, ?_⟩
    · rw [turnW_ev]
      unfold drag at e1
      by_cases q1 : pick fd j = pick ws j
      · have n1 : ¬ pick ps j < pick fd j - b := by omega
        have n2 : ¬ pick fd j - b < - pick ps j := by omega
        rw [q1] at n1 n2 ⊢
        simp (disch := first | omega | simp) [iD, ixD_p, q1, n1, n2, wpE_cons]
      · have n1 : ¬ pick ps j < pick fd j - b := by omega
        have n2 : ¬ pick fd j - b < - pick ps j := by omega
        by_cases q2 : pick ws j < pick fd j
        · have n3 : (pick fd j - b) * -1 = pick ps j := by omega
          have n4 : pick [1, -1] 1 = -1 := rfl
          simp (disch := first | omega | simp) [iD, ixD_p, ixD_2, q1, n1, n2, q2, wpE_cons, mulD_ii, n3, n4]
        · have n3 : (pick fd j - b) * 1 = pick ps j := by omega
          have n4 : pick [1, -1] 0 = 1 := rfl
          simp (disch := first | omega | simp) [iD, ixD_p, ixD_2, q1, n1, n2, q2, wpE_cons, mulD_ii, n3, n4]
    · rw [show (j + 1).toNat = j.toNat + 1 by omega, ← e2, e1]
  · simp [wpE_cons]
  · simpa using hD
end Sm
/-! TyF: try, items set, pops, while. -/
namespace Sm
open PySem L2
def Out.try_ : Out → Nat → Nat → Out
  | .exc c ρ1, i, k => if c < 13 ∧ i ≠ k then (match ρ1[i]? with
    | some .no => (match setC k (kinT c) ρ1 with
      | .ok ρ2 => .nx ρ2
      | _ => .bad)
    | _ => .bad) else .bad
  | o, _, _ => o
section
variable {ρ : Env} {i k c : Nat} {mb : Env → Out} {me : Env → O2} {mi : Env → R D} {τ : T}
@[simp] theorem sTry_ev : sTry i k mb ρ = (mb ρ).try_ i k := by
  unfold sTry Out.try_
  cases mb ρ <;> rfl
@[simp] theorem try_nx : (Out.nx ρ).try_ i k = .nx ρ := (rfl)
@[simp] theorem try_rt : (Out.rt τ).try_ i k = .rt τ := (rfl)
theorem try_exc (hc : c < 13) (hik : i ≠ k) (hi : ρ[i]? = some .no) (hk : cellS ρ[k]? (.ok ρ) = .ok ρ) : (Out.exc c ρ).try_ i k = .nx (ρ.set k (.at (kinT c))) := by
  show (if c < 13 ∧ i ≠ k then (match ρ[i]? with
    | some .no => (match setC k (kinT c) ρ with
      | .ok ρ2 => Out.nx ρ2
      | _ => .bad)
    | _ => .bad) else .bad) = _
  rw [if_pos ⟨hc, hik⟩, hi]
  simp only [setC_ev]
  unfold cellS at hk ⊢
  cases q : ρ[k]? with
  | none => rw [q] at hk; cases hk
  | some x =>
    rw [q] at hk
    cases x with
    | lent t => cases hk
    | no => rfl
    | «at» t => rfl
/-! an item set -/
def O2.seti : O2 → Nat → (Env → R D) → Out
  | .ok τ ρ1, i, mi => (match mi ρ1 with
    | .ok (.int k) => (match ρ1[i]? with
      | some (.at (.lst ts)) => (match ixN ts.length k with
        | some j => .nx (ρ1.set i (.at (.lst (ts.set j τ))))
        | none => .bad)
      | _ => .bad)
    | _ => .bad)
  | .exc k ρ1, _, _ => .exc k ρ1
  | .bad, _, _ => .bad
@[simp] theorem sSetI_ev : sSetI i me mi ρ = (me ρ).seti i mi := by
  unfold sSetI O2.seti
  cases me ρ <;> rfl
def setiC : R D → Option Cell → Env → Nat → T → Out
  | .ok (.int k), some (.at (.lst ts)), ρ1, i, τ => (match ixN ts.length k with
        | some j => .nx (ρ1.set i (.at (.lst (ts.set j τ))))
        | none => .bad)
  | _, _, _, _, _ => .bad
@[simp] theorem seti_ok : (O2.ok τ ρ).seti i mi = setiC (mi ρ) ρ[i]? ρ i τ := by
  show (match mi ρ with
    | .ok (.int k) => (match ρ[i]? with
      | some (.at (.lst ts)) => (match ixN ts.length k with
        | some j => Out.nx (ρ.set i (.at (.lst (ts.set j τ))))
        | none => .bad)
      | _ => .bad)
    | _ => .bad) = _
  generalize mi ρ = x
  generalize ρ[i]? = c
  unfold setiC
  cases x with
  | ok d => cases d with
    | int k => cases c with
      | none => rfl
      | some c => cases c with
        | «at» t => cases t <;> rfl
        | _ => rfl
    | _ => rfl
  | _ => rfl
theorem setiC_iT {k n : Int} {ns : List Int} (h0 : 0 ≤ k) (h1 : k < ns.length) : setiC (.ok (.int k)) (some (.at (iT ns))) ρ i (.dat (.int n)) = .nx (ρ.set i (.at (iT (ns.set k.toNat n)))) := by
  show (match ixN (ns.map iD).length k with
        | some j => Out.nx (ρ.set i (.at (.lst ((ns.map iD).set j (.dat (.int n))))))
        | none => .bad) = _
  unfold ixN
  rw [List.length_map, if_pos h0, if_pos h1]
  unfold iT
  rw [List.map_set]
  rfl
theorem setiC_iTn {n : Int} {ns : List Int} (h1 : 0 < ns.length) : setiC (.ok (.int (-1))) (some (.at (iT ns))) ρ i (.dat (.int n)) = .nx (ρ.set i (.at (iT (ns.set (ns.length - 1) n)))) := by
  show (match ixN (ns.map iD).length (-1) with
        | some j => Out.nx (ρ.set i (.at (.lst ((ns.map iD).set j (.dat (.int n))))))
        | none => .bad) = _
  have q : ixN ns.length (-1) = some (ns.length - 1) := by
    unfold ixN
    rw [if_neg (by omega)]
    split
    · congr 1; omega
    · omega
  rw [List.length_map, q]
  unfold iT
  rw [List.map_set]
  rfl
/-! pops -/
def popC : Option Cell → Env → Nat → O2
  | some (.at (.lst ts)), ρ, i => (match ts.getLast? with
    | some τ => .ok τ (ρ.set i (.at (.lst ts.dropLast)))
    | none => .bad)
  | _, _, _ => .bad
@[simp] theorem ePop_ev : ePop i ρ = popC ρ[i]? ρ i := by
  unfold ePop popC
  cases ρ[i]? with
  | none => rfl
  | some c => cases c with
    | «at» t => cases t <;> rfl
    | _ => rfl
theorem popC_iT {ns : List Int} (n : Int) : popC (some (.at (iT (ns ++ [n])))) ρ i = .ok (iD n) (ρ.set i (.at (iT ns))) := by
  show (match ((ns ++ [n]).map iD).getLast? with
    | some τ => O2.ok τ (ρ.set i (.at (.lst ((ns ++ [n]).map iD).dropLast)))
    | none => .bad) = _
  rw [List.map_append, List.map_cons, List.map_nil, List.getLast?_concat, List.dropLast_concat]
  rfl
def revC : Option Cell → Env → Nat → Out
  | some (.at (.lst ts)), ρ, i => .nx (ρ.set i (.at (.lst ts.reverse)))
  | _, _, _ => .bad
@[simp] theorem sRev_ev : sRev i ρ = revC ρ[i]? ρ i := by
  unfold sRev revC
  cases ρ[i]? with
  | none => rfl
  | some c => cases c with
    | «at» t => cases t <;> rfl
    | _ => rfl
@[simp] theorem revC_iT {ns : List Int} : revC (some (.at (iT ns))) ρ i = .nx (ρ.set i (.at (iT ns.reverse))) := by
  unfold iT
  rw [List.map_reverse]
  rfl
end
/-! while -/
def whT (ws : List Nat) (b : Env → Out) (ρ : Env) : Option Env := (b ρ).tw ws
/-- a while with a measure; no break, no return -/
theorem whW_ex {S : Type} {ws : List Nat} {mc : Env → R Bool} {b : Env → Out} (cl : S → Env) (I : S → Prop) (μ : S → Nat)
    (h : ∀ s, I s → mc (cl s) = .ok false ∨ (mc (cl s) = .ok true ∧ ∃ s', (b (cl s)).tw ws = some (cl s') ∧ I s' ∧ μ s' < μ s)) : ∀ (N : Nat) (s : S) (ρ : Env), wpE ρ ws = cl s → I s → μ s < N → ∃ s', whW ws mc b N ρ = .nx (cl s') ∧ I s' ∧ mc (cl s') = .ok false
  | 0, s, ρ, _, _, hN => by omega
  | N + 1, s, ρ, e, i, hN => by
    rcases h s i with q | ⟨q, s', e', i', hm⟩
    · exact ⟨s, by simp only [whW, e, q], i, q⟩
    · unfold Out.tw at e'
      split at e'
      · rename_i ρ2 q2
        obtain ⟨s2, e2, i2, q3⟩ := whW_ex cl I μ h N s' ρ2 (Option.some.inj e') i' (by omega)
        exact ⟨s2, by simp only [whW, e, q, q2, e2], i2, q3⟩
      · rename_i ρ2 q2
        obtain ⟨s2, e2, i2, q3⟩ := whW_ex cl I μ h N s' ρ2 (Option.some.inj e') i' (by omega)
        exact ⟨s2, by simp only [whW, e, q, q2, e2], i2, q3⟩
      · cases e'
theorem whW_k {S : Type} {ws : List Nat} {mc : Env → R Bool} {b : Env → Out} (cl : S → Env) (I : S → Prop) (μ : S → Nat) {N : Nat} (s : S) {ρ : Env} {F : Out} {G : Prop} (hF : whW ws mc b N ρ = F)
    (k : ∀ s', F = .nx (cl s') → I s' → mc (cl s') = .ok false → G) (h : ∀ s, I s → mc (cl s) = .ok false ∨ (mc (cl s) = .ok true ∧ ∃ s', (b (cl s)).tw ws = some (cl s') ∧ I s' ∧ μ s' < μ s)) (e : wpE ρ ws = cl s) (i : I s) (hN : μ s < N) : G := by
  obtain ⟨s', e', i', q'⟩ := whW_ex cl I μ h N s ρ e i hN
  exact k s' (hF.symm.trans e') i' q'
theorem maxLD_iL {x : Int} {r : List Int} : maxLD [iL (x :: r)] = .ok (.int (mostI x r)) := by
  show (match (iL (x :: r)).litems with
    | some xs => (match D.ints xs with
      | some (x :: r) => R.ok (D.int (mostI x r))
      | _ => .bad)
    | none => .bad) = _
  rw [iL_litems]
  simp only [ints_ints]
theorem sorted_tl {xs : List Int} : (sortedD [iL xs]).tl = .ok (iT (sortI xs)) := by
  have : sortedD [iL xs] = .ok ((sortI xs).map D.int) := by
    show (match (iL xs).litems with
      | some xs => (match D.ints xs with
        | some ns => R.ok ((sortI ns).map D.int)
        | none => .bad)
      | none => .bad) = _
    rw [iL_litems]
    simp only [ints_ints]
  rw [this, tl_ints]
theorem sorted_of {xs : List Int} : (sortedD [iL xs]).ofF = .ok (iL (sortI xs)) := by
  have : sortedD [iL xs] = .ok ((sortI xs).map D.int) := by
    show (match (iL xs).litems with
      | some xs => (match D.ints xs with
        | some ns => R.ok ((sortI ns).map D.int)
        | none => .bad)
      | none => .bad) = _
    rw [iL_litems]
    simp only [ints_ints]
  rw [this, ofF_ints]
end Sm
/-! TyG: own copies; depths and ways. -/
namespace Sm
open PySem L2
@[simp] theorem sBad_ev {ρ : Env} : sBad ρ = .bad := (rfl)
theorem kit_list_str : kitB "list" "str" = some false := by decide +kernel
theorem kit_int_str : kitB "int" "str" = some false := by decide +kernel
theorem own_int (n : Nat) (i : Int) : R.call (m_law_own (n + 1)) 1 [.int i] = .ok (.dat (.int i)) := by
  refine call_ok ?_ rfl rfl
  unfold m_law_own b_law_own
  rw [runF_ev]
  simp [List.replicate, isi_int, kit_int_list, kit_int_dict, kit_int_tuple]
theorem own_iL (n : Nat) {xs : List Int} (h : xs.length ≤ 100000) : R.call (m_law_own (n + 2)) 1 [iL xs] = .ok (iT xs) := by
  refine call_ok ?_ rfl (by simp)
  show runF 4 (b_law_own (m_law_own (n + 1))) [iL xs] = _
  unfold b_law_own
  rw [runF_ev]
  simp [List.replicate, isi_iL, kit_list_list]
  rw [lc_mapI iD (fun x => x)]
  · simp
  · intro x _
    rw [lcOne_ev]
    simp [iD, own_int]
  · omega
theorem own8_int (i : Int) : R.call (m_law_own 8) 1 [.int i] = .ok (.dat (.int i)) := own_int 7 i
theorem own8_iL {xs : List Int} (h : xs.length ≤ 100000) : R.call (m_law_own 8) 1 [iL xs] = .ok (iT xs) := own_iL 6 h
theorem ixD_lst0 {a : D} {r : List D} : ixD (.lst (a :: r)) (.int 0) = .ok a := by
  rw [ixD_lst (by omega) (by simp <;> omega)]
  rfl
theorem ixD_lst1 {a b : D} {r : List D} : ixD (.lst (a :: b :: r)) (.int 1) = .ok b := by
  rw [ixD_lst (by omega) (by simp <;> omega)]
  rfl
theorem ixD_lst2 {a b c : D} {r : List D} : ixD (.lst (a :: b :: c :: r)) (.int 2) = .ok c := by
  rw [ixD_lst (by omega) (by simp <;> omega)]
  rfl
theorem ixD_lst3 {a b c d : D} {r : List D} : ixD (.lst (a :: b :: c :: d :: r)) (.int 3) = .ok d := by
  rw [ixD_lst (by omega) (by simp <;> omega)]
  rfl
theorem eqv_cons {a b : D} {as bs : List D} : D.eqv (.lst (a :: as)) (.lst (b :: bs)) = (D.eqv a b && D.eqv (.lst as) (.lst bs)) := by
  unfold D.eqv
  simp [D.py, D.pys, PyData.eqv, PyData.eqvAll]
theorem eqv_nil : D.eqv (.lst []) (.lst []) = true := by
  unfold D.eqv
  simp [D.py, D.pys, PyData.eqv, PyData.eqvAll]
theorem eqD_L {as bs : List D} (h : ∀ d ∈ as, Sh 60 d) (h' : ∀ d ∈ bs, Sh 60 d) : eqD (.lst as) (.lst bs) = .ok (.bl (D.eqv (.lst as) (.lst bs))) := eqD_sh ((sh_lst h).mono (by omega)) ((sh_lst h').mono (by omega))
@[simp] theorem er_lc (t : T) (ts : List T) : (T.lst (t :: ts)).er = .lst (t.er :: T.ers ts) := (rfl)
theorem er_l1 (xs : List Int) : (T.lst [iT xs]).er = .lst [iL xs] := by simp
theorem minLD_ne {ps : List Int} (h : ps ≠ []) : ∃ m, minLD [iL ps] = .ok (.int m) ∧ (0 ≤ m ↔ ∀ y ∈ ps, 0 ≤ y) := by
  cases ps with
  | nil => exact absurd rfl h
  | cons x r => exact ⟨_, minLD_iL, by rw [least_nonneg]; simp⟩
/-! depths -/
def deps (t : Int) : List Int → List Int
  | [] => []
  | p :: r => (t + p) :: deps (t + p) r
@[simp] theorem deps_len : ∀ (t : Int) (l : List Int), (deps t l).length = l.length
  | _, [] => rfl
  | t, p :: r => by simp [deps, deps_len (t + p) r]
theorem deps_fold : ∀ (l acc : List Int) (t : Int), (l.foldl (fun (s : List Int × Int) p => (s.1 ++ [s.2 + p], s.2 + p)) (acc, t)).1 = acc ++ deps t l
  | [], acc, t => by simp [deps]
  | p :: r, acc, t => by
    rw [List.foldl_cons, deps_fold r]
    simp [deps]
theorem c_depths_ok {ps : List Int} (ht : trainB ps = true) : R.call m_depths_of 1 [iL ps] = .ok (iT (deps 0 ps)) := by
  refine call_ok ?_ rfl (by simp)
  have := (trainB_iff.mp ht).1
  unfold m_depths_of b_depths_of
  rw [runF_ev]
  simp [List.replicate, c_is_train, ht]
  rw [forW_run iD (fun s : List Int × Int => [.no, .at (iT s.1), .at (.dat (.int s.2)), .no]) (fun s p => (s.1 ++ [s.2 + p], s.2 + p)) (fun r s => s.1.length + r.length ≤ 100000) ([], 0)]
  · simp [deps_fold]
  · rintro p r ⟨acc, t⟩ i
    simp only [List.length_cons] at i
    rw [turnW_ev]
    refine ⟨?_, by simp; omega⟩
    simp (disch := first | omega | (simp; done) | (simp; omega)) [iD, sApp_ev, appC_iT, wpE_cons]
    rw [sAug_ev (n := t) (by simp)]
    simp (disch := first | omega | (simp; done) | (simp; omega)) [iD, sApp_ev, appC_iT, wpE_cons]
  · simp [wpE_cons, lst_0]
  · simp
    omega
theorem c_depths_no {ps : List Int} (ht : trainB ps = false) : R.call m_depths_of 1 [iL ps] = .exc 1 := by
  refine call_exc ?_ rfl
  unfold m_depths_of b_depths_of
  rw [runF_ev]
  simp [List.replicate, c_is_train, ht]
theorem c_so_depths_ok {ps : List Int} (ht : trainB ps = true) : R.call m_law_so_depths_of 1 [iL ps] = .ok (iT (deps 0 ps)) := by
  refine call_ok ?_ rfl (by simp)
  have hl := (trainB_iff.mp ht).1
  unfold m_law_so_depths_of b_law_so_depths_of
  rw [runF_ev]
  simp (disch := first | omega | (simp; done) | (simp; omega)) [List.replicate, own8_iL, ixD_lst0, c_depths_ok ht, isi_iL, kit_list_list, sApp_ev, appC_iT, eqD_L, eqv_cons, eqv_nil, eqv_iL, popC_iT]
theorem c_so_depths_no {ps : List Int} (ht : trainB ps = false) (hl : ps.length ≤ 1000) : R.call m_law_so_depths_of 1 [iL ps] = .exc 1 := by
  refine call_exc ?_ rfl
  unfold m_law_so_depths_of b_law_so_depths_of
  rw [runF_ev]
  simp (disch := first | omega | (simp; done) | (simp; omega)) [List.replicate, own8_iL, ixD_lst0, c_depths_no ht]
/-! ways -/
def absI (d : Int) : Int := if d < 0 then -d else d
def way : List Int → Int
  | x :: y :: r => absI (y - x) + way (y :: r)
  | _ => 0
theorem way_split : ∀ (l : List Int) (x : Int) (r : List Int), way (l ++ x :: r) = way (l ++ [x]) + way (x :: r)
  | [], x, r => by simp [way]
  | [a], x, r => by simp [way]
  | a :: b :: l, x, r => by
    have ih := way_split (b :: l) x r
    simp only [List.cons_append] at ih ⊢
    simp only [way]
    omega
theorem take_pick {l : List Int} {j : Nat} (h : j < l.length) : l.take (j + 1) = l.take j ++ [pick l j] := by
  rw [List.take_succ, List.getElem?_eq_getElem h]
  unfold pick
  simp [List.getElem?_eq_getElem h]
theorem way_step {l : List Int} {j : Int} (h1 : 1 ≤ j) (h2 : j < l.length) : way (l.take (j + 1).toNat) = way (l.take j.toNat) + absI (pick l j - pick l (j - 1)) := by
  obtain ⟨m, rfl⟩ : ∃ m : Nat, j = m + 1 := ⟨(j - 1).toNat, by omega⟩
  rw [show ((m : Int) + 1 + 1).toNat = m + 1 + 1 by omega, show ((m : Int) + 1).toNat = m + 1 by omega, take_pick (j := m + 1) (by omega), take_pick (j := m) (by omega), List.append_assoc]
  rw [show [pick l m] ++ [pick l (m + 1 : Nat)] = pick l m :: [pick l (m + 1 : Nat)] from rfl, way_split]
  simp [way]
theorem c_way_of (xs : List Int) (hl : xs.length ≤ 100000) : R.call m_way_of 1 [iL xs] = .ok (.dat (.int (way xs))) := by
  refine call_ok ?_ rfl rfl
  unfold m_way_of b_way_of
  rw [runF_ev]
  simp (disch := first | omega | (simp; done) | (simp; omega)) [List.replicate, r2_ok]
  generalize hF : forW _ _ _ _ _ = F
  refine forW_rk (fun s : Int => [.at (.dat (iL xs)), .at (.dat (.int s)), .no]) (fun j s => s = way (xs.take j.toNat)) 0 hF ?_ ?_ ?_ ?_
  · rintro s rfl hi
    rw [List.take_of_length_le (by omega)] at hi
    simp [hi]
  · rintro j s h1 h2 hi
    refine ⟨s + absI (pick xs j - pick xs (j - 1)), ?_, by rw [way_step h1 (by omega), hi]⟩
    rw [turnW_ev]
    simp (disch := first | omega | (simp; done) | (simp; omega)) [iD]
    rw [sAug_ev (n := s) (by simp)]
    simp (disch := first | omega | (simp; done) | (simp; omega)) [iD, ixD_p, wpE_cons, absI]
  · simp [wpE_cons]
  · cases xs with
    | nil => rfl
    | cons x r => simp [way]
theorem c_so_way_of (xs : List Int) (hl : xs.length ≤ 100000) : R.call m_law_so_way_of 1 [iL xs] = .ok (.dat (.int (way xs))) := by
  refine call_ok ?_ rfl rfl
  unfold m_law_so_way_of b_law_so_way_of
  rw [runF_ev]
  simp (disch := first | omega | (simp; done) | (simp; omega)) [List.replicate, own8_iL, ixD_lst0, c_way_of, isi_int, kit_int_list, eqD_L, eqv_cons, eqv_nil, eqv_iL]
end Sm
/-! TyH: rows of turnings; how each wheel hangs. -/
namespace Sm
open PySem L2
theorem dragAll_st : ∀ {ps ws : List Int} {a : Int}, ws.length = ps.length → (∀ p ∈ ps, 0 ≤ p) → goS (ps.zip (dragAll ps ws a)) a = true
  | [], ws, a, _, _ => rfl
  | p :: ps, [], a, h, _ => by simp at h
  | p :: ps, w :: ws, a, h, hp => by
    have h0 := hp p List.mem_cons_self
    have ih := dragAll_st (ps := ps) (ws := ws) (a := drag p a w) (by simpa using h) fun q hq => hp q (List.mem_cons_of_mem _ hq)
    simp only [dragAll, List.zip_cons_cons, goS, ih, Bool.and_true]
    unfold drag
    simp
    omega
theorem dragAll_stB {ps ws : List Int} {a : Int} (h : ws.length = ps.length) (hp : ∀ p ∈ ps, 0 ≤ p) : standB ps a (dragAll ps ws a) = true := by
  simp [standB, dragAll_len, h, dragAll_st h hp]

/-! lists of lists of ints -/
def iLL (xss : List (List Int)) : D := .lst (xss.map iL)
def iTT (xss : List (List Int)) : T := .lst (xss.map iT)
def dL (l : List Int) : T := .dat (iL l)
def iTF (xss : List (List Int)) : T := .lst (xss.map dL)
@[simp] theorem ers_LL (xss : List (List Int)) : T.ers (xss.map iT) = xss.map iL := by
  rw [T.ers_map, List.map_map]
  exact List.map_congr_left fun l _ => iT_er l
@[simp] theorem ers_LF (xss : List (List Int)) : T.ers (xss.map dL) = xss.map iL := by
  rw [T.ers_map, List.map_map]
  rfl
@[simp] theorem iTT_er (xss : List (List Int)) : (iTT xss).er = iLL xss := by
  unfold iTT iLL
  rw [T.er_lst, ers_LL]
@[simp] theorem iTF_er (xss : List (List Int)) : (iTF xss).er = iLL xss := by
  unfold iTF iLL
  rw [T.er_lst, ers_LF]
@[simp] theorem iTT_clean (xss : List (List Int)) : (iTT xss).clean = true := cleans_map iT (fun _ => iT_clean _) xss
@[simp] theorem dL_er (l : List Int) : (dL l).er = iL l := (rfl)
@[simp] theorem isL_iTT {xss : List (List Int)} : isL (some (.at (iTT xss))) = true := (rfl)
@[simp] theorem isL_iTF {xss : List (List Int)} : isL (some (.at (iTF xss))) = true := (rfl)
section
variable {ρ : Env} {i : Nat}
theorem appC_iTT {l : List Int} {xss : List (List Int)} (h : xss.length ≤ 1000000) : appC (some (.at (iTT xss))) ρ i (iT l) = .nx (ρ.set i (.at (iTT (xss ++ [l])))) := by
  refine (appC_lst (ts := xss.map iT) (by simpa using h)).trans ?_
  rw [show xss.map iT ++ [iT l] = (xss ++ [l]).map iT by rw [List.map_append]; rfl]
  rfl
theorem appC_iTF {l : List Int} {xss : List (List Int)} (h : xss.length ≤ 1000000) : appC (some (.at (iTF xss))) ρ i (.dat (iL l)) = .nx (ρ.set i (.at (iTF (xss ++ [l])))) := by
  refine (appC_lst (ts := xss.map dL) (by simpa using h)).trans ?_
  rw [show xss.map dL ++ [.dat (iL l)] = (xss ++ [l]).map dL by rw [List.map_append]; rfl]
  rfl
theorem il_lists {t : T} {xss : List (List Int)} (h : t.er = iLL xss) : (O2.ok t ρ).il = .ok (mE dL xss) ρ := by
  rw [il_ok (ds := xss.map iL) (by rw [h]; rfl), List.map_map]
  rfl
@[simp] theorem il_iLL {xss : List (List Int)} : (O2.ok (.dat (iLL xss)) ρ).il = .ok (mE dL xss) ρ := il_lists rfl
@[simp] theorem il_iTT {xss : List (List Int)} : (O2.ok (iTT xss) ρ).il = .ok (mE dL xss) ρ := il_lists (iTT_er _)
end
theorem lst_00 : T.lst [] = iTT [] := (rfl)
theorem lst_0F : T.lst [] = iTF [] := (rfl)
theorem eqv_iLL (xs ys : List (List Int)) : D.eqv (iLL xs) (iLL ys) = decide (xs = ys) := eqv_lists eqv_iL xs ys
@[simp] theorem sh_iLL (n : Nat) (xss : List (List Int)) : Sh (n + 2) (iLL xss) := sh_lst fun d hd => by
  obtain ⟨i, _, rfl⟩ := List.mem_map.mp hd
  exact sh_iL _ _
@[simp] theorem eqD_iLL (xs ys : List (List Int)) : eqD (iLL xs) (iLL ys) = .ok (.bl (decide (xs = ys))) := by rw [eqD_sh (sh_iLL _ _) (sh_iLL _ _), eqv_iLL]
@[simp] theorem neD_iLL (xs ys : List (List Int)) : neD (iLL xs) (iLL ys) = .ok (.bl (!decide (xs = ys))) := by rw [neD_sh (sh_iLL _ _) (sh_iLL _ _), eqv_iLL]
@[simp] theorem lenD_iLL (xs : List (List Int)) : lenD [iLL xs] = .ok (.int xs.length) := by
  show (match (iLL xs).items with
    | some ys => R.ok (D.int ys.length)
    | none => .bad) = _
  show R.ok (D.int ((xs.map iL).length)) = _
  rw [List.length_map]
theorem isi_iLL (i : List (List Int)) (c : String) : isiD c [iLL i] = (match kitB "list" c with | some b => R.ok (.bl b) | none => .bad) := (rfl)
/-! rows of turnings -/
def runs (ps : List Int) : List Int → List Int → List (List Int)
  | _, [] => []
  | ws, a :: r => dragAll ps ws a :: runs ps (dragAll ps ws a) r
@[simp] theorem runs_len (ps : List Int) : ∀ (r ws : List Int), (runs ps ws r).length = r.length
  | [], ws => rfl
  | a :: r, ws => by simp [runs, runs_len ps r]
theorem runs_fold (ps : List Int) : ∀ (r ws : List Int) (acc : List (List Int)), (r.foldl (fun (s : List (List Int) × List Int) a => (s.1 ++ [dragAll ps s.2 a], dragAll ps s.2 a)) (acc, ws)).1 = acc ++ runs ps ws r
  | [], ws, acc => by simp [runs]
  | a :: r, ws, acc => by
    rw [List.foldl_cons, runs_fold ps r]
    simp [runs]
theorem c_run_of {ps ws row : List Int} {h : Int} (ht : trainB ps = true) (hs : standB ps h ws = true) (hl : row.length ≤ 100000) : R.call m_run_of 4 [iL ps, .int h, iL ws, iL row] = .ok (iTT (runs ps ws row)) := by
  refine call_ok ?_ rfl (by simp)
  have h12 := (trainB_iff.mp ht).1
  unfold m_run_of b_run_of
  rw [runF_ev]
  simp [List.replicate, c_need_ok ht hs]
  rw [forW_run iD (fun s : List (List Int) × List Int => [.at (.dat (iL ps)), .no, .no, .no, .at (iTT s.1), .at (iT s.2), .no]) (fun s a => (s.1 ++ [dragAll ps s.2 a], dragAll ps s.2 a)) (fun r s => s.1.length + r.length ≤ 100000) ([], ws)]
  · simp [runs_fold]
  · rintro a r ⟨acc, now⟩ i
    simp only [List.length_cons] at i
    rw [turnW_ev]
    refine ⟨?_, by simp; omega⟩
    simp (disch := first | omega | (simp; done) | (simp; omega)) [iD, c_dragged_all, sApp_ev, appC_iTT, wpE_cons]
  · simp [wpE_cons, lst_00]
  · simp
    omega
/-! each hangs alone -/
def hangs (d : Int) : List Int → List Int → Int → List Int
  | p :: ps, w :: ws, a => drag (d + p) a w :: hangs (d + p) ps ws a
  | _, _, _ => []
theorem dragAll_hang : ∀ {ps ws : List Int} {h a d : Int}, 0 ≤ d → (∀ p ∈ ps, 0 ≤ p) → ws.length = ps.length → goS (ps.zip ws) h = true → dragAll ps ws (drag d a h) = hangs d ps ws a
  | [], ws, h, a, d, _, _, _, _ => by simp [dragAll, hangs]
  | p :: ps, [], h, a, d, _, _, hl, _ => by simp at hl
  | p :: ps, w :: ws, h, a, d, hd, hp, hl, hg => by
    have h0 := hp p List.mem_cons_self
    simp only [List.zip_cons_cons, goS, Bool.and_eq_true, decide_eq_true_eq] at hg
    have e : drag p (drag d a h) w = drag (d + p) a w := by
      unfold drag
      omega
    simp only [dragAll, hangs, e]
    rw [dragAll_hang (by omega) (fun q hq => hp q (List.mem_cons_of_mem _ hq)) (by simpa using hl) hg.2]
theorem hangs_get : ∀ {ps ws : List Int} {a d : Int} {k : Nat}, ws.length = ps.length → k < ps.length → (hangs d ps ws a).getD k 0 = drag ((deps d ps).getD k 0) a (ws.getD k 0)
  | [], ws, a, d, k, _, h => by simp at h
  | p :: ps, [], a, d, k, h, _ => by simp at h
  | p :: ps, w :: ws, a, d, 0, hl, hk => by simp [hangs, deps]
  | p :: ps, w :: ws, a, d, k + 1, hl, hk => by
    have := hangs_get (ps := ps) (ws := ws) (a := a) (d := d + p) (k := k) (by simpa using hl) (by simpa using hk)
    simpa [hangs, deps] using this
theorem drag_pick {ps ws : List Int} {h a k : Int} (ht : trainB ps = true) (hs : standB ps h ws = true) (h0 : 0 ≤ k) (h1 : k < ps.length) : pick (dragAll ps ws a) k = drag (pick (deps 0 ps) k) a (pick ws k) := by
  obtain ⟨hl, hg⟩ := standB_iff.mp hs
  have hp := (trainB_iff.mp ht).2
  have e : drag 0 a h = a := by unfold drag; omega
  have := dragAll_hang (a := a) (d := 0) (by omega) hp hl hg
  rw [e] at this
  rw [this]
  exact hangs_get hl (by omega)
def hungR (d : Int) : Int → List Int → List Int
  | _, [] => []
  | w, a :: r => drag d a w :: hungR d (drag d a w) r
@[simp] theorem hungR_len (d : Int) : ∀ (r : List Int) (w : Int), (hungR d w r).length = r.length
  | [], w => rfl
  | a :: r, w => by simp [hungR, hungR_len d r]
theorem hung_fold (d : Int) : ∀ (r acc : List Int) (w : Int), (r.foldl (fun (s : List Int × Int) a => (s.1 ++ [drag d a s.2], drag d a s.2)) (acc, w)).1 = acc ++ hungR d w r
  | [], acc, w => by simp [hungR]
  | a :: r, acc, w => by
    rw [List.foldl_cons, hung_fold d r]
    simp [hungR]
theorem runs_col {ps : List Int} {k : Int} (ht : trainB ps = true) (h0 : 0 ≤ k) (h1 : k < ps.length) : ∀ {r ws : List Int} {h : Int}, standB ps h ws = true → (runs ps ws r).map (fun l => pick l k) = hungR (pick (deps 0 ps) k) (pick ws k) r
  | [], ws, h, _ => rfl
  | a :: r, ws, h, hs => by
    have hw := (standB_iff.mp hs).1
    have hp := (trainB_iff.mp ht).2
    simp only [runs, List.map_cons, hungR]
    rw [runs_col ht h0 h1 (r := r) (dragAll_stB hw hp), drag_pick ht hs h0 h1]
theorem c_hung_row {d w : Int} {row : List Int} (hl : row.length ≤ 100000) : R.call m_hung_row 3 [.int d, .int w, iL row] = .ok (iT (hungR d w row)) := by
  refine call_ok ?_ rfl (by simp)
  unfold m_hung_row b_hung_row
  rw [runF_ev]
  simp [List.replicate]
  rw [forW_run iD (fun s : List Int × Int => [.at (.dat (.int d)), .at (.dat (.int s.2)), .no, .at (iT s.1), .no]) (fun s a => (s.1 ++ [drag d a s.2], drag d a s.2)) (fun r s => s.1.length + r.length ≤ 100000) ([], w)]
  · simp [hung_fold]
  · rintro a r ⟨acc, w⟩ i
    simp only [List.length_cons] at i
    rw [turnW_ev]
    refine ⟨?_, by simp; omega⟩
    simp (disch := first | omega | (simp; done) | (simp; omega)) [iD, c_dragged, sApp_ev, appC_iT, wpE_cons]
  · simp [wpE_cons, lst_0]
  · simp
    omega
theorem c_law_alone {d w : Int} {row : List Int} (hd : 0 ≤ d) (hl : row.length ≤ 100000) : R.call m_law_alone 3 [.int d, .int w, iL row] = .ok (iT (hungR d w row)) := by
  refine call_ok ?_ rfl (by simp)
  unfold m_law_alone b_law_alone
  rw [runF_ev]
  simp [List.replicate]
  rw [forW_run iD (fun s : List Int × Int => [.at (.dat (.int d)), .at (.dat (.int s.2)), .no, .at (iT s.1), .no]) (fun s a => (s.1 ++ [drag d a s.2], drag d a s.2)) (fun r s => s.1.length + r.length ≤ 100000) ([], w)]
  · simp [hung_fold]
  · rintro a r ⟨acc, w⟩ i
    simp only [List.length_cons] at i
    rw [turnW_ev]
    refine ⟨?_, by simp; omega⟩
    by_cases q1 : w < a - d
    · have q2 : ¬ a + d < a - d := by omega
      have e : drag d a w = a - d := by unfold drag; omega
      simp (disch := first | omega | (simp; done) | (simp; omega)) [iD, q1, q2, e, sApp_ev, appC_iT, wpE_cons]
    · by_cases q2 : a + d < w
      · have e : drag d a w = a + d := by unfold drag; omega
        simp (disch := first | omega | (simp; done) | (simp; omega)) [iD, q1, q2, e, sApp_ev, appC_iT, wpE_cons]
      · have e : drag d a w = w := by unfold drag; omega
        simp (disch := first | omega | (simp; done) | (simp; omega)) [iD, q1, q2, e, sApp_ev, appC_iT, wpE_cons]
  · simp [wpE_cons, lst_0]
  · simp
    omega
end Sm
/-! TyI: turning places. -/
namespace Sm
open PySem L2
/-! ### the plain part; lists of turning places, the last one first -/
def addR : List Int → Int → List Int
  | [], p => [p]
  | [x], p => if x = p then [x] else [p, x]
  | x :: b :: r, p => if x = p then x :: b :: r else if decide (b < x) = decide (x < p) then p :: b :: r else p :: x :: b :: r
theorem addR_1 (x p : Int) : addR [x] p = if x = p then [x] else [p, x] := rfl
theorem addR_2 (x b p : Int) (r : List Int) : addR (x :: b :: r) p = if x = p then x :: b :: r else if decide (b < x) = decide (x < p) then p :: b :: r else p :: x :: b :: r := rfl
def turnR (row : List Int) : List Int := row.foldl addR []
def turnF (row : List Int) : List Int := (turnR row).reverse
theorem addR_head : ∀ (R : List Int) (p : Int), ∃ r, addR R p = p :: r
  | [], p => ⟨[], rfl⟩
  | [x], p => by
    first | rw [addR_1] | rw [addR_2]
    split
    · rename_i h; exact ⟨[], by rw [h]⟩
    · exact ⟨_, rfl⟩
  | x :: b :: r, p => by
    first | rw [addR_1] | rw [addR_2]
    split
    · rename_i h; exact ⟨b :: r, by rw [h]⟩
    · split
      · exact ⟨_, rfl⟩
      · exact ⟨_, rfl⟩
theorem addR_dup (x : Int) : ∀ (r : List Int), addR (x :: r) x = x :: r
  | [] => by simp [addR]
  | b :: r => by simp [addR]
theorem addR_idem (R : List Int) (p : Int) : addR (addR R p) p = addR R p := by
  obtain ⟨r, e⟩ := addR_head R p
  rw [e, addR_dup]
theorem addR_len (R : List Int) (p : Int) : (addR R p).length ≤ R.length + 1 := by
  match R with
  | [] => simp [addR]
  | [x] => rw [addR_1]; split <;> simp
  | x :: b :: r =>
    first | rw [addR_1] | rw [addR_2]
    split
    · simp
    · split <;> simp
def Alt : List Int → Prop
  | x :: b :: c :: r => x ≠ b ∧ decide (c < b) ≠ decide (b < x) ∧ Alt (b :: c :: r)
  | [x, b] => x ≠ b
  | _ => True
theorem Alt.ne {x b : Int} {r : List Int} (h : Alt (x :: b :: r)) : x ≠ b := by
  cases r with
  | nil => exact h
  | cons c r => exact h.1
theorem Alt.tail {x b : Int} {r : List Int} (h : Alt (x :: b :: r)) : Alt (b :: r) := by
  cases r with
  | nil => trivial
  | cons c r => exact h.2.2
theorem alt_add : ∀ {R : List Int} {p : Int}, Alt R → Alt (addR R p)
  | [], p, _ => trivial
  | [x], p, _ => by
    first | rw [addR_1] | rw [addR_2]
    split
    · trivial
    · rename_i h; exact fun q => h q.symm
  | x :: b :: r, p, h => by
    have hn := h.ne
    first | rw [addR_1] | rw [addR_2]
    split
    · exact h
    · rename_i hx
      split
      · rename_i hd
        have hd' : (b < x) ↔ (x < p) := by simpa using hd
        cases r with
        | nil => exact show p ≠ b by omega
        | cons c r =>
          obtain ⟨h1, h2, h3⟩ := h
          refine ⟨by omega, ?_, h3⟩
          have h2' : ¬ ((c < b) ↔ (b < x)) := by simpa using h2
          have : ¬ ((c < b) ↔ (b < p)) := by
            intro q
            apply h2'
            rw [q]
            omega
          simpa using this
      · rename_i hd
        exact ⟨fun q => hx q.symm, hd, h⟩
/-- what a list of turning places becomes -/
def Fut (F : List Int) : List Int → Prop
  | [] => True
  | [x] => ∃ rest, F = x :: rest
  | x :: b :: r => ∃ x' rest, F = (b :: r).reverse ++ x' :: rest ∧ ((b < x ∧ x ≤ x') ∨ (x < b ∧ x' ≤ x))
theorem fut_self : ∀ {R : List Int}, Alt R → Fut R.reverse R
  | [], _ => trivial
  | [x], _ => ⟨[], rfl⟩
  | x :: b :: r, h => by
    have := h.ne
    exact ⟨x, [], by simp, by omega⟩
theorem fut_back {F : List Int} : ∀ {R : List Int} {p : Int}, Alt R → Fut F (addR R p) → Fut F R
  | [], p, _, _ => trivial
  | [x], p, _, h => by
    first | rw [addR_1] at h | rw [addR_2] at h
    split at h
    · exact h
    · obtain ⟨x', rest, e, _⟩ := h
      exact ⟨x' :: rest, by simpa using e⟩
  | x :: b :: r, p, ha, h => by
    have hn := ha.ne
    first | rw [addR_1] at h | rw [addR_2] at h
    split at h
    · exact h
    · rename_i hx
      split at h
      · rename_i hd
        have hd' : (b < x) ↔ (x < p) := by simpa using hd
        obtain ⟨x', rest, e, q⟩ := h
        exact ⟨x', rest, e, by omega⟩
      · obtain ⟨x', rest, e, q⟩ := h
        exact ⟨x, x' :: rest, by rw [e]; simp, by omega⟩
theorem alt_fold : ∀ {row R : List Int}, Alt R → Alt (row.foldl addR R)
  | [], R, h => h
  | p :: row, R, h => alt_fold (row := row) (alt_add h)
theorem fut_fold : ∀ {row R : List Int}, Alt R → Fut (row.foldl addR R).reverse R
  | [], R, h => fut_self h
  | p :: row, R, h => fut_back (p := p) h (fut_fold (row := row) (alt_add h))
theorem pick_app1 {l : List Int} {j : Int} {r : List Int} (h0 : 0 ≤ j) (h : j < l.length) : pick (l ++ r) j = pick l j := by
  unfold pick
  rw [List.getD_eq_getElem?_getD, List.getD_eq_getElem?_getD, List.getElem?_append_left (by omega)]
theorem pick_app2 {l : List Int} {x : Int} {r : List Int} {j : Int} (h : j = l.length) : pick (l ++ x :: r) j = x := by
  subst h
  unfold pick
  rw [List.getD_eq_getElem?_getD, List.getElem?_append_right (by omega)]
  simp
theorem pick_app3 {l : List Int} {x y : Int} {r : List Int} {j : Int} (h : j = l.length + 1) : pick (l ++ x :: y :: r) j = y := by
  have := pick_app2 (l := l ++ [x]) (x := y) (r := r) (j := j) (by simp; omega)
  simpa using this
/-- going by turns, by places -/
theorem alt_pick : ∀ {R : List Int}, Alt R → ∀ j : Int, 1 ≤ j → j < R.length → pick R.reverse j ≠ pick R.reverse (j - 1) ∧ (1 < j → decide (pick R.reverse (j - 1) < pick R.reverse j) ≠ decide (pick R.reverse (j - 2) < pick R.reverse (j - 1)))
  | [], _, j, h1, h2 => by simp at h2; omega
  | [x], _, j, h1, h2 => by simp at h2; omega
  | x :: b :: r, h, j, h1, h2 => by
    have ih := alt_pick h.tail j h1
    rw [List.reverse_cons]
    have hl : ((b :: r).reverse.length : Int) = r.length + 1 := by simp
    simp only [List.length_cons] at h2 ih
    by_cases q : j < r.length + 1
    · rw [pick_app1 (by omega) (by omega), pick_app1 (by omega) (by omega)]
      have := ih (by omega)
      refine ⟨this.1, fun h3 => ?_⟩
      rw [pick_app1 (by omega) (by omega)]
      exact this.2 h3
    · have e1 : pick ((b :: r).reverse ++ [x]) j = x := pick_app2 (by omega)
      have e2 : pick ((b :: r).reverse ++ [x]) (j - 1) = b := by
        rw [pick_app1 (by omega) (by omega), List.reverse_cons]
        exact pick_app2 (by simp; omega)
      rw [e1, e2]
      refine ⟨h.ne, fun h3 => ?_⟩
      cases r with
      | nil => simp at q h2; omega
      | cons c r =>
        have e3 : pick ((b :: c :: r).reverse ++ [x]) (j - 2) = c := by
          rw [pick_app1 (by omega) (by omega), List.reverse_cons, pick_app1 (by simp; simp at h2; omega) (by simp; simp at h2 q; omega), List.reverse_cons]
          exact pick_app2 (by simp; simp at h2 q; omega)
        rw [e3]
        exact fun z => h.2.1 z.symm
/-! ways -/
theorem way_rev_snoc (x : Int) (r : List Int) (p : Int) : way ((p :: x :: r).reverse) = way ((x :: r).reverse) + absI (p - x) := by
  have := way_split r.reverse x [p]
  simp only [List.reverse_cons, List.append_assoc, List.cons_append, List.nil_append] at this ⊢
  rw [this]
  simp [way]
theorem way_add {R : List Int} {x p : Int} {r : List Int} (h : Alt (x :: r)) : way (addR (x :: r) p).reverse = way (x :: r).reverse + absI (p - x) := by
  cases r with
  | nil =>
    first | rw [addR_1] | rw [addR_2]
    split
    · rename_i q; subst q; simp [absI]
    · exact way_rev_snoc x [] p
  | cons b r =>
    have hn := h.ne
    first | rw [addR_1] | rw [addR_2]
    split
    · rename_i q; subst q; simp [absI]
    · rename_i q
      split
      · rename_i hd
        have hd' : (b < x) ↔ (x < p) := by simpa using hd
        rw [way_rev_snoc b r p, way_rev_snoc b r x]
        unfold absI
        split <;> split <;> split <;> omega
      · exact way_rev_snoc x (b :: r) p
theorem way_fold : ∀ (row : List Int) (x : Int) (r pre : List Int), Alt (x :: r) → way (x :: r).reverse = way (pre ++ [x]) → way (row.foldl addR (x :: r)).reverse = way (pre ++ x :: row)
  | [], x, r, pre, _, e => e
  | p :: row, x, r, pre, h, e => by
    rw [List.foldl_cons]
    obtain ⟨r', e'⟩ := addR_head (x :: r) p
    have w := way_add (R := []) (p := p) h
    have a := alt_add (p := p) h
    rw [e'] at w a ⊢
    have := way_fold row p r' (pre ++ [x]) a (by
      rw [w, e]
      have := way_split pre x [p]
      simp only [List.append_assoc, List.cons_append, List.nil_append]
      rw [this]
      simp [way])
    simpa using this
theorem way_turnF (row : List Int) : way (turnF row) = way row := by
  cases row with
  | nil => rfl
  | cons x r => exact way_fold r x [] [] trivial rfl
end Sm
/-! TyJ: the mirrors of turning places. -/
namespace Sm
open PySem L2
theorem ixD_m1 {l : List Int} {x : Int} : ixD (iL (l ++ [x])) (.int (-1)) = .ok (.int x) := by
  rw [ixD_iLn (by omega) (by simp; omega)]
  congr 2
  rw [List.getD_eq_getElem?_getD, show (-1 + ((l ++ [x]).length : Int)).toNat = l.length by simp; omega]
  simp
theorem ixD_m2 {l : List Int} {b x : Int} : ixD (iL (l ++ [b, x])) (.int (-2)) = .ok (.int b) := by
  rw [ixD_iLn (by omega) (by simp; omega)]
  congr 2
  rw [List.getD_eq_getElem?_getD, show (-2 + ((l ++ [b, x]).length : Int)).toNat = l.length by simp; omega]
  simp
theorem ixD_m1' {l : List Int} {b x : Int} : ixD (iL (l ++ [b, x])) (.int (-1)) = .ok (.int x) := by
  have := ixD_m1 (l := l ++ [b]) (x := x)
  simpa using this
theorem set_last {l : List Int} {x p : Int} : (l ++ [x]).set ((l ++ [x]).length - 1) p = l ++ [p] := by
  simp
/-- no place twice in a row; the last first -/
def addO : List Int → Int → List Int
  | [], p => [p]
  | x :: r, p => if x = p then x :: r else p :: x :: r
def onceR (row : List Int) : List Int := row.foldl addO []
theorem once_len : ∀ (row R : List Int), (row.foldl addO R).length ≤ R.length + row.length
  | [], R => by simp
  | p :: row, R => by
    have := once_len row (addO R p)
    have h : (addO R p).length ≤ R.length + 1 := by
      cases R with
      | nil => simp [addO]
      | cons x r => simp only [addO]; split <;> simp
    simp only [List.foldl_cons, List.length_cons]
    omega
theorem c_once_each {row : List Int} (hl : row.length ≤ 100000) : R.call m_once_each 1 [iL row] = .ok (iT (onceR row).reverse) := by
  refine call_ok ?_ rfl (by simp)
  unfold m_once_each b_once_each
  rw [runF_ev]
  simp [List.replicate]
  rw [forW_run iD (fun s : List Int => [.no, .at (iT s.reverse), .no]) addO (fun r s => s.length + r.length ≤ 100000) []]
  · simp [onceR]
  · rintro p r s i
    simp only [List.length_cons] at i
    rw [turnW_ev]
    cases s with
    | nil => simp (disch := first | omega | (simp; done) | (simp; omega)) [iD, addO, sApp_ev, appC_iT, wpE_cons]; simp at i; omega
    | cons x t =>
      simp only [List.length_cons] at i
      by_cases q : x = p
      · subst q
        simp (disch := first | omega | (simp; done) | (simp; omega)) [iD, addO, sApp_ev, appC_iT, wpE_cons, ixD_m1]
        omega
      · simp (disch := first | omega | (simp; done) | (simp; omega)) [iD, addO, q, sApp_ev, appC_iT, wpE_cons, ixD_m1]
        omega
  · simp [wpE_cons, lst_0]
  · simp
    omega
/-- the second fold -/
def addS : List Int → Int → List Int
  | x :: b :: r, p => if decide (b < x) = decide (x < p) then p :: b :: r else p :: x :: b :: r
  | r, p => p :: r
theorem addS_len (R : List Int) (p : Int) : (addS R p).length ≤ R.length + 1 := by
  match R with
  | [] => simp [addS]
  | [x] => simp [addS]
  | x :: b :: r => simp only [addS]; split <;> simp
theorem turn_once : ∀ (row O R : List Int), (∀ x r, O = x :: r → ∃ r', R = x :: r') → (O = [] → R = []) → ∃ sfx, (row.foldl addO O).reverse = O.reverse ++ sfx ∧ sfx.foldl addS R = row.foldl addR R
  | [], O, R, _, _ => ⟨[], by simp, rfl⟩
  | p :: row, O, R, h1, h2 => by
    cases O with
    | nil =>
      have := h2 rfl
      subst this
      obtain ⟨sfx, e1, e2⟩ := turn_once row [p] [p] (fun x r q => ⟨[], by cases q; rfl⟩) (by simp)
      exact ⟨p :: sfx, by simpa [addO] using e1, e2⟩
    | cons x r =>
      obtain ⟨r', rfl⟩ := h1 x r rfl
      by_cases q : x = p
      · subst q
        obtain ⟨sfx, e1, e2⟩ := turn_once row (x :: r) (x :: r') h1 h2
        refine ⟨sfx, ?_, ?_⟩
        · simpa [addO] using e1
        · rw [List.foldl_cons, addR_dup]
          exact e2
      · have es : addS (x :: r') p = addR (x :: r') p := by
          cases r' with
          | nil => simp [addS, addR, q]
          | cons b r' => simp [addS, addR, q]
        obtain ⟨r2, er⟩ := addR_head (x :: r') p
        obtain ⟨sfx, e1, e2⟩ := turn_once row (p :: x :: r) (addR (x :: r') p) (fun y z w => ⟨r2, by cases w; exact er⟩) (by simp)
        refine ⟨p :: sfx, ?_, ?_⟩
        · simp only [List.foldl_cons, addO, q, if_false]
          rw [e1]
          simp
        · rw [List.foldl_cons, List.foldl_cons, es]
          exact e2
theorem turn_eq (row : List Int) : (onceR row).reverse.foldl addS [] = turnR row := by
  obtain ⟨sfx, e1, e2⟩ := turn_once row [] [] (by simp) (by simp)
  unfold onceR turnR
  rw [e1]
  simpa using e2
theorem turn_len : ∀ (row R : List Int), (row.foldl addR R).length ≤ R.length + row.length
  | [], R => by simp
  | p :: row, R => by
    have := turn_len row (addR R p)
    have := addR_len R p
    simp only [List.foldl_cons, List.length_cons]
    omega
theorem turnF_len (row : List Int) : (turnF row).length ≤ row.length := by
  have := turn_len row []
  simpa [turnF, turnR] using this
theorem c_turning_of {row : List Int} (hl : row.length ≤ 100000) : R.call m_turning_of 1 [iL row] = .ok (iT (turnF row)) := by
  refine call_ok ?_ rfl (by simp)
  have ho := once_len row []
  unfold m_turning_of b_turning_of
  rw [runF_ev]
  simp (disch := first | omega | (simp; done) | (simp; omega)) [List.replicate, c_once_each]
  rw [forW_run iD (fun s : List Int => [.no, .at (iT s.reverse), .no]) addS (fun r s => s.length + r.length ≤ 100000) []]
  · rw [turn_eq]
    simp [turnF]
  · rintro p r s i
    simp only [List.length_cons] at i
    have hs := addS_len s p
    refine ⟨?_, by omega⟩
    rw [turnW_ev]
    match s with
    | [] => simp (disch := first | omega | (simp; done) | (simp; omega)) [iD, addS, sApp_ev, appC_iT, wpE_cons]
    | [x] => simp (disch := first | omega | (simp; done) | (simp; omega)) [iD, addS, sApp_ev, appC_iT, wpE_cons]
    | x :: b :: t =>
      have h2 : (1 : Int) < t.length + 2 := by omega
      simp only [List.length_cons] at i
      have sl := set_last (l := t.reverse ++ [b]) (x := x) (p := p)
      by_cases q : decide (b < x) = decide (x < p)
      · have q' : (decide (b < x) == decide (x < p)) = true := by rw [q]; simp
        simp only [addS, q, if_true]
        simp (disch := first | omega | (simp; done) | (simp; omega)) [iD, sApp_ev, appC_iT, wpE_cons, ixD_m1', ixD_m2, h2, setiC_iTn, q]
      · have q' : (decide (b < x) == decide (x < p)) = false := by simpa using q
        simp only [addS, q, if_false]
        simp (disch := first | omega | (simp; done) | (simp; omega)) [iD, sApp_ev, appC_iT, wpE_cons, ixD_m1', ixD_m2, h2, q']
  · simp [wpE_cons, lst_0]
  · simp [onceR] at ho ⊢
    omega
theorem c_so_turning_of {row : List Int} (hl : row.length ≤ 100000) : R.call m_law_so_turning_of 1 [iL row] = .ok (iT (turnF row)) := by
  refine call_ok ?_ rfl (by simp)
  have := turnF_len row
  unfold m_law_so_turning_of b_law_so_turning_of
  rw [runF_ev]
  simp (disch := first | omega | (simp; done) | (simp; omega)) [List.replicate, own8_iL, ixD_lst0, c_turning_of, isi_iL, kit_list_list, sApp_ev, appC_iT, eqD_L, eqv_cons, eqv_nil, eqv_iL, popC_iT]
end Sm
/-! TyK: swings. -/
namespace Sm
open PySem L2
/-- the middle one of three goings is no longer than its neighbours; the last place first -/
def inn (d c b a : Int) : Bool := decide (absI (c - b) ≤ absI (b - a)) && decide (absI (c - b) ≤ absI (d - c))
def red : Nat → List (Int × Int) → List Int → List (Int × Int) × List Int
  | n + 1, ps, d :: c :: b :: a :: r => if inn d c b a = true then red n (ps ++ [(min b c, max b c)]) (d :: a :: r) else (ps, d :: c :: b :: a :: r)
  | _, ps, R => (ps, R)
def pushS (s : List (Int × Int) × List Int) (p : Int) : List (Int × Int) × List Int := red (s.2.length + 1) s.1 (p :: s.2)
def swings (row : List Int) : List (Int × Int) × List Int := (turnF row).foldl pushS ([], [])
theorem ixD_q0 {a b c d : Int} : ixD (iL [a, b, c, d]) (.int 0) = .ok (.int a) := ixD_iL (by omega) (by simp)
theorem ixD_q1 {a b c d : Int} : ixD (iL [a, b, c, d]) (.int 1) = .ok (.int b) := ixD_iL (by omega) (by simp)
theorem ixD_q2 {a b c d : Int} : ixD (iL [a, b, c, d]) (.int 2) = .ok (.int c) := ixD_iL (by omega) (by simp)
theorem ixD_q3 {a b c d : Int} : ixD (iL [a, b, c, d]) (.int 3) = .ok (.int d) := ixD_iL (by omega) (by simp)
theorem c_is_inner (a b c d : Int) : R.call m_is_inner 1 [iL [a, b, c, d]] = .ok (.dat (.bl (inn d c b a))) := by
  refine call_ok ?_ rfl rfl
  unfold m_is_inner b_is_inner
  rw [runF_ev]
  unfold inn absI
  simp (disch := first | omega | (simp; done) | (simp; omega)) [List.replicate, ixD_q0, ixD_q1, ixD_q2, ixD_q3]
  generalize (if c - b < 0 then -(c - b) else c - b) = x
  generalize (if b - a < 0 then -(b - a) else b - a) = y
  generalize (if d - c < 0 then -(d - c) else d - c) = z
  by_cases h1 : x ≤ y <;> simp [h1]
theorem c_is_inner4 (a b c d : Int) : R.call m_is_inner 1 [.lst [.int a, .int b, .int c, .int d]] = .ok (.dat (.bl (inn d c b a))) := c_is_inner a b c d
theorem cut_m4 {l : List Int} {a b c d : Int} : cut (l ++ [a, b, c, d]) (some (-4)) none = [a, b, c, d] := by
  unfold cut
  have e : HT.sIx (l ++ [a, b, c, d]).length 0 (some (-4)) = l.length := by
    unfold HT.sIx
    simp
    omega
  rw [e, HT.sIx_none]
  simp
theorem pop_4 {ρ : Env} {i : Nat} {l : List Int} {a b c d : Int} : popC (some (.at (iT (l ++ [a, b, c, d])))) ρ i = .ok (iD d) (ρ.set i (.at (iT (l ++ [a, b, c])))) := by
  have := popC_iT (ρ := ρ) (i := i) (ns := l ++ [a, b, c]) d
  simpa using this
theorem pop_3 {ρ : Env} {i : Nat} {l : List Int} {a b c : Int} : popC (some (.at (iT (l ++ [a, b, c])))) ρ i = .ok (iD c) (ρ.set i (.at (iT (l ++ [a, b])))) := by
  have := popC_iT (ρ := ρ) (i := i) (ns := l ++ [a, b]) c
  simpa using this
theorem pop_2 {ρ : Env} {i : Nat} {l : List Int} {a b : Int} : popC (some (.at (iT (l ++ [a, b])))) ρ i = .ok (iD b) (ρ.set i (.at (iT (l ++ [a])))) := by
  have := popC_iT (ρ := ρ) (i := i) (ns := l ++ [a]) b
  simpa using this
/-! lists of pairs -/
def pTT (ps : List (Int × Int)) : T := .lst (ps.map pD)
def pLL (ps : List (Int × Int)) : D := .lst (ps.map fun x => .tup [.int x.1, .int x.2])
theorem lst_0P : T.lst [] = pTT [] := (rfl)
@[simp] theorem isL_pTT {ps : List (Int × Int)} : isL (some (.at (pTT ps))) = true := (rfl)
theorem appC_pTT {ρ : Env} {i : Nat} {a b : Int} {ps : List (Int × Int)} (h : ps.length ≤ 1000000) : appC (some (.at (pTT ps))) ρ i (.tup [.dat (.int a), .dat (.int b)]) = .nx (ρ.set i (.at (pTT (ps ++ [(a, b)])))) := by
  refine (appC_lst (ts := ps.map pD) (by simpa using h)).trans ?_
  rw [show ps.map pD ++ [.tup [.dat (.int a), .dat (.int b)]] = (ps ++ [(a, b)]).map pD by rw [List.map_append]; rfl]
  rfl
@[simp] theorem pTT_clean (ps : List (Int × Int)) : (pTT ps).clean = true := cleans_map pD (fun _ => rfl) ps
@[simp] theorem pTT_er (ps : List (Int × Int)) : (pTT ps).er = pLL ps := by
  unfold pTT pLL
  rw [T.er_lst, T.ers_map, List.map_map]
  rfl
theorem red_len : ∀ (n : Nat) (ps : List (Int × Int)) (R : List Int), 2 * (red n ps R).1.length + (red n ps R).2.length = 2 * ps.length + R.length
  | 0, ps, R => by simp [red]
  | n + 1, ps, [] => by simp [red]
  | n + 1, ps, [_] => by simp [red]
  | n + 1, ps, [_, _] => by simp [red]
  | n + 1, ps, [_, _, _] => by simp [red]
  | n + 1, ps, d :: c :: b :: a :: r => by
    unfold red
    split
    · rw [red_len n]
      simp
      omega
    · rfl
theorem red_stop {n : Nat} {ps : List (Int × Int)} {R : List Int} (h : ∀ d c b a r, R = d :: c :: b :: a :: r → inn d c b a = false) : red n ps R = (ps, R) := by
  match n, R with
  | 0, R => simp [red]
  | n + 1, [] => simp [red]
  | n + 1, [_] => simp [red]
  | n + 1, [_, _] => simp [red]
  | n + 1, [_, _, _] => simp [red]
  | n + 1, d :: c :: b :: a :: r =>
    have := h d c b a r rfl
    simp [red, this]
theorem red_go {n : Nat} {ps : List (Int × Int)} {d c b a : Int} {r : List Int} (h : inn d c b a = true) : red (n + 1) ps (d :: c :: b :: a :: r) = red n (ps ++ [(min b c, max b c)]) (d :: a :: r) := by
  simp [red, h]
theorem red_fuel : ∀ (n m : Nat) (ps : List (Int × Int)) (R : List Int), R.length ≤ 2 * n + 3 → R.length ≤ 2 * m + 3 → red n ps R = red m ps R
  | 0, m, ps, R, h, _ => by rw [red_stop, red_stop] <;> (intro d c b a r e; subst e; simp at h)
  | n + 1, 0, ps, R, _, h => by rw [red_stop, red_stop] <;> (intro d c b a r e; subst e; simp at h)
  | n + 1, m + 1, ps, R, h1, h2 => by
    match R, h1, h2 with
    | [], _, _ => simp [red]
    | [_], _, _ => simp [red]
    | [_, _], _, _ => simp [red]
    | [_, _, _], _, _ => simp [red]
    | d :: c :: b :: a :: r, h1, h2 =>
      unfold red
      split
      · exact red_fuel n m _ _ (by simp at h1 ⊢; omega) (by simp at h2 ⊢; omega)
      · rfl
theorem c_swings_of {row : List Int} (hl : row.length ≤ 10000) : R.call m_swings_of 1 [iL row] = .ok (.tup [pTT (swings row).1, iT (swings row).2.reverse]) := by
  refine call_ok ?_ rfl (by simp)
  have hfl := turnF_len row
  unfold m_swings_of b_swings_of
  rw [runF_ev]
  simp (disch := first | omega | (simp; done) | (simp; omega)) [List.replicate, c_turning_of]
  rw [forW_run iD (fun s : List (Int × Int) × List Int => [.no, .at (pTT s.1), .at (iT s.2.reverse), .no, .no, .no, .no]) pushS (fun r s => 2 * s.1.length + s.2.length + r.length ≤ 100000) ([], [])]
  · simp [swings]
  · rintro p r ⟨ps, R⟩ i
    simp only [List.length_cons] at i
    have hrl := red_len (R.length + 1) ps (p :: R)
    refine ⟨?_, by simp only [pushS]; simp only [List.length_cons] at hrl; omega⟩
    rw [turnW_ev]
    simp (disch := first | omega | (simp; done) | (simp; omega)) [iD, sApp_ev, appC_iT]
    generalize hW : whW _ _ _ _ _ = W
    refine whW_k (fun s : List (Int × Int) × List Int => [.no, .at (pTT s.1), .at (iT s.2.reverse), .no, .no, .no, .no]) (fun s => 2 * s.1.length + s.2.length ≤ 100000 ∧ red (s.2.length) s.1 s.2 = pushS (ps, R) p) (fun s => s.2.length) (ps, p :: R) hW ?_ ?_ ?_ ?_ ?_
    · rintro ⟨qs, Q⟩ rfl ⟨i1, i2⟩ hc
      simp only at i1 i2
      rw [← i2, red_stop]
      · simp [wpE_cons]
      · intro d c b a t e
        subst e
        have h3 : (3 : Int) < t.length + 4 := by omega
        cases hin : inn d c b a with
        | false => rfl
        | true =>
          simp (disch := first | omega | (simp; done) | (simp; omega)) [cut_m4, c_is_inner4, hin, h3] at hc
    · rintro ⟨qs, Q⟩ ⟨i1, i2⟩
      simp only at i1 i2
      match Q, i1, i2 with
      | [], i1, i2 => left; simp (disch := first | omega | (simp; done) | (simp; omega))
      | [_], i1, i2 => left; simp (disch := first | omega | (simp; done) | (simp; omega))
      | [_, _], i1, i2 => left; simp (disch := first | omega | (simp; done) | (simp; omega))
      | [_, _, _], i1, i2 => left; simp (disch := first | omega | (simp; done) | (simp; omega))
      | d :: c :: b :: a :: t, i1, i2 =>
        have h3 : (3 : Int) < t.length + 4 := by omega
        simp only [List.length_cons] at i1
        cases hin : inn d c b a with
        | false =>
          left
          simp (disch := first | omega | (simp; done) | (simp; omega)) [cut_m4, c_is_inner4, hin, h3]
        | true =>
          right
          refine ⟨by simp (disch := first | omega | (simp; done) | (simp; omega)) [cut_m4, c_is_inner4, hin, h3], (qs ++ [(min b c, max b c)], d :: a :: t), ?_, ⟨by simp; omega, ?_⟩, by simp⟩
          · have m1 : (if c < b then c else b) = min b c := by split <;> omega
            have m2 : (if b < c then c else b) = max b c := by split <;> omega
            simp (disch := first | omega | (simp; done) | (simp; omega)) [pop_4, pop_3, pop_2, iD, sApp_ev, appC_pTT, appC_iT, m1, m2, wpE_cons]
          · rw [← i2]
            simp only [List.length_cons]
            rw [red_go hin]
            exact red_fuel _ _ _ _ (by simp; omega) (by simp; omega)
    · simp [wpE_cons]
    · exact ⟨by simp; omega, by simp [pushS]⟩
    · simp
      omega
  · simp [wpE_cons, lst_0]
    rfl
  · simp
    omega
end Sm
/-! TyL: how far a wheel goes. -/
namespace Sm
open PySem L2
theorem absI_max (d : Int) : absI d = max d (-d) := by
  unfold absI
  split <;> omega
def gone (D : Int) : Int → List Int → Int
  | _, [] => 0
  | w, a :: r => absI (drag D a w - w) + gone D (drag D a w) r
def stW (D w : Int) (l : List Int) : Int := l.foldl (fun w a => drag D a w) w
theorem gone_app (D : Int) : ∀ (l r : List Int) (w : Int), gone D w (l ++ r) = gone D w l + gone D (stW D w l) r
  | [], r, w => by simp [gone, stW]
  | a :: l, r, w => by
    have := gone_app D l r (drag D a w)
    simp only [List.cons_append, gone, this, stW, List.foldl_cons]
    omega
theorem stW_app (D w : Int) (l r : List Int) : stW D w (l ++ r) = stW D (stW D w l) r := by simp [stW]
theorem stW_near (D w : Int) (l : List Int) (a : Int) (hD : 0 ≤ D) : stW D w (l ++ [a]) - a ≤ D ∧ a - stW D w (l ++ [a]) ≤ D := by
  rw [stW_app]
  simp only [stW, List.foldl_cons, List.foldl_nil, drag]
  omega
/-- two lists along which a wheel ends alike, and goes alike but for e -/
structure Like (D w e : Int) (l l' : List Int) : Prop where
  st : stW D w l = stW D w l'
  go : gone D w l = gone D w l' + e
theorem Like.app {D w e : Int} {l l' : List Int} (h : Like D w e l l') (r : List Int) : Like D w e (l ++ r) (l' ++ r) := ⟨by rw [stW_app, stW_app, h.st], by rw [gone_app, gone_app, h.go, h.st]; omega⟩
theorem Like.refl {D w : Int} {l : List Int} : Like D w 0 l l := ⟨rfl, by omega⟩
theorem Like.trans {D w e e' : Int} {l l' l'' : List Int} (h : Like D w e l l') (h' : Like D w e' l' l'') : Like D w (e + e') l l'' := ⟨h.st.trans h'.st, by rw [h.go, h'.go]; omega⟩
/-- on the way to a place there is nothing to tell -/
theorem like_mid {D w b x p : Int} {l : List Int} (hD : 0 ≤ D) (h : (b ≤ x ∧ x ≤ p) ∨ (p ≤ x ∧ x ≤ b)) : Like D w 0 (l ++ [b, x, p]) (l ++ [b, p]) := by
  have n := stW_near D w l b hD
  have e1 : l ++ [b, x, p] = (l ++ [b]) ++ [x, p] := by simp
  have e2 : l ++ [b, p] = (l ++ [b]) ++ [p] := by simp
  rw [e1, e2]
  generalize l ++ [b] = L at *
  generalize hv : stW D w L = v at n
  refine ⟨?_, ?_⟩
  · rw [stW_app, stW_app, hv]
    simp only [stW, List.foldl_cons, List.foldl_nil, drag]
    omega
  · rw [gone_app, gone_app, hv]
    simp only [gone, drag, absI_max]
    omega
theorem like_dup {D w x : Int} {l : List Int} (hD : 0 ≤ D) : Like D w 0 (l ++ [x, x]) (l ++ [x]) := by
  have n := stW_near D w l x hD
  have e1 : l ++ [x, x] = (l ++ [x]) ++ [x] := by simp
  rw [e1]
  generalize l ++ [x] = L at *
  generalize hv : stW D w L = v at n
  refine ⟨?_, ?_⟩
  · rw [stW_app, hv]
    simp only [stW, List.foldl_cons, List.foldl_nil, drag]
    omega
  · rw [gone_app, hv]
    simp only [gone, drag, absI_max]
    omega
/-- an inner swing -/
def swE (D : Int) (x : Int × Int) : Int := 2 * max 0 (x.2 - x.1 - 2 * D)
theorem like_in {D w a b c d : Int} {l : List Int} (hD : 0 ≤ D) (h : inn d c b a = true) (h1 : a ≠ b) (h2 : b ≠ c) (h3 : c ≠ d) (h4 : decide (a < b) ≠ decide (b < c)) (h5 : decide (b < c) ≠ decide (c < d)) : Like D w (swE D (min b c, max b c)) (l ++ [a, b, c, d]) (l ++ [a, d]) := by
  have n := stW_near D w l a hD
  have e1 : l ++ [a, b, c, d] = (l ++ [a]) ++ [b, c, d] := by simp
  have e2 : l ++ [a, d] = (l ++ [a]) ++ [d] := by simp
  have h4' : ¬ ((a < b) ↔ (b < c)) := by simpa using h4
  have h5' : ¬ ((b < c) ↔ (c < d)) := by simpa using h5
  simp only [inn, Bool.and_eq_true, decide_eq_true_eq, absI_max] at h
  rw [e1, e2]
  generalize l ++ [a] = L at *
  generalize hv : stW D w L = v at n
  by_cases q : a < b
  · have q2 : c < b := by omega
    have q3 : c < d := by omega
    have q4 : a ≤ c := by omega
    have q5 : b ≤ d := by omega
    refine ⟨?_, ?_⟩
    · rw [stW_app, stW_app, hv]
      simp only [stW, List.foldl_cons, List.foldl_nil, drag]
      omega
    · rw [gone_app, gone_app, hv]
      simp only [gone, drag, absI_max, swE]
      omega
  · have q2 : b < c := by omega
    have q3 : d < c := by omega
    have q4 : c ≤ a := by omega
    have q5 : d ≤ b := by omega
    refine ⟨?_, ?_⟩
    · rw [stW_app, stW_app, hv]
      simp only [stW, List.foldl_cons, List.foldl_nil, drag]
      omega
    · rw [gone_app, gone_app, hv]
      simp only [gone, drag, absI_max, swE]
      omega
theorem like_add {D w p : Int} (hD : 0 ≤ D) : ∀ {R : List Int}, Alt R → Like D w 0 (R.reverse ++ [p]) (addR R p).reverse
  | [], _ => .refl
  | [x], _ => by
    rw [addR_1]
    split
    · rename_i q
      subst q
      exact like_dup (l := []) hD
    · exact .refl
  | x :: b :: r, h => by
    have hn := h.ne
    rw [addR_2]
    split
    · rename_i q
      subst q
      have := like_dup (D := D) (w := w) (x := x) (l := (b :: r).reverse) hD
      simpa using this
    · rename_i hx
      split
      · rename_i hd
        have hd' : (b < x) ↔ (x < p) := by simpa using hd
        have := like_mid (D := D) (w := w) (b := b) (x := x) (p := p) (l := r.reverse) hD (by omega)
        simpa using this
      · have : (x :: b :: r).reverse ++ [p] = (p :: x :: b :: r).reverse := by simp
        rw [this]
        exact .refl
theorem like_fold {D w : Int} (hD : 0 ≤ D) : ∀ (row R pre : List Int), Alt R → Like D w 0 pre R.reverse → Like D w 0 (pre ++ row) (row.foldl addR R).reverse
  | [], R, pre, _, h => by simpa using h
  | p :: row, R, pre, ha, h => by
    have h2 := (h.app [p]).trans (like_add (p := p) hD ha)
    have := like_fold hD row (addR R p) (pre ++ [p]) (alt_add ha) (by simpa using h2)
    simpa using this
theorem like_turn {D w : Int} (hD : 0 ≤ D) (row : List Int) : Like D w 0 row (turnF row) := by
  have := like_fold (w := w) hD row [] [] trivial .refl
  simpa [turnF, turnR] using this
def sumE (D : Int) (ps : List (Int × Int)) : Int := (ps.map (swE D)).sum
theorem sumE_snoc (D : Int) (ps : List (Int × Int)) (x : Int × Int) : sumE D (ps ++ [x]) = sumE D ps + swE D x := by simp [sumE]
theorem red_keep {D w : Int} (hD : 0 ≤ D) : ∀ (n : Nat) (ps : List (Int × Int)) (p x : Int) (r : List Int), Alt (p :: x :: r) → ∃ y r1, (red n ps (p :: x :: r)).2 = p :: y :: r1 ∧ Alt (p :: y :: r1) ∧ ((y < p) ↔ (x < p)) ∧ Like D w (sumE D (red n ps (p :: x :: r)).1 - sumE D ps) (p :: x :: r).reverse (red n ps (p :: x :: r)).2.reverse
  | 0, ps, p, x, r, h => ⟨x, r, by simp [red], h, Iff.rfl, by simp [red]; exact .refl⟩
  | n + 1, ps, p, x, r, h => by
    match r, h with
    | [], h => exact ⟨x, [], by simp [red], h, Iff.rfl, by simp [red]; exact .refl⟩
    | [b], h => exact ⟨x, [b], by simp [red], h, Iff.rfl, by simp [red]; exact .refl⟩
    | b :: a :: r, h =>
      cases hin : inn p x b a with
      | false => exact ⟨x, b :: a :: r, by simp [red, hin], h, Iff.rfl, by simp [red, hin]; exact .refl⟩
      | true =>
        rw [red_go hin]
        obtain ⟨h1, h2, h3, h4, h5⟩ := h
        have h2' : ¬ ((b < x) ↔ (x < p)) := by simpa using h2
        have h4' : ¬ ((a < b) ↔ (b < x)) := by simpa using h4
        have hab := h5.ne
        have hin2 := hin
        simp only [inn, Bool.and_eq_true, decide_eq_true_eq, absI_max] at hin2
        have hk : Like D w (swE D (min b x, max b x)) (p :: x :: b :: a :: r).reverse (p :: a :: r).reverse := by
          have := like_in (D := D) (w := w) (l := r.reverse) hD hin (fun q => hab q.symm) (fun q => h3 q.symm) (fun q => h1 q.symm) h4 h2
          simpa using this
        have hdir : (a < p) ↔ (x < p) := by omega
        have hap : p ≠ a := by omega
        have hA : Alt (p :: a :: r) := by
          cases r with
          | nil => exact hap
          | cons z r =>
            refine ⟨hap, ?_, h5.tail⟩
            have h6 := h5.2.1
            have h6' : ¬ ((z < a) ↔ (a < b)) := by simpa using h6
            have : ¬ ((z < a) ↔ (a < p)) := by
              intro q
              apply h6'
              rw [q]
              omega
            simpa using this
        obtain ⟨y, r1, e1, e2, e3, e4⟩ := red_keep (w := w) hD n (ps ++ [(min b x, max b x)]) p a r hA
        refine ⟨y, r1, e1, e2, e3.trans hdir, ?_⟩
        have := hk.trans e4
        rw [sumE_snoc] at this
        rw [show sumE D (red n (ps ++ [(min b x, max b x)]) (p :: a :: r)).1 - sumE D ps = swE D (min b x, max b x) + (sumE D (red n (ps ++ [(min b x, max b x)]) (p :: a :: r)).1 - (sumE D ps + swE D (min b x, max b x))) by omega]
        exact this
theorem alt_suf : ∀ (l P : List Int), Alt (l ++ P) → Alt P
  | [], P, h => h
  | [x], [], h => trivial
  | [x], y :: P, h => Alt.tail h
  | x :: y :: l, P, h => alt_suf (y :: l) P (Alt.tail h)
theorem push_fold {D w : Int} (hD : 0 ≤ D) : ∀ (F P : List Int) (ps : List (Int × Int)) (R : List Int), Alt (F.reverse ++ P) → Alt R → (P = [] ↔ R = []) → (∀ x r, P = x :: r → ∃ r', R = x :: r') → (∀ x b r, P = x :: b :: r → ∃ b' r', R = x :: b' :: r' ∧ ((b' < x) ↔ (b < x))) → (∀ x, P = [x] → R = [x]) →
    Like D w (sumE D ps) P.reverse R.reverse → Like D w (sumE D (F.foldl pushS (ps, R)).1) (P.reverse ++ F) (F.foldl pushS (ps, R)).2.reverse
  | [], P, ps, R, _, _, _, _, _, _, h => by simpa using h
  | p :: F, P, ps, R, hA, hR, h0, h1, h2, h3, h => by
    have hA' : Alt (F.reverse ++ (p :: P)) := by simpa using hA
    have hPP : Alt (p :: P) := alt_suf _ _ hA'
    rw [List.foldl_cons]
    match P, hPP, h0, h1, h2, h3, h, hA' with
    | [], hPP, h0, h1, h2, h3, h, hA' =>
      have hRn := h0.mp rfl
      subst hRn
      have e : pushS (ps, []) p = (ps, [p]) := by simp [pushS, red]
      rw [e]
      have := push_fold hD F [p] ps [p] hA' trivial (by simp) (fun x r q => ⟨[], by cases q; rfl⟩) (fun x b r q => by cases q) (fun x q => q) (by simpa using h.app [p])
      simpa using this
    | [x], hPP, h0, h1, h2, h3, h, hA' =>
      have hRn := h3 x rfl
      subst hRn
      have hpx : Alt [p, x] := hPP
      obtain ⟨y, r1, e1, e2, e3, e4⟩ := red_keep (D := D) (w := w) hD 2 ps p x [] hpx
      have ep : pushS (ps, [x]) p = red 2 ps [p, x] := rfl
      rw [ep]
      have e5 : red 2 ps [p, x] = (ps, [p, x]) := by simp [red]
      rw [e5]
      have := push_fold hD F [p, x] ps [p, x] hA' hpx (by simp) (fun z r q => ⟨[x], by cases q; rfl⟩) (fun z b r q => ⟨x, [], by cases q; exact ⟨rfl, Iff.rfl⟩⟩) (fun z q => by cases q) (by simpa using h.app [p])
      simpa using this
    | x :: b :: r, hPP, h0, h1, h2, h3, h, hA' =>
      obtain ⟨b', r', rfl, hb⟩ := h2 x b r rfl
      have hpx : p ≠ x := hPP.1
      have hd : ¬ ((b < x) ↔ (x < p)) := by simpa using hPP.2.1
      have hAR : Alt (p :: x :: b' :: r') := by
        refine ⟨hpx, ?_, hR⟩
        have : ¬ ((b' < x) ↔ (x < p)) := by rw [hb]; exact hd
        simpa using this
      obtain ⟨y, r1, e1, e2, e3, e4⟩ := red_keep (D := D) (w := w) hD ((x :: b' :: r').length + 1) ps p x (b' :: r') hAR
      have ep : pushS (ps, x :: b' :: r') p = red ((x :: b' :: r').length + 1) ps (p :: x :: b' :: r') := rfl
      rw [ep]
      obtain ⟨qs, Q, eq⟩ : ∃ qs Q, red ((x :: b' :: r').length + 1) ps (p :: x :: b' :: r') = (qs, Q) := ⟨_, _, rfl⟩
      rw [eq] at e1 e4 ⊢
      simp only at e1 e4
      subst e1
      have hk := (h.app [p]).trans (by simpa using e4)
      have := push_fold hD F (p :: x :: b :: r) qs (p :: y :: r1) hA' e2 (by simp) (fun z t q => ⟨y :: r1, by cases q; rfl⟩) (fun z t u q => ⟨y, r1, by cases q; exact ⟨rfl, e3⟩⟩) (fun z q => by cases q) (by
        rw [show sumE D ps + (sumE D qs - sumE D ps) = sumE D qs by omega] at hk
        simpa using hk)
      simpa using this
end Sm
/-! TyM: standing places, from behind: each place put ahead of what stands behind it. -/
namespace Sm
def psh (x : Int) : List Int → List Int
  | [] => [x]
  | [a] => if x = a then [a] else [x, a]
  | a :: b :: r => if min a b ≤ x ∧ x ≤ max a b then a :: b :: r else if (a < b ∧ b < x) ∨ (b < a ∧ x < b) then x :: a :: b :: r else x :: b :: r
def stR (row : List Int) : List Int := row.foldr psh []
theorem psh_1 (x a : Int) : psh x [a] = if x = a then [a] else [x, a] := rfl
theorem psh_2 (x a b : Int) (r : List Int) : psh x (a :: b :: r) = if min a b ≤ x ∧ x ≤ max a b then a :: b :: r else if (a < b ∧ b < x) ∨ (b < a ∧ x < b) then x :: a :: b :: r else x :: b :: r := rfl
/-- b lies within what the two first ones bound -/
def Inn (b : Int) : List Int → Prop
  | [] => False
  | [a] => b = a
  | a :: c :: _ => min a c ≤ b ∧ b ≤ max a c
/-- the first two differ -/
def Two : List Int → Prop
  | a :: b :: _ => a ≠ b
  | _ => True
theorem two_psh {x : Int} : ∀ {L : List Int}, Two L → Two (psh x L)
  | [], _ => trivial
  | [a], _ => by
    rw [psh_1]
    split
    · exact trivial
    · rename_i h; exact h
  | a :: b :: r, h => by
    simp only [Two] at h
    rw [psh_2]
    split
    · exact h
    · rename_i h1
      split
      · simp only [Two]; omega
      · simp only [Two]; omega
theorem inn_psh {x : Int} : ∀ {L : List Int}, Two L → Inn x (psh x L)
  | [], _ => rfl
  | [a], _ => by
    rw [psh_1]
    split
    · rename_i h; exact h
    · simp only [Inn]; omega
  | a :: b :: r, h => by
    rw [psh_2]
    split
    · rename_i h1; exact h1
    · split
      · simp only [Inn]; omega
      · simp only [Inn]; omega
theorem inn_keep {x b : Int} : ∀ {L : List Int}, Two L → Inn b L → Inn b (psh x L)
  | [], _, h => by simp [Inn] at h
  | [a], _, h => by
    simp only [Inn] at h
    rw [psh_1]
    split
    · exact h
    · simp only [Inn]; omega
  | a :: c :: r, h2, h => by
    simp only [Inn, Two] at h h2
    rw [psh_2]
    split
    · exact h
    · split
      · simp only [Inn]; omega
      · simp only [Inn]; omega
theorem psh_inn {x : Int} : ∀ {L : List Int}, Inn x L → psh x L = L
  | [], h => by simp [Inn] at h
  | [a], h => by simp only [Inn] at h; rw [psh_1, if_pos h]
  | a :: c :: r, h => by simp only [Inn] at h; rw [psh_2, if_pos h]
def Bw (a x b : Int) : Prop := (a ≤ x ∧ x ≤ b) ∨ (b ≤ x ∧ x ≤ a)
theorem psh_mid {a x b : Int} : ∀ {L : List Int}, Two L → Inn b L → Bw a x b → psh a (psh x L) = psh a L
  | [], _, h, _ => by simp [Inn] at h
  | [c], _, h, hb => by
    simp only [Inn] at h
    unfold Bw at hb
    rw [psh_1, psh_1]
    split
    · rw [psh_1]
    · rw [psh_2]
      split
      · rename_i h1 h2
        have : a = x := by omega
        rw [if_neg (by omega), this]
      · rename_i h1 h2
        rw [if_neg (by omega), if_neg (by omega)]
  | c :: d :: r, h2, h, hb => by
    simp only [Inn, Two] at h h2
    unfold Bw at hb
    by_cases i : min c d ≤ x ∧ x ≤ max c d
    · rw [show psh x (c :: d :: r) = c :: d :: r by rw [psh_2, if_pos i]]
    · by_cases s : (c < d ∧ d < x) ∨ (d < c ∧ x < d)
      · rw [show psh x (c :: d :: r) = x :: c :: d :: r by rw [psh_2, if_neg i, if_pos s], psh_2 a c d, if_neg (by omega), if_pos (by omega), psh_2]
        split
        · have : a = x := by omega
          rw [this]
        · rw [if_neg (by omega)]
      · rw [show psh x (c :: d :: r) = x :: d :: r by rw [psh_2, if_neg i, if_neg s], psh_2 a c d, if_neg (by omega), if_neg (by omega), psh_2]
        split
        · have : a = x := by omega
          rw [this]
        · rw [if_neg (by omega)]
theorem two_stR : ∀ l : List Int, Two (stR l)
  | [] => trivial
  | a :: l => two_psh (two_stR l)
theorem stR_cons (a : Int) (l : List Int) : stR (a :: l) = psh a (stR l) := rfl
theorem stR_app (l r : List Int) : stR (l ++ r) = l.foldr psh (stR r) := by simp [stR]
theorem inn_stR {x : Int} : ∀ {l : List Int}, x ∈ l → Inn x (stR l)
  | a :: l, h => by
    rw [stR_cons]
    rcases List.mem_cons.mp h with rfl | h
    · exact inn_psh (two_stR l)
    · exact inn_keep (two_stR l) (inn_stR h)
/-- what lies on the way changes nothing -/
theorem fold_mid {a b : Int} : ∀ {P L : List Int}, Two L → Inn b L → (∀ x ∈ P, Bw a x b) → psh a (P.foldr psh L) = psh a L ∧ Inn b (P.foldr psh L) ∧ Two (P.foldr psh L)
  | [], L, h2, h, _ => ⟨rfl, h, h2⟩
  | x :: P, L, h2, h, hb => by
    obtain ⟨i1, i2, i3⟩ := fold_mid (P := P) h2 h fun y hy => hb y (List.mem_cons_of_mem _ hy)
    refine ⟨?_, inn_keep i3 i2, two_psh i3⟩
    show psh a (psh x (P.foldr psh L)) = _
    rw [psh_mid i3 i2 (hb x List.mem_cons_self), i1]
/-! the wheel comes to one place -/
theorem stW_psh {D x : Int} (hD : 0 ≤ D) : ∀ {L : List Int} (w : Int), stW D w (psh x L) = stW D w (x :: L)
  | [], w => rfl
  | [a], w => by
    rw [psh_1]
    split
    · rename_i h
      subst h
      simp only [stW, List.foldl_cons, List.foldl_nil, drag]
      omega
    · rfl
  | a :: b :: r, w => by
    rw [psh_2]
    split
    · rename_i h
      have e : drag D b (drag D a (drag D x w)) = drag D b (drag D a w) := by unfold drag; omega
      simp only [stW, List.foldl_cons, e]
    · split
      · rfl
      · have e : drag D b (drag D a (drag D x w)) = drag D b (drag D x w) := by unfold drag; omega
        simp only [stW, List.foldl_cons, e]
theorem stW_stR {D : Int} (hD : 0 ≤ D) : ∀ (l : List Int) (w : Int), stW D w (stR l) = stW D w l
  | [], w => rfl
  | a :: l, w => by
    rw [stR_cons, stW_psh hD]
    exact stW_stR hD l _
/-! turning places have the same standing places -/
theorem stR_dup (a : Int) (l : List Int) : stR (a :: a :: l) = stR (a :: l) := psh_inn (inn_psh (two_stR l))
theorem stR_mid {a x b : Int} (l : List Int) (h : Bw a x b) : stR (a :: x :: b :: l) = stR (a :: b :: l) := psh_mid (two_stR (b :: l)) (inn_psh (two_stR l)) h
theorem stR_pre {l l' : List Int} (p : List Int) (h : stR l = stR l') : stR (p ++ l) = stR (p ++ l') := by rw [stR_app, stR_app, h]
theorem stR_add : ∀ (R : List Int) (p : Int) (rest : List Int), stR ((addR R p).reverse ++ rest) = stR (R.reverse ++ p :: rest)
  | [], p, rest => rfl
  | [x], p, rest => by
    rw [addR_1]
    split
    · rename_i h
      subst h
      exact (stR_dup x rest).symm
    · rfl
  | x :: b :: r, p, rest => by
    rw [addR_2]
    split
    · rename_i h
      subst h
      simp only [List.reverse_cons, List.append_assoc, List.singleton_append, List.cons_append, List.nil_append]
      exact stR_pre _ (stR_pre [b] (stR_dup x rest).symm)
    · split
      · rename_i h1 h2
        simp only [List.reverse_cons, List.append_assoc, List.singleton_append, List.cons_append, List.nil_append]
        refine stR_pre _ (stR_mid rest ?_).symm
        unfold Bw
        by_cases q : b < x <;> by_cases q' : x < p <;> simp [q, q'] at h2 <;> omega
      · simp
theorem stR_turn (row : List Int) : stR (turnF row) = stR row := by
  have key : ∀ (row R : List Int), stR (row.foldl addR R).reverse = stR (R.reverse ++ row) := by
    intro row
    induction row with
    | nil => intro R; simp
    | cons a row ih =>
      intro R
      rw [List.foldl_cons, ih, stR_add]
  exact key row []
/-! gone through from ahead -/
def apU (up : Bool) : List Int → List Int
  | a :: b :: r => if (up = true ∧ a < b) ∨ (up = false ∧ b < a) then b :: r else a :: b :: r
  | L => L
theorem apU_2 (up : Bool) (a b : Int) (r : List Int) : apU up (a :: b :: r) = if (up = true ∧ a < b) ∨ (up = false ∧ b < a) then b :: r else a :: b :: r := rfl
/-- all that L bounds lies no farther than m -/
def Lim (up : Bool) (m x : Int) : Prop := if up = true then x ≤ m else m ≤ x
theorem apU_keep {up : Bool} {m x : Int} (hx : Lim up m x) : ∀ {N : List Int}, Two N → (∀ y, Inn y N → Lim up m y) → Inn m N → apU up (psh x N) = apU up N
  | [], _, _, h => by simp [Inn] at h
  | [a], _, _, h => by
    simp only [Inn] at h
    rw [psh_1]
    split
    · rfl
    · cases up <;> simp only [Lim, if_true, if_false, Bool.false_eq_true] at hx <;> simp [apU] <;> omega
  | c :: d :: r, h2, hl, h => by
    simp only [Two] at h2
    have hc := hl c (by simp only [Inn]; omega)
    have hd := hl d (by simp only [Inn]; omega)
    simp only [Inn] at h
    rw [psh_2]
    split
    · rfl
    · split
      · cases up <;> simp only [Lim, if_true, if_false, Bool.false_eq_true] at hx hc hd <;> simp [apU] <;> rw [if_pos (by omega), if_neg (by omega)]
      · cases up <;> simp only [Lim, if_true, if_false, Bool.false_eq_true] at hx hc hd <;> simp [apU] <;> rw [if_pos (by omega), if_pos (by omega)]
theorem lim_psh {up : Bool} {m x : Int} (hx : Lim up m x) : ∀ {N : List Int}, Two N → (∀ y, Inn y N → Lim up m y) → ∀ y, Inn y (psh x N) → Lim up m y
  | [], _, _, y, h => by simp only [psh, Inn] at h; rw [h]; exact hx
  | [a], _, hl, y, h => by
    have ha := hl a rfl
    rw [psh_1] at h
    split at h
    · exact hl y h
    · simp only [Inn] at h
      cases up <;> simp only [Lim, if_true, if_false, Bool.false_eq_true] at hx ha ⊢ <;> omega
  | c :: d :: r, h2, hl, y, h => by
    simp only [Two] at h2
    have hc := hl c (by simp only [Inn]; omega)
    have hd := hl d (by simp only [Inn]; omega)
    rw [psh_2] at h
    split at h
    · exact hl y h
    · split at h <;> simp only [Inn] at h <;> cases up <;> simp only [Lim, if_true, if_false, Bool.false_eq_true] at hx hc hd ⊢ <;> omega
theorem lim_stR {up : Bool} {m : Int} : ∀ {l : List Int}, (∀ x ∈ l, Lim up m x) → ∀ y, Inn y (stR l) → Lim up m y
  | [], _, y, h => by simp [stR, Inn] at h
  | a :: l, hl, y, h => lim_psh (hl a List.mem_cons_self) (two_stR l) (lim_stR fun x hx => hl x (List.mem_cons_of_mem _ hx)) y h
/-- a farthest place put ahead -/
theorem psh_far {up : Bool} {m : Int} : ∀ {N : List Int}, Two N → (∀ y, Inn y N → Lim up m y ∧ y ≠ m) → psh m N = m :: apU (!up) N
  | [], _, _ => rfl
  | [a], _, h => by
    have := (h a rfl).2
    rw [psh_1, if_neg (by omega)]
    rfl
  | c :: d :: r, h2, hl => by
    simp only [Two] at h2
    have hc := hl c (by simp only [Inn]; omega)
    have hd := hl d (by simp only [Inn]; omega)
    rw [psh_2]
    cases up <;> simp only [Lim, if_true, if_false, Bool.false_eq_true] at hc hd <;> simp only [apU, Bool.not_true, Bool.not_false, true_and, false_and, or_false, false_or, Bool.false_eq_true, Bool.true_eq_false, reduceCtorEq] <;> rw [if_neg (by omega)] <;> by_cases q : c < d
    · rw [if_neg (by omega), if_pos (by omega)]
    · rw [if_pos (by omega), if_neg (by omega)]
    · rw [if_pos (by omega), if_neg (by omega)]
    · rw [if_neg (by omega), if_pos (by omega)]
theorem not_inn_stR {m : Int} {up : Bool} : ∀ {l : List Int}, (∀ x ∈ l, Lim up m x ∧ x ≠ m) → ∀ y, Inn y (stR l) → Lim up m y ∧ y ≠ m := by
  intro l hl y hy
  refine ⟨lim_stR (fun x hx => (hl x hx).1) y hy, ?_⟩
  have := lim_stR (up := up) (m := if up = true then m - 1 else m + 1) (l := l) (fun x hx => by
    have := hl x hx
    cases up <;> simp only [Lim, if_true, if_false, Bool.false_eq_true] at this ⊢ <;> omega) y hy
  cases up <;> simp only [Lim, if_true, if_false, Bool.false_eq_true] at this <;> omega
theorem apU_step {up : Bool} {m : Int} {C1 C2 : List Int} (h1 : ∀ x ∈ C1, Lim up m x) (h2 : ∀ x ∈ C2, Lim up m x ∧ x ≠ m) : apU up (stR (C1 ++ m :: C2)) = m :: apU (!up) (stR C2) := by
  have e := psh_far (two_stR C2) (not_inn_stR h2)
  have key : ∀ C1 : List Int, (∀ x ∈ C1, Lim up m x) → apU up (stR (C1 ++ m :: C2)) = apU up (stR (m :: C2)) := by
    intro C1 h1
    induction C1 with
    | nil => rfl
    | cons a C1 ih =>
      have hC : ∀ x ∈ C1 ++ m :: C2, Lim up m x := by
        intro x hx
        rcases List.mem_append.mp hx with q | q
        · exact h1 x (List.mem_cons_of_mem _ q)
        · rcases List.mem_cons.mp q with rfl | q
          · cases up <;> simp [Lim]
          · exact (h2 x q).1
      show apU up (psh a (stR (C1 ++ m :: C2))) = _
      rw [apU_keep (h1 a List.mem_cons_self) (two_stR _) (lim_stR hC) (inn_stR (by simp)), ih fun x hx => h1 x (List.mem_cons_of_mem _ hx)]
  rw [key C1 h1, stR_cons, e]
  have := not_inn_stR h2
  revert this
  have t2 := two_stR C2
  revert t2
  generalize stR C2 = N
  intro t2 hN
  match N, hN with
  | [], _ => rfl
  | [a], hN =>
    have := hN a rfl
    cases up <;> simp only [Lim, if_true, if_false, Bool.false_eq_true] at this <;> simp [apU] <;> omega
  | c :: d :: r, hN =>
    simp only [Two] at t2
    have hc := hN c (by simp only [Inn]; omega)
    have hd := hN d (by simp only [Inn]; omega)
    have key2 : ∀ (y : Int) (s : List Int), Lim up m y ∧ y ≠ m → apU up (m :: y :: s) = m :: y :: s := by
      intro y s hy
      unfold apU
      refine if_neg ?_
      cases up <;> simp only [Lim, if_true, if_false, Bool.false_eq_true] at hy <;> simp <;> omega
    have e2 : apU (!up) (c :: d :: r) = d :: r ∨ apU (!up) (c :: d :: r) = c :: d :: r := by
      rw [apU_2]
      split
      · exact .inl rfl
      · exact .inr rfl
    rcases e2 with e2 | e2 <;> rw [e2]
    · exact key2 _ _ hd
    · exact key2 _ _ hc
/-- the first two: the farthest either way, that first whose last time comes first -/
theorem stR_head {up : Bool} {lo : Int} {A B : List Int} (hB : ∀ x ∈ B, Lim (!up) lo x ∧ x ≠ lo) (hA : ∀ x ∈ A, Inn x (lo :: apU up (stR B))) : stR (A ++ lo :: B) = lo :: apU up (stR B) := by
  have e : stR (lo :: B) = lo :: apU up (stR B) := by
    rw [stR_cons, psh_far (up := !up) (two_stR B) (not_inn_stR hB), Bool.not_not]
  rw [stR_app, e]
  clear e hB
  induction A with
  | nil => rfl
  | cons a A ih =>
    rw [List.foldr_cons, ih fun x hx => hA x (List.mem_cons_of_mem _ hx)]
    exact psh_inn (hA a List.mem_cons_self)
/-! of the told ones it is the same -/
theorem stR_idem : ∀ l : List Int, stR (stR l) = stR l
  | [] => rfl
  | x :: l => by
    have ih := stR_idem l
    have t2 := two_stR l
    rw [stR_cons]
    revert ih t2
    generalize stR l = L
    intro ih t2
    match L, ih, t2 with
    | [], _, _ => rfl
    | [a], ih, _ =>
      rw [psh_1]
      split
      · rfl
      · rename_i h
        show psh x (stR [a]) = _
        rw [ih, psh_1, if_neg h]
    | a :: b :: r, ih, t2 =>
      simp only [Two] at t2
      have e : psh x (stR (a :: b :: r)) = psh x (a :: b :: r) := by rw [ih]
      rw [psh_2]
      split
      · exact ih
      · rename_i h1
        rw [psh_2, if_neg h1] at e
        split
        · rename_i h2
          rw [if_pos h2] at e
          exact e
        · rename_i h2
          rw [if_neg h2] at e
          rw [← stR_mid r (show Bw x a b by unfold Bw; omega)]
          exact e
theorem stR_ne {l : List Int} (h : l ≠ []) : stR l ≠ [] := by
  match l, h with
  | a :: l, _ =>
    intro e
    have := inn_stR (x := a) (l := a :: l) List.mem_cons_self
    rw [e] at this
    exact this
theorem inn_bw {f0 f1 x : Int} {N : List Int} (h0 : Inn f0 N) (h1 : Inn f1 N) (hb : Bw f0 x f1) : Inn x N := by
  unfold Bw at hb
  match N, h0, h1 with
  | [], h0, _ => exact h0
  | [a], h0, h1 => simp only [Inn] at *; omega
  | a :: b :: r, h0, h1 => simp only [Inn] at *; omega
theorem psh_all {N : List Int} : ∀ {P : List Int}, (∀ x ∈ P, Inn x N) → P.foldr psh N = N
  | [], _ => rfl
  | a :: P, h => by
    rw [List.foldr_cons, psh_all fun x hx => h x (List.mem_cons_of_mem _ hx)]
    exact psh_inn (h a List.mem_cons_self)
theorem oth_step {a b : Int} {P : List Int} (hP : ∀ x ∈ P, Bw a x b) (rest : List Int) : stR (a :: (P ++ b :: rest)) = stR (a :: b :: rest) := by
  rw [stR_cons, stR_app, (fold_mid (two_stR (b :: rest)) (inn_psh (two_stR rest)) hP).1]
  rfl
theorem oth_first {f0 f1 : Int} {Q P : List Int} (hQ : ∀ x ∈ Q, Bw f0 x f1) (hP : ∀ x ∈ P, Bw f0 x f1) (rest : List Int) : stR (Q ++ f0 :: (P ++ f1 :: rest)) = stR (f0 :: f1 :: rest) := by
  rw [stR_app, oth_step hP]
  refine psh_all fun x hx => inn_bw (inn_stR (x := f0) (by simp)) (inn_stR (x := f1) (by simp)) (hQ x hx)
/-! where a place stands for the last time -/
def lastI (x : Int) : List Int → Nat
  | [] => 0
  | a :: l => if x ∈ l then lastI x l + 1 else 0
theorem lastI_app {x : Int} {B : List Int} (hB : x ∉ B) : ∀ A : List Int, lastI x (A ++ x :: B) = A.length
  | [] => by simp [lastI, hB]
  | a :: A => by simp [lastI, lastI_app hB A]
theorem last_ex {x : Int} : ∀ {l : List Int}, x ∈ l → ∃ A B, l = A ++ x :: B ∧ x ∉ B
  | a :: l, h => by
    by_cases q : x ∈ l
    · obtain ⟨A, B, e, hb⟩ := last_ex q
      exact ⟨a :: A, B, by rw [e]; rfl, hb⟩
    · rcases List.mem_cons.mp h with rfl | h
      · exact ⟨[], l, rfl, q⟩
      · exact absurd h q
end Sm
/-! TyN: errands; the handle is the piece -1. -/
namespace Sm
def mpl (d g : Int → Int) (m : Int × Int) : Int := g m.1 + m.2 * d m.1
def nxB (d g : Int → Int) (a m : Int × Int) : Bool := decide (m.2 = -a.2) && decide (0 < a.2 * (mpl d g a - a.2 * d m.1 - g m.1))
def stp (d g : Int → Int) : List (Int × Int) → Int → List (Int × Int)
  | [], _ => []
  | a :: r, i => if nxB d g a (i, -a.2) = true then (i, -a.2) :: a :: r else a :: r
def papR (d g : Int → Int) (w s : Int) : List (Int × Int) := (rgI (w - 1) (-1) (w + 1).toNat).foldl (stp d g) [(w, s)]
/-- how pieces hang together -/
structure Geo (d g : Int → Int) (n : Int) : Prop where
  d0 : d (-1) = 0
  le : ∀ i j, -1 ≤ i → i ≤ j → j < n → g j - g i ≤ d j - d i ∧ g i - g j ≤ d j - d i
theorem Geo.mono {d g : Int → Int} {n : Int} (h : Geo d g n) {i j : Int} (h1 : -1 ≤ i) (h2 : i ≤ j) (h3 : j < n) : d i ≤ d j := by
  have := h.le i j h1 h2 h3
  omega
theorem Geo.nonneg {d g : Int → Int} {n : Int} (h : Geo d g n) {j : Int} (h1 : -1 ≤ j) (h3 : j < n) : 0 ≤ d j := by
  have := h.mono (i := -1) (by omega) h1 h3
  have := h.d0
  omega
/-- a must of the form -/
def Mst (n : Int) (m : Int × Int) : Prop := -1 ≤ m.1 ∧ m.1 < n ∧ (m.2 = 1 ∨ m.2 = -1)
/-- a paper, the last one first -/
def Pap (d g X : Int → Int) (n : Int) : List (Int × Int) → Prop
  | [] => True
  | [m] => Mst n m ∧ 0 < m.2 * (g m.1 - X m.1)
  | m :: a :: r => Mst n m ∧ nxB d g a m = true ∧ Pap d g X n (a :: r)
def plR (d g : Int → Int) (T : List (Int × Int)) : List Int := (T.map (mpl d g)).reverse
theorem plR_cons (d g : Int → Int) (m : Int × Int) (T : List (Int × Int)) : plR d g (m :: T) = plR d g T ++ [mpl d g m] := by simp [plR]
theorem stW_snoc (D w : Int) (l : List Int) (a : Int) : stW D w (l ++ [a]) = drag D a (stW D w l) := by simp [stW]
/-- what has come of all at a told paper so far -/
structure Tld (d g X : Int → Int) (n w : Int) (a : Int × Int) (r : List (Int × Int)) : Prop where
  le : w ≤ a.1
  must : Mst n a
  pap : Pap d g X n (a :: r)
  drg : ∀ j, -1 ≤ j → j ≤ a.1 → stW (d j) (X j) (plR d g (a :: r)) = mpl d g a - a.2 * d j
  got : ∀ j, -1 ≤ j → w ≤ j → j < n → stW (d j) (X j) (plR d g (a :: r)) = g j
theorem tld_first {d g X : Int → Int} {n w s : Int} (G : Geo d g n) (GX : Geo d X n) (hw : -1 ≤ w) (hn : w < n) (hs : s = 1 ∨ s = -1) (hx : 0 < s * (g w - X w)) (hj : ∀ j, w < j → j < n → X j = g j) : Tld d g X n w (w, s) [] where
  le := Int.le_refl _
  must := ⟨hw, hn, hs⟩
  pap := ⟨⟨hw, hn, hs⟩, hx⟩
  drg := by
    intro j h1 h2
    have a1 := GX.le j w h1 h2 hn
    have a2 := G.nonneg h1 (by omega : j < n)
    have a3 := G.mono h1 h2 hn
    simp only [plR, List.map_cons, List.map_nil, List.reverse_cons, List.reverse_nil, List.nil_append, stW, List.foldl_cons, List.foldl_nil, mpl, drag]
    rcases hs with rfl | rfl <;> omega
  got := by
    intro j h0 h1 h2
    have a2 := G.nonneg h0 h2
    simp only [plR, List.map_cons, List.map_nil, List.reverse_cons, List.reverse_nil, List.nil_append, stW, List.foldl_cons, List.foldl_nil, mpl, drag]
    by_cases q : w = j
    · subst q
      have a1 := GX.le (-1) w (by omega) hw hn
      rcases hs with rfl | rfl <;> omega
    · have a1 := G.le w j hw h1 h2
      have a4 := G.nonneg hw hn
      rw [hj j (by omega) h2]
      rcases hs with rfl | rfl <;> omega
theorem tld_step {d g X : Int → Int} {n w : Int} {a : Int × Int} {r : List (Int × Int)} (G : Geo d g n) (h : Tld d g X n (w + 1) a r) (hw : -1 ≤ w) : ∃ a' r', stp d g (a :: r) w = a' :: r' ∧ Tld d g X n w a' r' ∧ r'.length ≤ r.length + 1 := by
  obtain ⟨aw, as⟩ := a
  obtain ⟨m1, m2, m3⟩ := h.must
  have hle := h.le
  have drg := h.drg
  simp only at m1 m2 m3 hle drg
  have gw := G.le w aw hw (by omega) m2
  have dw := drg w hw (by omega)
  by_cases q : nxB d g (aw, as) (w, -as) = true
  · refine ⟨(w, -as), (aw, as) :: r, by simp only [stp]; rw [if_pos q], ?_, by simp⟩
    have q' := q
    simp only [nxB, Bool.and_eq_true, decide_eq_true_eq, true_and] at q'
    have must' : Mst n (w, -as) := ⟨hw, by simp only; omega, by simp only; omega⟩
    refine ⟨Int.le_refl _, must', ⟨must', q, h.pap⟩, ?_, ?_⟩
    · intro j h1 h2
      simp only at h2
      have a0 := drg j h1 (by omega)
      have a3 := G.mono h1 h2 (by omega)
      have a2 := G.nonneg h1 (by omega : j < n)
      rw [plR_cons, stW_snoc, a0]
      simp only [mpl, drag] at q' ⊢
      rcases m3 with rfl | rfl <;> simp only [Int.one_mul, Int.neg_mul, Int.neg_neg] at q' ⊢ <;> omega
    · intro j h0 h1 h2
      rw [plR_cons, stW_snoc]
      have a2 := G.nonneg h0 h2
      by_cases e : j = w
      · subst e
        rw [dw]
        simp only [mpl, drag] at q' ⊢
        rcases m3 with rfl | rfl <;> simp only [Int.one_mul, Int.neg_mul, Int.neg_neg] at q' ⊢ <;> omega
      · rw [h.got j h0 (by omega) h2]
        have a1 := G.le w j hw h1 h2
        have a4 := G.nonneg hw (by omega : w < n)
        simp only [mpl, drag]
        rcases m3 with rfl | rfl <;> simp only [Int.one_mul, Int.neg_mul, Int.neg_neg] <;> omega
  · refine ⟨(aw, as), r, by simp only [stp]; rw [if_neg q], ⟨by simp only; omega, h.must, h.pap, h.drg, ?_⟩, by omega⟩
    intro j h0 h1 h2
    by_cases e : j = w
    · subst e
      rw [dw]
      simp only [nxB, Bool.and_eq_true, decide_eq_true_eq, true_and] at q
      simp only [mpl] at q ⊢
      rcases m3 with rfl | rfl <;> simp only [Int.one_mul, Int.neg_mul, Int.neg_neg] at q ⊢ <;> omega
    · exact h.got j h0 (by omega) h2
theorem tld_all {d g X : Int → Int} {n : Int} (G : Geo d g n) : ∀ (k : Nat) (w : Int) (a : Int × Int) (r : List (Int × Int)), w + 1 = k → Tld d g X n w a r → ∃ a' r', (rgI (w - 1) (-1) k).foldl (stp d g) (a :: r) = a' :: r' ∧ Tld d g X n (-1) a' r' ∧ r'.length ≤ r.length + k
  | 0, w, a, r, e, h => ⟨a, r, rfl, by rw [show (-1 : Int) = w by omega]; exact h, by omega⟩
  | k + 1, w, a, r, e, h => by
    rw [rgI_succ, List.foldl_cons]
    obtain ⟨a', r', e', h', l'⟩ := tld_step (w := w - 1) G (by rw [show w - 1 + 1 = w by omega]; exact h) (by omega)
    rw [e']
    obtain ⟨a2, r2, e2, h2, l2⟩ := tld_all G k (w - 1) a' r' (by omega) h'
    exact ⟨a2, r2, by rw [show w - 1 + -1 = w - 1 - 1 by omega]; exact e2, h2, by omega⟩
/-- the told paper leads there -/
theorem told_leads {d g X : Int → Int} {n w s : Int} (G : Geo d g n) (GX : Geo d X n) (hw : -1 ≤ w) (hn : w < n) (hs : s = 1 ∨ s = -1) (hx : 0 < s * (g w - X w)) (hj : ∀ j, w < j → j < n → X j = g j) : Pap d g X n (papR d g w s) ∧ papR d g w s ≠ [] ∧ (papR d g w s).length ≤ (w + 2).toNat ∧ ∀ j, -1 ≤ j → j < n → stW (d j) (X j) (plR d g (papR d g w s)) = g j := by
  obtain ⟨a, r, e, h, l⟩ := tld_all G (w + 1).toNat w (w, s) [] (by omega) (tld_first G GX hw hn hs hx hj)
  unfold papR
  rw [e]
  refine ⟨h.pap, by simp, by simp only [List.length_cons, List.length_nil] at l ⊢; omega, fun j h0 h1 => h.got j h0 (by omega) h1⟩
/-! no row is shorter -/
theorem reach {D g s : Int} (hD : 0 ≤ D) (hs : s = 1 ∨ s = -1) : ∀ {R : List Int} {y : Int}, 0 < s * (g - y) → stW D y R = g → ∃ A a B, R = A ++ a :: B ∧ 0 ≤ s * (a - (g + s * D))
  | [], y, h, e => by
    simp only [stW, List.foldl_nil] at e
    rw [e] at h
    simp at h
  | a :: R, y, h, e => by
    by_cases q : 0 < s * (g - drag D a y)
    · obtain ⟨A, b, B, e1, e2⟩ := reach hD hs (R := R) q e
      exact ⟨a :: A, b, B, by rw [e1]; rfl, e2⟩
    · refine ⟨[], a, R, rfl, ?_⟩
      unfold drag at q
      rcases hs with rfl | rfl <;> simp only [Int.one_mul, Int.neg_mul, Int.neg_neg] at q h ⊢ <;> omega
theorem way_ge : ∀ (A : List Int) (h a : Int), a - h ≤ way (h :: (A ++ [a])) ∧ h - a ≤ way (h :: (A ++ [a]))
  | [], h, a => by
    simp only [List.nil_append, way, absI]
    split <;> omega
  | b :: A, h, a => by
    have := way_ge A b a
    simp only [List.cons_append, way, absI]
    split <;> omega
theorem way_two (A : List Int) (h a : Int) (B : List Int) : way (h :: (A ++ a :: B)) = way (h :: (A ++ [a])) + way (a :: B) := way_split (h :: A) a B
/-- a chain of musts, the first one first -/
def Chn (d g : Int → Int) (n : Int) : Int × Int → List (Int × Int) → Prop
  | _, [] => True
  | a, m :: r => Mst n m ∧ nxB d g a m = true ∧ Chn d g n m r
theorem stW_near' (D w : Int) (l : List Int) (a : Int) (hD : 0 ≤ D) : stW D w (l ++ [a]) - a ≤ D ∧ a - stW D w (l ++ [a]) ≤ D := by
  rw [stW_snoc]
  unfold drag
  omega
theorem low_all {d g : Int → Int} {n : Int} (hd : ∀ j, -1 ≤ j → j < n → 0 ≤ d j) : ∀ (P : List (Int × Int)) (m : Int × Int) (X : Int → Int) (h : Int) (R : List Int), Mst n m → 0 < m.2 * (g m.1 - X m.1) → Chn d g n m P → (∀ j, -1 ≤ j → j < n → stW (d j) (X j) R = g j) → m.2 * (mpl d g m - h) + way (mpl d g m :: P.map (mpl d g)) ≤ way (h :: R)
  | P, m, X, h, R, hm, hf, hc, hR => by
    obtain ⟨m1, m2, m3⟩ := hm
    obtain ⟨A, a, B, e, ha⟩ := reach (hd _ m1 m2) m3 hf (hR _ m1 m2)
    have w1 := way_ge A h a
    rw [e, way_two]
    have e2 : mpl d g m = g m.1 + m.2 * d m.1 := rfl
    rw [← e2] at ha
    match P, hc with
    | [], _ =>
      have : 0 ≤ way (a :: B) := by
        rcases List.eq_nil_or_concat B with q | ⟨B', b, q⟩
        · rw [q]; simp [way]
        · have := way_ge B' a b
          rw [q, List.concat_eq_append]
          omega
      simp only [List.map_nil, way]
      generalize mpl d g m = p at *
      rcases m3 with q | q <;> rw [q] at ha ⊢ <;> omega
    | m' :: P, hc =>
      obtain ⟨c1, c2, c3⟩ := hc
      simp only [nxB, Bool.and_eq_true, decide_eq_true_eq] at c2
      obtain ⟨c4, c5⟩ := c2
      have near := stW_near' (d m'.1) (X m'.1) A a (hd _ c1.1 c1.2.1)
      have ih := low_all hd P m' (fun j => stW (d j) (X j) (A ++ [a])) a B c1 (by
        show 0 < m'.2 * (g m'.1 - stW (d m'.1) (X m'.1) (A ++ [a]))
        generalize mpl d g m = p at *
        generalize stW (d m'.1) (X m'.1) (A ++ [a]) = y at *
        rw [c4]
        rcases m3 with q | q <;> rw [q] at ha c5 ⊢ <;> simp only [Int.one_mul, Int.neg_mul, Int.neg_neg] at ha c5 ⊢ <;> omega) c3 (by
        intro j j1 j2
        rw [← hR j j1 j2, e, ← stW_app]
        simp)
      have h1 : way (mpl d g m :: (m' :: P).map (mpl d g)) = absI (mpl d g m' - mpl d g m) + way (mpl d g m' :: P.map (mpl d g)) := rfl
      rw [h1]
      have e3 : mpl d g m' = g m'.1 + m'.2 * d m'.1 := rfl
      have hd' := hd _ c1.1 c1.2.1
      have ha2 : absI (mpl d g m' - mpl d g m) = m'.2 * (mpl d g m' - mpl d g m) := by
        rw [e3, c4]
        unfold absI
        generalize mpl d g m = p at *
        rcases m3 with q | q <;> rw [q] at c5 ⊢ <;> simp only [Int.one_mul, Int.neg_mul, Int.neg_neg] at c5 ⊢ <;> split <;> omega
      rw [ha2]
      rw [c4] at ih ⊢
      generalize mpl d g m = p at *
      generalize mpl d g m' = p' at *
      rcases m3 with q | q <;> rw [q] at ha ih ⊢ <;> simp only [Int.one_mul, Int.neg_mul, Int.neg_neg] at ha ih ⊢ <;> omega
theorem pap_fwd {d g X : Int → Int} {n : Int} : ∀ (T : List (Int × Int)) (a : Int × Int) (r : List (Int × Int)), Pap d g X n (a :: T) → Chn d g n a r → ∃ m P, (a :: T).reverse ++ r = m :: P ∧ Mst n m ∧ 0 < m.2 * (g m.1 - X m.1) ∧ Chn d g n m P
  | [], a, r, h, hc => ⟨a, r, rfl, h.1, h.2, hc⟩
  | b :: T, a, r, h, hc => by
    obtain ⟨m, P, e, h'⟩ := pap_fwd T b (a :: r) h.2.2 ⟨h.1, h.2.1, hc⟩
    exact ⟨m, P, by rw [← e]; simp, h'⟩
/-- no row that leads there is shorter than a paper's places -/
theorem pap_low {d g X : Int → Int} {n : Int} (GX : Geo d X n) (T : List (Int × Int)) (hT : Pap d g X n T) (R : List Int) (hR : ∀ j, -1 ≤ j → j < n → stW (d j) (X j) R = g j) : way (X (-1) :: plR d g T) ≤ way (X (-1) :: R) := by
  have hd : ∀ j, -1 ≤ j → j < n → 0 ≤ d j := fun j h1 h2 => GX.nonneg h1 h2
  match T, hT with
  | [], _ =>
    simp only [plR, List.map_nil, List.reverse_nil]
    rcases List.eq_nil_or_concat R with q | ⟨B', b, q⟩
    · rw [q]; simp [way]
    · have := way_ge B' (X (-1)) b
      rw [q, List.concat_eq_append]
      simp only [way]
      omega
  | a :: T, hT =>
    obtain ⟨m, P, e, m1, m2, m3⟩ := pap_fwd T a [] hT trivial
    rw [List.append_nil] at e
    have := low_all hd P m X (X (-1)) R m1 m2 m3 hR
    have e2 : plR d g (a :: T) = mpl d g m :: P.map (mpl d g) := by
      unfold plR
      rw [← List.map_reverse, e]
      rfl
    rw [e2]
    have near := GX.le (-1) m.1 (by omega) m1.1 m1.2.1
    have d0 := GX.d0
    have hd' := hd _ m1.1 m1.2.1
    have e3 : mpl d g m = g m.1 + m.2 * d m.1 := rfl
    have ha : absI (mpl d g m - X (-1)) = m.2 * (mpl d g m - X (-1)) := by
      rw [e3]
      unfold absI
      rcases m1.2.2 with q | q <;> rw [q] at m2 ⊢ <;> simp only [Int.one_mul, Int.neg_mul, Int.neg_neg] at m2 ⊢ <;> split <;> omega
    simp only [way, ha]
    omega
end Sm
/-! TyO: standing places told. -/
namespace Sm
open PySem L2
theorem lastI_fold (x : Int) : ∀ (l : List Int) (k f : Int), (enI k l).foldl (fun (f : Int) (p : Int × Int) => if p.2 = x then p.1 else f) f = if x ∈ l then k + lastI x l else f
  | [], k, f => by simp [enI]
  | a :: l, k, f => by
    show (enI (k + 1) l).foldl _ (if a = x then k else f) = _
    rw [lastI_fold x l]
    by_cases h : x ∈ l
    · simp [h, lastI]; omega
    · by_cases h2 : a = x
      · subst h2; simp [h, lastI]
      · have h3 : ¬ x = a := fun e => h2 e.symm
        simp [h, h2, h3]
theorem c_last_time {l : List Int} {x : Int} (hl : l.length ≤ 100000) (hx : x ∈ l) : R.call m_last_time 2 [iL l, .int x] = .ok (.dat (.int (lastI x l))) := by
  refine call_ok ?_ rfl rfl
  unfold m_last_time b_last_time
  rw [runF_ev]
  simp (disch := first | omega | (simp; done) | (simp; omega)) [List.replicate]
  rw [forW_run pD (fun s : Int => [.no, .at (.dat (.int x)), .at (.dat (.int s)), .no, .no]) (fun (f : Int) (p : Int × Int) => if p.2 = x then p.1 else f) (fun _ _ => True) 0]
  · rw [lastI_fold]
    simp [hx]
  · rintro ⟨k, a⟩ r f -
    refine ⟨?_, trivial⟩
    rw [turnW_ev]
    by_cases q : a = x
    · simp (disch := first | omega | (simp; done) | (simp; omega)) [pD, iD, q, wpE_cons]
    · simp (disch := first | omega | (simp; done) | (simp; omega)) [pD, iD, q, wpE_cons]
  · simp [wpE_cons]
  · trivial
theorem most_mem : ∀ (r : List Int) (x : Int), mostI x r ∈ x :: r ∧ ∀ y ∈ x :: r, y ≤ mostI x r
  | [], x => by simp [mostI]
  | a :: r, x => by
    have e : mostI x (a :: r) = mostI (if a > x then a else x) r := rfl
    obtain ⟨h1, h2⟩ := most_mem r (if a > x then a else x)
    rw [e]
    have h3 := h2 _ List.mem_cons_self
    constructor
    · rcases List.mem_cons.mp h1 with q | q
      · rw [q]; split <;> simp
      · simp [q]
    · intro y hy
      simp only [List.mem_cons] at hy
      rcases hy with q | q | q
      · split at h3 <;> split <;> omega
      · split at h3 <;> split <;> omega
      · exact h2 y (List.mem_cons_of_mem _ q)
theorem least_mem : ∀ (r : List Int) (x : Int), leastI x r ∈ x :: r ∧ ∀ y ∈ x :: r, leastI x r ≤ y
  | [], x => by simp [leastI]
  | a :: r, x => by
    have e : leastI x (a :: r) = leastI (if a < x then a else x) r := rfl
    obtain ⟨h1, h2⟩ := least_mem r (if a < x then a else x)
    rw [e]
    have h3 := h2 _ List.mem_cons_self
    constructor
    · rcases List.mem_cons.mp h1 with q | q
      · rw [q]; split <;> simp
      · simp [q]
    · intro y hy
      simp only [List.mem_cons] at hy
      rcases hy with q | q | q
      · split at h3 <;> split <;> omega
      · split at h3 <;> split <;> omega
      · exact h2 y (List.mem_cons_of_mem _ q)
theorem maxLD_ex {l : List Int} (h : l ≠ []) : ∃ m, maxLD [iL l] = .ok (.int m) ∧ m ∈ l ∧ ∀ y ∈ l, y ≤ m := by
  match l, h with
  | x :: r, _ => exact ⟨_, maxLD_iL, most_mem r x⟩
theorem minLD_ex {l : List Int} (h : l ≠ []) : ∃ m, minLD [iL l] = .ok (.int m) ∧ m ∈ l ∧ ∀ y ∈ l, m ≤ y := by
  match l, h with
  | x :: r, _ => exact ⟨_, minLD_iL, least_mem r x⟩
theorem st_first {up : Bool} {A B : List Int} {lo hi : Int} (hB : ∀ x ∈ B, Lim (!up) lo x ∧ x ≠ lo) (hhi : hi ∈ B) (hall : ∀ x ∈ A, Lim up hi x ∧ Lim (!up) lo x) : stR (A ++ lo :: B) = lo :: apU up (stR (A ++ lo :: B)) := by
  have hN := not_inn_stR hB
  have hh := inn_stR hhi
  have t2 := two_stR B
  obtain ⟨y, s, ez, y1, y2, y3⟩ : ∃ y s, apU up (stR B) = y :: s ∧ Lim (!up) lo y ∧ y ≠ lo ∧ Lim up y hi := by
    revert hN hh t2
    generalize stR B = N
    intro hN hh t2
    match N, hN, hh, t2 with
    | [], _, hh, _ => exact hh.elim
    | [a], hN, hh, _ =>
      have := hN a rfl
      simp only [Inn] at hh
      refine ⟨a, [], rfl, this.1, this.2, ?_⟩
      rw [hh]
      cases up <;> simp [Lim]
    | c :: d :: r, hN, hh, t2 =>
      simp only [Two] at t2
      have hc := hN c (by simp only [Inn]; omega)
      have hd := hN d (by simp only [Inn]; omega)
      simp only [Inn] at hh
      rw [apU_2]
      split
      · refine ⟨d, r, rfl, hd.1, hd.2, ?_⟩
        rename_i q
        cases up <;> simp [Lim] at q ⊢ <;> omega
      · refine ⟨c, d :: r, rfl, hc.1, hc.2, ?_⟩
        rename_i q
        cases up <;> simp [Lim] at q ⊢ <;> omega
  have e := stR_head (up := up) (A := A) hB (by
    intro x hx
    have := hall x hx
    rw [ez]
    simp only [Inn]
    cases up <;> simp only [Lim, if_true, if_false, Bool.false_eq_true, Bool.not_true, Bool.not_false] at * <;> omega)
  rw [e, ez, apU_2, if_pos]
  cases up <;> simp [Lim] at y1 ⊢ <;> omega
theorem Lim_t {m x : Int} : Lim true m x = (x ≤ m) := by simp [Lim]
theorem Lim_f {m x : Int} : Lim false m x = (m ≤ x) := by simp [Lim]
theorem lim_not {up : Bool} {m x : Int} : Lim (!up) m x ↔ Lim up x m := by cases up <;> simp [Lim]
theorem turnF_two {row : List Int} (h : 2 ≤ (turnF row).length) : ∃ a b r, turnF row = a :: b :: r ∧ a ≠ b := by
  have ha := alt_pick (alt_fold (row := row) (R := []) trivial)
  have hr : (row.foldl addR []).length = (turnF row).length := by simp [turnF, turnR]
  rw [hr] at ha
  change ∀ j : Int, 1 ≤ j → j < (turnF row).length → pick (turnF row) j ≠ pick (turnF row) (j - 1) ∧ (1 < j → decide (pick (turnF row) (j - 1) < pick (turnF row) j) ≠ decide (pick (turnF row) (j - 2) < pick (turnF row) (j - 1))) at ha
  generalize turnF row = F at *
  match F, h, ha with
  | a :: b :: r, _, ha =>
    refine ⟨a, b, r, rfl, ?_⟩
    have := (ha 1 (by omega) (by simp only [List.length_cons]; omega)).1
    simp [pick] at this
    omega
theorem stR_len : ∀ l : List Int, (stR l).length ≤ l.length
  | [] => by simp [stR]
  | a :: l => by
    have ih := stR_len l
    have key : ∀ L : List Int, (psh a L).length ≤ L.length + 1 := by
      intro L
      match L with
      | [] => simp [psh]
      | [b] => rw [psh_1]; split <;> simp
      | b :: c :: r =>
        rw [psh_2]
        split
        · simp
        · split <;> simp
    have := key (stR l)
    rw [stR_cons]
    simp only [List.length_cons]
    omega
theorem c_standing_of {row : List Int} (hl : row.length ≤ 10000) : R.call m_standing_of 1 [iL row] = .ok (iT (stR row)) := by
  refine call_ok ?_ rfl (by simp)
  have hfl := turnF_len row
  rw [← stR_turn row]
  have h2 := @turnF_two row
  unfold m_standing_of b_standing_of
  rw [runF_ev]
  simp (disch := first | omega | (simp; done) | (simp; omega)) [List.replicate, c_turning_of]
  generalize turnF row = F at *
  match F, hfl, h2 with
  | [], _, _ => simp [stR]
  | [a], _, _ => simp [stR, psh]
  | a :: b :: r, hfl, h2 =>
    obtain ⟨a', b', r', e', hab⟩ := h2 (by simp)
    obtain ⟨rfl, e''⟩ := List.cons.inj e'
    obtain ⟨rfl, rfl⟩ := List.cons.inj e''
    obtain ⟨hi, ehi, hi1, hi2⟩ := maxLD_ex (l := a :: b :: r) (by simp)
    obtain ⟨lo, elo, lo1, lo2⟩ := minLD_ex (l := a :: b :: r) (by simp)
    have hla := hi2 a (by simp)
    have hlb := hi2 b (by simp)
    have lla := lo2 a (by simp)
    have llb := lo2 b (by simp)
    have hne : lo ≠ hi := by omega
    have q1 : ¬ ((r.length : Int) + 1 + 1 < 2) := by omega
    have cl1 := c_last_time (l := a :: b :: r) (by omega) hi1
    have cl2 := c_last_time (l := a :: b :: r) (by omega) lo1
    have start : ∃ (up : Bool) (t0 : Int), decide (lastI lo (a :: b :: r) < lastI hi (a :: b :: r)) = up ∧ (t0 = if up = true then lo else hi) ∧ [t0] ++ apU up (stR (a :: b :: r)) = stR (a :: b :: r) := by
      by_cases q : lastI lo (a :: b :: r) < lastI hi (a :: b :: r)
      · refine ⟨true, lo, by simp [q], by simp, ?_⟩
        obtain ⟨A, B, e, hB⟩ := last_ex lo1
        rw [e] at q hi1 hi2 lo2 ⊢
        rw [lastI_app hB] at q
        have hhB : hi ∈ B := by
          obtain ⟨A', B', e', hB'⟩ := last_ex hi1
          have : lastI hi (A ++ lo :: B) = A'.length := by rw [e', lastI_app hB']
          rw [this] at q
          have e2 : (A ++ lo :: B).drop A'.length = hi :: B' := by rw [e']; simp
          rw [List.drop_append, List.drop_of_length_le (by omega), List.nil_append] at e2
          obtain ⟨k, hk⟩ : ∃ k, A'.length - A.length = k + 1 := ⟨A'.length - A.length - 1, by omega⟩
          rw [hk, List.drop_succ_cons] at e2
          exact List.mem_of_mem_drop (i := k) (by rw [e2]; simp)
        exact (st_first (up := true) (lo := lo) (hi := hi) (fun x hx => ⟨by rw [Bool.not_true, Lim_f]; exact lo2 x (by simp [hx]), fun e => hB (e ▸ hx)⟩) hhB (fun x hx => ⟨by rw [Lim_t]; exact hi2 x (by simp [hx]), by rw [Bool.not_true, Lim_f]; exact lo2 x (by simp [hx])⟩)).symm
      · refine ⟨false, hi, by simp [q], by simp, ?_⟩
        obtain ⟨A, B, e, hB⟩ := last_ex hi1
        rw [e] at q lo1 hi2 lo2 ⊢
        rw [lastI_app hB] at q
        have hhB : lo ∈ B := by
          obtain ⟨A', B', e', hB'⟩ := last_ex lo1
          have hl' : lastI lo (A ++ hi :: B) = A'.length := by rw [e', lastI_app hB']
          rw [hl'] at q
          have e2 : (A ++ hi :: B).drop A'.length = lo :: B' := by rw [e']; simp
          rw [List.drop_append, List.drop_of_length_le (by omega), List.nil_append] at e2
          cases hk : A'.length - A.length with
          | zero =>
            rw [hk, List.drop_zero] at e2
            exact absurd (List.cons.inj e2).1.symm hne
          | succ k =>
            rw [hk, List.drop_succ_cons] at e2
            exact List.mem_of_mem_drop (i := k) (by rw [e2]; simp)
        exact (st_first (up := false) (lo := hi) (hi := lo) (fun x hx => ⟨by rw [Bool.not_false, Lim_t]; exact hi2 x (by simp [hx]), fun e => hB (e ▸ hx)⟩) hhB (fun x hx => ⟨by rw [Lim_f]; exact lo2 x (by simp [hx]), by rw [Bool.not_false, Lim_t]; exact hi2 x (by simp [hx])⟩)).symm
    obtain ⟨up, t0, hup, ht0, hst⟩ := start
    have hup' : decide ((lastI lo (a :: b :: r) : Int) < (lastI hi (a :: b :: r) : Int)) = up := by rw [← hup]; simp
    have hlen : (a :: b :: r).length ≤ 10000 := by omega
    have hF2 : ¬ (((a :: b :: r).length : Int) < 2) := by simp only [List.length_cons]; omega
    generalize a :: b :: r = F at *
    have key : ∀ up : Bool, ∀ t0 : Int, [t0] ++ apU up (stR F) = stR F → ∀ W : Out, whW [0, 2, 3, 6] (bT (b2 gtD (bCall lenD (aCons (bVar 1) aNil)) (bC (.int 0)))) (sSeq (sAsg (eSP (pFlat (bCall minLD (aCons (bVar 1) aNil)))) (setC 6)) (sSeq (sIf (bT (bVar 4)) (sAsg (eSP (pFlat (bCall maxLD (aCons (bVar 1) aNil)))) (setC 6)) sNx) (sSeq (sApp 5 (eSP (pFlat (bVar 6)))) (sSeq (sAsg (eSP (pOfF (fSl (bVar 1) (oSome (b2 addD (bEr (pCall 2 m_last_time (aCons (bVar 1) (aCons (bVar 6) aNil)))) (bC (.int 1)))) oNone))) (setC 1)) (sAsg (eSP (pFlat (bNot (bVar 4)))) (setC 4)))))) 1000000 [.at (.dat (iL row)), .at (iT F), .at (.dat (.int hi)), .at (.dat (.int lo)), .at (.dat (.bl up)), .at (iT [t0]), .no] = W → ∃ (up' : Bool) (r' : List Int), W = .nx [.no, .at (iT r'), .no, .no, .at (.dat (.bl up')), .at (iT (stR F)), .no] := by
      intro up t0 hst W hW
      refine whW_k (fun s : List Int × List Int × Bool => [.no, .at (iT s.1), .no, .no, .at (.dat (.bl s.2.2)), .at (iT s.2.1), .no]) (fun s => s.2.1.length + s.1.length ≤ 10001 ∧ s.2.1 ++ apU s.2.2 (stR s.1) = stR F) (fun s => s.1.length) (F, [t0], up) hW ?_ ?_ ?_ ?_ ?_
      · rintro ⟨rest, told, u⟩ rfl ⟨i1, i2⟩ hc
        simp only at i1 i2
        cases rest with
        | nil =>
          rw [← i2]
          exact ⟨u, [], by simp [stR, apU]⟩
        | cons x rest =>
          have : (0 : Int) < rest.length + 1 := by omega
          simp [this] at hc
      · rintro ⟨rest, told, u⟩ ⟨i1, i2⟩
        simp only at i1 i2
        by_cases hr : rest = []
        · subst hr
          left
          simp
        · right
          have hr0 : (0 : Int) < rest.length := by
            have := List.length_pos_iff.mpr hr
            omega
          obtain ⟨mx, emx, mx1, mx2⟩ := maxLD_ex hr
          obtain ⟨mn, emn, mn1, mn2⟩ := minLD_ex hr
          refine ⟨by simp; omega, ?_⟩
          obtain ⟨m, hm, hm1, hm2⟩ : ∃ m, (if u = true then mx else mn) = m ∧ m ∈ rest ∧ ∀ y ∈ rest, Lim u m y := by
            cases u
            · exact ⟨mn, by simp, mn1, fun y hy => by rw [Lim_f]; exact mn2 y hy⟩
            · exact ⟨mx, by simp, mx1, fun y hy => by rw [Lim_t]; exact mx2 y hy⟩
          obtain ⟨C1, C2, e, hC⟩ := last_ex hm1
          have st := apU_step (up := u) (m := m) (C1 := C1) (C2 := C2) (fun x hx => hm2 x (by rw [e]; simp [hx])) (fun x hx => ⟨hm2 x (by rw [e]; simp [hx]), fun q => hC (q ▸ hx)⟩)
          rw [← e] at st
          have cl := c_last_time (l := rest) (by omega) hm1
          have hla : lastI m rest = C1.length := by rw [e, lastI_app hC]
          have hcut : cut rest (some ((lastI m rest : Int) + 1)) none = C2 := by
            rw [cut_from (by omega), hla, e, show ((C1.length : Int) + 1).toNat = C1.length + 1 by omega]
            simp [List.drop_append]
          have hle : rest.length = C1.length + C2.length + 1 := by rw [e]; simp; omega
          refine ⟨(C2, told ++ [m], !u), ?_, ⟨by simp; omega, ?_⟩, by simp only; omega⟩
          · cases u <;> simp only [if_true, if_false, Bool.false_eq_true] at hm <;> subst hm <;> simp (disch := first | omega | (simp; done) | (simp; omega)) [emx, emn, sApp_ev, appC_iT, cl, hcut, wpE_cons]
          · rw [← i2, st]
            simp
      · simp [wpE_cons]
      · exact ⟨by simp; omega, hst⟩
      · simp only
        omega
    cases up
    · simp only [decide_eq_false_iff_not] at hup
      simp only [Bool.false_eq_true, if_false] at ht0
      subst ht0
      simp (disch := first | omega | (simp; done) | (simp; omega)) [hF2, ehi, elo, cl1, cl2, hup]
      generalize hW : whW _ _ _ _ _ = W
      obtain ⟨u, r', rfl⟩ := key false t0 hst W hW
      simp
    · simp only [decide_eq_true_eq] at hup
      simp only [if_true] at ht0
      subst ht0
      simp (disch := first | omega | (simp; done) | (simp; omega)) [hF2, ehi, elo, cl1, cl2, hup]
      generalize hW : whW _ _ _ _ _ = W
      obtain ⟨u, r', rfl⟩ := key true t0 hst W hW
      simp
end Sm
/-! TyP: the shared part of K04Law, and where wheels end. -/
namespace Sm
open PySem L2
theorem c_law_all {ps ws : List Int} {a : Int} (hp : ∀ p ∈ ps, 0 ≤ p) (hl : ps.length ≤ 100000) : R.call m_law_all 3 [iL ps, iL ws, .int a] = .ok (iT (dragAll ps ws a)) := by
  refine call_ok ?_ rfl (by simp)
  unfold m_law_all b_law_all
  rw [runF_ev]
  simp [List.replicate]
  rw [forW_run pD (fun s : List Int × Int => [.no, .no, .no, .at (iT s.1), .at (.dat (.int s.2)), .no, .no]) (fun s x => (s.1 ++ [drag x.1 s.2 x.2], drag x.1 s.2 x.2)) (fun r s => s.1.length + r.length ≤ 100000 ∧ ∀ x ∈ r, 0 ≤ x.1) ([], a)]
  · simp [drag_fold]
  · rintro ⟨p, w⟩ r ⟨acc, a⟩ ⟨i, i2⟩
    simp only [List.length_cons] at i
    have h0 := i2 (p, w) List.mem_cons_self
    simp only at h0
    rw [turnW_ev]
    refine ⟨?_, by simp; omega, fun x hx => i2 x (List.mem_cons_of_mem _ hx)⟩
    by_cases q1 : w < a - p
    · have q2 : ¬ a + p < a - p := by omega
      have e : drag p a w = a - p := by unfold drag; omega
      simp (disch := first | omega | (simp; done) | (simp; omega)) [pD, iD, q1, q2, e, sApp_ev, appC_iT, wpE_cons]
    · by_cases q2 : a + p < w
      · have e : drag p a w = a + p := by unfold drag; omega
        simp (disch := first | omega | (simp; done) | (simp; omega)) [pD, iD, q1, q2, e, sApp_ev, appC_iT, wpE_cons]
      · have e : drag p a w = w := by unfold drag; omega
        simp (disch := first | omega | (simp; done) | (simp; omega)) [pD, iD, q1, q2, e, sApp_ev, appC_iT, wpE_cons]
  · simp [wpE_cons, lst_0]
  · refine ⟨by simp; omega, fun x hx => ?_⟩
    obtain ⟨p, w⟩ := x
    exact hp p (List.of_mem_zip hx).1
def O3.callU : O3 → Nat → (List D → R T) → O2
  | .ok ts ρ1, n, mf => (match O3.dats ts with
    | some ds => if ds.length = n then (match mf ds with | .ok τ => .ok τ ρ1 | .exc c => .exc c ρ1 | .bad => .bad) else .bad
    | none => .bad)
  | .exc c ρ1, _, _ => .exc c ρ1
  | .bad, _, _ => .bad
section
variable {ρ : Env}
@[simp] theorem eCallU_ev {n : Nat} {mf : List D → R T} {mr : Env → O3} : eCallU n mf mr ρ = (mr ρ).callU n mf := by
  unfold eCallU O3.callU
  cases mr ρ <;> rfl
@[simp] theorem callU_3 {a b c : D} {mf : List D → R T} : (O3.ok [.dat a, .dat b, .dat c] ρ).callU 3 mf = (mf [a, b, c]).toE ρ := by
  show (if [a, b, c].length = 3 then (match mf [a, b, c] with | .ok τ => O2.ok τ ρ | .exc c => .exc c ρ | .bad => .bad) else .bad) = _
  rw [if_pos (show [a, b, c].length = 3 from rfl)]
  unfold R.toE
  cases mf [a, b, c] <;> rfl
end
/-! rows cut and filled -/
def endS (ps ws l : List Int) : List Int := l.foldl (fun w a => dragAll ps w a) ws
theorem runs_app (ps : List Int) : ∀ (l r ws : List Int), runs ps ws (l ++ r) = runs ps ws l ++ runs ps (endS ps ws l) r
  | [], r, ws => rfl
  | a :: l, r, ws => by
    simp only [List.cons_append, runs, runs_app ps l r]
    rfl
theorem endS_snoc (ps ws l : List Int) (a : Int) : endS ps ws (l ++ [a]) = dragAll ps (endS ps ws l) a := by simp [endS]
theorem endS_len {ps : List Int} : ∀ {l ws : List Int}, ws.length = ps.length → (endS ps ws l).length = ps.length
  | [], ws, h => h
  | a :: l, ws, h => endS_len (l := l) (by rw [dragAll_len]; omega)
theorem runs_end (ps ws l : List Int) (a : Int) : (runs ps ws (l ++ [a])).getD l.length [] = endS ps ws (l ++ [a]) := by
  rw [runs_app, endS_snoc, List.getD_eq_getElem?_getD, List.getElem?_append_right (by simp)]
  simp [runs]
theorem atI_get {α : Type} {xs : List α} {k : Int} (h0 : 0 ≤ k) (h : k < xs.length) : atI xs k = some (xs[k.toNat]'(by omega)) := by
  rw [atI_nat' h0, List.getElem?_eq_getElem]
def pickL (xss : List (List Int)) (k : Int) : List Int := xss.getD k.toNat []
theorem ixD_iLL {xss : List (List Int)} {k : Int} (h0 : 0 ≤ k) (h : k < xss.length) : ixD (iLL xss) (.int k) = .ok (iL (pickL xss k)) := by
  have hk : k.toNat < xss.length := by omega
  unfold iLL pickL
  rw [ixD_lst h0 (by simpa using h), List.getD_eq_getElem?_getD, List.getElem?_map, List.getElem?_eq_getElem hk, List.getD_eq_getElem?_getD, List.getElem?_eq_getElem hk]
  rfl
theorem ixD_iLLn {xss : List (List Int)} {l : List Int} : ixD (iLL (xss ++ [l])) (.int (-1)) = .ok (iL l) := by
  unfold iLL
  show (match (D.lst ((xss ++ [l]).map iL)).items with
      | some ys => (match atI ys (-1) with
        | some d => R.ok d
        | none => R.bad)
      | none => .bad) = _
  have := atI_neg (xs := (xss ++ [l]).map iL) (k := -1) (by omega) (by simp; omega)
  simp only [D.items, this, List.length_map, List.length_append, List.length_cons, List.length_nil]
  rw [show (-1 + ((xss.length + (0 + 1) : Nat) : Int)).toNat = xss.length by omega]
  simp
theorem cat_LL {xs ys : List (List Int)} (h : xs.length + ys.length ≤ 1000000) : addD (iLL xs) (iLL ys) = .ok (iLL (xs ++ ys)) := by
  unfold addD iLL
  simp only [List.length_map]
  rw [if_pos (le_sz h), List.map_append]
/-- the first j lists have their place at the end -/
theorem runs_lens {ps : List Int} : ∀ {r ws l : List Int}, ws.length = ps.length → l ∈ runs ps ws r → l.length = ps.length
  | [], ws, l, _, h => by simp [runs] at h
  | a :: r, ws, l, hw, h => by
    have e : (dragAll ps ws a).length = ps.length := by rw [dragAll_len]; omega
    rcases List.mem_cons.mp h with q | q
    · rw [q, e]
    · exact runs_lens e q
theorem lc_lists {gm : T → Env → R Env} {mt : Env → R Bool} {me : Env → R T} {ρ : Env} {α : Type} (enc : α → T) (f : α → List Int) {xs : List α} (h : ∀ x ∈ xs, lcOne gm mt me (enc x) ρ = .ok (some (.dat (iL (f x))))) (hl : xs.length ≤ 1000000) : lcGo gm mt me ρ [] (mE enc xs) = .ok (iTF (xs.map f)) := by
  rw [lc_go enc (fun x => some (.dat (iL (f x)))) h (by simpa using hl), List.nil_append]
  unfold iTF
  rw [List.map_map]
  congr 2
  simp [Function.comp_def]
  intro a _
  rfl
theorem lc_listsT {gm : T → Env → R Env} {mt : Env → R Bool} {me : Env → R T} {ρ : Env} {α : Type} (enc : α → T) (f : α → List Int) {xs : List α} (h : ∀ x ∈ xs, lcOne gm mt me (enc x) ρ = .ok (some (iT (f x)))) (hl : xs.length ≤ 1000000) : lcGo gm mt me ρ [] (mE enc xs) = .ok (iTT (xs.map f)) := by
  rw [lc_go enc (fun x => some (iT (f x))) h (by simpa using hl), List.nil_append]
  unfold iTT
  rw [List.map_map]
  congr 2
  simp [Function.comp_def]
theorem lc_none {gm : T → Env → R Env} {mt : Env → R Bool} {me : Env → R T} {ρ : Env} {α : Type} (enc : α → T) {xs : List α} (h : ∀ x ∈ xs, lcOne gm mt me (enc x) ρ = .ok none) (hl : xs.length ≤ 1000000) : lcGo gm mt me ρ [] (mE enc xs) = .ok (.lst []) := by
  rw [lc_go enc (fun _ => none) h (by simpa using hl), List.nil_append]
  congr 2
  induction xs with
  | nil => rfl
  | cons x r ih => simp [List.filterMap_cons]
theorem endS_pick {ps : List Int} (ht : trainB ps = true) : ∀ {l ws : List Int} {h k : Int}, standB ps h ws = true → 0 ≤ k → k < ps.length → pick (endS ps ws l) k = stW (pick (deps 0 ps) k) (pick ws k) l
  | [], ws, h, k, _, _, _ => rfl
  | a :: l, ws, h, k, hs, h0, h1 => by
    have hp := (trainB_iff.mp ht).2
    have hl := (standB_iff.mp hs).1
    show pick (endS ps (dragAll ps ws a) l) k = stW _ (drag _ a (pick ws k)) l
    rw [endS_pick ht (dragAll_stB hl hp) h0 h1, drag_pick ht hs h0 h1]
theorem pick_ext {l r : List Int} (hl : l.length = r.length) (h : ∀ k : Int, 0 ≤ k → k < l.length → pick l k = pick r k) : l = r := by
  refine List.ext_getElem hl fun i h1 h2 => ?_
  have := h i (by omega) (by omega)
  unfold pick at this
  simpa [List.getElem?_eq_getElem, h1, h2] using this
theorem deps_ge' : ∀ {l : List Int} {t : Int} {j : Nat}, 0 ≤ t → (∀ p ∈ l, 0 ≤ p) → 0 ≤ (deps t l).getD j 0
  | [], t, j, _, _ => by simp [deps]
  | p :: r, t, 0, h, hp => by
    have := hp p List.mem_cons_self
    simp [deps]
    omega
  | p :: r, t, j + 1, h, hp => by
    have h0 := hp p List.mem_cons_self
    have := deps_ge' (l := r) (t := t + p) (j := j) (by omega) fun q hq => hp q (List.mem_cons_of_mem _ hq)
    simpa [deps] using this
/-- rows whose ends are one for each wheel -/
theorem endS_alike {ps ws l r : List Int} {h : Int} (ht : trainB ps = true) (hs : standB ps h ws = true) (hh : ∀ D w : Int, 0 ≤ D → stW D w l = stW D w r) : endS ps ws l = endS ps ws r := by
  have hw := (standB_iff.mp hs).1
  refine pick_ext (by rw [endS_len hw, endS_len hw]) fun k h0 h1 => ?_
  rw [endS_len hw] at h1
  rw [endS_pick ht hs h0 h1, endS_pick ht hs h0 h1, hh]
  exact deps_ge' (by omega) (trainB_iff.mp ht).2
theorem runs_last {ps : List Int} : ∀ {l ws : List Int}, l ≠ [] → ∃ xss, runs ps ws l = xss ++ [endS ps ws l]
  | [], ws, h => absurd rfl h
  | [a], ws, _ => ⟨[], rfl⟩
  | a :: b :: l, ws, _ => by
    obtain ⟨xss, e⟩ := runs_last (ps := ps) (l := b :: l) (ws := dragAll ps ws a) (by simp)
    exact ⟨dragAll ps ws a :: xss, by
      show dragAll ps ws a :: runs ps (dragAll ps ws a) (b :: l) = _
      rw [e]
      rfl⟩
end Sm
/-! TyQ: errands and papers told. -/
namespace Sm
open PySem L2
def dP (ps : List Int) (j : Int) : Int := if j = -1 then 0 else pick (deps 0 ps) j
def wP (h : Int) (ws : List Int) (j : Int) : Int := if j = -1 then h else pick ws j
theorem deps_last' : ∀ {l : List Int} {t : Int} {j : Nat}, j < l.length → (deps t l).getD j 0 = (if j = 0 then t else (deps t l).getD (j - 1) 0) + l.getD j 0
  | [], t, j, h => by simp at h
  | a :: l, t, 0, h => by simp [deps]
  | [a], t, j + 1, h => by simp at h
  | a :: b :: l, t, 1, h => by simp [deps]
  | a :: b :: l, t, j + 2, h => by
    have := deps_last' (l := b :: l) (t := t + a) (j := j + 1) (by simpa using h)
    simpa [deps] using this
theorem goS_pick : ∀ {ps ws : List Int} {h : Int} {k : Nat}, goS (ps.zip ws) h = true → k < ps.length → k < ws.length → ws.getD k 0 - (if k = 0 then h else ws.getD (k - 1) 0) ≤ ps.getD k 0 ∧ (if k = 0 then h else ws.getD (k - 1) 0) - ws.getD k 0 ≤ ps.getD k 0
  | p :: ps, w :: ws, h, 0, hg, _, _ => by
    simp only [List.zip_cons_cons, goS, Bool.and_eq_true, decide_eq_true_eq] at hg
    simp
    omega
  | p :: ps, w :: ws, h, k + 1, hg, h1, h2 => by
    simp only [List.zip_cons_cons, goS, Bool.and_eq_true, decide_eq_true_eq] at hg
    have := goS_pick (k := k) hg.2 (by simpa using h1) (by simpa using h2)
    cases k with
    | zero => simpa using this
    | succ k => simpa using this
theorem geo_of {ps ws : List Int} {h : Int} (ht : trainB ps = true) (hs : standB ps h ws = true) : Geo (dP ps) (wP h ws) ps.length := by
  obtain ⟨hl, hg⟩ := standB_iff.mp hs
  have one : ∀ j : Int, 0 ≤ j → j < ps.length → wP h ws j - wP h ws (j - 1) ≤ dP ps j - dP ps (j - 1) ∧ wP h ws (j - 1) - wP h ws j ≤ dP ps j - dP ps (j - 1) := by
    intro j h0 h1
    have a := goS_pick (k := j.toNat) hg (by omega) (by omega)
    have b := deps_last' (l := ps) (t := 0) (j := j.toNat) (by omega)
    have q1 : ¬ j = -1 := by omega
    unfold wP dP pick
    simp only [if_neg q1]
    by_cases q : j = 0
    · subst q
      simp at a b ⊢
      omega
    · have q2 : ¬ j - 1 = -1 := by omega
      have q3 : ¬ j.toNat = 0 := by omega
      simp only [if_neg q2]
      simp only [if_neg q3] at a b
      rw [show (j - 1).toNat = j.toNat - 1 by omega]
      omega
  refine ⟨by simp [dP], ?_⟩
  have key : ∀ (m : Nat) (i : Int), -1 ≤ i → i + m < ps.length → wP h ws (i + m) - wP h ws i ≤ dP ps (i + m) - dP ps i ∧ wP h ws i - wP h ws (i + m) ≤ dP ps (i + m) - dP ps i := by
    intro m
    induction m with
    | zero => intro i _ _; simp
    | succ m ih =>
      intro i h1 h2
      have a := ih i h1 (by omega)
      have b := one (i + (m + 1 : Nat)) (by omega) h2
      rw [show i + ((m + 1 : Nat) : Int) - 1 = i + m by omega] at b
      omega
  intro i j h1 h2 h3
  have := key (j - i).toNat i h1 (by omega)
  rwa [show i + ((j - i).toNat : Int) = j by omega] at this
theorem c_wanted {h : Int} {ws : List Int} {w : Int} (h1 : -1 ≤ w) (h2 : w < ws.length) : R.call m_wanted 3 [.int h, iL ws, .int w] = .ok (.dat (.int (wP h ws w))) := by
  refine call_ok ?_ rfl rfl
  unfold m_wanted b_wanted wP
  rw [runF_ev]
  by_cases q : w = -1
  · simp [List.replicate, q]
  · simp (disch := first | omega | (simp; done) | (simp; omega)) [List.replicate, q, ixD_p]
theorem c_depth_at {ps : List Int} {w : Int} (ht : trainB ps = true) (h1 : -1 ≤ w) (h2 : w < ps.length) : R.call m_depth_at 2 [iL ps, .int w] = .ok (.dat (.int (dP ps w))) := by
  refine call_ok ?_ rfl rfl
  unfold m_depth_at b_depth_at dP
  rw [runF_ev]
  by_cases q : w = -1
  · simp [List.replicate, q]
  · simp (disch := first | omega | (simp; done) | (simp; omega)) [List.replicate, q, ixD_p, c_depths_ok ht]
/-- a must as a datum -/
def mD (m : Int × Int) : D := .tup [.int m.1, .int m.2]
theorem ixD_m0 (m : Int × Int) : ixD (mD m) (.int 0) = .ok (.int m.1) := by rfl
theorem ixD_mo (m : Int × Int) : ixD (mD m) (.int 1) = .ok (.int m.2) := by rfl
theorem c_must_place {ps g : List Int} {e : Int} {m : Int × Int} (ht : trainB ps = true) (hg : g.length = ps.length) (hs : m.2 = 1 ∨ m.2 = -1) (h1 : -1 ≤ m.1) (h2 : m.1 < ps.length) : R.call m_must_place 4 [iL ps, .int e, iL g, mD m] = .ok (.dat (.int (mpl (dP ps) (wP e g) m))) := by
  refine call_ok ?_ rfl rfl
  unfold m_must_place b_must_place mpl
  rw [runF_ev]
  simp (disch := first | omega | (simp; done) | (simp; omega)) [List.replicate, ixD_m0, ixD_mo, c_wanted, c_depth_at ht, mulD_ii]
theorem c_is_next {ps g : List Int} {e : Int} {a m : Int × Int} (ht : trainB ps = true) (hg : g.length = ps.length) (hs : a.2 = 1 ∨ a.2 = -1) (h1 : -1 ≤ m.1) (h2 : m.1 < ps.length) (h3 : -1 ≤ a.1) (h4 : a.1 < ps.length) : R.call m_is_next 5 [iL ps, .int e, iL g, mD a, mD m] = .ok (.dat (.bl (nxB (dP ps) (wP e g) a m))) := by
  refine call_ok ?_ rfl rfl
  unfold m_is_next b_is_next nxB
  rw [runF_ev]
  by_cases q : m.2 = -a.2
  · simp (disch := first | omega | (simp; done) | (simp; omega)) [List.replicate, ixD_m0, ixD_mo, c_wanted, c_depth_at ht, c_must_place ht hg hs, mulD_ii, q]
  · simp (disch := first | omega | (simp; done) | (simp; omega)) [List.replicate, ixD_m0, ixD_mo, q]
def sideI (a b : Int) : Int := if a < b then 1 else if b < a then -1 else 0
theorem c_side_of (a b : Int) : R.call m_side_of 2 [.int a, .int b] = .ok (.dat (.int (sideI a b))) := by
  refine call_ok ?_ rfl rfl
  unfold m_side_of b_side_of sideI
  rw [runF_ev]
  simp (disch := first | omega | (simp; done) | (simp; omega)) [List.replicate]
  by_cases q : a < b
  · simp [q]; omega
  · by_cases q' : b < a
    · simp [q, q']
    · simp [q, q']
/-- what the first must is -/
inductive FM (h : Int) (ws : List Int) (e : Int) (g : List Int) : Option (Int × Int) → Prop
  | no : (∀ j : Int, -1 ≤ j → j < ws.length → wP h ws j = wP e g j) → FM h ws e g none
  | so {w s : Int} : -1 ≤ w → w < ws.length → (s = 1 ∨ s = -1) → 0 < s * (wP e g w - wP h ws w) → (∀ j : Int, w < j → j < ws.length → wP h ws j = wP e g j) → FM h ws e g (some (w, s))
def fmT : Option (Int × Int) → T
  | none => .dat .non
  | some m => .tup [iD m.1, iD m.2]
def stopF (ws g : List Int) (_ : Unit) (j : Int) : Option T := if pick ws j = pick g j then none else some (.tup [iD j, iD (sideI (pick ws j) (pick g j))])
theorem scan_first (ws g : List Int) : ∀ k : Nat, (∃ w : Int, 0 ≤ w ∧ w < k ∧ pick ws w ≠ pick g w ∧ (∀ j : Int, w < j → j < k → pick ws j = pick g j) ∧ scan (stopF ws g) (fun _ _ => ()) (rgI ((k : Int) - 1) (-1) k) () = .inl (.tup [iD w, iD (sideI (pick ws w) (pick g w))])) ∨ ((∀ j : Int, 0 ≤ j → j < k → pick ws j = pick g j) ∧ scan (stopF ws g) (fun _ _ => ()) (rgI ((k : Int) - 1) (-1) k) () = .inr ())
  | 0 => .inr ⟨by omega, rfl⟩
  | k + 1 => by
    rw [rgI_succ, show (((k + 1 : Nat) : Int) - 1) = k by omega, show (k : Int) + -1 = k - 1 by omega]
    by_cases q : pick ws k = pick g k
    · have e : scan (stopF ws g) (fun _ _ => ()) ((k : Int) :: rgI ((k : Int) - 1) (-1) k) () = scan (stopF ws g) (fun _ _ => ()) (rgI ((k : Int) - 1) (-1) k) () := by
        simp only [scan, stopF, q, if_true]
      rw [e]
      rcases scan_first ws g k with ⟨w, h1, h2, h3, h4, h5⟩ | ⟨h1, h2⟩
      · refine .inl ⟨w, h1, by omega, h3, fun j j1 j2 => ?_, h5⟩
        by_cases e : j = k
        · rw [e]; exact q
        · exact h4 j j1 (by omega)
      · refine .inr ⟨fun j j1 j2 => ?_, h2⟩
        by_cases e : j = k
        · rw [e]; exact q
        · exact h1 j j1 (by omega)
    · refine .inl ⟨k, by omega, by omega, q, by omega, ?_⟩
      simp only [scan, stopF, q, if_false]
theorem side_pos {a b : Int} (h : a ≠ b) : (sideI a b = 1 ∨ sideI a b = -1) ∧ 0 < sideI a b * (b - a) := by
  unfold sideI
  by_cases q : a < b
  · rw [if_pos q]; omega
  · rw [if_neg q, if_pos (by omega)]; omega
theorem c_first_must {h e : Int} {ws g : List Int} (hg : g.length = ws.length) (hl : ws.length ≤ 1000) : ∃ m, FM h ws e g m ∧ R.call m_first_must 4 [.int h, iL ws, .int e, iL g] = .ok (fmT m) := by
  have hn := scan_first ws g ws.length
  suffices q : ∃ m, FM h ws e g m ∧ m_first_must [.int h, iL ws, .int e, iL g] = .ok (fmT m) by
    obtain ⟨m, h1, h2⟩ := q
    exact ⟨m, h1, call_ok h2 rfl (by cases m <;> rfl)⟩
  unfold m_first_must b_first_must
  rw [runF_ev]
  simp (disch := first | omega | (simp; done) | (simp; omega)) [List.replicate, r3_ok]
  rw [forW_scan iD (fun _ : Unit => [.at (.dat (.int h)), .at (.dat (iL ws)), .at (.dat (.int e)), .at (.dat (iL g)), .no]) (stopF ws g) (fun _ _ => ()) (fun r _ => ∀ j ∈ r, 0 ≤ j ∧ j < ws.length) ()]
  · rcases hn with ⟨w, h1, h2, h3, h4, h5⟩ | ⟨h1, h2⟩
    · have := side_pos h3
      refine ⟨some (w, sideI (pick ws w) (pick g w)), .so (by omega) h2 this.1 ?_ ?_, ?_⟩
      · unfold wP; rw [if_neg (by omega), if_neg (by omega)]; exact this.2
      · intro j j1 j2
        unfold wP; rw [if_neg (by omega), if_neg (by omega)]; exact h4 j j1 j2
      · rw [h5]; simp [outS, fmT]
    · rw [h2]
      by_cases q : h = e
      · refine ⟨none, .no ?_, by simp [outS, fmT, q]⟩
        intro j j1 j2
        unfold wP
        by_cases q2 : j = -1
        · simp [q2, q]
        · rw [if_neg q2, if_neg q2]; exact h1 j (by omega) j2
      · have := side_pos q
        refine ⟨some (-1, sideI h e), .so (by omega) (by omega) this.1 (by simpa [wP] using this.2) ?_, by simp [outS, fmT, q, c_side_of, iD]⟩
        intro j j1 j2
        unfold wP; rw [if_neg (by omega), if_neg (by omega)]; exact h1 j (by omega) j2
  · intro j r _ hi
    have := hi j List.mem_cons_self
    refine ⟨?_, fun _ x hx => hi x (List.mem_cons_of_mem _ hx)⟩
    rw [turnO_ev]
    unfold stopF
    by_cases q : pick ws j = pick g j
    · simp (disch := first | omega | (simp; done) | (simp; omega)) [iD, ixD_p, q, wpE_cons]
    · simp (disch := first | omega | (simp; done) | (simp; omega)) [iD, ixD_p, q, c_side_of]
  · simp [wpE_cons]
  · intro j hj
    unfold rgI at hj
    simp at hj
    omega
end Sm
/-! TyR: the told paper, its places, its weight. -/
namespace Sm
open PySem L2
def mdT (m : Int × Int) : T := .dat (mD m)
def mLL (ms : List (Int × Int)) : D := .lst (ms.map mD)
def papT : List (Int × Int) → T
  | [] => .lst []
  | m :: L => .lst (mdT m :: L.map pD)
theorem pD_er (m : Int × Int) : (pD m).er = mD m := rfl
@[simp] theorem papT_er : ∀ ms : List (Int × Int), (papT ms).er = mLL ms
  | [] => rfl
  | m :: L => by
    show (T.lst (mdT m :: L.map pD)).er = _
    rw [er_lc, T.ers_map]
    unfold mLL
    rw [List.map_cons, List.map_map]
    rfl
theorem il_mus {ρ : Env} {t : T} {ms : List (Int × Int)} (h : t.er = mLL ms) : (O2.ok t ρ).il = .ok (mE mdT ms) ρ := by
  rw [il_ok (ds := ms.map mD) (by rw [h]; rfl), List.map_map]
  rfl
@[simp] theorem il_pap {ρ : Env} {ms : List (Int × Int)} : (O2.ok (papT ms) ρ).il = .ok (mE mdT ms) ρ := il_mus (papT_er ms)
@[simp] theorem il_mLL {ρ : Env} {ms : List (Int × Int)} : (O2.ok (.dat (mLL ms)) ρ).il = .ok (mE mdT ms) ρ := il_mus rfl
section
variable {ρ : Env}
@[simp] theorem callU_1 {a : D} {mf : List D → R T} : (O3.ok [.dat a] ρ).callU 1 mf = (mf [a]).toE ρ := by
  show (if [a].length = 1 then (match mf [a] with | .ok τ => O2.ok τ ρ | .exc c => .exc c ρ | .bad => .bad) else .bad) = _
  rw [if_pos (show [a].length = 1 from rfl)]
  unfold R.toE
  cases mf [a] <;> rfl
@[simp] theorem callU_4 {a b c d : D} {mf : List D → R T} : (O3.ok [.dat a, .dat b, .dat c, .dat d] ρ).callU 4 mf = (mf [a, b, c, d]).toE ρ := by
  show (if [a, b, c, d].length = 4 then (match mf [a, b, c, d] with | .ok τ => O2.ok τ ρ | .exc c => .exc c ρ | .bad => .bad) else .bad) = _
  rw [if_pos (show [a, b, c, d].length = 4 from rfl)]
  unfold R.toE
  cases mf [a, b, c, d] <;> rfl
@[simp] theorem callU_5 {a b c d e : D} {mf : List D → R T} : (O3.ok [.dat a, .dat b, .dat c, .dat d, .dat e] ρ).callU 5 mf = (mf [a, b, c, d, e]).toE ρ := by
  show (if [a, b, c, d, e].length = 5 then (match mf [a, b, c, d, e] with | .ok τ => O2.ok τ ρ | .exc c => .exc c ρ | .bad => .bad) else .bad) = _
  rw [if_pos (show [a, b, c, d, e].length = 5 from rfl)]
  unfold R.toE
  cases mf [a, b, c, d, e] <;> rfl
end
theorem ixD_mLLn {ms : List (Int × Int)} {a : Int × Int} : ixD (mLL (ms ++ [a])) (.int (-1)) = .ok (mD a) := by
  unfold mLL
  show (match (D.lst ((ms ++ [a]).map mD)).items with
      | some ys => (match atI ys (-1) with
        | some d => R.ok d
        | none => R.bad)
      | none => .bad) = _
  have := atI_neg (xs := (ms ++ [a]).map mD) (k := -1) (by omega) (by simp; omega)
  simp only [D.items, this, List.length_map, List.length_append, List.length_cons, List.length_nil]
  rw [show (-1 + ((ms.length + (0 + 1) : Nat) : Int)).toNat = ms.length by omega]
  simp
@[simp] theorem isND_n : isND .non .non = .ok (.bl true) := rfl
@[simp] theorem isND_t (ds : List D) : isND (.tup ds) .non = .ok (.bl false) := rfl
@[simp] theorem isND_m (m : Int × Int) : isND (mD m) .non = .ok (.bl false) := rfl
/-- the told paper -/
def papF (ps : List Int) (e : Int) (g : List Int) : Option (Int × Int) → List (Int × Int)
  | none => []
  | some m => (papR (dP ps) (wP e g) m.1 m.2).reverse
theorem appC_papT {ρ : Env} {i : Nat} {m : Int × Int} {x y : Int} {L : List (Int × Int)} (h : L.length ≤ 1000) : appC (some (.at (papT (m :: L)))) ρ i (.tup [.dat (.int x), .dat (.int y)]) = .nx (ρ.set i (.at (papT (m :: (L ++ [(x, y)]))))) := by
  refine (appC_lst (ts := mdT m :: L.map pD) (by simp; omega)).trans ?_
  show Out.nx (ρ.set i (.at (.lst (mdT m :: L.map pD ++ [pD (x, y)])))) = .nx (ρ.set i (.at (.lst (mdT m :: (L ++ [(x, y)]).map pD))))
  rw [List.map_append]
  rfl
@[simp] theorem isL_papT {ms : List (Int × Int)} : isL (some (.at (papT ms))) = true := by cases ms <;> rfl
theorem e_paper_of {ps ws g : List Int} {h e : Int} (ht : trainB ps = true) (hs : standB ps h ws = true) (hs2 : standB ps e g = true) : ∃ m, FM h ws e g m ∧ m_paper_of [iL ps, .int h, iL ws, .int e, iL g] = .ok (papT (papF ps e g m)) := by
  have hl := (standB_iff.mp hs).1
  have hl2 := (standB_iff.mp hs2).1
  have h12 := (trainB_iff.mp ht).1
  obtain ⟨m, hm, em⟩ := c_first_must (h := h) (e := e) (ws := ws) (g := g) (by omega) (by omega)
  refine ⟨m, hm, ?_⟩
  unfold m_paper_of b_paper_of
  rw [runF_ev]
  cases hm with
  | no hq => simp [List.replicate, c_need_ok ht hs, c_need_ok ht hs2, em, fmT, papF, papT]
  | so w1 w2 w3 w4 w5 =>
    rename_i w s
    have G2 := geo_of ht hs2
    have G1 := geo_of ht hs
    have tf := tld_first G2 G1 w1 (by omega) w3 w4 (fun j j1 j2 => w5 j j1 (by omega))
    simp (disch := first | omega | (simp; done) | (simp; omega)) [List.replicate, c_need_ok ht hs, c_need_ok ht hs2, em, fmT, r3_ok]
    rw [show w - 1 + 2 = w + 1 by omega]
    generalize hF : forW _ _ _ _ _ = F
    refine forW_k iD (fun L : List (Int × Int) => [.at (.dat (iL ps)), .no, .no, .at (.dat (.int e)), .at (.dat (iL g)), .no, .at (papT ((w, s) :: L)), .no, .no]) (fun r L => ∃ (k : Int) (a : Int × Int) (q : List (Int × Int)), -2 ≤ k ∧ r = rgI k (-1) (k + 2).toNat ∧ (w, s) :: L = (a :: q).reverse ∧ Tld (dP ps) (wP e g) (wP h ws) ps.length (k + 1) a q ∧ L.length + r.length ≤ 20 ∧ r.foldl (stp (dP ps) (wP e g)) (a :: q) = papR (dP ps) (wP e g) w s) [] hF ?_ ?_ ?_ ?_
    · rintro L rfl ⟨k, a, q, k0, i1, i2, i3, i4, i5⟩
      simp only [List.foldl_nil] at i5
      simp [papF, ← i5, i2]
    · rintro j r L ⟨k, a, q, k0, i1, i2, i3, i4, i5⟩
      have hk : -1 ≤ k := by
        by_cases z : k = -2
        · rw [z] at i1
          cases i1
        · omega
      rw [show (k + 2).toNat = (k + 1).toNat + 1 by omega, rgI_succ] at i1
      obtain ⟨rfl, rfl⟩ := List.cons.inj i1
      obtain ⟨m1, m2, m3⟩ := i3.must
      have hle := i3.le
      obtain ⟨a', q', e1, t1, l1⟩ := tld_step G2 i3 hk
      simp only [List.length_cons, rgI_len] at i4
      rw [List.foldl_cons, e1] at i5
      have nx := c_is_next (e := e) (a := a) (m := (j, -a.2)) ht hl2 m3 hk (by simp only; omega) m1 m2
      change R.call m_is_next 5 [iL ps, .int e, iL g, mD a, .tup [.int j, .int (-a.2)]] = _ at nx
      have ix := ixD_mLLn (ms := q.reverse) (a := a)
      rw [← List.reverse_cons, ← i2] at ix
      by_cases z : nxB (dP ps) (wP e g) a (j, -a.2) = true
      · simp only [stp, z, if_true] at e1
        obtain ⟨rfl, rfl⟩ := List.cons.inj e1
        refine ⟨L ++ [(j, -a.2)], ?_, j - 1, (j, -a.2), a :: q, by omega, by rw [show j - 1 + 2 = j + 1 by omega, show j + -1 = j - 1 by omega], ?_, ?_, by simp; omega, i5⟩
        · rw [turnW_ev]
          simp (disch := first | omega | (simp; done) | (simp; omega)) [iD, ix, ixD_mo, z, sApp_ev, wpE_cons, nx, appC_papT]
        · rw [List.reverse_cons, ← i2]
          rfl
        · rw [show j - 1 + 1 = j by omega]
          exact t1
      · simp only [stp] at e1
        rw [if_neg z] at e1
        obtain ⟨rfl, rfl⟩ := List.cons.inj e1
        refine ⟨L, ?_, j - 1, a, q, by omega, by rw [show j - 1 + 2 = j + 1 by omega, show j + -1 = j - 1 by omega], i2, ?_, by simp; omega, i5⟩
        · rw [turnW_ev]
          simp (disch := first | omega | (simp; done) | (simp; omega)) [iD, ix, ixD_mo, z, sApp_ev, wpE_cons, nx, appC_papT]
        · rw [show j - 1 + 1 = j by omega]
          exact t1
    · simp [wpE_cons]
      rfl
    · refine ⟨w - 1, (w, s), [], by omega, by rw [show w - 1 + 2 = w + 1 by omega], rfl, ?_, by simp; omega, rfl⟩
      rw [show w - 1 + 1 = w by omega]
      exact tf
end Sm
/-! TyS: errands whole. -/
namespace Sm
open PySem L2
def plc (ps : List Int) (e : Int) (g : List Int) (ms : List (Int × Int)) : List Int := ms.map (mpl (dP ps) (wP e g))
@[simp] theorem plc_len (ps : List Int) (e : Int) (g : List Int) (ms : List (Int × Int)) : (plc ps e g ms).length = ms.length := by simp [plc]
structure Err (ps : List Int) (h : Int) (ws : List Int) (e : Int) (g : List Int) (ms : List (Int × Int)) : Prop where
  pe : m_paper_of [iL ps, .int h, iL ws, .int e, iL g] = .ok (papT ms)
  pap : Pap (dP ps) (wP e g) (wP h ws) ps.length ms.reverse
  len : ms.length ≤ 20
  lead : ∀ j : Int, -1 ≤ j → j < ps.length → stW (dP ps j) (wP h ws j) (plc ps e g ms) = wP e g j
theorem pap_must {d g X : Int → Int} {n : Int} : ∀ {T : List (Int × Int)}, Pap d g X n T → ∀ m ∈ T, Mst n m
  | [], _, m, hm => by simp at hm
  | [a], h, m, hm => by
    simp at hm
    rw [hm]
    exact h.1
  | a :: b :: T, h, m, hm => by
    rcases List.mem_cons.mp hm with rfl | hm
    · exact h.1
    · exact pap_must h.2.2 m hm
theorem err_ex {ps ws g : List Int} {h e : Int} (ht : trainB ps = true) (hs : standB ps h ws = true) (hs2 : standB ps e g = true) : ∃ ms, Err ps h ws e g ms := by
  obtain ⟨m, hm, em⟩ := e_paper_of ht hs hs2
  have hl := (standB_iff.mp hs).1
  have h12 := (trainB_iff.mp ht).1
  refine ⟨papF ps e g m, ?_⟩
  cases hm with
  | no hq =>
    refine ⟨em, trivial, by simp [papF], fun j j1 j2 => ?_⟩
    exact hq j j1 (by omega)
  | so w1 w2 w3 w4 w5 =>
    rename_i w s
    obtain ⟨t1, t2, t3, t4⟩ := told_leads (geo_of ht hs2) (geo_of ht hs) w1 (by omega) w3 w4 (fun j j1 j2 => w5 j j1 (by omega))
    refine ⟨em, by simpa [papF] using t1, by simp [papF]; omega, fun j j1 j2 => ?_⟩
    have := t4 j j1 j2
    unfold plR at this
    rw [← List.map_reverse] at this
    exact this
theorem Err.must {ps ws g : List Int} {h e : Int} {ms : List (Int × Int)} (E : Err ps h ws e g ms) : ∀ m ∈ ms, Mst ps.length m := fun m hm => pap_must E.pap m (by simpa using hm)
theorem stW_last : ∀ (l : List Int) (h : Int), ∃ q, h :: l = q ++ [stW 0 h l]
  | [], h => ⟨[], rfl⟩
  | a :: l, h => by
    obtain ⟨q, e⟩ := stW_last l a
    refine ⟨h :: q, ?_⟩
    show h :: a :: l = h :: (q ++ [stW 0 (drag 0 a h) l])
    rw [show drag 0 a h = a by unfold drag; omega, ← e]
theorem Err.last {ps ws g : List Int} {h e : Int} {ms : List (Int × Int)} (ht : trainB ps = true) (E : Err ps h ws e g ms) : ∃ q, h :: plc ps e g ms = q ++ [e] := by
  have h12 := (trainB_iff.mp ht).1
  have := E.lead (-1) (by omega) (by omega)
  simp [dP, wP] at this
  obtain ⟨q, eq⟩ := stW_last (plc ps e g ms) h
  exact ⟨q, by rw [eq, this]⟩
theorem Err.ends {ps ws g : List Int} {h e : Int} {ms : List (Int × Int)} (ht : trainB ps = true) (hs : standB ps h ws = true) (hs2 : standB ps e g = true) (E : Err ps h ws e g ms) : endS ps ws (plc ps e g ms) = g := by
  have hw := (standB_iff.mp hs).1
  have hg := (standB_iff.mp hs2).1
  refine pick_ext (by rw [endS_len hw, hg]) fun k h0 h1 => ?_
  rw [endS_len hw] at h1
  rw [endS_pick ht hs h0 h1]
  have := E.lead k (by omega) h1
  unfold dP wP at this
  rw [if_neg (by omega), if_neg (by omega), if_neg (by omega)] at this
  exact this
theorem c_least_row {ps ws g : List Int} {h e : Int} {ms : List (Int × Int)} (ht : trainB ps = true) (hs2 : standB ps e g = true) (E : Err ps h ws e g ms) : R.call m_least_row 5 [iL ps, .int h, iL ws, .int e, iL g] = .ok (iT (plc ps e g ms)) := by
  refine call_ok ?_ rfl (by simp)
  have hg := (standB_iff.mp hs2).1
  have hle := E.len
  unfold m_least_row b_least_row
  rw [runF_ev]
  simp (disch := first | omega | (simp; done) | (simp; omega)) [List.replicate, E.pe]
  rw [lc_mapI mdT (mpl (dP ps) (wP e g))]
  · simp [plc]
  · intro m hm
    obtain ⟨m1, m2, m3⟩ := E.must m hm
    rw [lcOne_ev]
    simp (disch := first | omega | (simp; done) | (simp; omega)) [mdT, c_must_place ht hg m3 m1 m2]
  · omega
theorem c_least_of {ps ws g : List Int} {h e : Int} {ms : List (Int × Int)} (ht : trainB ps = true) (hs2 : standB ps e g = true) (E : Err ps h ws e g ms) : R.call m_least_of 5 [iL ps, .int h, iL ws, .int e, iL g] = .ok (.dat (.int (way (h :: plc ps e g ms)))) := by
  refine call_ok ?_ rfl rfl
  have hle := E.len
  unfold m_least_of b_least_of
  rw [runF_ev]
  simp (disch := first | omega | (simp; done) | (simp; omega)) [List.replicate, c_least_row ht hs2 E, cat_add, c_way_of]
/-- no row that leads there has a lesser way -/
theorem Err.low {ps ws g : List Int} {h e : Int} {ms : List (Int × Int)} (ht : trainB ps = true) (hs : standB ps h ws = true) (E : Err ps h ws e g ms) {R q : List Int} (he : endS ps ws R = g) (hq : h :: R = q ++ [e]) : way (h :: plc ps e g ms) ≤ way (h :: R) := by
  have hw := (standB_iff.mp hs).1
  have := pap_low (geo_of ht hs) ms.reverse E.pap R ?_
  · have e1 : wP h ws (-1) = h := by simp [wP]
    have e2 : plR (dP ps) (wP e g) ms.reverse = plc ps e g ms := by
      unfold plR plc
      rw [List.map_reverse, List.reverse_reverse]
    rw [e1, e2] at this
    exact this
  · intro j j1 j2
    by_cases z : j = -1
    · subst z
      obtain ⟨q', eq⟩ := stW_last R h
      rw [hq] at eq
      have := List.append_inj_right' eq rfl
      simp [dP, wP]
      simpa using this.symm
    · unfold dP wP
      rw [if_neg z, if_neg z, if_neg z, ← endS_pick ht hs (by omega) j2, he]
theorem c_law_a_goal {ps pk : List Int} (ht : trainB ps = true) (hp : pk.length = 25) (hb : ∀ k : Int, 0 ≤ pick pk k) : ∃ e g, standB ps e g = true ∧ R.call m_law_a_goal 2 [iL ps, iL pk] = .ok (.tup [.dat (.int e), iT g]) := by
  suffices q : ∃ e g, standB ps e g = true ∧ m_law_a_goal [iL ps, iL pk] = .ok (.tup [.dat (.int e), iT g]) by
    obtain ⟨e, g, h, q⟩ := q
    exact ⟨e, g, h, call_ok q rfl (by simp)⟩
  obtain ⟨⟨hl1, hl2⟩, hp0⟩ := trainB_iff.mp ht
  have goS_snoc : ∀ (l r : List Int) (p w h : Int), l.length = r.length → goS (l.zip r) h = true → (w - (if r = [] then h else r.getLastD 0) ≤ p ∧ (if r = [] then h else r.getLastD 0) - w ≤ p) → goS ((l ++ [p]).zip (r ++ [w])) h = true := by
    intro l
    induction l with
    | nil =>
      intro r p w h hl _ hh
      match r, hl with
      | [], _ => simp [goS] at hh ⊢; omega
    | cons a l ih =>
      intro r p w h hl hg hh
      match r, hl with
      | b :: r, hl =>
        simp only [List.cons_append, List.zip_cons_cons, goS, Bool.and_eq_true, decide_eq_true_eq] at hg ⊢
        refine ⟨hg.1, ih r p w b (by simpa using hl) hg.2 ?_⟩
        cases r with
        | nil => simpa using hh
        | cons c r => simpa using hh
  unfold m_law_a_goal b_law_a_goal
  rw [runF_ev]
  simp (disch := first | omega | (simp; done) | (simp; omega)) [List.replicate, ixD_p, modD_ii]
  generalize pick pk 0 % 2001 - 1000 = e
  generalize hF : forW _ _ _ _ _ = F
  refine forW_k pD (fun s : List Int × Int => [.no, .at (.dat (iL pk)), .at (iT s.1), .at (.dat (.int e)), .at (.dat (.int s.2)), .no, .no]) (fun r s => ∃ dn rs, ps = dn ++ rs ∧ r = enI dn.length rs ∧ s.1.length = dn.length ∧ s.2 = (if s.1 = [] then e else s.1.getLastD 0) ∧ goS (dn.zip s.1) e = true) ([], e) hF ?_ ?_ ?_ ?_
  · rintro ⟨g, a⟩ rfl ⟨dn, rs, i1, i2, i3, i4, i5⟩
    have : rs = [] := by cases rs with
      | nil => rfl
      | cons x y => simp [enI] at i2
    subst this
    rw [List.append_nil] at i1
    subst i1
    exact ⟨e, g, standB_iff.mpr ⟨i3, i5⟩, by simp⟩
  · rintro ⟨k, p⟩ r ⟨g, a⟩ ⟨dn, rs, i1, i2, i3, i4, i5⟩
    match rs, i2 with
    | p' :: rs, i2 =>
      simp only [enI, List.cons.injEq, Prod.mk.injEq] at i2
      obtain ⟨⟨rfl, rfl⟩, rfl⟩ := i2
      simp only at i3 i4 i5
      have hpp := hp0 p (by rw [i1]; simp)
      have hdl : dn.length < 12 := by have := congrArg List.length i1; simp at this; omega
      have m1 := hb (dn.length + 1)
      have m2 := Int.emod_nonneg (pick pk (dn.length + 1)) (b := 2 * p + 1) (by omega)
      have m3 := Int.emod_lt_of_pos (pick pk (dn.length + 1)) (b := 2 * p + 1) (by omega)
      obtain ⟨z, ez, hz⟩ : ∃ z, z = pick [p, -p, pick pk (dn.length + 1) % (2 * p + 1) - p] (pick pk (dn.length + 13) % 3) ∧ -p ≤ z ∧ z ≤ p := ⟨_, rfl, pick_z (P := fun z => -p ≤ z ∧ z ≤ p) (by simp; omega) (by omega)⟩
      refine ⟨(g ++ [a + z], a + z), ?_, dn ++ [p], rs, by simpa using i1, by simp, by simp; omega, by simp, ?_⟩
      · rw [turnW_ev]
        simp (disch := first | omega | (simp; done) | (simp; omega)) [pD, iD, ixD_p, ixD_2, ixD_3, modD_ii, mulD_ii, ← ez, sApp_ev, appC_iT, wpE_cons]
      · exact goS_snoc dn g p (a + z) e (by omega) i5 (by rw [← i4]; omega)
  · simp [wpE_cons, lst_0]
  · exact ⟨[], ps, rfl, rfl, rfl, rfl, rfl⟩
structure Ern (ns ps : List Int) (h : Int) (ws row : List Int) (e : Int) (g hd : List Int) (gT : T) : Prop where
  tr : trainB ps = true
  st : standB ps h ws = true
  le : row.length ≤ 40
  he : ∃ q, h :: row = q ++ [e]
  hg : endS ps ws row = g
  gt : gT = .dat (iL g) ∨ gT = iT g
  hl : hd.length = 6
  hb : ∀ k : Int, 0 ≤ pick hd k ∧ pick hd k < 1000000000
  eq : m_law_errand [.scr ns] = .ok (.tup [iT ps, .dat (.int h), .dat (iL ws), .dat (iL row), .dat (.int e), gT, iT hd])
theorem Ern.sg {ns ps ws row g hd : List Int} {h e : Int} {gt : T} (E : Ern ns ps h ws row e g hd gt) : standB ps e g = true := by
  obtain ⟨q, hq⟩ := E.he
  have hp := (trainB_iff.mp E.tr).2
  rw [← E.hg]
  rcases List.eq_nil_or_concat row with z | ⟨r, a, z⟩
  · subst z
    have : h = e := by
      cases q with
      | nil => simpa using hq
      | cons x q => simp at hq
    rw [← this]
    exact E.st
  · subst z
    rw [List.concat_eq_append] at hq ⊢
    have : a = e := by
      have := List.append_inj_right' (s₁ := h :: r) (t₁ := [a]) (s₂ := q) (t₂ := [e]) (by simpa using hq) rfl
      simpa using this
    rw [← this, endS_snoc]
    exact dragAll_stB (endS_len (standB_iff.mp E.st).1) hp
def IsErn (ps : List Int) (h : Int) (ws row hd : List Int) (x : R T) : Prop := ∃ e g gt, (∃ q, h :: row = q ++ [e]) ∧ endS ps ws row = g ∧ (gt = .dat (iL g) ∨ gt = iT g) ∧ x = .ok (.tup [iT ps, .dat (.int h), .dat (iL ws), .dat (iL row), .dat (.int e), gt, iT hd])
theorem ern_ex (ns : List Int) : ∃ ps h ws row e g hd gt, Ern ns ps h ws row e g hd gt := by
  obtain ⟨ps, h, ws, ⟨t1, t2, t3, t4⟩, et⟩ := c_law_train ns
  obtain ⟨⟨hl1, hl2⟩, hp⟩ := trainB_iff.mp t1
  have hsum := sum_nonneg hp
  obtain ⟨hd, e1, l1, b1, -⟩ := ex_draws (cellAt ns 3) 6 1000000000 (by decide)
  simp only [Int.cast_ofNat_Int] at e1
  have b10 := b1 0
  have b11 := b1 1
  obtain ⟨z, ez, hz⟩ : ∃ z, z = pick [4, 13, 40] (pick hd 1 % 3) ∧ 1 ≤ z ∧ z ≤ 40 := ⟨_, rfl, pick_all (P := fun z => 1 ≤ z ∧ z ≤ 40) (by simp) (by omega) (by simp; omega)⟩
  have hm := Int.emod_nonneg (pick hd 0) (b := z) (by omega)
  have hm2 := Int.emod_lt_of_pos (pick hd 0) (b := z) (by omega)
  obtain ⟨row, er, hr, -⟩ := c_law_a_row (cell := cellAt ns 2) (many := pick hd 0 % z) (mid := h) (span := 2 * ps.sum + 3) (by omega) (by omega)
  suffices q : IsErn ps h ws row hd (m_law_errand [.scr ns]) by
    obtain ⟨e, g, gt, q1, q2, q3, q4⟩ := q
    exact ⟨ps, h, ws, row, e, g, hd, gt, t1, t2, by omega, q1, q2, q3, l1, b1, q4⟩
  unfold m_law_errand b_law_errand
  rw [runF_ev]
  simp (disch := first | omega | (simp; done) | (simp; omega)) [List.replicate, c_cell_at, et, e1, mulD_ii, modD_ii, fdivD_ii, ixD_p, ixD_2, ixD_3, ← ez, sumD_iL, er]
  generalize hF : forW _ _ _ _ _ = F
  refine forW_k iD (fun s : Int × T => [.no, .at (iT ps), .at (.dat (.int h)), .at (.dat (iL ws)), .at (iT hd), .at (.dat (iL row)), .at (.dat (.int s.1)), .at s.2, .no]) (fun r s => ∃ dn q, row = dn ++ r ∧ h :: dn = q ++ [s.1] ∧ (s.2 = .dat (iL (endS ps ws dn)) ∨ s.2 = iT (endS ps ws dn))) (h, .dat (iL ws)) hF ?_ ?_ ?_ ?_
  · rintro ⟨e, gt⟩ rfl ⟨dn, q, i1, i2, i3⟩
    rw [List.append_nil] at i1
    subst i1
    simp only at i3
    exact ⟨e, endS ps ws row, gt, ⟨q, i2⟩, rfl, i3, by
      simp
      rfl⟩
  · rintro a r ⟨e, gt⟩ ⟨dn, q, i1, i2, i3⟩
    refine ⟨(a, iT (dragAll ps (endS ps ws dn) a)), ?_, dn ++ [a], h :: dn, by simpa using i1, by simp, .inr (by rw [endS_snoc])⟩
    rw [turnW_ev]
    simp only at i3
    rcases i3 with rfl | rfl <;> simp (disch := first | omega | (simp; done) | (simp; omega)) [iD, c_law_all hp (show ps.length ≤ 100000 by omega), wpE_cons]
  · simp [wpE_cons]
  · exact ⟨[], [], rfl, rfl, .inl rfl⟩
end Sm
/-! TyT: papers looked at. -/
namespace Sm
open PySem L2
theorem c_law_a_far14 (xs : List Int) (hl : xs.length ≤ 100000) : R.call m_law_a_far_k14 1 [iL xs] = .ok (.dat (.int (way xs))) := by
  refine call_ok ?_ rfl rfl
  unfold m_law_a_far_k14 b_law_a_far_k14
  rw [runF_ev]
  simp (disch := first | omega | (simp; done) | (simp; omega)) [List.replicate, r2_ok]
  generalize hF : forW _ _ _ _ _ = F
  refine forW_rk (fun s : Int => [.at (.dat (iL xs)), .at (.dat (.int s)), .no, .no]) (fun j s => s = way (xs.take j.toNat)) 0 hF ?_ ?_ ?_ ?_
  · rintro s rfl hi
    rw [List.take_of_length_le (by omega)] at hi
    simp [hi]
  · rintro j s h1 h2 hi
    refine ⟨s + absI (pick xs j - pick xs (j - 1)), ?_, by rw [way_step h1 (by omega), hi]⟩
    rw [turnW_ev]
    unfold absI
    by_cases q : pick xs j - pick xs (j - 1) < 0
    · have p1 : pick [1, -1] 1 = -1 := rfl
      simp (disch := first | omega | (simp; done) | (simp; omega)) [iD, ixD_p, ixD_2, q, mulD_ii, p1, wpE_cons]
    · have p1 : pick [1, -1] 0 = 1 := rfl
      simp (disch := first | omega | (simp; done) | (simp; omega)) [iD, ixD_p, ixD_2, q, mulD_ii, p1, wpE_cons]
  · simp [wpE_cons]
  · cases xs with
    | nil => rfl
    | cons x r => simp [way]
def mstB (n : Int) (m : Int × Int) : Bool := decide (-1 ≤ m.1) && decide (m.1 < n) && (decide (m.2 = 1) || decide (m.2 = -1))
theorem mstB_iff {n : Int} {m : Int × Int} : mstB n m = true ↔ Mst n m := by
  unfold mstB Mst
  simp [and_assoc]
theorem inD_two (k a b : Int) : inD false (.int k) (.tup [.int a, .int b]) = .ok (.bl (decide (k = a) || decide (k = b))) := by
  have e : inD false (.int k) (.tup [.int a, .int b]) = .ok (.bl ((a == k) || ((b == k) || false))) := rfl
  rw [e]
  congr 2
  by_cases h1 : k = a <;> by_cases h2 : k = b <;> simp [h1, h2, beq_iff_eq] <;> omega
theorem c_is_must {ps : List Int} {m : Int × Int} : R.call m_is_must 2 [iL ps, mD m] = .ok (.dat (.bl (mstB ps.length m))) := by
  refine call_ok ?_ rfl rfl
  unfold m_is_must b_is_must mstB
  rw [runF_ev]
  by_cases q1 : -1 ≤ m.1 <;> by_cases q2 : m.1 < ps.length <;> simp (disch := first | omega | (simp; done) | (simp; omega)) [List.replicate, ixD_m0, ixD_mo, inD_two, q1, q2]
def frB (g X : Int → Int) (m : Int × Int) : Bool := decide (0 < m.2 * (g m.1 - X m.1))
theorem c_is_first {ws g : List Int} {h e : Int} {m : Int × Int} (hg : g.length = ws.length) (hs : m.2 = 1 ∨ m.2 = -1) (h1 : -1 ≤ m.1) (h2 : m.1 < ws.length) : R.call m_is_first 5 [.int h, iL ws, .int e, iL g, mD m] = .ok (.dat (.bl (frB (wP e g) (wP h ws) m))) := by
  refine call_ok ?_ rfl rfl
  unfold m_is_first b_is_first frB
  rw [runF_ev]
  simp (disch := first | omega | (simp; done) | (simp; omega)) [List.replicate, ixD_m0, ixD_mo, c_wanted, mulD_ii]
/-- whether musts are a paper -/
def hldB (d g X : Int → Int) (n : Int) : Option (Int × Int) → List (Int × Int) → Bool
  | _, [] => true
  | none, m :: r => mstB n m && (frB g X m && hldB d g X n (some m) r)
  | some a, m :: r => mstB n m && (nxB d g a m && hldB d g X n (some m) r)
theorem hld_pap {d g X : Int → Int} {n : Int} : ∀ (r : List (Int × Int)) (a : Int × Int) (T : List (Int × Int)), Pap d g X n (a :: T) → (hldB d g X n (some a) r = true ↔ Pap d g X n (r.reverse ++ a :: T))
  | [], a, T, h => by simp [hldB, h]
  | m :: r, a, T, h => by
    simp only [hldB, Bool.and_eq_true, mstB_iff, List.reverse_cons, List.append_assoc, List.singleton_append]
    by_cases q : Mst n m ∧ nxB d g a m = true
    · rw [← hld_pap r m (a :: T) ⟨q.1, q.2, h⟩]
      simp [q.1, q.2]
    · have key : ∀ (l : List (Int × Int)), Pap d g X n (l ++ m :: a :: T) → Mst n m ∧ nxB d g a m = true := by
        intro l
        induction l with
        | nil => intro h; exact ⟨h.1, h.2.1⟩
        | cons x l ih =>
          intro h
          cases l with
          | nil => exact ih h.2.2
          | cons y l => exact ih h.2.2
      constructor
      · intro hh; exact absurd ⟨hh.1, hh.2.1⟩ q
      · intro hh; exact absurd (key _ hh) q
theorem hld_iff {d g X : Int → Int} {n : Int} (ms : List (Int × Int)) : hldB d g X n none ms = true ↔ Pap d g X n ms.reverse := by
  cases ms with
  | nil => simp [hldB, Pap]
  | cons m r =>
    simp only [hldB, Bool.and_eq_true, mstB_iff, List.reverse_cons]
    by_cases q : Mst n m ∧ frB g X m = true
    · have hp : Pap d g X n [m] := ⟨q.1, by simpa [frB] using q.2⟩
      rw [← hld_pap r m [] hp]
      simp [q.1, q.2]
    · have key : ∀ (l : List (Int × Int)), Pap d g X n (l ++ [m]) → Mst n m ∧ frB g X m = true := by
        intro l
        induction l with
        | nil => intro h; exact ⟨h.1, by simpa [frB] using h.2⟩
        | cons x l ih =>
          intro h
          cases l with
          | nil => exact ih h.2.2
          | cons y l => exact ih h.2.2
      constructor
      · intro hh; exact absurd ⟨hh.1, hh.2.1⟩ q
      · intro hh; exact absurd (key _ hh) q
/-! numbered musts -/
def enM (k : Int) : List (Int × Int) → List (Int × (Int × Int))
  | [] => []
  | x :: r => (k, x) :: enM (k + 1) r
def eM (x : Int × (Int × Int)) : T := .tup [iD x.1, mdT x.2]
theorem enumT_mus : ∀ (xs : List (Int × Int)) (k : Nat), enumT k (xs.map mD) = (enM k xs).map eM
  | [], k => rfl
  | x :: xs, k => by
    rw [List.map_cons]
    show T.tup [.dat (.int k), .dat (mD x)] :: enumT (k + 1) (xs.map mD) = _
    rw [enumT_mus xs (k + 1)]
    rfl
theorem en_mus {ρ : Env} {s : T} {ms : List (Int × Int)} (hs : s.er = mLL ms) : (O3.ok [s] ρ).en = .ok (mE eM (enM 0 ms)) ρ := by
  have e := enumT_mus ms 0
  show (match s.er.litems with | some ds => O3.ok (enumT 0 ds) ρ | _ => .bad) = _
  rw [hs]
  show O3.ok (enumT 0 (ms.map mD)) ρ = _
  rw [e]
  rfl
@[simp] theorem en_mLL {ρ : Env} {ms : List (Int × Int)} : (O3.ok [.dat (mLL ms)] ρ).en = .ok (mE eM (enM 0 ms)) ρ := en_mus rfl
theorem ixD_mLL {ms : List (Int × Int)} {k : Int} {m : Int × Int} (h0 : 0 ≤ k) (h : ms[k.toNat]? = some m) : ixD (mLL ms) (.int k) = .ok (mD m) := by
  have hk : k < ms.length := by
    have := (List.getElem?_eq_some_iff.mp h).1
    omega
  unfold mLL
  show (match (D.lst (ms.map mD)).items with
      | some ys => (match atI ys k with
        | some d => R.ok d
        | none => R.bad)
      | none => .bad) = _
  have := atI_get (xs := ms.map mD) (k := k) h0 (by simpa using hk)
  simp only [D.items, this]
  rw [List.getElem_map]
  obtain ⟨h1, h2⟩ := List.getElem?_eq_some_iff.mp h
  rw [h2]
def stopH (d g X : Int → Int) (n : Int) (s : Option (Int × Int)) (x : Int × (Int × Int)) : Option T :=
  if (mstB n x.2 && (match s with | none => frB g X x.2 | some a => nxB d g a x.2)) = true then none else some (.dat (.bl false))
theorem scan_hld {d g X : Int → Int} {n : Int} : ∀ (ms : List (Int × Int)) (s : Option (Int × Int)) (k : Int), (scan (stopH d g X n) (fun _ x => some x.2) (enM k ms) s = .inl (.dat (.bl false)) ∧ hldB d g X n s ms = false) ∨ ((∃ s', scan (stopH d g X n) (fun _ x => some x.2) (enM k ms) s = .inr s') ∧ hldB d g X n s ms = true)
  | [], s, k => .inr ⟨⟨s, rfl⟩, by cases s <;> rfl⟩
  | m :: ms, s, k => by
    have ih := scan_hld (d := d) (g := g) (X := X) (n := n) ms (some m) (k + 1)
    cases s with
    | none =>
      by_cases q : (mstB n m && frB g X m) = true
      · have e : scan (stopH d g X n) (fun _ x => some x.2) (enM k (m :: ms)) none = scan (stopH d g X n) (fun _ x => some x.2) (enM (k + 1) ms) (some m) := by
          simp only [enM, scan, stopH, q, if_true]
        rw [e]
        simp only [Bool.and_eq_true] at q
        simp only [hldB, q.1, q.2, Bool.true_and]
        exact ih
      · refine .inl ⟨by simp only [enM, scan, stopH]; rw [if_neg q], ?_⟩
        simp only [hldB]
        cases h1 : mstB n m <;> cases h2 : frB g X m <;> simp [h1, h2] at q ⊢
    | some a =>
      by_cases q : (mstB n m && nxB d g a m) = true
      · have e : scan (stopH d g X n) (fun _ x => some x.2) (enM k (m :: ms)) (some a) = scan (stopH d g X n) (fun _ x => some x.2) (enM (k + 1) ms) (some m) := by
          simp only [enM, scan, stopH, q, if_true]
        rw [e]
        simp only [Bool.and_eq_true] at q
        simp only [hldB, q.1, q.2, Bool.true_and]
        exact ih
      · refine .inl ⟨by simp only [enM, scan, stopH]; rw [if_neg q], ?_⟩
        simp only [hldB]
        cases h1 : mstB n m <;> cases h2 : nxB d g a m <;> simp [h1, h2] at q ⊢
theorem c_holds {ps ws g : List Int} {h e : Int} {ms : List (Int × Int)} (ht : trainB ps = true) (hw : ws.length = ps.length) (hg : g.length = ps.length) : R.call m_holds 6 [iL ps, .int h, iL ws, .int e, iL g, mLL ms] = .ok (.dat (.bl (hldB (dP ps) (wP e g) (wP h ws) ps.length none ms))) := by
  refine call_ok ?_ rfl rfl
  have sc := scan_hld (d := dP ps) (g := wP e g) (X := wP h ws) (n := ps.length) ms none 0
  unfold m_holds b_holds
  rw [runF_ev]
  simp (disch := first | omega | (simp; done) | (simp; omega)) [List.replicate]
  rw [forW_scan eM (fun _ : Option (Int × Int) => [.at (.dat (iL ps)), .at (.dat (.int h)), .at (.dat (iL ws)), .at (.dat (.int e)), .at (.dat (iL g)), .at (.dat (mLL ms)), .no, .no]) (stopH (dP ps) (wP e g) (wP h ws) ps.length) (fun _ x => some x.2) (fun r s => ∃ dn rs, ms = dn ++ rs ∧ r = enM dn.length rs ∧ s = dn.getLast? ∧ ∀ m ∈ dn, Mst ps.length m) none]
  · rcases sc with ⟨e1, e2⟩ | ⟨⟨s', e1⟩, e2⟩
    · rw [e1, e2]
      simp [outS]
    · rw [e1, e2]
      simp [outS]
  · rintro ⟨k, m⟩ r s ⟨dn, rs, i1, i2, i3, i4⟩
    match rs, i2 with
    | m' :: rs, i2 =>
      simp only [enM, List.cons.injEq, Prod.mk.injEq] at i2
      obtain ⟨⟨rfl, rfl⟩, rfl⟩ := i2
      constructor
      · rw [turnO_ev]
        unfold stopH
        cases q1 : mstB ps.length m with
        | false => simp (disch := first | omega | (simp; done) | (simp; omega)) [eM, iD, mdT, c_is_must, q1]
        | true =>
          obtain ⟨m1, m2, m3⟩ := mstB_iff.mp q1
          rcases List.eq_nil_or_concat dn with z | ⟨dn', a, z⟩
          · subst z
            simp only [List.getLast?_nil] at i3
            subst i3
            cases q2 : frB (wP e g) (wP h ws) m <;> simp (disch := first | omega | (simp; done) | (simp; omega)) [eM, iD, mdT, c_is_must, q1, q2, c_is_first (show g.length = ws.length by omega) m3 m1 (show m.1 < ws.length by omega), wpE_cons]
          · rw [List.concat_eq_append] at z
            subst z
            simp only [List.getLast?_append, List.getLast?_singleton, Option.some_or] at i3
            subst i3
            obtain ⟨a1, a2, a3⟩ := i4 a (by simp)
            have ix : ixD (mLL ms) (.int dn'.length) = .ok (mD a) := ixD_mLL (by omega) (by rw [i1]; simp)
            have nx := c_is_next (e := e) (a := a) (m := m) ht hg a3 m1 m2 a1 a2
            have z0 : ¬ ((dn'.length : Int) + 1 = 0) := by omega
            have z1 : (0 : Int) < dn'.length + 1 := by omega
            cases q2 : nxB (dP ps) (wP e g) a m <;> simp (disch := first | omega | (simp; done) | (simp; omega)) [eM, iD, mdT, c_is_must, q1, q2, z0, z1, ix, nx, wpE_cons]
      · intro hst
        refine ⟨dn ++ [m], rs, by simpa using i1, by simp, by simp, ?_⟩
        intro x hx
        rcases List.mem_append.mp hx with q | q
        · exact i4 x q
        · simp only [List.mem_singleton] at q
          subst q
          cases hc : mstB ps.length x with
          | true => exact mstB_iff.mp hc
          | false => simp [stopH, hc] at hst
  · simp [wpE_cons]
  · exact ⟨[], ms, rfl, rfl, rfl, by simp⟩
theorem c_is_paper {ps ws g : List Int} {h e : Int} {ms : List (Int × Int)} (ht : trainB ps = true) (hs : standB ps h ws = true) (hs2 : standB ps e g = true) : R.call m_is_paper 6 [iL ps, .int h, iL ws, .int e, iL g, mLL ms] = .ok (.dat (.bl (hldB (dP ps) (wP e g) (wP h ws) ps.length none ms))) := by
  refine call_ok ?_ rfl rfl
  unfold m_is_paper b_is_paper
  rw [runF_ev]
  simp (disch := first | omega | (simp; done) | (simp; omega)) [List.replicate, c_need_ok ht hs, c_need_ok ht hs2, c_holds ht (standB_iff.mp hs).1 (standB_iff.mp hs2).1]
theorem c_weight_ok {ps ws g : List Int} {h e : Int} {ms : List (Int × Int)} (ht : trainB ps = true) (hs : standB ps h ws = true) (hs2 : standB ps e g = true) (hl : ms.length ≤ 10000) (hh : hldB (dP ps) (wP e g) (wP h ws) ps.length none ms = true) : R.call m_weight_of 6 [iL ps, .int h, iL ws, .int e, iL g, mLL ms] = .ok (.dat (.int (way (h :: plc ps e g ms)))) := by
  refine call_ok ?_ rfl rfl
  have hm := pap_must ((hld_iff ms).mp hh)
  have hg := (standB_iff.mp hs2).1
  unfold m_weight_of b_weight_of
  rw [runF_ev]
  simp (disch := first | omega | (simp; done) | (simp; omega)) [List.replicate, c_is_paper ht hs hs2, hh]
  rw [lc_mapI mdT (mpl (dP ps) (wP e g))]
  · rw [show ms.map (mpl (dP ps) (wP e g)) = plc ps e g ms from rfl]
    simp (disch := first | omega | (simp; done) | (simp; omega)) [cat_add, c_way_of]
  · intro m hx
    obtain ⟨m1, m2, m3⟩ := hm m (by simpa using hx)
    rw [lcOne_ev]
    simp (disch := first | omega | (simp; done) | (simp; omega)) [mdT, c_must_place ht hg m3 m1 m2]
  · omega
theorem c_weight_no {ps ws g : List Int} {h e : Int} {ms : List (Int × Int)} (ht : trainB ps = true) (hs : standB ps h ws = true) (hs2 : standB ps e g = true) (hh : hldB (dP ps) (wP e g) (wP h ws) ps.length none ms = false) : R.call m_weight_of 6 [iL ps, .int h, iL ws, .int e, iL g, mLL ms] = .exc 3 := by
  refine call_exc ?_ rfl
  unfold m_weight_of b_weight_of
  rw [runF_ev]
  simp (disch := first | omega | (simp; done) | (simp; omega)) [List.replicate, c_is_paper ht hs hs2, hh]
end Sm
/-! TyU: loops over a lent list, whiles with a break; swings counted. -/
namespace Sm
open PySem L2
/-- a loop over a list that stays owned: as forW_k; the lent cell stands in cl -/
theorem forL_ex {α S : Type} {ci : Nat} {ws : List Nat} {gm : T → Env → R Env} {b : Env → Out} (enc : α → D) (cl : S → Env) (I : List α → S → Prop) {xs : List α}
    (hc : ∀ s, (cl s)[ci]? = some (.lent (.lst (xs.map fun x => .dat (enc x)))))
    (h : ∀ x r s, I (x :: r) s → ∃ s', turnW ws gm b (.dat (enc x)) (cl s) = some (cl s') ∧ I r s') : ∀ (r : List α) (dn : List α) (n : Nat) (s : S) (ρ : Env), xs = dn ++ r → r.length < n → wpE ρ ws = cl s → I r s → ∃ s', forL ci ws gm b n dn.length ρ = .nx (unl (cl s') ci) ∧ I [] s' := by
  intro r
  induction r with
  | nil =>
    intro dn n s ρ ex hn e i
    obtain ⟨n, rfl⟩ : ∃ m, n = m + 1 := ⟨n - 1, by simp at hn; omega⟩
    refine ⟨s, ?_, i⟩
    unfold forL
    rw [e, hc s]
    simp only
    rw [ex, List.append_nil, List.getElem?_eq_none (by simp)]
  | cons x r ih =>
    intro dn n s ρ ex hn e i
    obtain ⟨n, rfl⟩ : ∃ m, n = m + 1 := ⟨n - 1, by simp at hn; omega⟩
    obtain ⟨s', e1, i'⟩ := h x r s i
    have hx : (xs.map fun x => T.dat (enc x))[dn.length]? = some (.dat (enc x)) := by rw [ex]; simp
    unfold forL
    rw [e, hc s]
    simp only [hx]
    unfold turnW R.trn at e1
    cases q : gm (.dat (enc x)) (cl s) with
    | ok ρ1 =>
      rw [q] at e1
      simp only [] at e1 ⊢
      unfold Out.tw at e1
      have go : ∀ ρ2, wpE ρ2 ws = cl s' → ∃ s', forL ci ws gm b n (dn.length + 1) ρ2 = .nx (unl (cl s') ci) ∧ I [] s' := by
        intro ρ2 e2
        obtain ⟨s2, e3, i3⟩ := ih (dn ++ [x]) n s' ρ2 (by simpa using ex) (by simp at hn; omega) e2 i'
        rw [List.length_append] at e3
        exact ⟨s2, e3, i3⟩
      cases qb : b ρ1 with
      | nx ρ2 => rw [qb] at e1; exact go ρ2 (Option.some.inj e1)
      | ct ρ2 => rw [qb] at e1; exact go ρ2 (Option.some.inj e1)
      | bk ρ2 => rw [qb] at e1; cases e1
      | rt τ => rw [qb] at e1; cases e1
      | exc c ρ2 => rw [qb] at e1; cases e1
      | bad => rw [qb] at e1; cases e1
    | exc c => rw [q] at e1; cases e1
    | bad => rw [q] at e1; cases e1
theorem forL_k {α S : Type} {ci : Nat} {ws : List Nat} {gm : T → Env → R Env} {b : Env → Out} (enc : α → D) (cl : S → Env) (I : List α → S → Prop) {xs : List α} {n : Nat} (s : S) {ρ : Env} {F : Out} {G : Prop} (hF : forL ci ws gm b n 0 ρ = F)
    (k : ∀ s', F = .nx (unl (cl s') ci) → I [] s' → G) (hc : ∀ s, (cl s)[ci]? = some (.lent (.lst (xs.map fun x => .dat (enc x))))) (h : ∀ x r s, I (x :: r) s → ∃ s', turnW ws gm b (.dat (enc x)) (cl s) = some (cl s') ∧ I r s') (e : wpE ρ ws = cl s) (i : I xs s) (hn : xs.length < n) : G := by
  obtain ⟨s', e', i'⟩ := forL_ex enc cl I hc h xs [] n s ρ rfl hn e i
  exact k s' (hF.symm.trans e') i'
/-- a while that may end by a break -/
theorem whB_ex {S : Type} {ws : List Nat} {mc : Env → R Bool} {b : Env → Out} (cl : S → Env) (I J : S → Prop) (μ : S → Nat)
    (h : ∀ s, I s → (mc (cl s) = .ok false ∧ J s) ∨ (mc (cl s) = .ok true ∧ ((∃ s', (b (cl s)).tw ws = some (cl s') ∧ I s' ∧ μ s' < μ s) ∨ ∃ s' ρ', b (cl s) = .bk ρ' ∧ wpE ρ' ws = cl s' ∧ J s'))) : ∀ (N : Nat) (s : S) (ρ : Env), wpE ρ ws = cl s → I s → μ s < N → ∃ s', whW ws mc b N ρ = .nx (cl s') ∧ J s'
  | 0, s, ρ, _, _, hN => by omega
  | N + 1, s, ρ, e, i, hN => by
    rcases h s i with ⟨q, j⟩ | ⟨q, ⟨s', e', i', hm⟩ | ⟨s', ρ', eb, e', j⟩⟩
    · exact ⟨s, by simp only [whW, e, q], j⟩
    · unfold Out.tw at e'
      split at e'
      · rename_i ρ2 q2
        obtain ⟨s2, e2, i2⟩ := whB_ex cl I J μ h N s' ρ2 (Option.some.inj e') i' (by omega)
        exact ⟨s2, by simp only [whW, e, q, q2, e2], i2⟩
      · rename_i ρ2 q2
        obtain ⟨s2, e2, i2⟩ := whB_ex cl I J μ h N s' ρ2 (Option.some.inj e') i' (by omega)
        exact ⟨s2, by simp only [whW, e, q, q2, e2], i2⟩
      · cases e'
    · exact ⟨s', by simp only [whW, e, q, eb, e'], j⟩
theorem whB_k {S : Type} {ws : List Nat} {mc : Env → R Bool} {b : Env → Out} (cl : S → Env) (I J : S → Prop) (μ : S → Nat) {N : Nat} (s : S) {ρ : Env} {F : Out} {G : Prop} (hF : whW ws mc b N ρ = F)
    (k : ∀ s', F = .nx (cl s') → J s' → G) (h : ∀ s, I s → (mc (cl s) = .ok false ∧ J s) ∨ (mc (cl s) = .ok true ∧ ((∃ s', (b (cl s)).tw ws = some (cl s') ∧ I s' ∧ μ s' < μ s) ∨ ∃ s' ρ', b (cl s) = .bk ρ' ∧ wpE ρ' ws = cl s' ∧ J s'))) (e : wpE ρ ws = cl s) (i : I s) (hN : μ s < N) : G := by
  obtain ⟨s', e', j⟩ := whB_ex cl I J μ h N s ρ e i hN
  exact k s' (hF.symm.trans e') j
theorem swings_gone {D w : Int} (hD : 0 ≤ D) (row : List Int) : gone D w row = gone D w (swings row).2.reverse + sumE D (swings row).1 := by
  have h1 := like_turn (w := w) hD row
  have ha : Alt ((turnF row).reverse ++ []) := by
    have := alt_fold (row := row) (R := []) trivial
    simpa [turnF, turnR] using this
  have h2 := push_fold (D := D) (w := w) hD (turnF row) [] [] [] ha trivial Iff.rfl (fun _ _ q => by cases q) (fun _ _ _ q => by cases q) (fun _ q => by cases q) ⟨rfl, by simp [sumE]⟩
  have h3 := h1.trans h2
  have := h3.go
  unfold swings
  omega
theorem swings_len (row : List Int) : 2 * (swings row).1.length + (swings row).2.length ≤ row.length := by
  have h := turnF_len row
  have key : ∀ (F : List Int) (s : List (Int × Int) × List Int), 2 * (F.foldl pushS s).1.length + (F.foldl pushS s).2.length = 2 * s.1.length + s.2.length + F.length := by
    intro F
    induction F with
    | nil => intro s; simp
    | cons p F ih =>
      intro s
      rw [List.foldl_cons, ih]
      have := red_len (s.2.length + 1) s.1 (p :: s.2)
      unfold pushS
      simp only [List.length_cons] at this ⊢
      omega
  have := key (turnF row) ([], [])
  unfold swings
  simp at this
  omega
/-! swings: low below high; all places together -/
theorem red_strict : ∀ (n : Nat) (ps : List (Int × Int)) (p x : Int) (r : List Int), Alt (p :: x :: r) → ∀ q ∈ (red n ps (p :: x :: r)).1, q ∈ ps ∨ q.1 < q.2
  | 0, ps, p, x, r, h, q, hq => by simp [red] at hq; exact .inl hq
  | n + 1, ps, p, x, r, h, q, hq => by
    match r, h, hq with
    | [], h, hq => simp [red] at hq; exact .inl hq
    | [b], h, hq => simp [red] at hq; exact .inl hq
    | b :: a :: r, h, hq =>
      cases hin : inn p x b a with
      | false => simp [red, hin] at hq; exact .inl hq
      | true =>
        rw [red_go hin] at hq
        obtain ⟨h1, h2, h3, h4, h5⟩ := h
        have h2' : ¬ ((b < x) ↔ (x < p)) := by simpa using h2
        have h4' : ¬ ((a < b) ↔ (b < x)) := by simpa using h4
        have hab := h5.ne
        have hin2 := hin
        simp only [inn, Bool.and_eq_true, decide_eq_true_eq, absI_max] at hin2
        have hap : p ≠ a := by omega
        have hA : Alt (p :: a :: r) := by
          cases r with
          | nil => exact hap
          | cons z r =>
            refine ⟨hap, ?_, h5.tail⟩
            have h6 := h5.2.1
            have h6' : ¬ ((z < a) ↔ (a < b)) := by simpa using h6
            have : ¬ ((z < a) ↔ (a < p)) := by
              intro q
              apply h6'
              rw [q]
              omega
            simpa using this
        rcases red_strict n (ps ++ [(min b x, max b x)]) p a r hA q hq with z | z
        · rcases List.mem_append.mp z with z | z
          · exact .inl z
          · simp only [List.mem_singleton] at z
            subst z
            right
            simp only
            omega
        · exact .inr z
theorem push_strict : ∀ (F P : List Int) (ps : List (Int × Int)) (R : List Int), Alt (F.reverse ++ P) → Alt R → (P = [] ↔ R = []) → (∀ x b r, P = x :: b :: r → ∃ b' r', R = x :: b' :: r' ∧ ((b' < x) ↔ (b < x))) → (∀ x, P = [x] → R = [x]) → (∀ q ∈ ps, q.1 < q.2) → ∀ q ∈ (F.foldl pushS (ps, R)).1, q.1 < q.2
  | [], P, ps, R, _, _, _, _, _, h, q, hq => h q hq
  | p :: F, P, ps, R, hA, hR, h0, h2, h3, h, q, hq => by
    have hA' : Alt (F.reverse ++ (p :: P)) := by simpa using hA
    have hPP : Alt (p :: P) := alt_suf _ _ hA'
    rw [List.foldl_cons] at hq
    match P, hPP, h0, h2, h3, h, hA', hq with
    | [], hPP, h0, h2, h3, h, hA', hq =>
      have hRn := h0.mp rfl
      subst hRn
      have e : pushS (ps, []) p = (ps, [p]) := by simp [pushS, red]
      rw [e] at hq
      exact push_strict F [p] ps [p] hA' trivial (by simp) (fun x b r q => by cases q) (fun x q => q) h q hq
    | [x], hPP, h0, h2, h3, h, hA', hq =>
      have hRn := h3 x rfl
      subst hRn
      have e5 : pushS (ps, [x]) p = (ps, [p, x]) := by simp [pushS, red]
      rw [e5] at hq
      exact push_strict F [p, x] ps [p, x] hA' hPP (by simp) (fun z b r q => ⟨x, [], by cases q; exact ⟨rfl, Iff.rfl⟩⟩) (fun z q => by cases q) h q hq
    | x :: b :: r, hPP, h0, h2, h3, h, hA', hq =>
      obtain ⟨b', r', rfl, hb⟩ := h2 x b r rfl
      have hpx : p ≠ x := hPP.1
      have hd : ¬ ((b < x) ↔ (x < p)) := by simpa using hPP.2.1
      have hAR : Alt (p :: x :: b' :: r') := by
        refine ⟨hpx, ?_, hR⟩
        have : ¬ ((b' < x) ↔ (x < p)) := by rw [hb]; exact hd
        simpa using this
      obtain ⟨y, r1, e1, e2, e3, e4⟩ := red_keep (D := 0) (w := 0) (by omega) ((x :: b' :: r').length + 1) ps p x (b' :: r') hAR
      have st := red_strict ((x :: b' :: r').length + 1) ps p x (b' :: r') hAR
      have ep : pushS (ps, x :: b' :: r') p = red ((x :: b' :: r').length + 1) ps (p :: x :: b' :: r') := rfl
      rw [ep] at hq
      obtain ⟨qs, Q, eq⟩ : ∃ qs Q, red ((x :: b' :: r').length + 1) ps (p :: x :: b' :: r') = (qs, Q) := ⟨_, _, rfl⟩
      rw [eq] at e1 st hq
      simp only at e1 st
      subst e1
      exact push_strict F (p :: x :: b :: r) qs (p :: y :: r1) hA' e2 (by simp) (fun z t u q => ⟨y, r1, by cases q; exact ⟨rfl, e3⟩⟩) (fun z q => by cases q) (fun q hq => (st q hq).elim (h q) id) q hq
theorem swings_strict (row : List Int) : ∀ q ∈ (swings row).1, q.1 < q.2 := by
  have ha : Alt ((turnF row).reverse ++ []) := by
    have := alt_fold (row := row) (R := []) trivial
    simpa [turnF, turnR] using this
  exact push_strict (turnF row) [] [] [] ha trivial Iff.rfl (fun _ _ _ q => by cases q) (fun _ q => by cases q) (by simp)
def two (ps : List (Int × Int)) : List Int := ps.flatMap fun q => [q.1, q.2]
theorem two_snoc (ps : List (Int × Int)) (q : Int × Int) : two (ps ++ [q]) = two ps ++ [q.1, q.2] := by simp [two]
theorem red_perm : ∀ (n : Nat) (ps : List (Int × Int)) (R : List Int), (two (red n ps R).1 ++ (red n ps R).2).Perm (two ps ++ R)
  | 0, ps, R => by simp [red]
  | n + 1, ps, [] => by simp [red]
  | n + 1, ps, [a] => by simp [red]
  | n + 1, ps, [a, b] => by simp [red]
  | n + 1, ps, [a, b, c] => by simp [red]
  | n + 1, ps, d :: c :: b :: a :: r => by
    cases hin : inn d c b a with
    | false => simp [red, hin]
    | true =>
      rw [red_go hin]
      refine (red_perm n _ _).trans ?_
      rw [two_snoc, List.append_assoc]
      refine List.Perm.append_left _ ?_
      have m : [min b c, max b c].Perm [c, b] := by
        by_cases q : b ≤ c
        · rw [Int.min_eq_left q, Int.max_eq_right q]
          exact List.Perm.swap ..
        · rw [Int.min_eq_right (by omega), Int.max_eq_left (by omega)]
      refine (List.Perm.append_right _ m).trans ?_
      show (c :: b :: d :: a :: r).Perm (d :: c :: b :: a :: r)
      exact (List.Perm.cons _ (List.Perm.swap ..)).trans (List.Perm.swap ..)
theorem push_perm : ∀ (F : List Int) (s : List (Int × Int) × List Int), (two (F.foldl pushS s).1 ++ (F.foldl pushS s).2).Perm (F ++ (two s.1 ++ s.2))
  | [], s => by simp
  | p :: F, s => by
    rw [List.foldl_cons]
    refine (push_perm F (pushS s p)).trans ?_
    have h1 : (F ++ (two (pushS s p).1 ++ (pushS s p).2)).Perm (F ++ (two s.1 ++ p :: s.2)) := List.Perm.append_left _ (red_perm _ _ _)
    refine h1.trans ?_
    rw [List.cons_append, ← List.append_assoc, ← List.append_assoc]
    exact List.perm_middle
theorem swings_perm (row : List Int) : (two (swings row).1 ++ (swings row).2).Perm (turnF row) := by
  have := push_perm (turnF row) ([], [])
  simpa [two, swings] using this
/-! the way, by a wheel of no depth -/
theorem gone_0 : ∀ (l : List Int) (w : Int), gone 0 w l = way (w :: l)
  | [], w => rfl
  | a :: l, w => by
    have := gone_0 l (drag 0 a w)
    simp only [gone, way]
    rw [this, show drag 0 a w = a by unfold drag; omega]
theorem swings_way (row : List Int) : way row = way (swings row).2.reverse + sumE 0 (swings row).1 := by
  by_cases hr : row = []
  · subst hr
    rfl
  · obtain ⟨x, r, rfl⟩ : ∃ x r, row = x :: r := by
      cases row with
      | nil => exact absurd rfl hr
      | cons x r => exact ⟨x, r, rfl⟩
    have h := swings_gone (D := 0) (w := x) (by omega) (x :: r)
    rw [gone_0, gone_0] at h
    have hw : ∀ w : Int, absI (x - w) + way (x :: r) = way (w :: (swings (x :: r)).2.reverse) + sumE 0 (swings (x :: r)).1 := by
      intro w
      have := swings_gone (D := 0) (w := w) (by omega) (x :: r)
      rw [gone_0, gone_0] at this
      exact this
    clear h
    revert hw
    generalize (swings (x :: r)).2.reverse = l
    generalize sumE 0 (swings (x :: r)).1 = s
    intro hw
    cases l with
    | nil =>
      have a1 := hw x
      have a2 := hw (x + 1)
      simp only [way, absI_max] at a1 a2
      omega
    | cons y l =>
      have a1 := hw x
      have a2 := hw y
      have e1 : ∀ w, way (w :: y :: l) = absI (y - w) + way (y :: l) := fun _ => rfl
      rw [e1] at a1 a2
      simp only [absI_max] at a1 a2
      omega
end Sm
/-! TyV: papers as the laws look at them. -/
namespace Sm
open PySem L2
def ixR (τ : T) (r : R D) (ρ : Env) : O2 := match r with
  | .ok (.int k) => (match ixT τ k with | some t => .ok t ρ | none => .bad)
  | .exc c => .exc c ρ
  | _ => .bad
def O2.ix : O2 → (Env → R D) → O2
  | .ok τ ρ, mb => ixR τ (mb ρ) ρ
  | .exc c ρ, _ => .exc c ρ
  | .bad, _ => .bad
@[simp] theorem eIx_ev {me : Env → O2} {mb : Env → R D} {ρ : Env} : eIx me mb ρ = (me ρ).ix mb := by
  unfold eIx O2.ix ixR
  cases me ρ <;> rfl
@[simp] theorem ix_ok {τ : T} {mb : Env → R D} {ρ : Env} : (O2.ok τ ρ).ix mb = ixR τ (mb ρ) ρ := (rfl)
theorem ixR_m {ms : List (Int × Int)} {k : Int} {m : Int × Int} {ρ : Env} (h0 : 0 ≤ k) (h : ms[k.toNat]? = some m) : ixR (.dat (mLL ms)) (.ok (.int k)) ρ = .ok (mdT m) ρ := by
  have hk : k < ms.length := by
    have := (List.getElem?_eq_some_iff.mp h).1
    omega
  have e : ixT (.dat (mLL ms)) k = some (mdT m) := by
    show atI ((ms.map mD).map T.dat) k = _
    rw [List.map_map, atI_get h0 (by simpa using hk), List.getElem_map]
    obtain ⟨h1, h2⟩ := List.getElem?_eq_some_iff.mp h
    rw [h2]
    rfl
  show (match ixT (.dat (mLL ms)) k with | some t => O2.ok t ρ | none => .bad) = _
  rw [e]
theorem gTp_mD {G : List T → Env → R Env} {m : Int × Int} {ρ : Env} : gTp 2 G (.dat (mD m)) ρ = G [.dat (.int m.1), .dat (.int m.2)] ρ := rfl
theorem deps_sum : ∀ (l : List Int) (t : Int) (k : Nat), k < l.length → (deps t l).getD k 0 = t + (l.take (k + 1)).sum
  | [], t, k, h => by simp at h
  | p :: l, t, 0, h => by simp [deps]
  | p :: l, t, k + 1, h => by
    have := deps_sum l (t + p) k (by simpa using h)
    simp [deps] at this ⊢
    omega
theorem c_law_depth {ps : List Int} {w : Int} (h1 : -1 ≤ w) (h2 : w < ps.length) (hl : ps.length ≤ 1000) : R.call m_law_depth 2 [iL ps, .int w] = .ok (.dat (.int (dP ps w))) := by
  refine call_ok ?_ rfl rfl
  have hc : cut ps none (some (w + 1)) = ps.take (w + 1).toNat := cut_to (by omega)
  have hcl := cut_le ps none (some (w + 1))
  have hs : (ps.take (w + 1).toNat).sum = dP ps w := by
    unfold dP
    by_cases q : w = -1
    · subst q; simp
    · rw [if_neg q]
      unfold pick
      rw [deps_sum ps 0 w.toNat (by omega), show (w + 1).toNat = w.toNat + 1 by omega]
      omega
  rw [← hc] at hs
  unfold m_law_depth b_law_depth
  rw [runF_ev]
  simp (disch := first | omega | (simp; done) | (simp; omega)) [List.replicate, sumD_iL, hs]
theorem ixD_wP {h w : Int} {ws : List Int} (h1 : -1 ≤ w) (h2 : w < ws.length) : ixD (iL (ws ++ [h])) (.int w) = .ok (.int (wP h ws w)) := by
  unfold wP
  by_cases q : w = -1
  · rw [if_pos q, q, ixD_m1]
  · rw [if_neg q, ixD_iL (by omega) (by simp; omega)]
    unfold pick
    rw [List.getD_eq_getElem?_getD, List.getD_eq_getElem?_getD, List.getElem?_append_left (by omega)]
theorem c_place_of {ps g : List Int} {e : Int} {m : Int × Int} (hp : ps.length ≤ 1000) (hg : g.length = ps.length) (hs : m.2 = 1 ∨ m.2 = -1) (h1 : -1 ≤ m.1) (h2 : m.1 < ps.length) : R.call m_law_place_of 4 [iL ps, .int e, iL g, mD m] = .ok (.dat (.int (mpl (dP ps) (wP e g) m))) := by
  refine call_ok ?_ rfl rfl
  unfold m_law_place_of b_law_place_of mpl wP
  rw [runF_ev]
  by_cases q : m.1 = -1
  · have q0 : m.1 < 0 := by omega
    have d0 : dP ps (-1) = 0 := by simp [dP]
    simp (disch := first | omega | (simp; done) | (simp; omega)) [List.replicate, mD, q, d0]
  · have q0 : ¬ m.1 < 0 := by omega
    simp (disch := first | omega | (simp; done) | (simp; omega)) [List.replicate, mD, q, q0, ixD_p, c_law_depth, mulD_ii]
theorem scan_map {α β S : Type} {stop : S → α → Option T} {step : S → α → S} (f : β → α) : ∀ (ys : List β) (s : S), scan stop step (ys.map f) s = scan (fun s y => stop s (f y)) (fun s y => step s (f y)) ys s
  | [], s => rfl
  | y :: ys, s => by
    simp only [List.map_cons, scan]
    cases stop s (f y) with
    | some t => rfl
    | none => exact scan_map f ys _
theorem enM_eq : ∀ (ms pre : List (Int × Int)), enM pre.length ms = (rgI pre.length 1 ms.length).map fun j => (j, (pre ++ ms).getD j.toNat (0, 0))
  | [], pre => rfl
  | m :: ms, pre => by
    rw [List.length_cons, rgI_succ, List.map_cons]
    have ih := enM_eq ms (pre ++ [m])
    rw [List.length_append] at ih
    simp only [List.length_cons, List.length_nil] at ih
    have e : ((pre.length + (0 + 1) : Nat) : Int) = pre.length + 1 := by omega
    rw [e] at ih
    simp only [enM]
    rw [ih]
    simp
theorem c_law_is_paper {ps ws g : List Int} {h e : Int} {ms : List (Int × Int)} (hp : ps.length ≤ 1000) (hw : ws.length = ps.length) (hg : g.length = ps.length) (hl : ms.length ≤ 100000) (hb : ∀ m ∈ ms, -1000 < m.2 ∧ m.2 < 1000) : R.call m_law_is_paper 6 [iL ps, .int h, iL ws, .int e, iL g, mLL ms] = .ok (.dat (.bl (hldB (dP ps) (wP e g) (wP h ws) ps.length none ms))) := by
  refine call_ok ?_ rfl rfl
  have sc := scan_hld (d := dP ps) (g := wP e g) (X := wP h ws) (n := ps.length) ms none 0
  have ee := enM_eq ms []
  simp only [List.length_nil, Int.cast_ofNat_Int, List.nil_append] at ee
  rw [ee, scan_map] at sc
  unfold m_law_is_paper b_law_is_paper
  rw [runF_ev]
  have lenM : lenD [mLL ms] = .ok (.int ms.length) := by
    unfold mLL
    show R.ok (D.int ((ms.map mD).length)) = _
    rw [List.length_map]
  simp (disch := first | omega | (simp; done) | (simp; omega)) [List.replicate, lenM, r1_ok]
  rw [forW_scan iD (fun _ : Option (Int × Int) => [.at (.dat (iL ps)), .at (.dat (.int h)), .at (.dat (iL ws)), .at (.dat (.int e)), .at (.dat (iL g)), .at (.dat (mLL ms)), .no, .no, .no, .no, .no, .no, .no]) (fun s y => stopH (dP ps) (wP e g) (wP h ws) ps.length s (y, ms.getD y.toNat (0, 0))) (fun _ y => some (ms.getD y.toNat (0, 0))) (fun r s => ∃ dn rs, ms = dn ++ rs ∧ r = rgI dn.length 1 rs.length ∧ s = dn.getLast? ∧ ∀ m ∈ dn, Mst ps.length m) none]
  · rcases sc with ⟨e1, e2⟩ | ⟨⟨s', e1⟩, e2⟩
    · rw [e1, e2]
      simp [outS]
    · rw [e1, e2]
      simp [outS]
  · rintro k r s ⟨dn, rs, i1, i2, i3, i4⟩
    match rs, i2 with
    | m :: rs, i2 =>
      rw [List.length_cons, rgI_succ] at i2
      obtain ⟨rfl, rfl⟩ := List.cons.inj i2
      have gm : ms.getD ((dn.length : Int)).toNat (0, 0) = m := by rw [i1]; simp
      have hbm := hb m (by rw [i1]; simp)
      have ixm : ∀ ρ, ixR (.dat (mLL ms)) (.ok (.int dn.length)) ρ = .ok (mdT m) ρ := fun ρ => ixR_m (by omega) (by rw [i1]; simp)
      constructor
      · rw [turnO_ev, gm]
        unfold stopH
        simp only
        cases q1 : mstB ps.length m with
        | false =>
          have q2 : ¬ (-1 ≤ m.1 ∧ m.1 < ps.length ∧ (m.2 = 1 ∨ m.2 = -1)) := fun hh => by
            have := mstB_iff.mpr hh
            rw [this] at q1
            cases q1
          have q3 : m.2 * m.2 = 1 → m.2 = 1 ∨ m.2 = -1 := by
            intro hh
            have : (m.2 - 1) * (m.2 + 1) = 0 := by rw [Int.sub_mul, Int.mul_add]; omega
            rcases Int.mul_eq_zero.mp this with z | z <;> omega
          by_cases z1 : m.1 < -1
          · simp (disch := first | omega | (simp; done) | (simp; omega)) [iD, ixm, mdT, mD, z1]
          · by_cases z2 : (ps.length : Int) ≤ m.1
            · simp (disch := first | omega | (simp; done) | (simp; omega)) [iD, ixm, mdT, mD, z1, z2]
            · have z3 : ¬ m.2 * m.2 = 1 := fun hh => q2 ⟨by omega, by omega, q3 hh⟩
              simp (disch := first | omega | (simp; done) | (simp; omega)) [iD, ixm, mdT, mD, z1, z2, z3, mulD_ii]
        | true =>
          obtain ⟨m1, m2, m3⟩ := mstB_iff.mp q1
          have z1 : ¬ m.1 < -1 := by omega
          have z2 : ¬ (ps.length : Int) ≤ m.1 := by omega
          have z3 : m.2 * m.2 = 1 := by rcases m3 with q | q <;> rw [q] <;> rfl
          rcases List.eq_nil_or_concat dn with z | ⟨dn', a, z⟩
          · subst z
            simp only [List.getLast?_nil] at i3
            subst i3
            simp only [List.length_nil, Int.cast_ofNat_Int] at ixm
            have cm : (wP e g m.1 - wP h ws m.1) * m.2 = m.2 * (wP e g m.1 - wP h ws m.1) := Int.mul_comm _ _
            cases q2 : frB (wP e g) (wP h ws) m with
            | true =>
              simp only [frB, decide_eq_true_eq] at q2
              have q4 : ¬ m.2 * (wP e g m.1 - wP h ws m.1) ≤ 0 := by omega
              simp (disch := first | omega | (simp; done) | (simp; omega)) [iD, ixm, mdT, mD, z1, z2, z3, mulD_ii, cat_add, ixD_wP, cm, q4, wpE_cons]
            | false =>
              simp only [frB, decide_eq_false_iff_not] at q2
              have q4 : m.2 * (wP e g m.1 - wP h ws m.1) ≤ 0 := by omega
              simp (disch := first | omega | (simp; done) | (simp; omega)) [iD, ixm, mdT, mD, z1, z2, z3, mulD_ii, cat_add, ixD_wP, cm, q4]
          · rw [List.concat_eq_append] at z
            subst z
            simp only [List.getLast?_append, List.getLast?_singleton, Option.some_or] at i3
            subst i3
            obtain ⟨a1, a2, a3⟩ := i4 a (by simp)
            have ixa : ∀ ρ, ixR (.dat (mLL ms)) (.ok (.int dn'.length)) ρ = .ok (mdT a) ρ := fun ρ => ixR_m (by omega) (by rw [i1]; simp)
            have pl := c_place_of (e := e) (m := a) hp hg a3 a1 a2
            have z0 : ¬ ((dn'.length : Int) + 1 = 0) := by omega
            have ixm' : ∀ ρ, ixR (.dat (mLL ms)) (.ok (.int (dn'.length + 1))) ρ = .ok (mdT m) ρ := fun ρ => by
              have := ixm ρ
              rw [List.length_append] at this
              exact this
            have al : ((dn' ++ [a]).length : Int) = dn'.length + 1 := by simp
            unfold nxB
            by_cases y1 : a.2 = m.2
            · have y2 : ¬ m.2 = -a.2 := by omega
              simp (disch := first | omega | (simp; done) | (simp; omega)) [iD, ixm', mdT, gTp_mD, ixD_mo, z0, z1, z2, z3, mulD_ii, cat_add, ixD_wP, ixa, y1, y2, al]
              rw [if_neg (fun hh => by have := hh.1; omega)]
            · have y2 : m.2 = -a.2 := by omega
              have dep := c_law_depth (ps := ps) (w := m.1) m1 m2 hp
              rcases a3 with y5 | y5
              · have y6 : m.2 = -1 := by omega
                have y4 : ∀ z : Int, -1 * z = -z := fun z => by omega
                by_cases y3 : mpl (dP ps) (wP e g) a - dP ps m.1 ≤ wP e g m.1
                · have y7 : ¬ 0 < mpl (dP ps) (wP e g) a - dP ps m.1 - wP e g m.1 := by omega
                  have y8 : mpl (dP ps) (wP e g) a + -dP ps m.1 ≤ wP e g m.1 := by omega
                  simp (disch := first | omega | (simp; done) | (simp; omega)) [iD, ixm', mdT, gTp_mD, ixD_mo, z0, z1, z2, z3, mulD_ii, cat_add, ixD_wP, ixa, y1, y5, y6, y7, y8, al, pl, dep, wpE_cons]
                  rw [if_neg (by omega)]
                · have y7 : 0 < mpl (dP ps) (wP e g) a - dP ps m.1 - wP e g m.1 := by omega
                  have y8 : ¬ mpl (dP ps) (wP e g) a + -dP ps m.1 ≤ wP e g m.1 := by omega
                  simp (disch := first | omega | (simp; done) | (simp; omega)) [iD, ixm', mdT, gTp_mD, ixD_mo, z0, z1, z2, z3, mulD_ii, cat_add, ixD_wP, ixa, y1, y5, y6, y7, y8, al, pl, dep, wpE_cons]
                  rw [if_pos (by omega)]
              · have y6 : m.2 = 1 := by omega
                by_cases y3 : wP e g m.1 ≤ mpl (dP ps) (wP e g) a + dP ps m.1
                · have y7 : ¬ 0 < -(mpl (dP ps) (wP e g) a - -dP ps m.1 - wP e g m.1) := by omega
                  simp (disch := first | omega | (simp; done) | (simp; omega)) [iD, ixm', mdT, gTp_mD, ixD_mo, z0, z1, z2, z3, mulD_ii, cat_add, ixD_wP, ixa, y1, y5, y6, y7, y3, al, pl, dep, wpE_cons]
                  rw [if_neg (by omega)]
                · have y7 : 0 < -(mpl (dP ps) (wP e g) a - -dP ps m.1 - wP e g m.1) := by omega
                  simp (disch := first | omega | (simp; done) | (simp; omega)) [iD, ixm', mdT, gTp_mD, ixD_mo, z0, z1, z2, z3, mulD_ii, cat_add, ixD_wP, ixa, y1, y5, y6, y7, y3, al, pl, dep, wpE_cons]
                  rw [if_pos (by omega)]
      · intro hst
        refine ⟨dn ++ [m], rs, by simpa using i1, by simp, ?_, ?_⟩
        · rw [gm]; simp
        · intro x hx
          rcases List.mem_append.mp hx with q | q
          · exact i4 x q
          · simp only [List.mem_singleton] at q
            subst q
            rw [gm] at hst
            cases hc : mstB ps.length x with
            | true => exact mstB_iff.mp hc
            | false => simp [stopH, hc] at hst
  · simp [wpE_cons]
  · exact ⟨[], ms, rfl, rfl, rfl, by simp⟩
end Sm
/-! TyW: lists of musts, put together. -/
namespace Sm
open PySem L2
def mTD (ms : List (Int × Int)) : T := .lst (ms.map mdT)
@[simp] theorem mTD_er (ms : List (Int × Int)) : (mTD ms).er = mLL ms := by
  unfold mTD mLL
  rw [T.er_lst, T.ers_map, List.map_map]
  rfl
theorem pLL_mLL (ms : List (Int × Int)) : pLL ms = mLL ms := rfl
theorem cat_mLL {ms : List (Int × Int)} {m : Int × Int} (h : ms.length ≤ 100000) : addD (mLL ms) (.lst [mD m]) = .ok (mLL (ms ++ [m])) := by
  have e : addD (mLL ms) (.lst [mD m]) = (if (ms.map mD).length + [mD m].length ≤ sizeLine then R.ok (.lst (ms.map mD ++ [mD m])) else .bad) := rfl
  rw [e, if_pos (by rw [sizeLine_eq]; simp; omega)]
  unfold mLL
  rw [List.map_append]
  rfl
def catR (τ1 τ2 : T) (ρ : Env) : O2 := match τ1.hits, τ2.hits with
  | some a, some b => if a.length + b.length ≤ sizeLine then .ok (.lst (a ++ b)) ρ else .bad
  | _, _ => .bad
def O2.cat2 : O2 → T → O2
  | .ok τ2 ρ, τ1 => catR τ1 τ2 ρ
  | .exc c ρ, _ => .exc c ρ
  | .bad, _ => .bad
def O2.cat : O2 → (Env → O2) → O2
  | .ok τ1 ρ, m2 => (m2 ρ).cat2 τ1
  | .exc c ρ, _ => .exc c ρ
  | .bad, _ => .bad
@[simp] theorem eCat_ev {m1 m2 : Env → O2} {ρ : Env} : eCat m1 m2 ρ = (m1 ρ).cat m2 := by
  unfold eCat O2.cat
  cases m1 ρ with
  | ok τ ρ1 =>
    simp only
    unfold O2.cat2 catR
    cases m2 ρ1 <;> rfl
  | exc c ρ1 => rfl
  | bad => rfl
@[simp] theorem cat_ok {τ : T} {m2 : Env → O2} {ρ : Env} : (O2.ok τ ρ).cat m2 = (m2 ρ).cat2 τ := (rfl)
@[simp] theorem cat2_ok {τ τ2 : T} {ρ : Env} : (O2.ok τ2 ρ).cat2 τ = catR τ τ2 ρ := (rfl)
theorem catR_m {ms : List (Int × Int)} {m : Int × Int} {ρ : Env} (h : ms.length ≤ 100000) : catR (.dat (mLL ms)) (.lst [mdT m]) ρ = .ok (mTD (ms ++ [m])) ρ := by
  show (if ((ms.map mD).map T.dat).length + [mdT m].length ≤ sizeLine then O2.ok (.lst ((ms.map mD).map T.dat ++ [mdT m])) ρ else .bad) = _
  rw [if_pos (by rw [sizeLine_eq]; simp; omega)]
  unfold mTD
  rw [List.map_append, List.map_map]
  rfl
theorem lenD_mLL (ms : List (Int × Int)) : lenD [mLL ms] = .ok (.int ms.length) := by
  unfold mLL
  show R.ok (D.int ((ms.map mD).length)) = _
  rw [List.length_map]
theorem eqv_mD' (a b : Int × Int) : D.eqv (mD a) (mD b) = decide (a = b) := by
  unfold mD
  rw [eqv_tup2, eqv_ii, eqv_ii]
  obtain ⟨a1, a2⟩ := a
  obtain ⟨b1, b2⟩ := b
  by_cases h1 : a1 = b1 <;> by_cases h2 : a2 = b2 <;> simp [h1, h2]
theorem eqv_mLL' (xs ys : List (Int × Int)) : D.eqv (mLL xs) (mLL ys) = decide (xs = ys) := eqv_lists eqv_mD' xs ys
theorem sh_mLL' (n : Nat) (ms : List (Int × Int)) : Sh (n + 3) (mLL ms) := sh_lst fun d hd => by
  obtain ⟨i, _, rfl⟩ := List.mem_map.mp hd
  exact sh_t2 (sh_int _ _) (sh_int _ _)
theorem neD_mLL (xs ys : List (Int × Int)) : neD (mLL xs) (mLL ys) = .ok (.bl (!decide (xs = ys))) := by
  rw [neD_sh (sh_mLL' 61 xs) (sh_mLL' 61 ys), eqv_mLL']
theorem eqD_mLL (xs ys : List (Int × Int)) : eqD (mLL xs) (mLL ys) = .ok (.bl (decide (xs = ys))) := by
  rw [eqD_sh (sh_mLL' 61 xs) (sh_mLL' 61 ys), eqv_mLL']
theorem neD_mLL0 (xs : List (Int × Int)) : neD (mLL xs) (.lst []) = .ok (.bl (!decide (xs = []))) := neD_mLL xs []
theorem neD_mLL1 (xs : List (Int × Int)) : neD (mLL xs) (iL []) = .ok (.bl (!decide (xs = []))) := neD_mLL xs []
theorem listD_mLL (ms : List (Int × Int)) : (listD [mLL ms]).ofF = .ok (mLL ms) := (rfl)
theorem iTp_sides {ρ : Env} : iTp (eSP (pTup (psCons (pFlat (bC (.int 1))) (psCons (pFlat (b1 negD (bC (.int 1)))) psNil)))) ρ = .ok (mE iD [1, -1]) ρ := by
  have e : pTup (psCons (pFlat (bC (.int 1))) (psCons (pFlat (b1 negD (bC (.int 1)))) psNil)) ρ = (if [iD 1, iD (-1)].length ≤ sizeLine then R.ok (.tup [iD 1, iD (-1)]) else .bad) := rfl
  rw [if_pos (by rw [sizeLine_eq]; decide)] at e
  unfold iTp eSP
  rw [e]
  rfl
def AllS (P : List (Int × Int) → Prop) (ms l : List (Int × Int)) : Prop := ∀ m ∈ l, P (ms ++ [m]) ∧ -1000 < m.2 ∧ m.2 < 1000
def Nxt (P : List (Int × Int) → Prop) (ms s' : List (Int × Int)) : Prop := s' = ms ∨ ∃ m : Int × Int, s' = ms ++ [m] ∧ P (ms ++ [m]) ∧ -1000 < m.2 ∧ m.2 < 1000
def O2.fz : O2 → O2
  | .ok τ ρ => .ok (.dat τ.er) ρ
  | .exc c ρ => .exc c ρ
  | .bad => .bad
@[simp] theorem eFz_ev {me : Env → O2} {ρ : Env} : eFz me ρ = (me ρ).fz := by
  unfold eFz O2.fz
  cases me ρ <;> rfl
@[simp] theorem fz_ok {τ : T} {ρ : Env} : (O2.ok τ ρ).fz = .ok (.dat τ.er) ρ := (rfl)
@[simp] theorem mk_c5 {ρ : Env} {k : List T → T} {t1 t2 t3 t4 t5 : T} : (O3.ok [t1, t2, t3, t4, t5] ρ).mk k = .ok (k [t1, t2, t3, t4, t5]) ρ := mk_ok (by simp)
@[simp] theorem callU_2 {ρ : Env} {a b : D} {mf : List D → R T} : (O3.ok [.dat a, .dat b] ρ).callU 2 mf = (mf [a, b]).toE ρ := by
  show (if [a, b].length = 2 then (match mf [a, b] with | .ok τ => O2.ok τ ρ | .exc c => .exc c ρ | .bad => .bad) else .bad) = _
  rw [if_pos (show [a, b].length = 2 from rfl)]
  unfold R.toE
  cases mf [a, b] <;> rfl
@[simp] theorem notBD_bb (a b : Bool) : notBD (.bl a) (.bl b) = .ok (.bl (!decide (a = b))) := rfl
@[simp] theorem isBD_bb (a b : Bool) : isBD (.bl a) (.bl b) = .ok (.bl (decide (a = b))) := rfl
/-- what a paper can go on with: by the wheels from the last one on, either side -/
def IsThing (P : List (Int × Int) → Prop) (n : Nat) (x : R T) : Prop := ∃ ms : List (Int × Int), P ms ∧ ms.length ≤ n ∧ (∀ m ∈ ms, -1000 < m.2 ∧ m.2 < 1000) ∧ x = .ok (mTD ms)
end Sm
/-! TyX: all moved by a number, or turned over. -/
namespace Sm
open PySem L2
/-- moved by a number (s = 1), or turned over (s = -1) -/
structure Aff (φ : Int → Int) (s c : Int) : Prop where
  sg : s = 1 ∨ s = -1
  eq : ∀ x, φ x = s * x + c
section
variable {φ : Int → Int} {s c : Int}
theorem Aff.inj (A : Aff φ s c) {x y : Int} : φ x = φ y ↔ x = y := by
  rw [A.eq, A.eq]
  rcases A.sg with q | q <;> rw [q] <;> omega
theorem a_drag (A : Aff φ s c) {p a x : Int} (hp : 0 ≤ p) : drag p (φ a) (φ x) = φ (drag p a x) := by
  rw [A.eq a, A.eq x, A.eq]
  unfold drag
  rcases A.sg with q | q <;> rw [q] <;> omega
theorem a_dragAll (A : Aff φ s c) : ∀ {ps ws : List Int} {a : Int}, (∀ p ∈ ps, 0 ≤ p) → dragAll ps (ws.map φ) (φ a) = (dragAll ps ws a).map φ
  | [], ws, a, _ => by simp [dragAll]
  | p :: ps, [], a, _ => by simp [dragAll]
  | p :: ps, w :: ws, a, hp => by
    have h0 := hp p List.mem_cons_self
    simp only [List.map_cons, dragAll]
    rw [a_drag A h0, a_dragAll A fun q hq => hp q (List.mem_cons_of_mem _ hq)]
theorem a_runs (A : Aff φ s c) {ps : List Int} (hp : ∀ p ∈ ps, 0 ≤ p) : ∀ (row ws : List Int), runs ps (ws.map φ) (row.map φ) = (runs ps ws row).map (List.map φ)
  | [], ws => rfl
  | a :: r, ws => by
    simp only [List.map_cons, runs]
    rw [a_dragAll A hp, a_runs A hp r]
theorem a_goS (A : Aff φ s c) : ∀ {ps ws : List Int} {h : Int}, goS (ps.zip ws) h = true → goS (ps.zip (ws.map φ)) (φ h) = true
  | [], ws, h, _ => by simp [goS]
  | p :: ps, [], h, _ => by simp [goS]
  | p :: ps, w :: ws, h, hg => by
    simp only [List.map_cons, List.zip_cons_cons, goS, Bool.and_eq_true, decide_eq_true_eq] at hg ⊢
    refine ⟨?_, a_goS A hg.2⟩
    rw [A.eq, A.eq]
    rcases A.sg with q | q <;> rw [q] <;> omega
theorem a_stand (A : Aff φ s c) {ps ws : List Int} {h : Int} (hs : standB ps h ws = true) : standB ps (φ h) (ws.map φ) = true := by
  obtain ⟨hl, hg⟩ := standB_iff.mp hs
  exact standB_iff.mpr ⟨by simpa using hl, a_goS A hg⟩
theorem a_addR (A : Aff φ s c) : ∀ {R : List Int} {p : Int}, Alt R → addR (R.map φ) (φ p) = (addR R p).map φ
  | [], p, _ => rfl
  | [x], p, _ => by
    simp only [List.map_cons, List.map_nil]
    rw [addR_1, addR_1]
    by_cases q : x = p
    · rw [if_pos q, if_pos (A.inj.mpr q)]; rfl
    · rw [if_neg q, if_neg (fun z => q (A.inj.mp z))]; rfl
  | x :: b :: r, p, h => by
    have hne := h.ne
    simp only [List.map_cons]
    rw [addR_2, addR_2]
    by_cases q : x = p
    · rw [if_pos q, if_pos (A.inj.mpr q)]; rfl
    · rw [if_neg q, if_neg (fun z => q (A.inj.mp z))]
      have e : (decide (φ b < φ x) = decide (φ x < φ p)) ↔ (decide (b < x) = decide (x < p)) := by
        rw [A.eq b, A.eq x, A.eq p]
        rcases A.sg with z | z <;> rw [z]
        · have e1 : (1 * b + c < 1 * x + c) ↔ b < x := by omega
          have e2 : (1 * x + c < 1 * p + c) ↔ x < p := by omega
          simp only [e1, e2]
        · have e1 : (-1 * b + c < -1 * x + c) ↔ ¬ b < x := by omega
          have e2 : (-1 * x + c < -1 * p + c) ↔ ¬ x < p := by omega
          simp only [e1, e2, decide_not]
          cases decide (b < x) <;> cases decide (x < p) <;> simp
      by_cases q2 : decide (b < x) = decide (x < p)
      · rw [if_pos q2, if_pos (e.mpr q2)]; rfl
      · rw [if_neg q2, if_neg (fun z => q2 (e.mp z))]; rfl
theorem a_turnF (A : Aff φ s c) (row : List Int) : turnF (row.map φ) = (turnF row).map φ := by
  have key : ∀ (row R : List Int), Alt R → (row.map φ).foldl addR (R.map φ) = (row.foldl addR R).map φ := by
    intro row
    induction row with
    | nil => intro R _; rfl
    | cons a row ih =>
      intro R hR
      rw [List.map_cons, List.foldl_cons, List.foldl_cons, a_addR A hR, ih _ (alt_add hR)]
  unfold turnF turnR
  have := key row [] trivial
  rw [List.map_nil] at this
  rw [this, List.map_reverse]
theorem a_psh (A : Aff φ s c) (x : Int) : ∀ L : List Int, psh (φ x) (L.map φ) = (psh x L).map φ
  | [] => rfl
  | [a] => by
    simp only [List.map_cons, List.map_nil]
    rw [psh_1, psh_1]
    by_cases q : x = a
    · rw [if_pos q, if_pos (A.inj.mpr q)]; rfl
    · rw [if_neg q, if_neg (fun z => q (A.inj.mp z))]; rfl
  | a :: b :: r => by
    simp only [List.map_cons]
    rw [psh_2, psh_2]
    have e1 : (min (φ a) (φ b) ≤ φ x ∧ φ x ≤ max (φ a) (φ b)) ↔ (min a b ≤ x ∧ x ≤ max a b) := by
      rw [A.eq a, A.eq b, A.eq x]
      rcases A.sg with z | z <;> rw [z] <;> omega
    have e2 : ((φ a < φ b ∧ φ b < φ x) ∨ (φ b < φ a ∧ φ x < φ b)) ↔ ((a < b ∧ b < x) ∨ (b < a ∧ x < b)) := by
      rw [A.eq a, A.eq b, A.eq x]
      rcases A.sg with z | z <;> rw [z] <;> omega
    by_cases q : min a b ≤ x ∧ x ≤ max a b
    · rw [if_pos q, if_pos (e1.mpr q)]; rfl
    · rw [if_neg q, if_neg (fun z => q (e1.mp z))]
      by_cases q2 : (a < b ∧ b < x) ∨ (b < a ∧ x < b)
      · rw [if_pos q2, if_pos (e2.mpr q2)]; rfl
      · rw [if_neg q2, if_neg (fun z => q2 (e2.mp z))]; rfl
theorem a_stR (A : Aff φ s c) : ∀ row : List Int, stR (row.map φ) = (stR row).map φ
  | [] => rfl
  | a :: row => by
    rw [List.map_cons, stR_cons, stR_cons, a_stR A row, a_psh A]
/-- a swing moved -/
def pr2 (φ : Int → Int) (q : Int × Int) : Int × Int := (min (φ q.1) (φ q.2), max (φ q.1) (φ q.2))
theorem a_inn (A : Aff φ s c) (d e b a : Int) : inn (φ d) (φ e) (φ b) (φ a) = inn d e b a := by
  unfold inn
  rw [A.eq a, A.eq b, A.eq d, A.eq e]
  simp only [absI_max]
  rcases A.sg with z | z <;> rw [z] <;> congr 1 <;> (congr 1; apply propext; omega)
theorem a_red (A : Aff φ s c) : ∀ (n : Nat) (ps : List (Int × Int)) (R : List Int), red n (ps.map (pr2 φ)) (R.map φ) = (((red n ps R).1).map (pr2 φ), ((red n ps R).2).map φ)
  | 0, ps, R => by simp [red]
  | n + 1, ps, [] => by simp [red]
  | n + 1, ps, [a] => by simp [red]
  | n + 1, ps, [a, b] => by simp [red]
  | n + 1, ps, [a, b, d] => by simp [red]
  | n + 1, ps, d :: e :: b :: a :: r => by
    simp only [List.map_cons]
    cases hin : inn d e b a with
    | false =>
      have hin2 : inn (φ d) (φ e) (φ b) (φ a) = false := by rw [a_inn A, hin]
      simp [red, hin, hin2]
    | true =>
      have hin2 : inn (φ d) (φ e) (φ b) (φ a) = true := by rw [a_inn A, hin]
      rw [red_go hin, red_go hin2]
      have ih := a_red A n (ps ++ [(min b e, max b e)]) (d :: a :: r)
      rw [List.map_append, List.map_cons, List.map_nil] at ih
      have e3 : pr2 φ (min b e, max b e) = (min (φ b) (φ e), max (φ b) (φ e)) := by
        unfold pr2
        simp only [A.eq]
        rcases A.sg with z | z <;> rw [z] <;> congr 1 <;> omega
      rw [e3] at ih
      exact ih
theorem a_swings (A : Aff φ s c) (row : List Int) : swings (row.map φ) = (((swings row).1).map (pr2 φ), ((swings row).2).map φ) := by
  have key : ∀ (F : List Int) (st : List (Int × Int) × List Int), (F.map φ).foldl pushS (st.1.map (pr2 φ), st.2.map φ) = (((F.foldl pushS st).1).map (pr2 φ), ((F.foldl pushS st).2).map φ) := by
    intro F
    induction F with
    | nil => intro st; rfl
    | cons p F ih =>
      intro st
      rw [List.map_cons, List.foldl_cons, List.foldl_cons, ← ih]
      congr 1
      unfold pushS
      simp only [List.length_map]
      have := a_red A (st.2.length + 1) st.1 (p :: st.2)
      rw [List.map_cons] at this
      exact this
  unfold swings
  rw [a_turnF A]
  exact key (turnF row) ([], [])
theorem a_way (A : Aff φ s c) : ∀ l : List Int, way (l.map φ) = way l
  | [] => rfl
  | [a] => rfl
  | a :: b :: l => by
    have ih := a_way A (b :: l)
    simp only [List.map_cons] at ih ⊢
    simp only [way]
    rw [ih, A.eq a, A.eq b]
    simp only [absI_max]
    rcases A.sg with z | z <;> rw [z] <;> omega
theorem a_gone (A : Aff φ s c) {D : Int} (hD : 0 ≤ D) : ∀ (l : List Int) (w : Int), gone D (φ w) (l.map φ) = gone D w l
  | [], w => rfl
  | a :: l, w => by
    simp only [List.map_cons, gone]
    rw [a_drag A hD, a_gone A hD l]
    rw [A.eq (drag D a w), A.eq w]
    simp only [absI_max]
    rcases A.sg with z | z <;> rw [z] <;> omega
/-! musts -/
def psi (s : Int) (m : Int × Int) : Int × Int := (m.1, s * m.2)
theorem a_wP (A : Aff φ s c) {h j : Int} {ws : List Int} (h1 : -1 ≤ j) (h2 : j < ws.length) : wP (φ h) (ws.map φ) j = φ (wP h ws j) := by
  unfold wP
  by_cases q : j = -1
  · rw [if_pos q, if_pos q]
  · rw [if_neg q, if_neg q]
    unfold pick
    have hj : j.toNat < ws.length := by omega
    simp [List.getElem?_eq_getElem, hj]
theorem a_FM (A : Aff φ s c) {h e : Int} {ws g : List Int} {m : Option (Int × Int)} (hg : g.length = ws.length) (hm : FM h ws e g m) : FM (φ h) (ws.map φ) (φ e) (g.map φ) (m.map (psi s)) := by
  have e1 : ∀ j : Int, -1 ≤ j → j < ws.length → wP (φ h) (ws.map φ) j = φ (wP h ws j) := fun j a b => a_wP A a b
  have e2 : ∀ j : Int, -1 ≤ j → j < ws.length → wP (φ e) (g.map φ) j = φ (wP e g j) := fun j a b => a_wP A a (by omega)
  cases hm with
  | no hq =>
    refine .no fun j j1 j2 => ?_
    rw [List.length_map] at j2
    rw [e1 j j1 j2, e2 j j1 j2, hq j j1 j2]
  | so w1 w2 w3 w4 w5 =>
    rename_i w t
    refine .so w1 (by simpa using w2) ?_ ?_ fun j j1 j2 => ?_
    · rcases A.sg with z | z <;> rw [z] <;> omega
    · rw [e1 w w1 w2, e2 w w1 w2, A.eq, A.eq]
      have : s * t * (s * wP e g w + c - (s * wP h ws w + c)) = t * (wP e g w - wP h ws w) := by
        rcases A.sg with z | z <;> rw [z] <;> rcases w3 with y | y <;> rw [y] <;> omega
      rw [this]
      exact w4
    · rw [List.length_map] at j2
      rw [e1 j (by omega) j2, e2 j (by omega) j2, w5 j j1 j2]
theorem a_mpl {d g g' : Int → Int} (A : Aff φ s c) {m : Int × Int} (h : g' m.1 = φ (g m.1)) : mpl d g' (psi s m) = φ (mpl d g m) := by
  unfold mpl psi
  simp only
  rw [h, A.eq, A.eq]
  rcases A.sg with z | z <;> rw [z] <;> simp only [Int.one_mul, Int.neg_mul] <;> omega
theorem a_nxB {d g g' : Int → Int} (A : Aff φ s c) {a m : Int × Int} (h1 : g' a.1 = φ (g a.1)) (h2 : g' m.1 = φ (g m.1)) (ha : a.2 = 1 ∨ a.2 = -1) : nxB d g' (psi s a) (psi s m) = nxB d g a m := by
  unfold nxB
  rw [a_mpl A h1]
  have e1 : (psi s m).2 = -(psi s a).2 ↔ m.2 = -a.2 := by
    unfold psi
    simp only
    rcases A.sg with z | z <;> rw [z] <;> omega
  have e2 : (psi s a).2 * (φ (mpl d g a) - (psi s a).2 * d (psi s m).1 - g' (psi s m).1) = a.2 * (mpl d g a - a.2 * d m.1 - g m.1) := by
    have e3 : (psi s m).1 = m.1 := rfl
    have e4 : (psi s a).2 = s * a.2 := rfl
    rw [e3, e4, h2, A.eq, A.eq]
    generalize mpl d g a = x
    generalize d m.1 = y
    generalize g m.1 = v
    rcases A.sg with z | z <;> rw [z] <;> rcases ha with w | w <;> rw [w] <;> simp only [Int.one_mul, Int.neg_mul, Int.neg_neg, Int.mul_one, Int.mul_neg] <;> omega
  rw [e2]
  congr 1
  exact decide_eq_decide.mpr e1
theorem a_papR {d g g' : Int → Int} (A : Aff φ s c) {n : Int} (hgg : ∀ j, -1 ≤ j → j < n → g' j = φ (g j)) : ∀ (l : List Int) (T : List (Int × Int)), (∀ i ∈ l, -1 ≤ i ∧ i < n) → (∀ m ∈ T, Mst n m) → l.foldl (stp d g') (T.map (psi s)) = (l.foldl (stp d g) T).map (psi s)
  | [], T, _, _ => rfl
  | i :: l, T, hl, hT => by
    have hi := hl i List.mem_cons_self
    rw [List.foldl_cons, List.foldl_cons]
    match T, hT with
    | [], hT =>
      exact a_papR A hgg l [] (fun j hj => hl j (List.mem_cons_of_mem _ hj)) hT
    | a :: r, hT =>
      obtain ⟨a1, a2, a3⟩ := hT a List.mem_cons_self
      have nx := a_nxB (d := d) (g := g) (g' := g') A (a := a) (m := (i, -a.2)) (hgg _ a1 a2) (hgg _ hi.1 hi.2) a3
      have e1 : psi s (i, -a.2) = (i, -(psi s a).2) := by
        unfold psi
        simp only [Int.mul_neg]
      rw [e1] at nx
      have step : stp d g' ((a :: r).map (psi s)) i = (stp d g (a :: r) i).map (psi s) := by
        simp only [List.map_cons, stp]
        rw [nx]
        by_cases q : nxB d g a (i, -a.2) = true
        · rw [if_pos q, if_pos q]
          simp only [List.map_cons, e1]
        · rw [if_neg q, if_neg q]
          rfl
      rw [step]
      refine a_papR A hgg l _ (fun j hj => hl j (List.mem_cons_of_mem _ hj)) ?_
      intro m hm
      simp only [stp] at hm
      split at hm
      · rcases List.mem_cons.mp hm with z | z
        · rw [z]; exact ⟨hi.1, hi.2, by simp only; omega⟩
        · exact hT m z
      · exact hT m hm
end
end Sm
/-! walkers: how they lie in an abstract heap; their methods' promises. -/
namespace Sm
open PySem PySem.Spec PyProof.Rows L2
variable {K : PySem.W.Frag}
/-- o.f = .., as one of several targets -/
def gFld (K : PySem.W.Frag) (to : TE) (f : Str) : TG := fun v σ H Q => to σ H fun x H2 => ∃ a C dx fs, x = .ref a ∧ H2 a = some (.ins C dx fs) ∧ Cls K C ∧ NoAttr K C f ∧ fs.length < 1000 ∧ Q σ (upd H2 a (.ins C dx (putF f v fs)))
theorem pg_fld {X : Cx} {o : Expr} {f : Str} {pos : Pos} {to : TE} (ho : PE X o to) : PG X (.Attribute o f pos) (gFld X.K to f) := by
  refine ⟨fun pins s σ H v u Q I r h => ?_⟩
  rw [assign_Attribute]
  refine wpAny_bind (wpAny_holding (thn (ho.run pins s σ H _ I h) fun ov s1 ⟨x, H1, I1, rx, a, C, dx, fs, ex, ea, c, n, l, q⟩ => ?_))
  subst ex
  obtain rfl : ov = Value.ref a := rx
  refine wpAny_bind (wpAny_standAt (wpAny_bind (wpAny_holding (setattr_ok I1 ea c n l r fun s2 I2 => ?_))))
  exact wpAny_release ⟨σ, _, I2, q⟩
abbrev cW (K : PySem.W.Frag) : Addr := He.ga K "Walker"
def wkF (kp : Addr) (a : Int) (li go fo : Addr) : List (Str × V) := [("kept_plays", .ref kp), ("stands_at", .int a), ("lies", .ref li), ("gone", .ref go), ("former", .ref fo)]
structure WkT (K : PySem.W.Frag) (mg : Str → Option Value) : Prop where
  cl : Cls K (cW K)
  n1 : NoAttr K (cW K) "kept_plays"
  n2 : NoAttr K (cW K) "stands_at"
  n3 : NoAttr K (cW K) "lies"
  n4 : NoAttr K (cW K) "gone"
  n5 : NoAttr K (cW K) "former"
  m1 : Meth K (cW K) "go" (He.ma K (cW K) "go")
  m2 : Meth K (cW K) "back" (He.ma K (cW K) "back")
  m3 : Meth K (cW K) "handle" (He.ma K (cW K) "handle")
  m4 : Meth K (cW K) "wheels" (He.ma K (cW K) "wheels")
  m5 : Meth K (cW K) "ways" (He.ma K (cW K) "ways")
  mkw : Mk K (cW K) (He.ma K (cW K) "__init__")
  g : mg "Walker" = some (.ref (cW K))
section
variable (kp : Addr) (a : Int) (li go fo : Addr)
theorem wkF_1 : (wkF kp a li go fo).lookup ("kept_plays" : Str) = some (.ref kp) := by rfl
theorem wkF_2 : (wkF kp a li go fo).lookup ("stands_at" : Str) = some (.int a) := by rfl
theorem wkF_3 : (wkF kp a li go fo).lookup ("lies" : Str) = some (.ref li) := by rfl
theorem wkF_4 : (wkF kp a li go fo).lookup ("gone" : Str) = some (.ref go) := by rfl
theorem wkF_5 : (wkF kp a li go fo).lookup ("former" : Str) = some (.ref fo) := by rfl
theorem wkF_o1 : (wkF kp a li go fo).lookup ("go" : Str) = none := by rfl
theorem wkF_o2 : (wkF kp a li go fo).lookup ("back" : Str) = none := by rfl
theorem wkF_o3 : (wkF kp a li go fo).lookup ("handle" : Str) = none := by rfl
theorem wkF_o4 : (wkF kp a li go fo).lookup ("wheels" : Str) = none := by rfl
theorem wkF_o5 : (wkF kp a li go fo).lookup ("ways" : Str) = none := by rfl
theorem wkF_p2 (a' : Int) : putF "stands_at" (.int a') (wkF kp a li go fo) = wkF kp a' li go fo := by rfl
theorem wkF_p3 (l : Addr) : putF "lies" (.ref l) (wkF kp a li go fo) = wkF kp a l go fo := by rfl
theorem wkF_p4 (l : Addr) : putF "gone" (.ref l) (wkF kp a li go fo) = wkF kp a li l fo := by rfl
end
def wk1 (kp : Addr) : List (Str × V) := [("kept_plays", .ref kp)]
def wk2 (kp : Addr) (a : Int) : List (Str × V) := [("kept_plays", .ref kp), ("stands_at", .int a)]
def wk3 (kp : Addr) (a : Int) (li : Addr) : List (Str × V) := [("kept_plays", .ref kp), ("stands_at", .int a), ("lies", .ref li)]
def wk4 (kp : Addr) (a : Int) (li go : Addr) : List (Str × V) := [("kept_plays", .ref kp), ("stands_at", .int a), ("lies", .ref li), ("gone", .ref go)]
theorem wkF_mk1 (kp : Addr) : putF "kept_plays" (.ref kp) [] = wk1 kp := by rfl
theorem wkF_mk2 (kp : Addr) (a : Int) : putF "stands_at" (.int a) (wk1 kp) = wk2 kp a := by rfl
theorem wkF_mk3 (kp : Addr) (a : Int) (li : Addr) : putF "lies" (.ref li) (wk2 kp a) = wk3 kp a li := by rfl
theorem wkF_mk4 (kp : Addr) (a : Int) (li go : Addr) : putF "gone" (.ref go) (wk3 kp a li) = wk4 kp a li go := by rfl
theorem wkF_mk5 (kp : Addr) (a : Int) (li go fo : Addr) : putF "former" (.ref fo) (wk4 kp a li go) = wkF kp a li go fo := by rfl
def iV (l : List Int) : List V := l.map V.int
/-- a walker's state, plainly -/
structure Ws where
  a : Int
  ws : List Int
  gs : List Int
structure Pe where
  t : Addr
  l : Addr
  g : Addr
  s : Ws
structure WkAt (K : PySem.W.Frag) (H : Hp) (b dx kp li go fo : Addr) (ps : List Int) (cur : Ws) (past : List Pe) : Prop where
  hob : H b = some (.ins (cW K) dx (wkF kp cur.a li go fo))
  hkp : H kp = some (.lst (iV ps))
  hli : H li = some (.lst (iV cur.ws))
  hgo : H go = some (.lst (iV cur.gs))
  hfo : H fo = some (.lst (past.map fun q => .ref q.t))
  htp : ∀ q ∈ past, H q.t = some (.tup [.int q.s.a, .ref q.l, .ref q.g]) ∧ H q.l = some (.lst (iV q.s.ws)) ∧ H q.g = some (.lst (iV q.s.gs))
  hnf : fo ≠ kp ∧ fo ≠ li ∧ fo ≠ go ∧ ∀ q ∈ past, fo ≠ q.l ∧ fo ≠ q.g
theorem WkAt.mono {H H' : Hp} {b dx kp li go fo : Addr} {ps : List Int} {cur : Ws} {past : List Pe} (w : WkAt K H b dx kp li go fo ps cur past) (s : Same H H') : WkAt K H' b dx kp li go fo ps cur past :=
  ⟨s _ _ w.hob, s _ _ w.hkp, s _ _ w.hli, s _ _ w.hgo, s _ _ w.hfo, fun q hq => ⟨s _ _ (w.htp q hq).1, s _ _ (w.htp q hq).2.1, s _ _ (w.htp q hq).2.2⟩, w.hnf⟩
theorem rps_iV {H : Hp} : ∀ xs : List Int, Rps K H (iV xs) (xs.map D.int)
  | [] => .nil
  | x :: xs => .cons (.int x) (rps_iV xs)
theorem rp_iV {H : Hp} {a : Addr} {xs : List Int} (h : H a = some (.lst (iV xs))) : Rp K H (.ref a) (iL xs) := Rp.mkL h (rps_iV xs)
theorem trs_iV {U H : Hp} : ∀ {xs : List Int} {vs : List V} {G : List Addr}, TRs K U H vs (xs.map iD) G → vs = iV xs
  | [], _, _, h => by cases h; rfl
  | x :: xs, _, _, h => by
    cases h with
    | cons a b =>
      cases a with
      | dat a =>
        cases a
        rw [trs_iV b]
        rfl
theorem own_iT {E U H : Hp} {v : V} {xs : List Int} (o : Own K E U H [(v, iT xs)]) : ∃ p, v = .ref p ∧ H p = some (.lst (iV xs)) ∧ E p = none := by
  obtain ⟨G, h, nd, f⟩ := o
  cases h with
  | cons a b =>
    cases a with
    | lst hp r =>
      have := trs_iV r
      subst this
      exact ⟨_, rfl, hp, (f _ (by simp)).2⟩
abbrev lsR (K : PySem.W.Frag) : List V → Hp → VK → Prop := fun xs H Q => ∃ p ys, xs = [.ref p] ∧ (SqL K H p ys ∨ SqT K H p ys) ∧ ∀ l, H l = none → Q (.ref l) (upd H l (.lst ys))
abbrev absR : List V → Hp → VK → Prop := fun xs H Q => ∃ i, xs = [.int i] ∧ Q (.int (if i < 0 then -i else i)) H
/-! ### handle, wheels, ways -/
def spWkHandle (K : PySem.W.Frag) : Sp := fun vs H Q _ => ∃ b dx kp li go fo ps cur past, vs = [.ref b] ∧ WkAt K H b dx kp li go fo ps cur past ∧ Q (.int cur.a) H
def spWkWheels (K : PySem.W.Frag) : Sp := fun vs H Q _ => ∃ b dx kp li go fo ps cur past, vs = [.ref b] ∧ WkAt K H b dx kp li go fo ps cur past ∧ ∀ l, H l = none → Q (.ref l) (upd H l (.lst (iV cur.ws)))
def spWkWays (K : PySem.W.Frag) : Sp := fun vs H Q _ => ∃ b dx kp li go fo ps cur past, vs = [.ref b] ∧ WkAt K H b dx kp li go fo ps cur past ∧ ∀ l, H l = none → Q (.ref l) (upd H l (.lst (iV cur.gs)))
theorem tr_wk_handle (T : WkT K mg) {N : List Str} {vs : List V} {H : Hp} {Q : VK} {E : XK} (hN : N.length = 1) (h : spWkHandle K vs H Q E) : tRet (tFld K (tVar 0) "stands_at") { nx := fun _ H' => Q .non H', rt := Q } (L2.start N vs) H := by
  obtain ⟨b, dx, kp, li, go, fo, ps, cur, past, rfl, w, q⟩ := h
  have e0 : L2.start N [.ref b] = [some (.ref b)] := by
    unfold L2.start
    rw [hN]
    rfl
  rw [e0]
  exact ⟨_, rfl, b, _, dx, _, _, rfl, w.hob, T.cl, T.n2, wkF_2 _ _ _ _ _, q⟩
theorem tr_wk_wheels (T : WkT K mg) {N : List Str} {vs : List V} {H : Hp} {Q : VK} {E : XK} (hN : N.length = 1) (h : spWkWheels K vs H Q E) : tRet (tCB (lsR K) (tCons (tFld K (tVar 0) "lies") tNil)) { nx := fun _ H' => Q .non H', rt := Q } (L2.start N vs) H := by
  obtain ⟨b, dx, kp, li, go, fo, ps, cur, past, rfl, w, q⟩ := h
  have e0 : L2.start N [.ref b] = [some (.ref b)] := by
    unfold L2.start
    rw [hN]
    rfl
  rw [e0]
  exact ⟨_, rfl, b, _, dx, _, _, rfl, w.hob, T.cl, T.n3, wkF_3 _ _ _ _ _, li, _, rfl, .inl (SqL.of w.hli), q⟩
theorem tr_wk_ways (T : WkT K mg) {N : List Str} {vs : List V} {H : Hp} {Q : VK} {E : XK} (hN : N.length = 1) (h : spWkWays K vs H Q E) : tRet (tCB (lsR K) (tCons (tFld K (tVar 0) "gone") tNil)) { nx := fun _ H' => Q .non H', rt := Q } (L2.start N vs) H := by
  obtain ⟨b, dx, kp, li, go, fo, ps, cur, past, rfl, w, q⟩ := h
  have e0 : L2.start N [.ref b] = [some (.ref b)] := by
    unfold L2.start
    rw [hN]
    rfl
  rw [e0]
  exact ⟨_, rfl, b, _, dx, _, _, rfl, w.hob, T.cl, T.n4, wkF_4 _ _ _ _ _, go, _, rfl, .inl (SqL.of w.hgo), q⟩
/-! ### made -/
def wS0 (h : Int) (ws : List Int) : Ws := ⟨h, ws, ws.map fun _ => 0⟩
def spWkInit (K : PySem.W.Frag) : Sp := fun vs H Q _ => ∃ b dx pl wl ps h ws, vs = [.ref b, .ref pl, .int h, .ref wl] ∧ H b = some (.ins (cW K) dx []) ∧ H pl = some (.lst (iV ps)) ∧ H wl = some (.lst (iV ws)) ∧ ws.length ≤ 100000 ∧ m_need_stand [iL ps, .int h, iL ws] = .ok (.dat .non) ∧
  ∀ H' kp li go fo, WkAt K H' b dx kp li go fo ps (wS0 h ws) [] → (∀ c o, H c = some o → c ≠ b → H' c = some o) → (H kp = none ∧ H li = none ∧ H go = none ∧ H fo = none) → Q .non H'
theorem tr_wk_init (T : WkT K mg) {N : List Str} {vs : List V} {H : Hp} {Q : VK} {E : XK} (hN : N.length = 5) (h : spWkInit K vs H Q E) :
    tSeq (tDrop (tCallS (spM K (ecK K) 3 m_need_stand) (fun _ => E) (tCons (tVar 1) (tCons (tVar 2) (tCons (tVar 3) tNil)))))
      (tSeq (sFld K (tVar 0) (tCB (lsR K) (tCons (tVar 1) tNil)) "kept_plays")
        (tSeq (sFld K (tVar 0) (tVar 2) "stands_at")
          (tSeq (sFld K (tVar 0) (tCB (lsR K) (tCons (tVar 3) tNil)) "lies")
            (tSeq (sFld K (tVar 0) (tLc (iList K (tVar 3)) (gName 4) tYes (tC (.int 0)) [4]) "gone")
              (sFld K (tVar 0) (tLst tNil) "former"))))) { nx := fun _ H' => Q .non H', rt := Q } (L2.start N vs) H := by
  obtain ⟨b, dx, pl, wl, ps, h, ws, rfl, hb, hp, hw, hlw, hm, q⟩ := h
  have e0 : L2.start N [.ref b, .ref pl, .int h, .ref wl] = [some (.ref b), some (.ref pl), some (.int h), some (.ref wl), none] := by
    unfold L2.start
    rw [hN]
    rfl
  rw [e0]
  refine ⟨_, rfl, _, rfl, _, rfl, [iL ps, .int h, iL ws], H, rfl, Same.refl _, .cons (rp_iV hp) (.cons (.int _) (.cons (rp_iV hw) .nil)), ?_⟩
  rw [hm]
  intro v U' H1 F
  have s1 : Same H H1 := F.eh
  have hb1 := s1 _ _ hb
  have hp1 := s1 _ _ hp
  have hw1 := s1 _ _ hw
  have nbp : pl ≠ b := ne_ho hp hb (by intro e; cases e)
  have nbw : wl ≠ b := ne_ho hw hb (by intro e; cases e)
  -- kept_plays
  refine ⟨_, rfl, pl, _, rfl, .inl (SqL.of hp1), fun kp hkp => ?_⟩
  have hb2 : upd H1 kp (.lst (iV ps)) b = some (.ins (cW K) dx []) := keepN hkp hb1
  refine ⟨_, rfl, b, _, dx, _, rfl, hb2, T.cl, T.n1, (by decide), ?_⟩
  rw [wkF_mk1]
  generalize hH2 : upd (upd H1 kp (.lst (iV ps))) b (.ins (cW K) dx (wk1 kp)) = H2
  have nkb : kp ≠ b := (ne_of_none hb1 hkp).symm
  have b2 : H2 b = some (.ins (cW K) dx (wk1 kp)) := by rw [← hH2]; exact upd_same
  have kp2 : H2 kp = some (.lst (iV ps)) := by rw [← hH2, upd_ne nkb]; exact upd_same
  have old2 : ∀ c o, H1 c = some o → c ≠ b → H2 c = some o := fun c o e hc => by rw [← hH2, upd_ne hc]; exact keepN hkp e
  -- stands_at
  refine ⟨_, rfl, _, rfl, b, _, dx, _, rfl, b2, T.cl, T.n2, (by show 1 < 1000; decide), ?_⟩
  rw [wkF_mk2]
  generalize hH3 : upd H2 b (.ins (cW K) dx (wk2 kp h)) = H3
  have b3 : H3 b = some (.ins (cW K) dx (wk2 kp h)) := by rw [← hH3]; exact upd_same
  have old3 : ∀ c o, H2 c = some o → c ≠ b → H3 c = some o := fun c o e hc => by rw [← hH3, upd_ne hc]; exact e
  -- lies
  have hw3 := old3 _ _ (old2 _ _ hw1 nbw) nbw
  refine ⟨_, rfl, wl, _, rfl, .inl (SqL.of hw3), fun li hli => ?_⟩
  refine ⟨_, rfl, b, _, dx, _, rfl, keepN hli b3, T.cl, T.n3, (by show 2 < 1000; decide), ?_⟩
  rw [wkF_mk3]
  generalize hH4 : upd (upd H3 li (.lst (iV ws))) b (.ins (cW K) dx (wk3 kp h li)) = H4
  have nlb : li ≠ b := (ne_of_none b3 hli).symm
  have b4 : H4 b = some (.ins (cW K) dx (wk3 kp h li)) := by rw [← hH4]; exact upd_same
  have li4 : H4 li = some (.lst (iV ws)) := by rw [← hH4, upd_ne nlb]; exact upd_same
  have old4 : ∀ c o, H3 c = some o → c ≠ b → H4 c = some o := fun c o e hc => by rw [← hH4, upd_ne hc]; exact keepN hli e
  have hw4 := old4 _ _ hw3 nbw
  -- gone
  refine ⟨_, rfl, wl, rfl, ⟨_, SqL.of hw4⟩, fun go hgo => ?_⟩
  have nwg : wl ≠ go := ne_of_none hw4 hgo
  refine lc_list (xs := iV ws) (fun i H' => H' = upd H4 go (.lst (iV ((ws.take i).map fun _ => 0)))) rfl ?_ ?_ ?_
  · rintro i H' - rfl
    exact SqL.of ((upd_ne nwg).trans hw4)
  · rintro i x H' hx rfl
    have hi : i < ws.length := by
      have := (List.getElem?_eq_some_iff.mp hx).1
      unfold iV at this
      simpa using this
    refine ⟨rfl, _, upd_same, ?_, ?_⟩
    · unfold iV
      rw [List.length_map, List.length_map, List.length_take, sizeLine_eq]
      omega
    · have e : iV ((ws.take i).map fun _ => 0) ++ [V.int 0] = iV ((ws.take (i + 1)).map fun _ => 0) := by
        rw [List.take_add_one, List.getElem?_eq_getElem hi]
        show _ = ((ws.take i ++ [ws[i]]).map fun _ => (0 : Int)).map V.int
        rw [List.map_append, List.map_append]
        rfl
      rw [L2.upd_upd, e]
  · rintro H' rfl
    have e5 : (iV ws).length = ws.length := by unfold iV; simp
    rw [e5, List.take_length]
    refine ⟨_, rfl, b, _, dx, _, rfl, keepN hgo b4, T.cl, T.n4, (by show 3 < 1000; decide), ?_⟩
    rw [wkF_mk4]
    generalize hH5 : upd (upd H4 go (.lst (iV (ws.map fun _ => 0)))) b (.ins (cW K) dx (wk4 kp h li go)) = H5
    have ngb : go ≠ b := (ne_of_none b4 hgo).symm
    have b5 : H5 b = some (.ins (cW K) dx (wk4 kp h li go)) := by rw [← hH5]; exact upd_same
    have go5 : H5 go = some (.lst (iV (ws.map fun _ => 0))) := by rw [← hH5, upd_ne ngb]; exact upd_same
    have old5 : ∀ c o, H4 c = some o → c ≠ b → H5 c = some o := fun c o e hc => by rw [← hH5, upd_ne hc]; exact keepN hgo e
    -- former
    refine ⟨by rw [sizeLine_eq]; decide, fun fo hfo => ?_⟩
    refine ⟨_, rfl, b, _, dx, _, rfl, keepN hfo b5, T.cl, T.n5, (by show 4 < 1000; decide), ?_⟩
    rw [wkF_mk5]
    have nfb : fo ≠ b := (ne_of_none b5 hfo).symm
    have kp5 := old5 _ _ (old4 _ _ (old3 _ _ kp2 nkb) nkb) nkb
    have li5 := old5 _ _ li4 nlb
    have fin : ∀ c o, H5 c = some o → c ≠ b → upd (upd H5 fo (.lst [])) b (.ins (cW K) dx (wkF kp h li go fo)) c = some o := fun c o e hc => by rw [upd_ne hc]; exact keepN hfo e
    have back : ∀ {c}, c ≠ b → H5 c = none → H c = none := fun {c} hc e => by
      cases z : H c with
      | none => rfl
      | some o =>
        rw [old5 _ _ (old4 _ _ (old3 _ _ (old2 _ _ (s1 _ _ z) hc) hc) hc) hc] at e
        cases e
    have back4 : ∀ {c}, c ≠ b → H4 c = none → H c = none := fun {c} hc e => by
      cases z : H c with
      | none => rfl
      | some o =>
        rw [old4 _ _ (old3 _ _ (old2 _ _ (s1 _ _ z) hc) hc) hc] at e
        cases e
    have back3 : ∀ {c}, c ≠ b → H3 c = none → H c = none := fun {c} hc e => by
      cases z : H c with
      | none => rfl
      | some o =>
        rw [old3 _ _ (old2 _ _ (s1 _ _ z) hc) hc] at e
        cases e
    refine q _ kp li go fo ⟨upd_same, fin _ _ kp5 nkb, fin _ _ li5 nlb, fin _ _ go5 ngb, ?_, fun q hq => (by cases hq), ?_⟩ (fun c o e hc => ?_) ⟨?_, back3 nlb hli, back4 ngb hgo, back nfb hfo⟩
    · rw [upd_ne nfb]
      exact upd_same
    · exact ⟨(ne_of_none kp5 hfo).symm, (ne_of_none li5 hfo).symm, (ne_of_none go5 hfo).symm, fun q hq => (by cases hq)⟩
    · exact fin _ _ (old5 _ _ (old4 _ _ (old3 _ _ (old2 _ _ (s1 _ _ e) hc) hc) hc) hc) hc
    · cases z : H kp with
      | none => rfl
      | some o =>
        rw [s1 _ _ z] at hkp
        cases hkp
end Sm
/-! walkers: go and back. -/
namespace Sm
open PySem PySem.Spec PyProof.Rows L2
variable {K : PySem.W.Frag}
/-- over zip of three lists of one length -/
theorem lc_zip3 {a b c : Addr} {xs ys zs : List V} {n : Nat} {g : TG} {tt : TT} {te : TE} {vs : List Nat} {σ : L2.St} {H1 : Hp} {D : Addr} {Qd : Hp → Prop} (hx : xs.length = n) (hy : ys.length = n) (hz : zs.length = n) (Pv : Nat → Hp → Prop) (h0 : Pv 0 (upd H1 D (.lst []))) (hl : ∀ i H, Pv i H → SqL K H a xs ∧ SqL K H b ys ∧ SqL K H c zs)
    (hs : ∀ i x y z T H, xs[i]? = some x → ys[i]? = some y → zs[i]? = some z → Pv i H → H T = none → g (.ref T) (wipe σ vs) (upd H T (.tup [x, y, z])) fun σ2 H2 => wipe σ2 vs = wipe σ vs ∧ tt σ2 H2 fun b H3 =>
      if b = true then te σ2 H3 fun y H4 => ∃ acc, H4 D = some (.lst acc) ∧ acc.length < sizeLine ∧ Pv (i + 1) (upd H4 D (.lst (acc ++ [y]))) else Pv (i + 1) H3) (hd : ∀ H, Pv n H → Qd H) :
    ∃ W : Nat → Nat → Hp → Prop, (∃ m, W 0 m (upd H1 D (.lst []))) ∧ ∀ i m H, W i m H →
      ((Itz3 K a b c).stop i H ∧ Qd H) ∨ ((Itz3 K a b c).go i H ∧ ∃ Nx : Hp → Prop, (∀ H', Nx H' → ∃ m', m' < m ∧ W (i + 1) m' H') ∧ ∀ x H', (Itz3 K a b c).yld i H x H' → g x (wipe σ vs) H' fun σ2 H2 => wipe σ2 vs = wipe σ vs ∧ tt σ2 H2 fun b H3 =>
        if b = true then te σ2 H3 fun y H4 => ∃ acc, H4 D = some (.lst acc) ∧ acc.length < sizeLine ∧ Nx (upd H4 D (.lst (acc ++ [y]))) else Nx H3) := by
  refine ⟨fun i m H => m = n - i ∧ i ≤ n ∧ Pv i H, ⟨n, by simp, Nat.zero_le _, h0⟩, ?_⟩
  rintro i m H ⟨rfl, hi, p⟩
  obtain ⟨qx, qy, qz⟩ := hl i H p
  by_cases hlt : i < n
  · have gx : xs[i]? = some (xs[i]'(by omega)) := List.getElem?_eq_getElem _
    have gy : ys[i]? = some (ys[i]'(by omega)) := List.getElem?_eq_getElem _
    have gz : zs[i]? = some (zs[i]'(by omega)) := List.getElem?_eq_getElem _
    refine .inr ⟨⟨xs, ys, zs, _, _, _, qx, qy, qz, gx, gy, gz⟩, Pv (i + 1), fun H' p' => ⟨n - (i + 1), by omega, rfl, hlt, p'⟩, fun v H' y => ?_⟩
    obtain ⟨T, x', y', z', rfl, hT, rfl, f1, f2, f3⟩ := y
    exact hs i x' y' z' T H (f1 xs qx) (f2 ys qy) (f3 zs qz) p hT
  · have e : i = n := by omega
    subst e
    exact .inl ⟨⟨xs, ys, zs, qx, qy, qz, hx, hy, hz⟩, hd H p⟩
def wayF : List Int → List Int → List Int → List Int
  | g :: gs, t :: ts, h :: hs => (g + absI (t - h)) :: wayF gs ts hs
  | _, _, _ => []
theorem wayF_len : ∀ {gs ts hs : List Int} {n : Nat}, gs.length = n → ts.length = n → hs.length = n → (wayF gs ts hs).length = n
  | [], [], [], n, h, _, _ => h
  | g :: gs, t :: ts, h :: hs, n, e1, e2, e3 => by
    obtain ⟨m, rfl⟩ : ∃ m, n = m + 1 := ⟨n - 1, by simp at e1; omega⟩
    simp at e1 e2 e3
    show (wayF gs ts hs).length + 1 = m + 1
    rw [wayF_len e1 e2 e3]
  | [], _ :: _, _, n, e1, e2, _ => by simp at e1 e2; omega
  | [], [], _ :: _, n, e1, _, e3 => by simp at e1 e3; omega
  | _ :: _, [], _, n, e1, e2, _ => by simp at e1 e2; omega
  | _ :: _, _ :: _, [], n, e1, _, e3 => by simp at e1 e3; omega
theorem wayF_at : ∀ {gs ts hs : List Int} {i : Nat} {g t h : Int}, gs[i]? = some g → ts[i]? = some t → hs[i]? = some h → (wayF gs ts hs)[i]? = some (g + absI (t - h))
  | [], _, _, i, g, t, h, e1, _, _ => by simp at e1
  | _ :: _, [], _, i, g, t, h, _, e2, _ => by simp at e2
  | _ :: _, _ :: _, [], i, g, t, h, _, _, e3 => by simp at e3
  | g0 :: gs, t0 :: ts, h0 :: hs, 0, g, t, h, e1, e2, e3 => by
    simp at e1 e2 e3
    subst e1 e2 e3
    rfl
  | g0 :: gs, t0 :: ts, h0 :: hs, i + 1, g, t, h, e1, e2, e3 => by
    simp at e1 e2 e3
    show (wayF gs ts hs)[i]? = _
    exact wayF_at e1 e2 e3
theorem iV_at {xs : List Int} {i : Nat} {v : V} (h : (iV xs)[i]? = some v) : ∃ x, xs[i]? = some x ∧ v = .int x := by
  unfold iV at h
  rw [List.getElem?_map] at h
  obtain ⟨x, h1, h2⟩ := Option.map_eq_some_iff.mp h
  exact ⟨x, h1, h2.symm⟩
theorem iV_len (xs : List Int) : (iV xs).length = xs.length := by unfold iV; simp
abbrev rSb : R2 := rI0 fun i j => .int (i - j)
def goneS (cur : Ws) (place : Int) (ws' : List Int) : Ws := ⟨place, ws', wayF cur.gs ws' cur.ws⟩
def spWkGo (K : PySem.W.Frag) : Sp := fun vs H Q _ => ∃ b dx kp li go fo ps cur past place ws', vs = [.ref b, .int place] ∧ WkAt K H b dx kp li go fo ps cur past ∧ past.length ≤ 100000 ∧ cur.ws.length ≤ 100000 ∧ cur.gs.length = cur.ws.length ∧ ws'.length = cur.ws.length ∧
  m_dragged_all [iL ps, iL cur.ws, .int place] = .ok (iT ws') ∧
  ∀ H' l t li' go', WkAt K H' b dx kp li' go' fo ps (goneS cur place ws') (past ++ [⟨t, li, go, cur⟩]) → H' l = some (.lst (iV ws')) → (H l = none ∧ l ≠ li' ∧ l ≠ go' ∧ l ≠ t) → (H li' = none ∧ H go' = none ∧ H t = none) → (∀ c o, H c = some o → c ≠ b → c ≠ fo → H' c = some o) → Q (.ref l) H'
theorem tr_wk_go (T : WkT K mg) {N : List Str} {vs : List V} {H : Hp} {Q : VK} {E : XK} (hN : N.length = 6) (h : spWkGo K vs H Q E) :
    tSeq (tDrop (tBM K "list" rAppend (tFld K (tVar 0) "former") (tCons (tTup (tCons (tFld K (tVar 0) "stands_at") (tCons (tFld K (tVar 0) "lies") (tCons (tFld K (tVar 0) "gone") tNil)))) tNil)))
      (tSeq (tAsg (tCallS (spM K (ecK K) 3 m_dragged_all) (fun _ => E) (tCons (tFld K (tVar 0) "kept_plays") (tCons (tFld K (tVar 0) "lies") (tCons (tVar 1) tNil)))) (gName 2))
        (tSeq (sFld K (tVar 0) (tLc (iZip3 K (tCons (tFld K (tVar 0) "gone") (tCons (tVar 2) (tCons (tFld K (tVar 0) "lies") tNil)))) (gTup K 3 (gCons (gName 3) (gCons (gName 4) (gCons (gName 5) gNil)))) tYes (tOp rAdd (tVar 3) (tCB absR (tCons (tOp rSb (tVar 4) (tVar 5)) tNil))) [3, 4, 5]) "gone")
          (tSeq (sFld K (tVar 0) (tVar 1) "stands_at")
            (tSeq (sFld K (tVar 0) (tVar 2) "lies")
              (tRet (tCB (lsR K) (tCons (tVar 2) tNil))))))) { nx := fun _ H' => Q .non H', rt := Q } (L2.start N vs) H := by
  obtain ⟨b, dx, kp, li, go, fo, ps, cur, past, place, ws', rfl, w, hpl, hcl, hgl, hwl, hm, q⟩ := h
  have e0 : L2.start N [.ref b, .int place] = [some (.ref b), some (.int place), none, none, none, none] := by
    unfold L2.start
    rw [hN]
    rfl
  rw [e0]
  -- former.append
  refine ⟨_, rfl, b, _, dx, _, _, rfl, w.hob, T.cl, T.n5, wkF_5 _ _ _ _ _, .inl ⟨rfl, _, SqL.of w.hfo⟩, ?_⟩
  refine ⟨_, rfl, b, _, dx, _, _, rfl, w.hob, T.cl, T.n2, wkF_2 _ _ _ _ _, _, rfl, b, _, dx, _, _, rfl, w.hob, T.cl, T.n3, wkF_3 _ _ _ _ _, _, rfl, b, _, dx, _, _, rfl, w.hob, T.cl, T.n4, wkF_4 _ _ _ _ _, ?_⟩
  refine ⟨by rw [sizeLine_eq]; show 3 ≤ 16777216; decide, fun t ht => ?_⟩
  refine ⟨fo, _, _, rfl, rfl, keepN ht w.hfo, by rw [List.length_map, sizeLine_eq]; omega, ?_⟩
  have nfb : fo ≠ b := ne_ho w.hfo w.hob (by intro e; cases e)
  have ntf : t ≠ fo := (ne_of_none w.hfo ht).symm
  generalize hH1 : upd (upd H t (.tup [.int cur.a, .ref li, .ref go])) fo (.lst ((past.map fun q => V.ref q.t) ++ [.ref t])) = H1
  have old1 : ∀ c o, H c = some o → c ≠ fo → H1 c = some o := fun c o e hc => by rw [← hH1, upd_ne hc]; exact keepN ht e
  have w1 : WkAt K H1 b dx kp li go fo ps cur (past ++ [⟨t, li, go, cur⟩]) := by
    refine ⟨old1 _ _ w.hob nfb.symm, old1 _ _ w.hkp w.hnf.1.symm, old1 _ _ w.hli w.hnf.2.1.symm, old1 _ _ w.hgo w.hnf.2.2.1.symm, ?_, fun q hq => ?_, w.hnf.1, w.hnf.2.1, w.hnf.2.2.1, fun q hq => ?_⟩
    · rw [← hH1, upd_same, List.map_append]
      rfl
    · rcases List.mem_append.mp hq with hq | hq
      · have k := w.htp q hq
        have kn := w.hnf.2.2.2 q hq
        exact ⟨old1 _ _ k.1 (ne_ho k.1 w.hfo (by intro e; cases e)), old1 _ _ k.2.1 kn.1.symm, old1 _ _ k.2.2 kn.2.symm⟩
      · rw [List.mem_singleton.mp hq]
        refine ⟨?_, old1 _ _ w.hli w.hnf.2.1.symm, old1 _ _ w.hgo w.hnf.2.2.1.symm⟩
        rw [← hH1, upd_ne ntf]
        exact upd_same
    · rcases List.mem_append.mp hq with hq | hq
      · exact w.hnf.2.2.2 q hq
      · rw [List.mem_singleton.mp hq]
        exact ⟨w.hnf.2.1, w.hnf.2.2.1⟩
  -- behind
  refine ⟨_, rfl, b, _, dx, _, _, rfl, w1.hob, T.cl, T.n1, wkF_1 _ _ _ _ _, _, rfl, b, _, dx, _, _, rfl, w1.hob, T.cl, T.n3, wkF_3 _ _ _ _ _, _, rfl, [iL ps, iL cur.ws, .int place], H1, rfl, Same.refl _, .cons (rp_iV w1.hkp) (.cons (rp_iV w1.hli) (.cons (.int _) .nil)), ?_⟩
  rw [hm]
  intro v U' H2 F
  obtain ⟨p, rfl, hp2, hp1⟩ := own_iT F.own
  have w2 := w1.mono F.eh
  have hpt : H1 t = some (.tup [.int cur.a, .ref li, .ref go]) := (w1.htp ⟨t, li, go, cur⟩ (by simp)).1
  -- gone
  refine ⟨_, rfl, b, _, dx, _, _, rfl, w2.hob, T.cl, T.n4, wkF_4 _ _ _ _ _, _, rfl, _, rfl, b, _, dx, _, _, rfl, w2.hob, T.cl, T.n3, wkF_3 _ _ _ _ _, go, p, li, _, _, _, rfl, SqL.of w2.hgo, SqL.of hp2, SqL.of w2.hli, fun D hD => ?_⟩
  have hDn : ∀ c o, H2 c = some o → c ≠ D := fun c o e => ne_of_none e hD
  refine lc_zip3 (xs := iV cur.gs) (ys := iV ws') (zs := iV cur.ws) (n := cur.ws.length) (by rw [iV_len]; exact hgl) (by rw [iV_len]; exact hwl) (iV_len _) (fun i H' => H' D = some (.lst (iV ((wayF cur.gs ws' cur.ws).take i))) ∧ ∀ c o, H2 c = some o → H' c = some o) ⟨?_, fun c o e => keepN hD e⟩ ?_ ?_ ?_
  · rw [List.take_zero]
    exact upd_same
  · rintro i H' ⟨_, k⟩
    exact ⟨SqL.of (k _ _ w2.hgo), SqL.of (k _ _ hp2), SqL.of (k _ _ w2.hli)⟩
  · rintro i x y z T' H' hx hy hz ⟨k1, k2⟩ hT'
    obtain ⟨g0, hx', ex⟩ := iV_at hx
    obtain ⟨t0, hy', ey⟩ := iV_at hy
    obtain ⟨h0, hz', ez⟩ := iV_at hz
    subst ex ey ez
    have hi : i < cur.ws.length := (List.getElem?_eq_some_iff.mp hz').1
    refine ⟨T', _, rfl, SqT.of upd_same, rfl, ?_⟩
    refine ⟨_, _, rfl, _, _, rfl, _, _, rfl, rfl, rfl, ?_⟩
    refine ⟨_, rfl, _, rfl, _, rfl, _, _, rfl, rfl, _, rfl, _, _, rfl, rfl, ?_⟩
    refine ⟨_, keepN hT' k1, ?_, ?_, fun c o e => ?_⟩
    · rw [iV_len, List.length_take, sizeLine_eq]
      omega
    · have hat := wayF_at hx' hy' hz'
      rw [upd_same, List.take_add_one, hat]
      show _ = some (HO.lst (((wayF cur.gs ws' cur.ws).take i ++ [g0 + absI (t0 - h0)]).map V.int))
      rw [List.map_append]
      rfl
    · rw [upd_ne (hDn _ _ e)]
      exact keepN hT' (k2 _ _ e)
  · rintro H3 ⟨k1, k2⟩
    have hlen := wayF_len hgl hwl rfl
    rw [← hlen, List.take_length] at k1
    have w3 := w2.mono k2
    have hp3 := k2 _ _ hp2
    -- the fields
    refine ⟨_, rfl, b, _, dx, _, rfl, w3.hob, T.cl, T.n4, (by show 5 < 1000; decide), ?_⟩
    rw [wkF_p4]
    refine ⟨_, rfl, _, rfl, b, _, dx, _, rfl, upd_same, T.cl, T.n2, (by show 5 < 1000; decide), ?_⟩
    rw [wkF_p2, L2.upd_upd]
    refine ⟨_, rfl, _, rfl, b, _, dx, _, rfl, upd_same, T.cl, T.n3, (by show 5 < 1000; decide), ?_⟩
    rw [wkF_p3, L2.upd_upd]
    have nb : ∀ c xs, H3 c = some (.lst xs) → c ≠ b := fun c xs e => ne_ho e w3.hob (by intro z; cases z)
    generalize hH4 : upd H3 b (.ins (cW K) dx (wkF kp place p D fo)) = H4
    have old4 : ∀ c o, H3 c = some o → c ≠ b → H4 c = some o := fun c o e hc => by rw [← hH4, upd_ne hc]; exact e
    have hp4 := old4 _ _ hp3 (nb _ _ hp3)
    have nfp : fo ≠ p := ne_of_none w1.hfo hp1
    have nfD : fo ≠ D := hDn _ _ w2.hfo
    have w4 : WkAt K H4 b dx kp p D fo ps (goneS cur place ws') (past ++ [⟨t, li, go, cur⟩]) := by
      refine ⟨?_, old4 _ _ w3.hkp (nb _ _ w3.hkp), hp4, old4 _ _ k1 (nb _ _ k1), old4 _ _ w3.hfo (nb _ _ w3.hfo), fun q hq => ?_, w3.hnf.1, nfp, nfD, w3.hnf.2.2.2⟩
      · rw [← hH4]
        exact upd_same
      · have k := w3.htp q hq
        exact ⟨old4 _ _ k.1 (ne_ho k.1 w3.hob (by intro z; cases z)), old4 _ _ k.2.1 (nb _ _ k.2.1), old4 _ _ k.2.2 (nb _ _ k.2.2)⟩
    refine ⟨_, rfl, p, _, rfl, .inl (SqL.of hp4), fun l hl => ?_⟩
    have up : ∀ c o, H c = some o → c ≠ b → c ≠ fo → H4 c = some o := fun c o e h1 h2 => old4 _ _ (k2 _ _ (F.eh _ _ (old1 _ _ e h2))) h1
    have free : ∀ c, c ≠ b → c ≠ fo → H4 c = none → H c = none := fun c h1 h2 e => by
      cases z : H c with
      | none => rfl
      | some o =>
        rw [up c o z h1 h2] at e
        cases e
    have h4t := old4 _ _ (k2 _ _ (F.eh _ _ hpt)) (ne_ho (k2 _ _ (F.eh _ _ hpt)) w3.hob (by intro z; cases z))
    refine q _ l t p D (w4.mono (same_new hl)) upd_same ⟨free l ?_ ?_ hl, (ne_of_none hp4 hl).symm, (ne_of_none w4.hgo hl).symm, (ne_of_none h4t hl).symm⟩ ⟨?_, ?_, ht⟩ fun c o e h1 h2 => keepN hl (up c o e h1 h2)
    · exact (ne_of_none w4.hob hl).symm
    · exact (ne_of_none w4.hfo hl).symm
    · cases z : H p with
      | none => rfl
      | some o =>
        have : p ≠ fo := nfp.symm
        rw [old1 _ _ z this] at hp1
        cases hp1
    · cases z : H D with
      | none => rfl
      | some o =>
        rw [F.eh _ _ (old1 _ _ z nfD.symm)] at hD
        cases hD
end Sm
/-! walkers: back. -/
namespace Sm
open PySem PySem.Spec PyProof.Rows L2
variable {K : PySem.W.Frag}
def psD (q : Pe) : D := .tup [.int q.s.a, iL q.s.ws, iL q.s.gs]
theorem rps_past {H : Hp} : ∀ {past : List Pe}, (∀ q ∈ past, H q.t = some (.tup [.int q.s.a, .ref q.l, .ref q.g]) ∧ H q.l = some (.lst (iV q.s.ws)) ∧ H q.g = some (.lst (iV q.s.gs))) → Rps K H (past.map fun q => V.ref q.t) (past.map psD)
  | [], _ => .nil
  | q :: past, h => by
    have k := h q List.mem_cons_self
    exact .cons (Rp.mkT k.1 (.cons (.int _) (.cons (rp_iV k.2.1) (.cons (rp_iV k.2.2) .nil)))) (rps_past fun y hy => h y (List.mem_cons_of_mem _ hy))
theorem eqD_inv {a b : D} {v : Bool} (h : eqD a b = .ok (.bl v)) : SeqAt.shaped a.py = true ∧ SeqAt.shaped b.py = true ∧ PyData.eqv a.py b.py = v := by
  unfold eqD at h
  split at h
  · rename_i c
    injection h with h
    injection h with h
    exact ⟨c.1, c.2, h⟩
  · cases h
theorem neD_inv {a b : D} {v : Bool} (h : neD a b = .ok (.bl v)) : SeqAt.shaped a.py = true ∧ SeqAt.shaped b.py = true ∧ (!PyData.eqv a.py b.py) = v := by
  unfold neD at h
  split at h
  · rename_i c
    injection h with h
    injection h with h
    exact ⟨c.1, c.2, h⟩
  · cases h
theorem sh_past (past : List Pe) : Sh 64 (.lst (past.map psD)) := sh_lst (n := 63) fun d hd => by
  obtain ⟨q, _, rfl⟩ := List.mem_map.mp hd
  exact sh_t3 (sh_int _ _) (sh_iL _ _) (sh_iL _ _)
theorem eq_past (past : List Pe) : eqD (.lst (past.map psD)) (.lst []) = .ok (.bl (decide (past = []))) := by
  have h0 : Sh 64 (.lst []) := sh_past []
  rw [eqD_sh (sh_past past) h0]
  cases past with
  | nil => rfl
  | cons q past => rfl
def spWkBack (K : PySem.W.Frag) : Sp := fun vs H Q E => ∃ b dx kp li go fo ps cur past, vs = [.ref b] ∧ WkAt K H b dx kp li go fo ps cur past ∧ (past = [] → ∀ H', Same H H' → E (.ref (ecK K 11)) none H') ∧
  ∀ past' q, past = past' ++ [q] → ∀ H', WkAt K H' b dx kp q.l q.g fo ps q.s past' → (∀ c o, H c = some o → c ≠ b → c ≠ fo → H' c = some o) → Q .non H'
theorem tr_wk_back (T : WkT K mg) {N : List Str} {vs : List V} {H : Hp} {Q : VK} {E : XK} (hN : N.length = 1) (h : spWkBack K vs H Q E) :
    tSeq (tIfS (tTest (tOp (rEqD K) (tFld K (tVar 0) "former") (tLst tNil))) (fun _ _ H => E (.ref (ecK K 11)) none H) tNext)
      (tAsg (tBM0 K "list" rPop (tFld K (tVar 0) "former")) (gTup K 3 (gCons (gFld K (tVar 0) "stands_at") (gCons (gFld K (tVar 0) "lies") (gCons (gFld K (tVar 0) "gone") gNil))))) { nx := fun _ H' => Q .non H', rt := Q } (L2.start N vs) H := by
  obtain ⟨b, dx, kp, li, go, fo, ps, cur, past, rfl, w, hE, q⟩ := h
  have e0 : L2.start N [.ref b] = [some (.ref b)] := by
    unfold L2.start
    rw [hN]
    rfl
  rw [e0]
  refine ⟨_, rfl, b, _, dx, _, _, rfl, w.hob, T.cl, T.n5, wkF_5 _ _ _ _ _, ?_⟩
  refine ⟨by rw [sizeLine_eq]; decide, fun p0 hp0 => ?_⟩
  have s0 := same_new (o := .lst []) hp0
  have w0 := w.mono s0
  have r1 : Rp K (upd H p0 (.lst [])) (.ref fo) (.lst (past.map psD)) := Rp.mkL w0.hfo (rps_past w0.htp)
  have r2 : Rp K (upd H p0 (.lst [])) (.ref p0) (.lst []) := Rp.mkL upd_same .nil
  obtain ⟨c1, c2, c3⟩ := eqD_inv (eq_past past)
  refine ⟨_, _, r1.dp, r2.dp, c1, c2, _, rfl, ?_⟩
  rw [c3]
  by_cases c : past = []
  · exact ifY (decide_eq_true c) (hE c _ s0)
  refine ifN (decide_eq_false c) ?_
  obtain ⟨past', z, rfl⟩ : ∃ past' z, past = past' ++ [z] := by
    rcases List.eq_nil_or_concat past with e | ⟨A, x, e⟩
    · exact absurd e c
    · exact ⟨A, x, by rw [e]; simp⟩
  refine ⟨_, rfl, b, _, dx, _, _, rfl, w0.hob, T.cl, T.n5, wkF_5 _ _ _ _ _, .inl ⟨rfl, _, SqL.of w0.hfo⟩, ?_⟩
  have e1 : ((past' ++ [z]).map fun q => V.ref q.t) = (past'.map fun q => V.ref q.t) ++ [.ref z.t] := by rw [List.map_append]; rfl
  refine ⟨fo, _, .ref z.t, rfl, rfl, w0.hfo, ?_, ?_⟩
  · rw [e1]
    simp
  rw [e1, List.dropLast_concat]
  have nfb : fo ≠ b := ne_ho w.hfo w.hob (by intro e; cases e)
  generalize hH1 : upd (upd H p0 (.lst [])) fo (.lst (past'.map fun q => V.ref q.t)) = H1
  have old1 : ∀ c o, upd H p0 (.lst []) c = some o → c ≠ fo → H1 c = some o := fun c o e hc => by rw [← hH1, upd_ne hc]; exact e
  have kz := w0.htp z (by simp)
  have nz := w0.hnf.2.2.2 z (by simp)
  have b1 := old1 _ _ w0.hob nfb.symm
  have ntz : z.t ≠ fo := ne_ho kz.1 w0.hfo (by intro e; cases e)
  refine ⟨z.t, _, rfl, SqT.of (old1 _ _ kz.1 ntz), rfl, ?_⟩
  refine ⟨_, _, rfl, _, rfl, b, _, dx, _, rfl, b1, T.cl, T.n2, (by show 5 < 1000; decide), ?_⟩
  rw [wkF_p2]
  refine ⟨_, _, rfl, _, rfl, b, _, dx, _, rfl, upd_same, T.cl, T.n3, (by show 5 < 1000; decide), ?_⟩
  rw [wkF_p3, L2.upd_upd]
  refine ⟨_, _, rfl, _, rfl, b, _, dx, _, rfl, upd_same, T.cl, T.n4, (by show 5 < 1000; decide), rfl, ?_⟩
  rw [wkF_p4, L2.upd_upd]
  have nb : ∀ c xs, H1 c = some (.lst xs) → c ≠ b := fun c xs e => ne_ho e b1 (by intro z; cases z)
  generalize hH2 : upd H1 b (.ins (cW K) dx (wkF kp z.s.a z.l z.g fo)) = H2
  have old2 : ∀ c o, H1 c = some o → c ≠ b → H2 c = some o := fun c o e hc => by rw [← hH2, upd_ne hc]; exact e
  have lst2 : ∀ c xs, upd H p0 (.lst []) c = some (.lst xs) → c ≠ fo → H2 c = some (.lst xs) := fun c xs e hc => old2 _ _ (old1 _ _ e hc) (nb _ _ (old1 _ _ e hc))
  have f1 : H1 fo = some (.lst (past'.map fun q => V.ref q.t)) := by rw [← hH1]; exact upd_same
  refine q past' z rfl H2 ⟨?_, lst2 _ _ w0.hkp w0.hnf.1.symm, lst2 _ _ kz.2.1 nz.1.symm, lst2 _ _ kz.2.2 nz.2.symm, old2 _ _ f1 nfb, fun y hy => ?_, w0.hnf.1, nz.1, nz.2, fun y hy => w0.hnf.2.2.2 y (by simp [hy])⟩ fun c o e h1 h2 => ?_
  · rw [← hH2]
    exact upd_same
  · have k := w0.htp y (by simp [hy])
    have n := w0.hnf.2.2.2 y (by simp [hy])
    refine ⟨old2 _ _ (old1 _ _ k.1 (ne_ho k.1 w0.hfo (by intro e; cases e))) (ne_ho k.1 w0.hob (by intro e; cases e)), lst2 _ _ k.2.1 n.1.symm, lst2 _ _ k.2.2 n.2.symm⟩
  · exact old2 _ _ (old1 _ _ (s0 _ _ e) h2) h1
end Sm
/-! walkers: a method asked within a try; law k35's _law_back. -/
namespace Sm
open PySem PySem.Spec PyProof.Rows L2
variable {K : PySem.W.Frag}
def tMethS (C : Addr) (m : Str) (sp : Sp) (E : L2.St → XK) (ta : TE) : TE := fun σ H Q => ta σ H fun x H1 => ∃ a dx fs, x = .ref a ∧ H1 a = some (.ins C dx fs) ∧ fs.lookup m = none ∧ sp [x] H1 Q (E σ)
theorem pe_meth0S {X : Cx} {CX : CXT} {k : Nat} {f C : Addr} {fd : FuncData} {ps : List Str} {sp : Sp} {E : L2.St → XK} {m : Str} {pos apos : Pos} {o : Expr} {ta : TE} {pl : Sem Bool} (he : PE X o ta) (c : Cls X.K C) (hm : Meth X.K C m f) (F : FnOk X.prog X.w X.K X.mg X.base CX k f fd ps sp) (hr : Room k X.A) (hb : Binds X.K fd ps []) (hx : ∀ σ, PassesAt CX X σ (E σ))
    (ht : eval (.Call (.Attribute o m apos) [] [] pos) X.env = (do
      let ov ← eval o X.env
      standAt apos.atName
      let (f, first) ← holding [ov] (getMethod ov m pl)
      callWith pos f first (backTo pos (starEach [] X.env)) (backToKw pos (keywordEach [] X.env))) := by rfl) :
    PE X (.Call (.Attribute o m apos) [] [] pos) (tMethS C m sp E ta) := by
  refine ⟨fun pins s σ H Q I h => ?_⟩
  refine PySem.W.methodCall_KW (pl := pl) (thn (he.run pins s σ H _ I h) fun u s1 ⟨x, H1, I1, rx, a, dx, fs, ex, ea, l, q⟩ => ?_) ht
  subst ex
  obtain rfl : u = Value.ref a := rx
  refine getmeth_ok I1 ea c hm l ?_
  exact PySem.W.callWith_K0 (first := [.ref a]) I1.kIn hm.kp (run_fnS (us := [.ref a]) (vs := [.ref a]) F hr hb (hx σ) I1 (.cons rfl .nil) q)
structure RdyS (P : Program) (w : World) (K : PySem.W.Frag) (mg : Str → Option Value) (base : Heap) (x : Str) (k : Nat) (ps : List Str) (sp : Sp) : Prop where
  ex : ∃ fd, FnOk P w K mg base (L2.CX P w) k (He.ga K x) fd ps sp ∧ Binds K fd ps []
  g : mg x = some (.ref (He.ga K x))
  kp : PySem.W.keepIn K (.ref (He.ga K x)) = true
theorem pe_callRS {X : Cx} {x : Str} {k : Nat} {ps : List Str} {sp : Sp} {E : XK} {p pos : Pos} {e : Expr} {es : List Expr} {t : TA} (R : RdyS X.prog X.w X.K X.mg X.base x k ps sp) (hr : Room k X.A) (hg : Gl X x) (tk : Takes X (fun cls d _ H => E cls d H)) (ha : PA X (e :: es) t) (hdb : (x == ("__debug__" : Str)) = false := by decide)
    (he : starEach (e :: es) X.env = (false, eval e X.env) :: starEach es X.env := by rfl) (hpl : (backTo pos (starEach es X.env)).any (·.1) = false := by rfl) :
    PE X (.Call (.Name x p) (e :: es) [] pos) (tCallS sp (fun _ => E) t) := by
  obtain ⟨fd, G, b⟩ := R.ex
  exact pe_callS (E := fun _ => E) G hr hg R.g R.kp b (fun σ => passAt tk σ) ha hdb he hpl
def spLBack (K : PySem.W.Frag) : Sp := fun vs H Q _ => ∃ b dx kp li go fo ps cur past, vs = [.ref b] ∧ WkAt K H b dx kp li go fo ps cur past ∧
  (past = [] → ∀ H' l, Same H H' → H' l = some (.lst ((kinL 11).map V.bl)) → H l = none → Q (.ref l) H') ∧
  ∀ past' q, past = past' ++ [q] → ∀ H' l, WkAt K H' b dx kp q.l q.g fo ps q.s past' → (∀ c o, H c = some o → c ≠ b → c ≠ fo → H' c = some o) → H' l = some (.lst []) → H l = none → Q (.ref l) H'
theorem tr_law_back (kn : Kin K) (T : WkT K mg) {N : List Str} {vs : List V} {H : Hp} {Q : VK} {E : XK} {Wout : WX} (hN : N.length = 3) (h : spLBack K vs H Q E) :
    tSeq (tAsg (tLst tNil) (gName 1)) (tSeq (tTry K 2 1 Wout (fun W => tDrop (tMethS (cW K) "back" (spWkBack K) (WE W) (tVar 0)))) (tRet (tVar 1))) { nx := fun _ H' => Q .non H', rt := Q } (L2.start N vs) H := by
  obtain ⟨b, dx, kp, li, go, fo, ps, cur, past, rfl, w, h1, h2⟩ := h
  have e0 : L2.start N [.ref b] = [some (.ref b), none, none] := by
    unfold L2.start
    rw [hN]
    rfl
  rw [e0]
  refine ⟨by rw [sizeLine_eq]; decide, fun l0 hl0 => ?_⟩
  have s0 := same_new (o := .lst []) hl0
  have w0 := w.mono s0
  refine ⟨_, rfl, b, dx, _, rfl, w0.hob, wkF_o2 _ _ _ _ _, b, dx, kp, li, go, fo, ps, cur, past, rfl, w0, fun hp H' sm => ?_, fun past' q hp H' w' k => ?_⟩
  · refine ⟨true, kn.exm 11 (by decide), fun _ a ha => ?_, fun z => Bool.noConfusion z⟩
    refine ⟨rfl, rfl, 11, by decide, rfl, fun H2 l s2 n2 => ?_⟩
    refine ⟨_, rfl, h1 hp _ l ((s0.trans (sm.trans s2)).trans (same_new n2)) upd_same ?_⟩
    exact (s0.trans (sm.trans s2)).free n2
  · refine ⟨_, rfl, h2 past' q hp H' l0 w' (fun c o e hb hf => k c o (s0 _ _ e) hb hf) ?_ hl0⟩
    refine k l0 _ upd_same ?_ ?_
    · exact (ne_of_none w.hob hl0).symm
    · exact (ne_of_none w.hfo hl0).symm
end Sm
/-! walkers: one beside what stood already. -/
namespace Sm
open PySem PySem.Spec PyProof.Rows L2
variable {K : PySem.W.Frag}
structure WkI (K : PySem.W.Frag) (H H' : Hp) (b dx kp fo : Addr) (ps : List Int) (cur : Ws) (hist : List Ws) : Prop where
  ex : ∃ li go past, WkAt K H' b dx kp li go fo ps cur past ∧ past.map Pe.s = hist
  bn : H b = none
  fn : H fo = none
  sm : Same H H'
section
variable {H H' : Hp} {b dx kp fo : Addr} {ps : List Int} {cur : Ws} {hist : List Ws} {Q : VK} {E : XK}
theorem WkI.mono {H'' : Hp} (I : WkI K H H' b dx kp fo ps cur hist) (s : Same H' H'') : WkI K H H'' b dx kp fo ps cur hist := by
  obtain ⟨li, go, past, w, e⟩ := I.ex
  exact ⟨⟨li, go, past, w.mono s, e⟩, I.bn, I.fn, I.sm.trans s⟩
theorem WkI.ob (I : WkI K H H' b dx kp fo ps cur hist) : ∃ fs, H' b = some (.ins (cW K) dx fs) ∧ fs.lookup ("go" : Str) = none ∧ fs.lookup ("back" : Str) = none ∧ fs.lookup ("handle" : Str) = none ∧ fs.lookup ("wheels" : Str) = none ∧ fs.lookup ("ways" : Str) = none := by
  obtain ⟨li, go, past, w, e⟩ := I.ex
  exact ⟨_, w.hob, wkF_o1 _ _ _ _ _, wkF_o2 _ _ _ _ _, wkF_o3 _ _ _ _ _, wkF_o4 _ _ _ _ _, wkF_o5 _ _ _ _ _⟩
theorem WkI.handle (I : WkI K H H' b dx kp fo ps cur hist) (q : Q (.int cur.a) H') : spWkHandle K [.ref b] H' Q E := by
  obtain ⟨li, go, past, w, e⟩ := I.ex
  exact ⟨b, dx, kp, li, go, fo, ps, cur, past, rfl, w, q⟩
theorem WkI.wheels (I : WkI K H H' b dx kp fo ps cur hist) (q : ∀ H'' l, WkI K H H'' b dx kp fo ps cur hist → Same H' H'' → H'' l = some (.lst (iV cur.ws)) → Q (.ref l) H'') : spWkWheels K [.ref b] H' Q E := by
  obtain ⟨li, go, past, w, e⟩ := I.ex
  exact ⟨b, dx, kp, li, go, fo, ps, cur, past, rfl, w, fun l hl => q _ l (I.mono (same_new hl)) (same_new hl) upd_same⟩
theorem WkI.ways (I : WkI K H H' b dx kp fo ps cur hist) (q : ∀ H'' l, WkI K H H'' b dx kp fo ps cur hist → Same H' H'' → H'' l = some (.lst (iV cur.gs)) → Q (.ref l) H'') : spWkWays K [.ref b] H' Q E := by
  obtain ⟨li, go, past, w, e⟩ := I.ex
  exact ⟨b, dx, kp, li, go, fo, ps, cur, past, rfl, w, fun l hl => q _ l (I.mono (same_new hl)) (same_new hl) upd_same⟩
theorem WkI.go {p : Int} {ws' : List Int} (I : WkI K H H' b dx kp fo ps cur hist) (hh : hist.length ≤ 100000) (h1 : cur.ws.length ≤ 100000) (h2 : cur.gs.length = cur.ws.length) (h3 : ws'.length = cur.ws.length) (hm : m_dragged_all [iL ps, iL cur.ws, .int p] = .ok (iT ws'))
    (q : ∀ H'' l, WkI K H H'' b dx kp fo ps (goneS cur p ws') (hist ++ [cur]) → H'' l = some (.lst (iV ws')) → Q (.ref l) H'') : spWkGo K [.ref b, .int p] H' Q E := by
  obtain ⟨li, go, past, w, e⟩ := I.ex
  refine ⟨b, dx, kp, li, go, fo, ps, cur, past, p, ws', rfl, w, ?_, h1, h2, h3, hm, fun H'' l t li' go' w' hl _ _ k => ?_⟩
  · have := congrArg List.length e
    simp at this
    omega
  · refine q H'' l ⟨⟨li', go', _, w', by rw [List.map_append, e]; rfl⟩, I.bn, I.fn, fun c o z => ?_⟩ hl
    exact k c o (I.sm c o z) (ne_of_none z I.bn) (ne_of_none z I.fn)
theorem WkI.back {s : Ws} {hist' : List Ws} (I : WkI K H H' b dx kp fo ps cur (hist' ++ [s])) (q : ∀ H'' l, WkI K H H'' b dx kp fo ps s hist' → H'' l = some (.lst []) → Q (.ref l) H'') : spLBack K [.ref b] H' Q E := by
  obtain ⟨li, go, past, w, e⟩ := I.ex
  refine ⟨b, dx, kp, li, go, fo, ps, cur, past, rfl, w, fun z => ?_, fun past' y hp H'' l w' k hl _ => ?_⟩
  · rw [z] at e
    simp at e
  · rw [hp, List.map_append] at e
    have e1 : past'.map Pe.s = hist' ∧ [y.s] = [s] := List.append_inj' e rfl
    obtain ⟨e1, e2⟩ := e1
    have e2 : y.s = s := by simpa using e2
    rw [e2] at w'
    exact q H'' l ⟨⟨_, _, past', w', e1⟩, I.bn, I.fn, fun c o z => k c o (I.sm c o z) (ne_of_none z I.bn) (ne_of_none z I.fn)⟩ hl
theorem WkI.back0 (I : WkI K H H' b dx kp fo ps cur []) (q : ∀ H'' l, WkI K H H'' b dx kp fo ps cur [] → H'' l = some (.lst ((kinL 11).map V.bl)) → Q (.ref l) H'') : spLBack K [.ref b] H' Q E := by
  obtain ⟨li, go, past, w, e⟩ := I.ex
  refine ⟨b, dx, kp, li, go, fo, ps, cur, past, rfl, w, fun z H'' l s hl _ => q H'' l (I.mono s) hl, fun past' y hp H'' l w' k hl _ => ?_⟩
  rw [hp] at e
  simp at e
end
theorem wk_made {H : Hp} {q : Hp → Prop} {E : XK} {pl wl b dx : Addr} {ps ws : List Int} {h : Int} (hp : H pl = some (.lst (iV ps))) (hw : H wl = some (.lst (iV ws))) (hl : ws.length ≤ 100000) (hm : m_need_stand [iL ps, .int h, iL ws] = .ok (.dat .non)) (hb : H b = none) (hdx : H dx = none) (hne : dx ≠ b)
    (hq : ∀ H' kp fo, WkI K H H' b dx kp fo ps (wS0 h ws) [] → q H') : spWkInit K (.ref b :: ([.ref pl, .int h, .ref wl] ++ [])) (upd (upd H dx (.own b)) b (.ins (cW K) dx [])) (fun v H2 => v = .non ∧ q H2) E := by
  have k1 : upd H dx (.own b) b = none := by rw [upd_ne hne.symm]; exact hb
  have s : Same H (upd (upd H dx (.own b)) b (.ins (cW K) dx [])) := (same_new hdx).trans (same_new k1)
  refine ⟨b, dx, pl, wl, ps, h, ws, rfl, upd_same, s _ _ hp, s _ _ hw, hl, hm, fun H' kp li go fo w k n => ⟨rfl, ?_⟩⟩
  exact hq H' kp fo ⟨⟨li, go, [], w, rfl⟩, hb, s.free n.2.2.2, fun c o e => k c o (s _ _ e) (ne_of_none e hb)⟩
/-! likeness of what is told -/
theorem ne_dd {H : Hp} {x y : V} {a b : D} {v : Bool} {Q : VK} (rx : Rp K H x a) (ry : Rp K H y b) (h : neD a b = .ok (.bl v)) (q : Q (.bl v) H) : rNeD K x y H Q := by
  obtain ⟨h1, h2, h3⟩ := neD_inv h
  rw [← h3] at q
  exact ⟨_, _, rx.dp, ry.dp, h1, h2, q⟩
theorem eq_dd {H : Hp} {x y : V} {a b : D} {v : Bool} {Q : VK} (rx : Rp K H x a) (ry : Rp K H y b) (h : eqD a b = .ok (.bl v)) (q : Q (.bl v) H) : rEqD K x y H Q := by
  obtain ⟨h1, h2, h3⟩ := eqD_inv h
  rw [← h3] at q
  exact ⟨_, _, rx.dp, ry.dp, h1, h2, q⟩
theorem neN {xs : List Int} : neD (iL xs) (iL xs) = .ok (.bl false) := by simp
theorem rps_get {U : Hp} : ∀ {vs : List V} {ds : List D} {i : Nat} {d : D}, Rps K U vs ds → ds[i]? = some d → ∃ v, vs[i]? = some v ∧ Rp K U v d
  | _, [], i, d, h, e => by simp at e
  | _, d0 :: ds, 0, d, h, e => by
    cases h with
    | cons a b =>
      have : d0 = d := by simpa using e
      subst this
      exact ⟨_, rfl, a⟩
  | _, d0 :: ds, i + 1, d, h, e => by
    cases h with
    | cons a b =>
      obtain ⟨v, h1, h2⟩ := rps_get b (by simpa using e)
      exact ⟨v, by simpa using h1, h2⟩
theorem rIx_D {H : Hp} {x : V} {ds : List D} {i : Nat} {d : D} {Q : VK} (rx : Rp K H x (.lst ds)) (e : ds[i]? = some d) (q : ∀ v, Rp K H v d → Q v H) : rIx K x (.int (i : Int)) H Q := by
  obtain ⟨a, vs, rfl, ha, r⟩ := Rp.lstI rx
  obtain ⟨v, h1, h2⟩ := rps_get r e
  refine .inl ⟨a, vs, (i : Int), v, rfl, rfl, SqL.of ha, ?_, q v h2⟩
  unfold atI ixN
  have hi := (List.getElem?_eq_some_iff.mp h1).1
  rw [if_pos (by omega), if_pos (by omega)]
  simpa using h1
end Sm
/-! law k35 from its walker on. -/
namespace Sm
open PySem PySem.Spec PyProof.Rows L2
variable {K : PySem.W.Frag}
def stF (dr : List Int → Int → List Int) : Ws → List Int → Ws
  | s, [] => s
  | s, p :: r => stF dr (goneS s p (dr s.ws p)) r
theorem stF_app (dr : List Int → Int → List Int) : ∀ (r : List Int) (s : Ws) (p : Int), stF dr s (r ++ [p]) = goneS (stF dr s r) p (dr (stF dr s r).ws p)
  | [], s, p => rfl
  | x :: r, s, p => stF_app dr r _ p
def k35C (mw : List D → R T) (ρ : Env) : Prop := ∃ (ps ws row : List Int) (h : Int) (Ls : List (List Int)) (dr : List Int → Int → List Int) (t1 t3 t4 t6 : T) (c0 c5 : Cell),
  ρ = [c0, .at t1, .at (.dat (.int h)), .at t3, .at t4, c5, .at t6, .no, .no, .no] ∧ t1.er = iL ps ∧ t3.er = iL ws ∧ t4.er = iL row ∧ t6.er = iLL Ls ∧ ps.length = ws.length ∧ ws.length ≤ 1000 ∧ row.length ≤ 10000 ∧ Ls.length = row.length ∧
  m_need_stand [iL ps, .int h, iL ws] = .ok (.dat .non) ∧ (∀ xs p, xs.length = ws.length → m_dragged_all [iL ps, iL xs, .int p] = .ok (iT (dr xs p)) ∧ (dr xs p).length = ws.length) ∧
  (∀ m : Nat, m < row.length → Ls[m]? = some (stF dr (wS0 h ws) (row.take (m + 1))).ws) ∧
  (∀ m : Nat, m < row.length → mw [iL ws, iLL Ls, .int ((m : Int) + 1)] = .ok (iT (stF dr (wS0 h ws) (row.take (m + 1))).gs))
open Classical in
noncomputable def k35T (mw : List D → R T) (ρ : Env) : Out := if k35C mw ρ then .rt (.dat (.bl true)) else .bad
abbrev lenR (K : PySem.W.Frag) : List V → Hp → VK → Prop := fun xs H Q => ∃ x n, xs = [x] ∧ LenV K x H n ∧ Q (.int n) H
abbrev rMd : R2 := rI (fun _ j => 0 < j) fun i j => .int (i % j)
abbrev wkGo (K : PySem.W.Frag) (E : XK) (t : TE) : TE := tMeth (cW K) "go" (spWkGo K) [] E (tVar 7) (tCons t tNil)
abbrev wkAsk (K : PySem.W.Frag) (E : XK) (m : Str) (sp : Sp) : TE := tMeth (cW K) m sp [] E (tVar 7) tNil
abbrev wkBk (K : PySem.W.Frag) (E : XK) : TE := tCallS (spLBack K) (fun _ => E) (tCons (tVar 7) tNil)
abbrev retF : TS := tRet (tC (.bl false))
abbrev lessOne : TE := tOp rSb (tVar 9) (tC (.int 1))
abbrev k35In (K : PySem.W.Frag) (E : XK) (mw : List D → R T) : TS :=
  tSeq (tIfS (tTest (tOp (rNeD K) (wkAsk K E "wheels" (spWkWheels K)) (tOp (rIx K) (tVar 6) lessOne))) retF tNext)
    (tSeq (tIfS (tTest (tOp (rNeD K) (wkAsk K E "ways" (spWkWays K)) (tCallS (spM K (ecK K) 3 mw) (fun _ => E) (tCons (tVar 3) (tCons (tVar 6) (tCons (tVar 9) tNil)))))) retF tNext)
      (tSeq (tDrop (wkGo K E (tOp rAddU (tVar 2) (tC (.int 5)))))
        (tIfS (tOr (tTest (tOp (rNeD K) (wkBk K E) (tLst tNil))) (tTest (tOp (rNeD K) (wkAsk K E "handle" (spWkHandle K)) (tOp (rIx K) (tVar 4) lessOne)))) retF tNext)))
abbrev k35Body (K : PySem.W.Frag) (E : XK) (mw : List D → R T) : TS :=
  tSeq (tIfS (tOr (tTest (tOp (rEqD K) (tOp rMd (tVar 9) (tC (.int 40))) (tC (.int 10)))) (tTest (tOp (rEqD K) (tVar 9) (tCB (lenR K) (tCons (tVar 4) tNil))))) (k35In K E mw) tNext)
    (tSeq (tIfS (tTest (tOp (rNeD K) (wkBk K E) (tLst tNil))) retF tNext)
      (tAsg lessOne (gName 9)))
abbrev k35Tr (K : PySem.W.Frag) (E : XK) (mw : List D → R T) : TS :=
  tSeq (tAsg (tMake (cW K) (spWkInit K) [] E (tCons (tVar 1) (tCons (tVar 2) (tCons (tVar 3) tNil)))) (gName 7))
    (tSeq (tFor (iList K (tVar 4)) (gName 8) (tDrop (wkGo K E (tVar 8))))
      (tSeq (tAsg (tCB (lenR K) (tCons (tVar 4) tNil)) (gName 9))
        (tSeq (tWhile (tTest (tOp rGt (tVar 9) (tC (.int 0)))) (k35Body K E mw))
          (tSeq (tIfS (tOr (tTest (tOp (rNeD K) (wkAsk K E "wheels" (spWkWheels K)) (tVar 3))) (tTest (tOp (rNeD K) (wkAsk K E "handle" (spWkHandle K)) (tVar 2)))) retF tNext)
            (tSeq (tIfS (tTest (tOp (rNeD K) (wkAsk K E "ways" (spWkWays K)) (tOp rMulU (tLst (tCons (tC (.int 0)) tNil)) (tCB (lenR K) (tCons (tVar 1) tNil))))) retF tNext)
              (tRet (tOp (rEqD K) (wkBk K E) (tCallS (spM K (ecK K) 1 m_law_due_kin) (fun _ => E) (tCons (tC (.str "NothingLeft")) tNil)))))))))
theorem rp_nil {H : Hp} {a : Addr} (h : H a = some (.lst [])) : Rp K H (.ref a) (.lst []) := Rp.mkL h .nil
theorem rps_bl {U : Hp} : ∀ bs : List Bool, Rps K U (bs.map V.bl) (bs.map Sm.D.bl)
  | [] => .nil
  | b :: bs => .cons (.bl b) (rps_bl bs)
theorem n00_35 : neD (.lst []) (.lst []) = .ok (.bl false) := by kernel_rfl
theorem k11_35 : eqD (.lst ((kinL 11).map Sm.D.bl)) (.lst ((kinL 11).map Sm.D.bl)) = .ok (.bl true) := by kernel_rfl
theorem due11 : m_law_due_kin [.str "NothingLeft"] = .ok (kinT 11) := by kernel_rfl
theorem wS0_zero {ps ws : List Int} {h : Int} (hl : ps.length = ws.length) : (List.replicate ((ps.length : Int)).toNat [V.int 0]).flatten = iV (wS0 h ws).gs := by
  show _ = (ws.map fun _ => (0 : Int)).map V.int
  rw [Int.toNat_natCast, hl]
  clear hl
  induction ws with
  | nil => rfl
  | cons x ws ih =>
    rw [List.length_cons, List.replicate_succ, List.flatten_cons, ih]
    rfl
theorem stF_len {dr : List Int → Int → List Int} {n : Nat} (hdr : ∀ xs p, xs.length = n → (dr xs p).length = n) : ∀ (r : List Int) (s : Ws), s.ws.length = n → s.gs.length = n → (stF dr s r).ws.length = n ∧ (stF dr s r).gs.length = n
  | [], s, h1, h2 => ⟨h1, h2⟩
  | p :: r, s, h1, h2 => stF_len hdr r _ (hdr _ _ h1) (wayF_len h2 (hdr _ _ h1) h1)
theorem k35_ss {E : XK} {mw : List D → R T} : SS K (ecK K) (fun _ => E) (k35Tr K E mw) (k35T mw) := by
  intro E0 U0 L U H σ ρ tmp g D h
  unfold k35T at h
  split at h
  rotate_left
  · exact h.elim
  rename_i hC
  obtain ⟨ps, ws, row, hh, Ls, dr, t1, t3, t4, t6, c0, c5, rfl, e1, e3, e4, e6, hpw, hwl, hrl, hLl, hns, hdr, hLs, hmw⟩ := hC
  have h : ∀ v U' H', Fin K E0 U0 U' H' v (.dat (.bl true)) → D.rt v H' := h
  have hfin : ∀ H', Same H H' → D.rt (.bl true) H' := fun H' s => h _ U _ ⟨g.eh.trans s, g.uu, g.uh.trans s, g.nw, ⟨[], .cons (G := []) (.dat (.bl true)) .nil, List.nodup_nil, fun a ha => by simp at ha⟩⟩
  obtain ⟨v1, s1, r1⟩ := g.valS (i := 1) rfl
  obtain ⟨v2, s2, r2⟩ := g.valS (i := 2) rfl
  obtain ⟨v3, s3, r3⟩ := g.valS (i := 3) rfl
  obtain ⟨v4, s4, r4⟩ := g.valS (i := 4) rfl
  obtain ⟨v6, s6, r6⟩ := g.valS (i := 6) rfl
  have hlen : σ.length = 10 := by
    obtain ⟨l, lv, _⟩ := g.own
    exact lv.len
  match σ, hlen with
  | [y0, y1, y2, y3, y4, y5, y6, y7, y8, y9], _ =>
  have z1 : y1 = some v1 := by simpa using s1
  have z2 : y2 = some v2 := by simpa using s2
  have z3 : y3 = some v3 := by simpa using s3
  have z4 : y4 = some v4 := by simpa using s4
  have z6 : y6 = some v6 := by simpa using s6
  subst z1 z2 z3 z4 z6
  have r2 : Rp K H v2 (.int hh) := r2
  cases r2
  rw [e1] at r1
  rw [e3] at r3
  rw [e4] at r4
  rw [e6] at r6
  obtain ⟨pl, vs1, rfl, hpl, rs1⟩ := Rp.lstI r1
  have := rps_ints rs1
  subst this
  obtain ⟨wl, vs3, rfl, hwl3, rs3⟩ := Rp.lstI r3
  have := rps_ints rs3
  subst this
  obtain ⟨rl, vs4, rfl, hrl4, rs4⟩ := Rp.lstI r4
  have := rps_ints rs4
  subst this
  have hst : ∀ r, (stF dr (wS0 hh ws) r).ws.length = ws.length ∧ (stF dr (wS0 hh ws) r).gs.length = ws.length := fun r =>
    stF_len (fun xs p e => (hdr xs p e).2) r _ rfl (by show (ws.map fun _ => (0 : Int)).length = _; simp)
  refine ⟨_, rfl, _, rfl, _, rfl, fun b dx hb hdx hne => ?_⟩
  refine wk_made hpl hwl3 (by omega) hns hb hdx hne fun H1 kp fo I => ?_
  refine ⟨_, rfl, rl, rfl, ⟨_, SqL.of (I.sm _ _ hrl4)⟩, ?_⟩
  refine for_list (K := K) (a := rl) (xs := row.map V.int) (fun i σ' H' => (∃ s8, σ' = [y0, some (.ref pl), some (.int hh), some (.ref wl), some (.ref rl), y5, some v6, some (.ref b), s8, y9]) ∧ WkI K H H' b dx kp fo ps (stF dr (wS0 hh ws) (row.take i)) ((List.range i).map fun j => stF dr (wS0 hh ws) (row.take j))) ?_ ?_ ?_ ?_
  · exact ⟨⟨_, rfl⟩, I⟩
  · rintro i σ' H' - ⟨_, I⟩
    exact SqL.of (I.sm _ _ hrl4)
  · rintro i x σ' H' hx ⟨⟨s8, rfl⟩, I⟩
    obtain ⟨z, hz, rfl⟩ : ∃ z, row[i]? = some z ∧ x = .int z := by
      rw [List.getElem?_map] at hx
      obtain ⟨z, h1, h2⟩ := Option.map_eq_some_iff.mp hx
      exact ⟨z, h1, h2.symm⟩
    have hi : i < row.length := (List.getElem?_eq_some_iff.mp hz).1
    have htk : row.take (i + 1) = row.take i ++ [z] := by
      rw [List.take_add_one, hz]
      rfl
    obtain ⟨fs, o1, o2, _⟩ := I.ob
    have hs := hst (row.take i)
    obtain ⟨m1, m2⟩ := hdr (stF dr (wS0 hh ws) (row.take i)).ws z hs.1
    refine ⟨_, rfl, b, dx, fs, rfl, o1, o2, _, rfl, nil_i (I.go (by simp; omega) (by omega) (by omega) (by omega) m1 fun H2 l I2 _ => ?_)⟩
    refine ⟨⟨_, rfl⟩, ?_⟩
    rw [htk, stF_app, List.range_succ, List.map_append]
    exact I2
  rintro σ' H2 ⟨⟨s8, rfl⟩, I⟩
  rw [List.length_map] at I
  refine ⟨_, rfl, _, _, rfl, .inl ⟨_, SqL.of (I.sm _ _ hrl4), rfl⟩, ?_⟩
  have e9 : (row.map V.int).length = row.length := by simp
  rw [e9]
  refine ⟨fun m σ' H' => m ≤ row.length ∧ (∃ s8, σ' = [y0, some (.ref pl), some (.int hh), some (.ref wl), some (.ref rl), y5, some v6, some (.ref b), s8, some (.int (m : Int))]) ∧ WkI K H H' b dx kp fo ps (stF dr (wS0 hh ws) (row.take m)) ((List.range m).map fun j => stF dr (wS0 hh ws) (row.take j)), ⟨row.length, Nat.le_refl _, ⟨_, rfl⟩, I⟩, ?_⟩
  rintro m σ' H3 ⟨hm, ⟨s8, rfl⟩, I⟩
  refine ⟨_, rfl, _, _, rfl, rfl, _, rfl, ?_⟩
  cases m with
  | zero =>
    refine ifN (by decide) ?_
    have I : WkI K H H3 b dx kp fo ps (wS0 hh ws) [] := I
    obtain ⟨fs, o1, _, _, o4, o5, o6⟩ := I.ob
    refine ⟨_, rfl, b, dx, fs, rfl, o1, o5, nil_i (I.wheels fun H4 l I _ hl => ⟨_, rfl, ne_dd (rp_iV hl) (r3.mono I.sm) neN ⟨_, rfl, ifN rfl ?_⟩⟩)⟩
    obtain ⟨fs, o1, _, _, o4, o5, o6⟩ := I.ob
    refine ⟨_, rfl, b, dx, fs, rfl, o1, o4, nil_i (I.handle ⟨_, rfl, ne_dd (.int _) (.int _) (neD_ii hh hh) ⟨_, rfl, ifN (by simp) ?_⟩⟩)⟩
    refine ⟨_, rfl, b, dx, fs, rfl, o1, o6, nil_i (I.ways fun H5 l2 I _ hl2 => ?_)⟩
    refine ⟨by rw [sizeLine_eq]; show 1 ≤ 16777216; decide, fun p hp => ?_⟩
    have s5 := same_new (o := .lst [V.int 0]) hp
    refine ⟨_, rfl, _, _, rfl, .inl ⟨_, SqL.of (s5 _ _ (I.sm _ _ hpl)), rfl⟩, ?_⟩
    have e8 : (ps.map V.int).length = ps.length := by simp
    rw [e8]
    refine .inr ⟨p, _, _, rfl, rfl, upd_same, by omega, by omega, by rw [sizeLine_eq]; simp; omega, fun p2 hp2 => ?_⟩
    rw [wS0_zero (h := hh) hpw]
    have s6' : Same H5 (upd (upd H5 p (.lst [V.int 0])) p2 (.lst (iV (wS0 hh ws).gs))) := s5.trans (same_new hp2)
    have I6 := I.mono s6'
    refine ne_dd (rp_iV (s6' _ _ hl2)) (rp_iV upd_same) neN ⟨_, rfl, ifN rfl ?_⟩
    refine ⟨_, rfl, nil_i (I6.back0 fun H7 l7 I7 hl7 => ?_)⟩
    refine ⟨[.str "NothingLeft"], H7, rfl, Same.refl _, .cons (.str _) .nil, ?_⟩
    rw [due11]
    intro v U' H8 F
    have rv : Rp K H8 v (kinT 11).er := by
      obtain ⟨G, hG, _⟩ := F.own
      exact TRs.each F.uh hG (v, kinT 11) (by simp)
    exact eq_dd (Rp.mkL (F.eh _ _ hl7) (rps_bl _)) rv k11_35 (hfin H8 (I7.sm.trans F.eh))
  | succ k =>
    refine ifY (decide_eq_true (by omega)) ?_
    refine ⟨fun σ' H' => k ≤ row.length ∧ (∃ s8, σ' = [y0, some (.ref pl), some (.int hh), some (.ref wl), some (.ref rl), y5, some v6, some (.ref b), s8, some (.int (k : Int))]) ∧ WkI K H H' b dx kp fo ps (stF dr (wS0 hh ws) (row.take k)) ((List.range k).map fun j => stF dr (wS0 hh ws) (row.take j)), fun σ' H' w => ⟨k, by omega, w⟩, ?_⟩
    have hk : k < row.length := by omega
    have ek : ((k + 1 : Nat) : Int) - 1 = (k : Int) := by omega
    have eh : ((List.range (k + 1)).map fun j => stF dr (wS0 hh ws) (row.take j)) = ((List.range k).map fun j => stF dr (wS0 hh ws) (row.take j)) ++ [stF dr (wS0 hh ws) (row.take k)] := by
      rw [List.range_succ, List.map_append]
      rfl
    have rest : ∀ H', WkI K H H' b dx kp fo ps (stF dr (wS0 hh ws) (row.take (k + 1))) ((List.range (k + 1)).map fun j => stF dr (wS0 hh ws) (row.take j)) →
        (tSeq (tIfS (tTest (tOp (rNeD K) (wkBk K E) (tLst tNil))) retF tNext) (tAsg lessOne (gName 9))) { D with nx := fun σ' H' => k ≤ row.length ∧ (∃ s8, σ' = [y0, some (.ref pl), some (.int hh), some (.ref wl), some (.ref rl), y5, some v6, some (.ref b), s8, some (.int (k : Int))]) ∧ WkI K H H' b dx kp fo ps (stF dr (wS0 hh ws) (row.take k)) ((List.range k).map fun j => stF dr (wS0 hh ws) (row.take j)), ct := fun σ' H' => k ≤ row.length ∧ (∃ s8, σ' = [y0, some (.ref pl), some (.int hh), some (.ref wl), some (.ref rl), y5, some v6, some (.ref b), s8, some (.int (k : Int))]) ∧ WkI K H H' b dx kp fo ps (stF dr (wS0 hh ws) (row.take k)) ((List.range k).map fun j => stF dr (wS0 hh ws) (row.take j)), bk := D.nx } [y0, some (.ref pl), some (.int hh), some (.ref wl), some (.ref rl), y5, some v6, some (.ref b), s8, some (.int ((k + 1 : Nat) : Int))] H' := by
      intro H' I
      rw [eh] at I
      refine ⟨_, rfl, nil_i (I.back fun H4 l I hl => ?_)⟩
      refine ⟨by rw [sizeLine_eq]; decide, fun p hp => ?_⟩
      refine ne_dd (rp_nil (keepN hp hl)) (rp_nil upd_same) n00_35 ⟨_, rfl, ifN rfl ?_⟩
      refine ⟨_, rfl, _, _, rfl, rfl, by omega, ⟨s8, ?_⟩, I.mono (same_new hp)⟩
      show List.set _ 9 (some (V.int (((k + 1 : Nat) : Int) - 1))) = _
      rw [ek]
      rfl
    have gr : (row.map Sm.D.int)[k]? = some (.int row[k]) := by
      rw [List.getElem?_map, List.getElem?_eq_getElem hk]
      rfl
    have gL : (Ls.map iL)[k]? = some (iL (stF dr (wS0 hh ws) (row.take (k + 1))).ws) := by
      rw [List.getElem?_map, hLs k hk]
      rfl
    have htk : row.take (k + 1) = row.take k ++ [row[k]] := by
      rw [List.take_add_one, List.getElem?_eq_getElem hk]
      rfl
    have ha : (stF dr (wS0 hh ws) (row.take (k + 1))).a = row[k] := by
      rw [htk, stF_app]
      rfl
    have inn : ∀ H', WkI K H H' b dx kp fo ps (stF dr (wS0 hh ws) (row.take (k + 1))) ((List.range (k + 1)).map fun j => stF dr (wS0 hh ws) (row.take j)) → ∀ D' : Ends, (∀ H'', WkI K H H'' b dx kp fo ps (stF dr (wS0 hh ws) (row.take (k + 1))) ((List.range (k + 1)).map fun j => stF dr (wS0 hh ws) (row.take j)) → D'.nx [y0, some (.ref pl), some (.int hh), some (.ref wl), some (.ref rl), y5, some v6, some (.ref b), s8, some (.int ((k + 1 : Nat) : Int))] H'') →
        k35In K E mw D' [y0, some (.ref pl), some (.int hh), some (.ref wl), some (.ref rl), y5, some v6, some (.ref b), s8, some (.int ((k + 1 : Nat) : Int))] H' := by
      intro H' I D' go_
      obtain ⟨fs, o1, _, _, o4, o5, o6⟩ := I.ob
      refine ⟨_, rfl, b, dx, fs, rfl, o1, o5, nil_i (I.wheels fun H4 l I _ hl => ⟨_, rfl, _, rfl, _, _, rfl, rfl, ?_⟩)⟩
      show rIx K _ (.int (((k + 1 : Nat) : Int) - 1)) _ _
      rw [ek]
      refine rIx_D (r6.mono I.sm) gL fun v rv => ne_dd (rp_iV hl) rv neN ⟨_, rfl, ifN rfl ?_⟩
      obtain ⟨fs, o1, _, _, o4, o5, o6⟩ := I.ob
      refine ⟨_, rfl, b, dx, fs, rfl, o1, o6, nil_i (I.ways fun H5 l5 I _ hl5 => ?_)⟩
      refine ⟨_, rfl, _, rfl, _, rfl, [iL ws, iLL Ls, .int ((k : Int) + 1)], H5, rfl, Same.refl _, .cons (r3.mono I.sm) (.cons (r6.mono I.sm) (.cons (.int _) .nil)), ?_⟩
      rw [hmw k hk]
      intro v U' H6 F
      obtain ⟨p6, rfl, hp6, _⟩ := own_iT F.own
      refine ne_dd (rp_iV (F.eh _ _ hl5)) (rp_iV hp6) neN ⟨_, rfl, ifN rfl ?_⟩
      have I := I.mono F.eh
      obtain ⟨fs, o1, o2, _⟩ := I.ob
      have hs := hst (row.take (k + 1))
      obtain ⟨m1, m2⟩ := hdr (stF dr (wS0 hh ws) (row.take (k + 1))).ws (hh + 5) hs.1
      refine ⟨_, rfl, b, dx, fs, rfl, o1, o2, _, rfl, .inl ⟨_, _, rfl, rfl, nil_i (I.go (by simp; omega) (by omega) (by omega) (by omega) m1 fun H7 l7 I _ => ?_)⟩⟩
      refine ⟨_, rfl, nil_i (I.back fun H8 l8 I hl8 => ?_)⟩
      refine ⟨by rw [sizeLine_eq]; decide, fun p hp => ?_⟩
      refine ne_dd (rp_nil (keepN hp hl8)) (rp_nil upd_same) n00_35 ⟨_, rfl, ifN rfl ?_⟩
      have I := I.mono (same_new (o := .lst []) hp)
      obtain ⟨fs, o1, _, _, o4, o5, o6⟩ := I.ob
      refine ⟨_, rfl, b, dx, fs, rfl, o1, o4, nil_i (I.handle ⟨_, rfl, _, rfl, _, _, rfl, rfl, ?_⟩)⟩
      show rIx K _ (.int (((k + 1 : Nat) : Int) - 1)) _ _
      rw [ek]
      refine rIx_D (r4.mono I.sm) gr fun v rv => ne_dd (.int _) rv (by rw [ha, neD_ii]; simp) ⟨_, rfl, ifN rfl (go_ _ I)⟩
    refine ⟨_, rfl, _, _, rfl, rfl, (by show (0 : Int) < 40; decide), ?_⟩
    have key : ∀ (i j : Int) (H' : Hp) (Q : VK), Q (.bl (decide (i = j))) H' → rEqD K (.int i) (.int j) H' Q := fun i j H' Q q => eq_dd (.int _) (.int _) (eqD_ii _ _) q
    unfold tC
    refine key (((k + 1 : Nat) : Int) % 40) 10 _ _ ?_
    refine ⟨_, rfl, ?_⟩
    by_cases c1 : ((k + 1 : Nat) : Int) % 40 = 10
    · exact ifY (decide_eq_true c1) (inn _ I _ fun H4 I => rest H4 I)
    · refine ifN (decide_eq_false c1) ?_
      refine ⟨_, rfl, _, rfl, _, _, rfl, .inl ⟨_, SqL.of (I.sm _ _ hrl4), rfl⟩, ?_⟩
      rw [e9]
      refine eq_dd (.int _) (.int _) (eqD_ii _ _) ⟨_, rfl, ?_⟩
      by_cases c2 : ((k + 1 : Nat) : Int) = (row.length : Int)
      · exact ifY (decide_eq_true c2) (inn _ I _ fun H4 I => rest H4 I)
      · exact ifN (decide_eq_false c2) (rest _ I)
end Sm
namespace Sm
open PySem L2
noncomputable def b_law_k35 : Env → Out := (sSeq (sAsg (eSP (pCall 1 m_law_train (aCons (bVar 0) aNil))) (gTp 3 (gsCons (setC 1) (gsCons (setC 2) (gsCons (setC 3) gsNil))))) (sSeq (sAsg (eSP (pCall 4 m_law_a_row (aCons (bEr (pCall 2 m_law_cell_at (aCons (bVar 0) (aCons (bC (.int 2)) aNil)))) (aCons (bC (.int 260)) (aCons (bVar 2) (aCons (b2 addD (b2 mulD (bC (.int 2)) (bCall sumD (aCons (bVar 1) aNil))) (bC (.int 3))) aNil)))))) (setC 4)) (sSeq (sAsg (eSP (pCall 3 m_law_draws (aCons (bEr (pCall 2 m_law_cell_at (aCons (bVar 0) (aCons (bC (.int 3)) aNil)))) (aCons (bC (.int 2)) (aCons (bC (.int 1000)) aNil))))) (setC 5)) (sSeq (sAsg (eSP (pOfF (f2 catF (bOfF (fSl (bVar 4) oNone (oSome (b2 addD (bC (.int 150)) (b2 modD (b2 ixD (bVar 5) (bC (.int 0))) (bC (.int 110))))))) (b2 mulD (bVar 4) (b2 mulD (bC (.int 2)) (bCall intD (aCons (b2 eqD (b2 modD (b2 ixD (bVar 5) (bC (.int 1))) (bC (.int 8))) (bC (.int 0))) aNil))))))) (setC 4)) (sSeq (sAsg (eSP (pCall 4 m_run_of (aCons (bVar 1) (aCons (bVar 2) (aCons (bVar 3) (aCons (bVar 4) aNil)))))) (setC 6)) (k35T m_law_ways))))))
noncomputable def m_law_k35 : List D → R T := runF 10 b_law_k35
end Sm
namespace Sm
open PySem L2
theorem call_inv {mf : List D → R T} {n : Nat} {ds : List D} {τ : T} (h : R.call mf n ds = .ok τ) : mf ds = .ok τ := by
  unfold R.call at h
  split at h
  · generalize mf ds = z at h ⊢
    cases z with
    | ok t =>
      have h : (if t.clean = true then R.ok t else .bad) = .ok τ := h
      split at h
      · exact h
      · cases h
    | exc c => cases h
    | bad => cases h
  · cases h
theorem runs_take (ps : List Int) : ∀ (row ws : List Int) (n : Nat), (runs ps ws row).take n = runs ps ws (row.take n)
  | [], ws, n => by simp [runs]
  | p :: r, ws, 0 => rfl
  | p :: r, ws, n + 1 => by
    show _ :: (runs ps _ r).take n = _
    rw [runs_take ps r]
    rfl
theorem runs_at (ps : List Int) : ∀ (row : List Int) (s : Ws) (m : Nat), m < row.length → (runs ps s.ws row)[m]? = some (stF (dragAll ps) s (row.take (m + 1))).ws
  | [], s, m, h => by simp at h
  | p :: r, s, 0, _ => rfl
  | p :: r, s, m + 1, h => by
    show (runs ps (dragAll ps s.ws p) r)[m]? = some (stF (dragAll ps) (goneS s p (dragAll ps s.ws p)) (r.take (m + 1))).ws
    exact runs_at ps r (goneS s p (dragAll ps s.ws p)) m (by simpa using h)
theorem runs_each (ps : List Int) : ∀ (row ws : List Int), ws.length = ps.length → ∀ l ∈ runs ps ws row, l.length = ps.length
  | [], ws, _, l, h => by cases h
  | p :: r, ws, hw, l, h => by
    have h1 : (dragAll ps ws p).length = ps.length := by rw [dragAll_len]; omega
    rcases List.mem_cons.mp h with rfl | h
    · exact h1
    · exact runs_each ps r _ h1 l h
theorem pick_some {l : List Int} {k : Nat} (h : k < l.length) : l[k]? = some (pick l (k : Int)) := by
  unfold pick
  rw [Int.toNat_natCast, List.getD_eq_getElem?_getD, List.getElem?_eq_getElem h]
  rfl
theorem pick_of {l : List Int} {k : Nat} {x : Int} (h : l[k]? = some x) : pick l (k : Int) = x := by
  unfold pick
  rw [Int.toNat_natCast, List.getD_eq_getElem?_getD, h]
  rfl
theorem gs_way (ps : List Int) : ∀ (row : List Int) (s : Ws) (k : Nat), s.ws.length = ps.length → s.gs.length = ps.length → k < ps.length → pick (stF (dragAll ps) s row).gs (k : Int) = pick s.gs (k : Int) + way (pick s.ws (k : Int) :: (runs ps s.ws row).map fun l => pick l (k : Int))
  | [], s, k, _, _, _ => by
    show pick s.gs (k : Int) = pick s.gs (k : Int) + 0
    omega
  | p :: r, s, k, h1, h2, h3 => by
    have hd : (dragAll ps s.ws p).length = ps.length := by rw [dragAll_len]; omega
    have ih := gs_way ps r (goneS s p (dragAll ps s.ws p)) k hd (wayF_len h2 hd h1) h3
    have hg := pick_of (wayF_at (pick_some (l := s.gs) (by omega)) (pick_some (l := dragAll ps s.ws p) (by omega)) (pick_some (l := s.ws) (k := k) (by omega)))
    show pick (stF (dragAll ps) (goneS s p (dragAll ps s.ws p)) r).gs (k : Int) = _
    rw [ih]
    show pick (wayF s.gs (dragAll ps s.ws p) s.ws) (k : Int) + _ = _
    rw [hg]
    show _ = pick s.gs (k : Int) + (absI (pick (dragAll ps s.ws p) (k : Int) - pick s.ws (k : Int)) + way (pick (dragAll ps s.ws p) (k : Int) :: (runs ps (dragAll ps s.ws p) r).map fun l => pick l (k : Int)))
    have e : (goneS s p (dragAll ps s.ws p)).ws = dragAll ps s.ws p := rfl
    rw [e]
    omega
theorem zip_way : ∀ l : List Int, ((l.zip (l.drop 1)).map fun x => absI (x.2 - x.1)).sum = way l
  | [] => rfl
  | [x] => rfl
  | x :: y :: r => by
    have ih := zip_way (y :: r)
    show absI (y - x) + (((y :: r).zip ((y :: r).drop 1)).map fun x => absI (x.2 - x.1)).sum = absI (y - x) + way (y :: r)
    rw [ih]
def ld35 (l : List Int) : T := .dat (iL l)
theorem il_ld35 {t : T} {ρ : Env} {X : List (List Int)} (h : t.er = iLL X) : (O2.ok t ρ).il = .ok (mE ld35 X) ρ := by
  rw [il_ok (ds := X.map iL) (by rw [h]; rfl), List.map_map]
  rfl
def slR35 (τ : T) (a b : R (Option Int)) (ρ : Env) : O2 := match a, b with
    | .ok lo, .ok hi => (match τ.lits' with
      | some ts => .ok (.lst (cutT ts lo hi)) ρ
      | none => .bad)
    | _, _ => .bad
def O2.sl35 : O2 → (Env → R (Option Int)) → (Env → R (Option Int)) → O2
  | .ok τ ρ, ml, mh => slR35 τ (ml ρ) (mh ρ) ρ
  | .exc c ρ, _, _ => .exc c ρ
  | .bad, _, _ => .bad
theorem eSl_ev35 {me : Env → O2} {ml mh : Env → R (Option Int)} {ρ : Env} : eSl me ml mh ρ = (me ρ).sl35 ml mh := by
  unfold eSl O2.sl35 slR35
  cases me ρ <;> rfl
theorem sl_ok35 {τ : T} {ml mh : Env → R (Option Int)} {ρ : Env} : (O2.ok τ ρ).sl35 ml mh = slR35 τ (ml ρ) (mh ρ) ρ := rfl
theorem slR_35 {X : List (List Int)} {k : Int} {ρ : Env} (h : 0 ≤ k) : slR35 (.dat (iLL X)) (.ok none) (.ok (some k)) ρ = .ok (.lst ((X.take k.toNat).map ld35)) ρ := by
  show O2.ok (.lst (cut ((X.map iL).map T.dat) none (some k))) ρ = _
  rw [cut_to h, List.map_map, ← List.map_take]
  rfl
theorem ld35_er (X : List (List Int)) : (T.lst (X.map ld35)).er = iLL X := by
  rw [T.er_lst, T.ers_map, List.map_map]
  rfl
theorem i_ways {ws : List Int} {Ls : List (List Int)} {m : Nat} (hw : ws.length ≤ 1000) (hm : m ≤ Ls.length) (hl : Ls.length ≤ 10000) (he : ∀ l ∈ Ls, l.length = ws.length) : m_law_ways [iL ws, iLL Ls, .int (m : Int)] = .ok (iT ((List.range ws.length).map fun (k : Nat) => way (pick ws (k : Int) :: (Ls.take m).map fun l => pick l (k : Int)))) := by
  unfold m_law_ways b_law_ways
  rw [runF_ev]
  simp (disch := first | omega | (simp; done) | (simp; omega)) [List.replicate, r1_ok]
  generalize hF : forW _ _ _ _ _ = F
  refine forW_rk (fun j : Nat => [.at (.dat (iL ws)), .at (.dat (iLL Ls)), .at (.dat (.int (m : Int))), .at (iT ((List.range j).map fun (k : Nat) => way (pick ws (k : Int) :: (Ls.take m).map fun l => pick l (k : Int)))), .no, .no, .no, .no]) (fun k j => (j : Int) = k) 0 hF ?_ ?_ ?_ rfl
  · rintro j rfl hj
    have hj : j = ws.length := by omega
    subst hj
    simp
  · rintro k j h0 h1 hj
    have hjw : j < ws.length := by omega
    subst hj
    refine ⟨j + 1, ?_, by omega⟩
    have il : ∀ ρ : Env, (O2.ok (.lst ((Ls.take m).map ld35)) ρ).il = .ok (mE ld35 (Ls.take m)) ρ := fun ρ => il_ld35 (ld35_er _)
    have hsl : ∀ ρ : Env, slR35 (.dat (iLL Ls)) (.ok none) (.ok (some (m : Int))) ρ = .ok (.lst ((Ls.take m).map ld35)) ρ := fun ρ => by
      have := slR_35 (X := Ls) (k := (m : Int)) (ρ := ρ) (by omega)
      rwa [Int.toNat_natCast] at this
    have hlt : (Ls.take m).length ≤ 10000 := by rw [List.length_take]; omega
    have hel : ∀ l ∈ Ls.take m, l.length = ws.length := fun l h => he l (List.mem_of_mem_take h)
    rw [List.range_succ, List.map_append, List.map_cons, List.map_nil, turnW_ev]
    generalize Ls.take m = Lt at il hsl hlt hel ⊢
    generalize T.lst (Lt.map ld35) = tL at il hsl
    simp (disch := first | omega | (simp; done) | (simp; omega)) [iD, ixD_p, eSl_ev35, sl_ok35, hsl, il]
    rw [lc_mapI ld35 (fun l => pick l (j : Int))]
    rotate_left
    · intro l h
      have := hel l h
      rw [lcOne_ev]
      simp (disch := first | omega | (simp; done) | (simp; omega)) [ld35, ixD_p]
    · omega
    have hPl : (pick ws (j : Int) :: Lt.map fun l => pick l (j : Int)).length ≤ 20000 := by simp; omega
    have hM : (Lt.map fun l => pick l (j : Int)).length ≤ 10000 := by simp; omega
    generalize hP : (Lt.map fun l => pick l (j : Int)) = M at hPl hM ⊢
    have ec : cut (pick ws (j : Int) :: M) (some 1) none = M := by
      rw [cut_from (by omega)]
      rfl
    simp (disch := first | omega | (simp; done) | (simp; omega)) [cat_tl, ec, tl_ints, sApp_ev]
    rw [lc_mapI pD (fun x => absI (x.2 - x.1))]
    rotate_left
    · intro x _
      rw [lcOne_ev]
      simp (disch := first | omega | (simp; done) | (simp; omega)) [pD, iD, absI]
    · rw [List.length_zip]
      omega
    have hz := zip_way (pick ws (j : Int) :: M)
    simp only [List.drop_succ_cons, List.drop_zero] at hz
    simp (disch := first | omega | (simp; done) | (simp; omega)) [sumD_iL, hz, sApp_ev, appC_iT, wpE_cons]
  · simp [wpE_cons, lst_0]
theorem list_pick35 (l : List Int) : l = (List.range l.length).map fun (k : Nat) => pick l (k : Int) := by
  refine List.ext_getElem (by simp) fun k h1 h2 => ?_
  rw [List.getElem_map, List.getElem_range]
  unfold pick
  rw [Int.toNat_natCast, List.getD_eq_getElem?_getD, List.getElem?_eq_getElem h1]
  rfl
theorem mul_iL35 {xs : List Int} {k : Int} (h0 : 0 ≤ k) (h1 : k ≤ 2) (hl : xs.length ≤ 1000) : mulD (iL xs) (.int k) = .ok (iL (List.replicate k.toNat xs).flatten) := by
  have hk : k.toNat = 0 ∨ k.toNat = 1 ∨ k.toNat = 2 := by omega
  show (if 0 ≤ k ∧ k < 100000000 ∧ (xs.map D.int).length * k.toNat ≤ sizeLine then R.ok (D.lst (List.replicate k.toNat (xs.map D.int)).flatten) else .bad) = _
  rw [if_pos ⟨h0, by omega, by rw [sizeLine_eq, List.length_map]; rcases hk with e | e | e <;> rw [e] <;> omega⟩]
  congr 1
  unfold iL
  congr 1
  generalize k.toNat = n
  induction n with
  | zero => rfl
  | succ n ih => rw [List.replicate_succ, List.replicate_succ, List.flatten_cons, List.flatten_cons, List.map_append, ih]
theorem rep_len {xs : List Int} {n : Nat} (h : n ≤ 2) : (List.replicate n xs).flatten.length ≤ 2 * xs.length := by
  obtain rfl | rfl | rfl : n = 0 ∨ n = 1 ∨ n = 2 := by omega
  · simp
  · simp
    omega
  · simp [List.replicate]
    omega
theorem fin35 {ps ws row : List Int} {h : Int} (c0 c5 : Cell) (t : Tr ps h ws) (hr : row.length ≤ 10000) : k35T m_law_ways [c0, .at (iT ps), .at (.dat (.int h)), .at (iT ws), .at (iT row), c5, .at (iTT (runs ps ws row)), .no, .no, .no] = .rt (.dat (.bl true)) := by
  have hpl := (trainB_iff.mp t.train).1
  have hwl := (standB_iff.mp t.stand).1
  have hC : k35C m_law_ways [c0, .at (iT ps), .at (.dat (.int h)), .at (iT ws), .at (iT row), c5, .at (iTT (runs ps ws row)), .no, .no, .no] := by
    refine ⟨ps, ws, row, h, runs ps ws row, dragAll ps, _, _, _, _, _, _, rfl, iT_er _, iT_er _, iT_er _, iTT_er _, hwl.symm, by omega, hr, runs_len _ _ _, call_inv (c_need_ok t.train t.stand), fun xs p e => ⟨call_inv (c_dragged_all (by omega)), ?_⟩, fun m hm => ?_, fun m hm => ?_⟩
    · rw [dragAll_len]
      omega
    · exact runs_at ps row (wS0 h ws) m hm
    · have hrl := runs_len ps row ws
      have e := i_ways (ws := ws) (Ls := runs ps ws row) (m := m + 1) (by omega) (by omega) (by omega) fun l hl => by
        rw [runs_each ps row ws hwl l hl, hwl]
      rw [show ((m + 1 : Nat) : Int) = (m : Int) + 1 by omega] at e
      rw [e]
      have hs := stF_len (dr := dragAll ps) (n := ws.length) (fun xs p e => by rw [dragAll_len]; omega) (row.take (m + 1)) (wS0 h ws) rfl (by show (ws.map fun _ => (0 : Int)).length = _; simp)
      have eg : (List.range ws.length).map (fun (k : Nat) => way (pick ws (k : Int) :: ((runs ps ws row).take (m + 1)).map fun l => pick l (k : Int))) = (stF (dragAll ps) (wS0 h ws) (row.take (m + 1))).gs := by
        refine Eq.trans ?_ (list_pick35 _).symm
        rw [hs.2]
        refine List.map_congr_left fun k hk => ?_
        have hk := List.mem_range.mp hk
        rw [gs_way ps (row.take (m + 1)) (wS0 h ws) k hwl (by show (ws.map fun _ => (0 : Int)).length = _; simp; omega) (by omega), runs_take]
        have z : pick (wS0 h ws).gs (k : Int) = 0 := by
          refine pick_of ?_
          show (ws.map fun _ => (0 : Int))[k]? = some 0
          rw [List.getElem?_map, List.getElem?_eq_getElem hk]
          rfl
        rw [z, Int.zero_add]
        rfl
      rw [eg]
  unfold k35T
  rw [if_pos hC]
theorem law_true : ∀ ns : List Int, ns.length ≤ 63 → m_law_k35 [.scr ns] = .ok (.dat (.bl true)) := by
  intro ns _
  obtain ⟨ps, h, ws, t, et⟩ := c_law_train ns
  have hpb := (trainB_iff.mp t.train)
  have hpl := hpb.1
  have hwl := (standB_iff.mp t.stand).1
  have hsum : 0 ≤ ps.sum := by
    have : ∀ l : List Int, (∀ p ∈ l, 0 ≤ p) → 0 ≤ l.sum := fun l => by
      induction l with
      | nil => simp
      | cons x r ih =>
        intro q
        have q1 := q x List.mem_cons_self
        have q2 := ih fun p hp => q p (List.mem_cons_of_mem _ hp)
        rw [List.sum_cons]
        omega
    exact this ps hpb.2
  obtain ⟨r0, er, lr, -⟩ := c_law_a_row (cell := cellAt ns 2) (many := 260) (mid := h) (span := 2 * ps.sum + 3) (by omega) (by omega)
  obtain ⟨hd, e1, l1, b1, -⟩ := ex_draws (cellAt ns 3) 2 1000 (by omega)
  have e1 : R.call m_law_draws 3 [.int (cellAt ns 3), .int 2, .int 1000] = .ok (iT hd) := e1
  have q0 := b1 0
  have q1 := b1 1
  obtain ⟨kk, ekk, hkk⟩ : ∃ kk : Int, kk = 2 * (if pick hd 1 % 8 = 0 then 1 else 0) ∧ 0 ≤ kk ∧ kk ≤ 2 := ⟨_, rfl, by split <;> omega, by split <;> omega⟩
  have hm := mul_iL35 (xs := r0) hkk.1 hkk.2 (by omega)
  have hcl := cut_le r0 none (some (150 + pick hd 0 % 110))
  have hrl := rep_len (xs := r0) (n := kk.toNat) (by omega)
  unfold m_law_k35 b_law_k35
  rw [runF_ev]
  have key : ∀ k : Int, k = kk → ((((R.ok (iL (cut r0 none (some (150 + pick hd 0 % 110))))).two (mulD (iL r0) (.int k)) catF).tl.toE [.at (.dat (.scr ns)), .at (iT ps), .at (.dat (.int h)), .at (iT ws), .at (iT r0), .at (iT hd), .no, .no, .no, .no]).asg (setC 4)).thn (sSeq (sAsg (eSP (pCall 4 m_run_of (aCons (bVar 1) (aCons (bVar 2) (aCons (bVar 3) (aCons (bVar 4) aNil)))))) (setC 6)) (k35T m_law_ways)) = .rt (.dat (.bl true)) := by
    rintro k rfl
    have hlen : (cut r0 none (some (150 + pick hd 0 % 110)) ++ (List.replicate k.toNat r0).flatten).length ≤ 10000 := by
      rw [List.length_append]
      omega
    have hro := c_run_of t.train t.stand (row := cut r0 none (some (150 + pick hd 0 % 110)) ++ (List.replicate k.toNat r0).flatten) (by omega)
    have hf := fin35 (.at (.dat (.scr ns))) (.at (iT hd)) t hlen
    generalize hR : cut r0 none (some (150 + pick hd 0 % 110)) ++ (List.replicate k.toNat r0).flatten = row at hlen hro hf
    have hc := cat_tl (xs := cut r0 none (some (150 + pick hd 0 % 110))) (ys := (List.replicate k.toNat r0).flatten) (by omega)
    rw [hR] at hc
    simp (disch := first | omega | (simp; done) | (simp; omega)) [hm, hc, hro, hf]
  by_cases c : pick hd 1 % 8 = 0
  · simp (disch := first | omega | (simp; done) | (simp; omega)) [List.replicate, et, er, c_cell_at, e1, ixD_p, l1, modD_ii, mulD_ii, c, sumD_iL]
    rw [key 2 (by rw [ekk, if_pos c]; rfl)]
    rfl
  · simp (disch := first | omega | (simp; done) | (simp; omega)) [List.replicate, et, er, c_cell_at, e1, ixD_p, l1, modD_ii, mulD_ii, c, sumD_iL]
    rw [key 0 (by rw [ekk, if_neg c]; rfl)]
    rfl
end Sm
namespace K35
open PySem PySem.Spec PyProof.Rows L2 Sm
def topS (i : Nat) : Stmt := PySem.Challenge.pw_lugtrain_k35_hundreds_of_goings.main.body.getD i (.Pass ⟨0, 0, 0, 0⟩)
structure Tx (K : PySem.W.Frag) (mg : Str → Option Value) : Prop where
  tt : True
  c_MOST : ∃ t, mg "MOST" = some (.int (12) t)
  x_NoStand : ExF K mg "NoStand"
  x_NoTrain : ExF K mg "NoTrain"
  x_NothingLeft : ExF K mg "NothingLeft"
  z_ValueError : mg "ValueError" = none
  z_abs : mg "abs" = none
  z_int : mg "int" = none
  z_isinstance : mg "isinstance" = none
  z_len : mg "len" = none
  z_list : mg "list" = none
  z_max : mg "max" = none
  z_min : mg "min" = none
  z_range : mg "range" = none
  z_sum : mg "sum" = none
  z_zip : mg "zip" = none
  g_NoBox : mg "NoBox" = some (.ref (He.ga K "NoBox"))
  g_NoPaper : mg "NoPaper" = some (.ref (He.ga K "NoPaper"))
  g_NoPiece : mg "NoPiece" = some (.ref (He.ga K "NoPiece"))
  g_NoPlace : mg "NoPlace" = some (.ref (He.ga K "NoPlace"))
  g_NoRow : mg "NoRow" = some (.ref (He.ga K "NoRow"))
  g_NoStand : mg "NoStand" = some (.ref (He.ga K "NoStand"))
  g_NoSwitch : mg "NoSwitch" = some (.ref (He.ga K "NoSwitch"))
  g_NoTable : mg "NoTable" = some (.ref (He.ga K "NoTable"))
  g_NoText : mg "NoText" = some (.ref (He.ga K "NoText"))
  g_NoTrain : mg "NoTrain" = some (.ref (He.ga K "NoTrain"))
  g_NothingLeft : mg "NothingLeft" = some (.ref (He.ga K "NothingLeft"))
  g_TooMany : mg "TooMany" = some (.ref (He.ga K "TooMany"))
  g_TrainError : mg "TrainError" = some (.ref (He.ga K "TrainError"))
  wk : WkT K mg
section
variable {P : Program} {w : World} {K : PySem.W.Frag} {mg : Str → Option Value} {base : Heap}
abbrev s_law_draws : Stmt := topS 26
abbrev N_law_draws : List Str := ["cell", "many", "base", "found", "rest", "stirred", "k"]
theorem sc_law_draws : FnScope N_law_draws ["cell", "many", "base"] (defScope s_law_draws) := ⟨rfl, rfl, rfl, by decide +kernel, rfl, by decide +kernel, by decide +kernel⟩
theorem ok_law_draws (T : Tx K mg) {fd : FuncData} (F : FnP K "_law_draws" s_law_draws (He.ga K "_law_draws") fd) (g : mg "_law_draws" = some (.ref (He.ga K "_law_draws"))) : Rdy P w K mg base "_law_draws" 1 ["cell", "many", "base"] 3 m_law_draws := by
  refine ⟨⟨fd, F.ok (k := 0) sc_law_draws (fn_len rfl) (fun cdv A outer s H vs Q E hr h => ?_), F.bindsN fun _ _ _ _ _ _ us hl => match us, hl with | [_, _, _], _ => rfl⟩, g, F.kp⟩
  refine ⟨_, ?_, fn_body (N := N_law_draws) (mb := b_law_draws) (K := K) (ec := ecK K) (ss_seq (ss_asg (se_lst ses_nil) (sg_name _)) (ss_seq (ss_asg (se_sp (sp_flat (sb_op opd_mul (sb_var _) (sb_cb cbd_int (sa_cons (sb_op opd_cmp (sb_var _) (sb_op opd_pow (sb_int _) (sb_int _))) sa_nil))))) (sg_name _)) (ss_seq (ss_asg (se_sp (sp_flat (sb_op opd_mod (sb_var _) (sb_int _)))) (sg_name _)) (ss_seq (ss_forW (si_r1 (sa_cons (sb_op opd_add (sb_var _) (sb_int _)) sa_nil)) (sg_name _) (ss_seq (ss_asg (se_sp (sp_flat (sb_op opd_mod (sb_op opd_add (sb_op opd_add (sb_op opd_add (sb_op opd_mul (sb_var _) (sb_var _)) (sb_op opd_mul (sb_int _) (sb_var _))) (sb_var _)) (sb_int _)) (sb_int _)))) (sg_name _)) (ss_if (sbt_and (sbt_test (sb_op opd_cmp (sb_var _) (sb_int _))) (sbt_test (sb_op opd_cmp (sb_var _) (sb_int _)))) (ss_seq (ss_app (se_sp (sp_flat (sb_op opd_mod (sb_var _) (sb_var _))))) (ss_asg (se_sp (sp_flat (sb_op opd_fdiv (sb_var _) (sb_var _)))) (sg_name _))) (ss_if (sbt_test (sb_op opd_cmp (sb_var _) (sb_int _))) (ss_app (se_sp (sp_flat (sb_op opd_mod (sb_op opd_fdiv (sb_var _) (sb_int _)) (sb_var _))))) ss_next)))) (ss_ret (se_move _)))))) h⟩
  exact (pss_cons (ps_set (i := 3) sc_law_draws.nd rfl (by first | exact Or.inl rfl | exact Or.inr rfl) (pe_lst pa_nil)) (pss_cons (ps_set (i := 4) sc_law_draws.nd rfl (by first | exact Or.inl rfl | exact Or.inr rfl) (pe_op op_mulU (pv 0) (pe_callTy call_int1 (by rfl) T.z_int (by decide +kernel) (pa_cons (pe_cmpR op_ge (pv 0) (pe_op op_pow pe_int pe_int) (nomark _)) pa_nil)))) (pss_cons (ps_set (i := 5) sc_law_draws.nd rfl (by first | exact Or.inl rfl | exact Or.inr rfl) (pe_op op_mod (pv 0) pe_int)) (pss_cons (ps_for (passes_of rfl) rfl (pi_range1 (by rfl) T.z_range (pa_cons (pe_op op_addU (pv 1) pe_int) pa_nil)) (pg_name (i := 6) sc_law_draws.nd rfl (by first | exact Or.inl rfl | exact Or.inr rfl)) (pss_cons (ps_set (i := 5) sc_law_draws.nd rfl (by first | exact Or.inl rfl | exact Or.inr rfl) (pe_op op_mod (pe_op op_addU (pe_op op_addU (pe_op op_addU (pe_op op_mulU (pv 5) (pv 5)) (pe_op op_mulU pe_int (pv 5))) (pv 6)) pe_int) pe_int)) (pss_one (ps_if (PW.pt (pw_and (pt_cmpR op_gt (pv 6) pe_int (nomark _)) (pw_and1 (pt_cmpR op_gt (pv 4) pe_int (nomark _))))) (pss_cons (ps_expr (pe_bm PySem.F.plainAttrs_list PySem.F.slot_list_append PySem.F.type_list_append mt_append (pv 3) (pa_cons (pe_op op_mod (pv 4) (pv 2)) pa_nil))) (pss_one (ps_set (i := 4) sc_law_draws.nd rfl (by first | exact Or.inl rfl | exact Or.inr rfl) (pe_op op_fdiv (pv 4) (pv 2))))) (pss_one (ps_if (pt_cmpR op_gt (pv 6) pe_int (nomark _)) (pss_one (ps_expr (pe_bm PySem.F.plainAttrs_list PySem.F.slot_list_append PySem.F.type_list_append mt_append (pv 3) (pa_cons (pe_op op_mod (pe_op op_fdiv (pv 5) pe_int) (pv 2)) pa_nil)))) pss_nil)))))) (pss_one (ps_ret (pv 3)))))))
abbrev s_law_cell_at : Stmt := topS 25
abbrev N_law_cell_at : List Str := ["script", "k"]
theorem sc_law_cell_at : FnScope N_law_cell_at ["script", "k"] (defScope s_law_cell_at) := ⟨rfl, rfl, rfl, by decide +kernel, rfl, by decide +kernel, by decide +kernel⟩
theorem ok_law_cell_at (T : Tx K mg) {fd : FuncData} (F : FnP K "_law_cell_at" s_law_cell_at (He.ga K "_law_cell_at") fd) (g : mg "_law_cell_at" = some (.ref (He.ga K "_law_cell_at"))) : Rdy P w K mg base "_law_cell_at" 1 ["script", "k"] 2 m_law_cell_at := by
  refine ⟨⟨fd, F.ok (k := 0) sc_law_cell_at (fn_len rfl) (fun cdv A outer s H vs Q E hr h => ?_), F.bindsN fun _ _ _ _ _ _ us hl => match us, hl with | [_, _], _ => rfl⟩, g, F.kp⟩
  refine ⟨_, ?_, fn_body (N := N_law_cell_at) (mb := b_law_cell_at) (K := K) (ec := ecK K) (ss_seq (ss_if (sbt_test (sb_op opd_cmp (sb_var _) (sb_cb cbd_len (sa_cons (sb_var _) sa_nil)))) (ss_ret (se_sp (sp_flat (sb_op opd_ix (sb_var _) (sb_var _))))) ss_next) (ss_ret (se_sp (sp_flat (sb_int _))))) h⟩
  exact (pss_cons (ps_if (pt_cmpR op_lt (pv 1) (pe_callB call_len (by rfl) T.z_len (by decide +kernel) (pa_cons (pv 0) pa_nil)) (nomark _)) (pss_one (ps_ret (pe_ix ix_seq (pv 0) (pv 1) (fun _ _ => rfl)))) pss_nil) (pss_one (ps_ret pe_int)))
abbrev s_law_train : Stmt := topS 27
abbrev N_law_train : List Str := ["script", "heads", "many", "far", "picks", "plays", "wheels", "handle", "ahead", "k", "play", "side"]
theorem sc_law_train : FnScope N_law_train ["script"] (defScope s_law_train) := ⟨rfl, rfl, rfl, by decide +kernel, rfl, by decide +kernel, by decide +kernel⟩
theorem ok_law_train (T : Tx K mg) {fd : FuncData} (F : FnP K "_law_train" s_law_train (He.ga K "_law_train") fd) (g : mg "_law_train" = some (.ref (He.ga K "_law_train"))) (R_law_draws : Rdy P w K mg base "_law_draws" 1 ["cell", "many", "base"] 3 m_law_draws) (R_law_cell_at : Rdy P w K mg base "_law_cell_at" 1 ["script", "k"] 2 m_law_cell_at) : Rdy P w K mg base "_law_train" 2 ["script"] 1 m_law_train := by
  refine ⟨⟨fd, F.ok (k := 1) sc_law_train (fn_len rfl) (fun cdv A outer s H vs Q E hr h => ?_), F.bindsN fun _ _ _ _ _ _ us hl => match us, hl with | [_], _ => rfl⟩, g, F.kp⟩
  refine ⟨_, ?_, fn_body (N := N_law_train) (mb := b_law_train) (K := K) (ec := ecK K) (ss_seq (ss_asg (se_sp (sp_call (sa_cons (sb_sp (sp_call (sa_cons (sb_var _) (sa_cons (sb_int _) sa_nil)))) (sa_cons (sb_int _) (sa_cons (sb_int _) sa_nil))))) (sg_name _)) (ss_seq (ss_asg (se_sp (sp_flat (sb_op opd_ix (sb_f (sf_lst (sa_cons (sb_op opd_add (sb_int _) (sb_op opd_mod (sb_op opd_ix (sb_var _) (sb_int _)) (sb_int _))) (sa_cons (sb_op opd_add (sb_int _) (sb_op opd_mod (sb_op opd_ix (sb_var _) (sb_int _)) (sb_int _))) (sa_cons (sb_int _) sa_nil))))) (sb_op opd_mod (sb_op opd_ix (sb_var _) (sb_int _)) (sb_int _))))) (sg_name _)) (ss_seq (ss_asg (se_sp (sp_flat (sb_op opd_ix (sb_f (sf_lst (sa_cons (sb_int _) (sa_cons (sb_int _) (sa_cons (sb_op opd_pow (sb_int _) (sb_int _)) (sa_cons (sb_int _) sa_nil)))))) (sb_op opd_mod (sb_op opd_ix (sb_var _) (sb_int _)) (sb_int _))))) (sg_name _)) (ss_seq (ss_asg (se_sp (sp_call (sa_cons (sb_sp (sp_call (sa_cons (sb_var _) (sa_cons (sb_int _) sa_nil)))) (sa_cons (sb_int _) (sa_cons (sb_op opd_pow (sb_int _) (sb_int _)) sa_nil))))) (sg_name _)) (ss_seq (ss_asg (se_lst ses_nil) (sg_name _)) (ss_seq (ss_asg (se_lst ses_nil) (sg_name _)) (ss_seq (ss_asg (se_sp (sp_flat (sb_op opd_mul (sb_op opd_sub (sb_op opd_ix (sb_var _) (sb_int _)) (sb_int _)) (sb_op opd_ix (sb_f (sf_lst (sa_cons (sb_int _) (sa_cons (sb_int _) (sa_cons (sb_op opd_pow (sb_int _) (sb_int _)) sa_nil))))) (sb_op opd_mod (sb_op opd_ix (sb_var _) (sb_int _)) (sb_int _)))))) (sg_name _)) (ss_seq (ss_asg (se_sp (sp_flat (sb_var _))) (sg_name _)) (ss_seq (ss_forW (si_r1 (sa_cons (sb_var _) sa_nil)) (sg_name _) (ss_seq (ss_asg (se_sp (sp_flat (sb_op opd_mod (sb_op opd_mul (sb_op opd_ix (sb_var _) (sb_var _)) (sb_op opd_add (sb_op opd_pow (sb_int _) (sb_int _)) (sb_int _))) (sb_op opd_add (sb_var _) (sb_int _))))) (sg_name _)) (ss_seq (ss_if (sbt_test (sb_op opd_cmp (sb_op opd_mod (sb_op opd_ix (sb_var _) (sb_var _)) (sb_int _)) (sb_int _))) (ss_asg (se_sp (sp_flat (sb_op opd_mod (sb_op opd_ix (sb_var _) (sb_var _)) (sb_op opd_add (sb_var _) (sb_int _))))) (sg_name _)) ss_next) (ss_seq (ss_asg (se_sp (sp_flat (sb_op opd_ix (sb_f (sf_lst (sa_cons (sb_op opd_sub (sb_int _) (sb_var _)) (sa_cons (sb_var _) (sa_cons (sb_op opd_sub (sb_op opd_mod (sb_op opd_mul (sb_op opd_ix (sb_var _) (sb_op opd_add (sb_int _) (sb_var _))) (sb_op opd_add (sb_op opd_pow (sb_int _) (sb_int _)) (sb_int _))) (sb_op opd_add (sb_op opd_mul (sb_int _) (sb_var _)) (sb_int _))) (sb_var _)) sa_nil))))) (sb_op opd_mod (sb_op opd_ix (sb_var _) (sb_op opd_add (sb_int _) (sb_var _))) (sb_int _))))) (sg_name _)) (ss_seq (ss_app (se_sp (sp_flat (sb_var _)))) (ss_seq (ss_asg (se_sp (sp_flat (sb_op opd_add (sb_var _) (sb_var _)))) (sg_name _)) (ss_app (se_sp (sp_flat (sb_var _)))))))))) (ss_ret (se_tup (ses_cons (se_move _) (ses_cons (se_sp (sp_flat (sb_var _))) (ses_cons (se_move _) ses_nil)))))))))))))) h⟩
  exact (pss_cons (ps_set (i := 1) sc_law_train.nd rfl (by first | exact Or.inl rfl | exact Or.inr rfl) (pe_callF R_law_draws (hr.mono (by decide)) (by rfl) (takes_of rfl rfl rfl rfl) (pa_cons (pe_callF R_law_cell_at (hr.mono (by decide)) (by rfl) (takes_of rfl rfl rfl rfl) (pa_cons (pv 0) (pa_cons pe_int pa_nil))) (pa_cons pe_int (pa_cons pe_int pa_nil))))) (pss_cons (ps_set (i := 2) sc_law_train.nd rfl (by first | exact Or.inl rfl | exact Or.inr rfl) (pe_ix ix_seq (pe_lst (pa_cons (pe_op op_addU pe_int (pe_op op_mod (pe_ix ix_seq (pv 1) pe_int (fun _ _ => rfl)) pe_int)) (pa_cons (pe_op op_addU pe_int (pe_op op_mod (pe_ix ix_seq (pv 1) pe_int (fun _ _ => rfl)) pe_int)) (pa_cons pe_int pa_nil)))) (pe_op op_mod (pe_ix ix_seq (pv 1) pe_int (fun _ _ => rfl)) pe_int) (fun _ _ => rfl))) (pss_cons (ps_set (i := 3) sc_law_train.nd rfl (by first | exact Or.inl rfl | exact Or.inr rfl) (pe_ix ix_seq (pe_lst (pa_cons pe_int (pa_cons pe_int (pa_cons (pe_op op_pow pe_int pe_int) (pa_cons pe_int pa_nil))))) (pe_op op_mod (pe_ix ix_seq (pv 1) pe_int (fun _ _ => rfl)) pe_int) (fun _ _ => rfl))) (pss_cons (ps_set (i := 4) sc_law_train.nd rfl (by first | exact Or.inl rfl | exact Or.inr rfl) (pe_callF R_law_draws (hr.mono (by decide)) (by rfl) (takes_of rfl rfl rfl rfl) (pa_cons (pe_callF R_law_cell_at (hr.mono (by decide)) (by rfl) (takes_of rfl rfl rfl rfl) (pa_cons (pv 0) (pa_cons pe_int pa_nil))) (pa_cons pe_int (pa_cons (pe_op op_pow pe_int pe_int) pa_nil))))) (pss_cons (ps_set (i := 5) sc_law_train.nd rfl (by first | exact Or.inl rfl | exact Or.inr rfl) (pe_lst pa_nil)) (pss_cons (ps_set (i := 6) sc_law_train.nd rfl (by first | exact Or.inl rfl | exact Or.inr rfl) (pe_lst pa_nil)) (pss_cons (ps_set (i := 7) sc_law_train.nd rfl (by first | exact Or.inl rfl | exact Or.inr rfl) (pe_op op_mulU (pe_op op_sub (pe_ix ix_seq (pv 1) pe_int (fun _ _ => rfl)) pe_int) (pe_ix ix_seq (pe_lst (pa_cons pe_int (pa_cons pe_int (pa_cons (pe_op op_pow pe_int pe_int) pa_nil)))) (pe_op op_mod (pe_ix ix_seq (pv 1) pe_int (fun _ _ => rfl)) pe_int) (fun _ _ => rfl)))) (pss_cons (ps_set (i := 8) sc_law_train.nd rfl (by first | exact Or.inl rfl | exact Or.inr rfl) (pv 7)) (pss_cons (ps_for (passes_of rfl) rfl (pi_range1 (by rfl) T.z_range (pa_cons (pv 2) pa_nil)) (pg_name (i := 9) sc_law_train.nd rfl (by first | exact Or.inl rfl | exact Or.inr rfl)) (pss_cons (ps_set (i := 10) sc_law_train.nd rfl (by first | exact Or.inl rfl | exact Or.inr rfl) (pe_op op_mod (pe_op op_mulU (pe_ix ix_seq (pv 4) (pv 9) (fun _ _ => rfl)) (pe_op op_addU (pe_op op_pow pe_int pe_int) pe_int)) (pe_op op_addU (pv 3) pe_int))) (pss_cons (ps_if (pt_cmpR op_gt (pe_op op_mod (pe_ix ix_seq (pv 4) (pv 9) (fun _ _ => rfl)) pe_int) pe_int (nomark _)) (pss_one (ps_set (i := 10) sc_law_train.nd rfl (by first | exact Or.inl rfl | exact Or.inr rfl) (pe_op op_mod (pe_ix ix_seq (pv 4) (pv 9) (fun _ _ => rfl)) (pe_op op_addU (pv 3) pe_int)))) pss_nil) (pss_cons (ps_set (i := 11) sc_law_train.nd rfl (by first | exact Or.inl rfl | exact Or.inr rfl) (pe_ix ix_seq (pe_lst (pa_cons (pe_op op_sub pe_int (pv 10)) (pa_cons (pv 10) (pa_cons (pe_op op_sub (pe_op op_mod (pe_op op_mulU (pe_ix ix_seq (pv 4) (pe_op op_addU pe_int (pv 9)) (fun _ _ => rfl)) (pe_op op_addU (pe_op op_pow pe_int pe_int) pe_int)) (pe_op op_addU (pe_op op_mulU pe_int (pv 10)) pe_int)) (pv 10)) pa_nil)))) (pe_op op_mod (pe_ix ix_seq (pv 4) (pe_op op_addU pe_int (pv 9)) (fun _ _ => rfl)) pe_int) (fun _ _ => rfl))) (pss_cons (ps_expr (pe_bm PySem.F.plainAttrs_list PySem.F.slot_list_append PySem.F.type_list_append mt_append (pv 5) (pa_cons (pv 10) pa_nil))) (pss_cons (ps_set (i := 8) sc_law_train.nd rfl (by first | exact Or.inl rfl | exact Or.inr rfl) (pe_op op_addU (pv 8) (pv 11))) (pss_one (ps_expr (pe_bm PySem.F.plainAttrs_list PySem.F.slot_list_append PySem.F.type_list_append mt_append (pv 6) (pa_cons (pv 8) pa_nil)))))))))) (pss_one (ps_ret (pe_tup (pa_cons (pv 5) (pa_cons (pv 7) (pa_cons (pv 6) pa_nil)))))))))))))))
abbrev s_law_a_row : Stmt := topS 28
abbrev N_law_a_row : List Str := ["cell", "many", "middle", "span", "found", "pick", "near", "far", "edge"]
theorem sc_law_a_row : FnScope N_law_a_row ["cell", "many", "middle", "span"] (defScope s_law_a_row) := ⟨rfl, rfl, rfl, by decide +kernel, rfl, by decide +kernel, by decide +kernel⟩
theorem ok_law_a_row (T : Tx K mg) {fd : FuncData} (F : FnP K "_law_a_row" s_law_a_row (He.ga K "_law_a_row") fd) (g : mg "_law_a_row" = some (.ref (He.ga K "_law_a_row"))) (R_law_draws : Rdy P w K mg base "_law_draws" 1 ["cell", "many", "base"] 3 m_law_draws) : Rdy P w K mg base "_law_a_row" 2 ["cell", "many", "middle", "span"] 4 m_law_a_row := by
  refine ⟨⟨fd, F.ok (k := 1) sc_law_a_row (fn_len rfl) (fun cdv A outer s H vs Q E hr h => ?_), F.bindsN fun _ _ _ _ _ _ us hl => match us, hl with | [_, _, _, _], _ => rfl⟩, g, F.kp⟩
  refine ⟨_, ?_, fn_body (N := N_law_a_row) (mb := b_law_a_row) (K := K) (ec := ecK K) (ss_seq (ss_asg (se_lst ses_nil) (sg_name _)) (ss_seq (ss_forW (si_list (se_sp (sp_call (sa_cons (sb_var _) (sa_cons (sb_var _) (sa_cons (sb_op opd_pow (sb_int _) (sb_int _)) sa_nil)))))) (sg_name _) (ss_seq (ss_asg (se_sp (sp_flat (sb_op opd_sub (sb_op opd_mod (sb_op opd_fdiv (sb_var _) (sb_int _)) (sb_int _)) (sb_int _)))) (sg_name _)) (ss_seq (ss_asg (se_sp (sp_flat (sb_op opd_sub (sb_op opd_mod (sb_op opd_mul (sb_var _) (sb_op opd_add (sb_op opd_pow (sb_int _) (sb_int _)) (sb_int _))) (sb_op opd_add (sb_op opd_mul (sb_int _) (sb_var _)) (sb_int _))) (sb_var _)))) (sg_name _)) (ss_seq (ss_asg (se_sp (sp_flat (sb_op opd_ix (sb_f (sf_lst (sa_cons (sb_op opd_sub (sb_int _) (sb_var _)) (sa_cons (sb_var _) sa_nil)))) (sb_op opd_mod (sb_op opd_fdiv (sb_var _) (sb_int _)) (sb_int _))))) (sg_name _)) (ss_app (se_sp (sp_flat (sb_op opd_add (sb_var _) (sb_op opd_ix (sb_f (sf_lst (sa_cons (sb_var _) (sa_cons (sb_var _) (sa_cons (sb_var _) (sa_cons (sb_var _) (sa_cons (sb_op opd_sub (sb_op opd_mod (sb_op opd_fdiv (sb_var _) (sb_int _)) (sb_op opd_add (sb_op opd_mul (sb_int _) (sb_var _)) (sb_int _))) (sb_var _)) sa_nil))))))) (sb_op opd_mod (sb_var _) (sb_int _))))))))))) (ss_ret (se_move _)))) h⟩
  exact (pss_cons (ps_set (i := 4) sc_law_a_row.nd rfl (by first | exact Or.inl rfl | exact Or.inr rfl) (pe_lst pa_nil)) (pss_cons (ps_for (passes_of rfl) rfl (pi_list (pe_callF R_law_draws (hr.mono (by decide)) (by rfl) (takes_of rfl rfl rfl rfl) (pa_cons (pv 0) (pa_cons (pv 1) (pa_cons (pe_op op_pow pe_int pe_int) pa_nil))))) (pg_name (i := 5) sc_law_a_row.nd rfl (by first | exact Or.inl rfl | exact Or.inr rfl)) (pss_cons (ps_set (i := 6) sc_law_a_row.nd rfl (by first | exact Or.inl rfl | exact Or.inr rfl) (pe_op op_sub (pe_op op_mod (pe_op op_fdiv (pv 5) pe_int) pe_int) pe_int)) (pss_cons (ps_set (i := 7) sc_law_a_row.nd rfl (by first | exact Or.inl rfl | exact Or.inr rfl) (pe_op op_sub (pe_op op_mod (pe_op op_mulU (pv 5) (pe_op op_addU (pe_op op_pow pe_int pe_int) pe_int)) (pe_op op_addU (pe_op op_mulU pe_int (pv 3)) pe_int)) (pv 3))) (pss_cons (ps_set (i := 8) sc_law_a_row.nd rfl (by first | exact Or.inl rfl | exact Or.inr rfl) (pe_ix ix_seq (pe_lst (pa_cons (pe_op op_sub pe_int (pv 3)) (pa_cons (pv 3) pa_nil))) (pe_op op_mod (pe_op op_fdiv (pv 5) pe_int) pe_int) (fun _ _ => rfl))) (pss_one (ps_expr (pe_bm PySem.F.plainAttrs_list PySem.F.slot_list_append PySem.F.type_list_append mt_append (pv 4) (pa_cons (pe_op op_addU (pv 2) (pe_ix ix_seq (pe_lst (pa_cons (pv 6) (pa_cons (pv 7) (pa_cons (pv 7) (pa_cons (pv 8) (pa_cons (pe_op op_sub (pe_op op_mod (pe_op op_fdiv (pv 5) pe_int) (pe_op op_addU (pe_op op_mulU pe_int (pv 3)) pe_int)) (pv 3)) pa_nil)))))) (pe_op op_mod (pv 5) pe_int) (fun _ _ => rfl))) pa_nil)))))))) (pss_one (ps_ret (pv 4)))))
abbrev s_is_train : Stmt := topS 16
abbrev N_is_train : List Str := ["plays"]
theorem sc_is_train : FnScope N_is_train ["plays"] (defScope s_is_train) := ⟨rfl, rfl, rfl, by decide +kernel, rfl, by decide +kernel, by decide +kernel⟩
theorem ok_is_train (T : Tx K mg) {fd : FuncData} (F : FnP K "is_train" s_is_train (He.ga K "is_train") fd) (g : mg "is_train" = some (.ref (He.ga K "is_train"))) : Rdy P w K mg base "is_train" 1 ["plays"] 1 m_is_train := by
  refine ⟨⟨fd, F.ok (k := 0) sc_is_train (fn_len rfl) (fun cdv A outer s H vs Q E hr h => ?_), F.bindsN fun _ _ _ _ _ _ us hl => match us, hl with | [_], _ => rfl⟩, g, F.kp⟩
  refine ⟨_, ?_, fn_body (N := N_is_train) (mb := b_is_train) (K := K) (ec := ecK K) (ss_ret (se_sp (sp_flat (sb_and (sb_chain opd_cmp opd_cmp (sb_int _) (sb_cb cbd_len (sa_cons (sb_var _) sa_nil)) (sb_int _)) (sb_op opd_cmp (sb_cb cbd_min (sa_cons (sb_var _) sa_nil)) (sb_int _)))))) h⟩
  exact (pss_one (ps_ret (pe_and (pe_chain op_le op_le pe_int (pe_callB call_len (by rfl) T.z_len (by decide +kernel) (pa_cons (pv 0) pa_nil)) (pe_glob (v := .int (12)) (by rfl) T.c_MOST.choose_spec ⟨_, rfl⟩)) (pe_one (pe_cmpR op_ge (pe_callB (cr_min rfl) (by rfl) T.z_min (by decide +kernel) (pa_cons (pv 0) pa_nil)) pe_int (nomark _))))))
abbrev s_is_stand : Stmt := topS 17
abbrev N_is_stand : List Str := ["plays", "handle", "wheels", "ahead", "play", "at"]
theorem sc_is_stand : FnScope N_is_stand ["plays", "handle", "wheels"] (defScope s_is_stand) := ⟨rfl, rfl, rfl, by decide +kernel, rfl, by decide +kernel, by decide +kernel⟩
theorem ok_is_stand (T : Tx K mg) {fd : FuncData} (F : FnP K "is_stand" s_is_stand (He.ga K "is_stand") fd) (g : mg "is_stand" = some (.ref (He.ga K "is_stand"))) (R_is_train : Rdy P w K mg base "is_train" 1 ["plays"] 1 m_is_train) : Rdy P w K mg base "is_stand" 2 ["plays", "handle", "wheels"] 3 m_is_stand := by
  refine ⟨⟨fd, F.ok (k := 1) sc_is_stand (fn_len rfl) (fun cdv A outer s H vs Q E hr h => ?_), F.bindsN fun _ _ _ _ _ _ us hl => match us, hl with | [_, _, _], _ => rfl⟩, g, F.kp⟩
  refine ⟨_, ?_, fn_body (N := N_is_stand) (mb := b_is_stand) (K := K) (ec := ecK K) (ss_seq (ss_if (sbt_not (sbt_B (sb_sp (sp_call (sa_cons (sb_var _) sa_nil))))) (ss_raise 1) ss_next) (ss_seq (ss_if (sbt_test (sb_op opd_ne (sb_cb cbd_len (sa_cons (sb_var _) sa_nil)) (sb_cb cbd_len (sa_cons (sb_var _) sa_nil)))) (ss_ret (se_sp (sp_flat (sb_bl _)))) ss_next) (ss_seq (ss_asg (se_sp (sp_flat (sb_var _))) (sg_name _)) (ss_seq (ss_forW (si_zip (ses_cons (se_frz _) (ses_cons (se_frz _) ses_nil))) (sg_tup (sgs_cons (sg_name _) (sgs_cons (sg_name _) sgs_nil))) (ss_seq (ss_if (sbt_test (sb_op opd_cmp (sb_cb cbd_abs (sa_cons (sb_op opd_sub (sb_var _) (sb_var _)) sa_nil)) (sb_var _))) (ss_ret (se_sp (sp_flat (sb_bl _)))) ss_next) (ss_asg (se_sp (sp_flat (sb_var _))) (sg_name _)))) (ss_ret (se_sp (sp_flat (sb_bl _)))))))) h⟩
  exact (pss_cons (ps_if (pt_not (pt_val (pe_callF R_is_train (hr.mono (by decide)) (by rfl) (takes_of rfl rfl rfl rfl) (pa_cons (pv 0) pa_nil)))) (pss_one (ps_raise rfl (takes_of rfl rfl rfl rfl) (T.x_NoTrain.mk' (by rfl)))) pss_nil) (pss_cons (ps_if (pt_cmpR (op_neD hr.units) (pe_callB call_len (by rfl) T.z_len (by decide +kernel) (pa_cons (pv 2) pa_nil)) (pe_callB call_len (by rfl) T.z_len (by decide +kernel) (pa_cons (pv 0) pa_nil)) (nomark _)) (pss_one (ps_ret pe_bl)) pss_nil) (pss_cons (ps_set (i := 3) sc_is_stand.nd rfl (by first | exact Or.inl rfl | exact Or.inr rfl) (pv 1)) (pss_cons (ps_for (passes_of rfl) rfl (pi_zip (by rfl) T.z_zip (pa_cons (pv 0) (pa_cons (pv 2) pa_nil))) (pg_tup rfl (pgs_cons (pg_name (i := 4) sc_is_stand.nd rfl (by first | exact Or.inl rfl | exact Or.inr rfl)) (pgs_cons (pg_name (i := 5) sc_is_stand.nd rfl (by first | exact Or.inl rfl | exact Or.inr rfl)) pgs_nil))) (pss_cons (ps_if (pt_cmpR op_gt (pe_callB call_abs (by rfl) T.z_abs (by decide +kernel) (pa_cons (pe_op op_sub (pv 5) (pv 3)) pa_nil)) (pv 4) (nomark _)) (pss_one (ps_ret pe_bl)) pss_nil) (pss_one (ps_set (i := 3) sc_is_stand.nd rfl (by first | exact Or.inl rfl | exact Or.inr rfl) (pv 5))))) (pss_one (ps_ret pe_bl))))))
abbrev s_need_stand : Stmt := topS 18
abbrev N_need_stand : List Str := ["plays", "handle", "wheels"]
theorem sc_need_stand : FnScope N_need_stand ["plays", "handle", "wheels"] (defScope s_need_stand) := ⟨rfl, rfl, rfl, by decide +kernel, rfl, by decide +kernel, by decide +kernel⟩
theorem ok_need_stand (T : Tx K mg) {fd : FuncData} (F : FnP K "need_stand" s_need_stand (He.ga K "need_stand") fd) (g : mg "need_stand" = some (.ref (He.ga K "need_stand"))) (R_is_stand : Rdy P w K mg base "is_stand" 2 ["plays", "handle", "wheels"] 3 m_is_stand) : Rdy P w K mg base "need_stand" 3 ["plays", "handle", "wheels"] 3 m_need_stand := by
  refine ⟨⟨fd, F.ok (k := 2) sc_need_stand (fn_len rfl) (fun cdv A outer s H vs Q E hr h => ?_), F.bindsN fun _ _ _ _ _ _ us hl => match us, hl with | [_, _, _], _ => rfl⟩, g, F.kp⟩
  refine ⟨_, ?_, fn_body (N := N_need_stand) (mb := b_need_stand) (K := K) (ec := ecK K) (ss_if (sbt_not (sbt_B (sb_sp (sp_call (sa_cons (sb_var _) (sa_cons (sb_var _) (sa_cons (sb_var _) sa_nil))))))) (ss_raise 2) ss_next) h⟩
  exact (pss_one (ps_if (pt_not (pt_val (pe_callF R_is_stand (hr.mono (by decide)) (by rfl) (takes_of rfl rfl rfl rfl) (pa_cons (pv 0) (pa_cons (pv 1) (pa_cons (pv 2) pa_nil)))))) (pss_one (ps_raise rfl (takes_of rfl rfl rfl rfl) (T.x_NoStand.mk' (by rfl)))) pss_nil))
abbrev s_dragged : Stmt := topS 19
abbrev N_dragged : List Str := ["play", "ahead", "at"]
theorem sc_dragged : FnScope N_dragged ["play", "ahead", "at"] (defScope s_dragged) := ⟨rfl, rfl, rfl, by decide +kernel, rfl, by decide +kernel, by decide +kernel⟩
theorem ok_dragged (T : Tx K mg) {fd : FuncData} (F : FnP K "dragged" s_dragged (He.ga K "dragged") fd) (g : mg "dragged" = some (.ref (He.ga K "dragged"))) : Rdy P w K mg base "dragged" 1 ["play", "ahead", "at"] 3 m_dragged := by
  refine ⟨⟨fd, F.ok (k := 0) sc_dragged (fn_len rfl) (fun cdv A outer s H vs Q E hr h => ?_), F.bindsN fun _ _ _ _ _ _ us hl => match us, hl with | [_, _, _], _ => rfl⟩, g, F.kp⟩
  refine ⟨_, ?_, fn_body (N := N_dragged) (mb := b_dragged) (K := K) (ec := ecK K) (ss_ret (se_sp (sp_flat (sb_cb cbd_max2 (sa_cons (sb_op opd_sub (sb_var _) (sb_var _)) (sa_cons (sb_cb cbd_min2 (sa_cons (sb_op opd_add (sb_var _) (sb_var _)) (sa_cons (sb_var _) sa_nil))) sa_nil)))))) h⟩
  exact (pss_one (ps_ret (pe_callB (call_max2 rfl) (by rfl) T.z_max (by decide +kernel) (pa_cons (pe_op op_sub (pv 1) (pv 0)) (pa_cons (pe_callB (call_min2 rfl) (by rfl) T.z_min (by decide +kernel) (pa_cons (pe_op op_addU (pv 1) (pv 0)) (pa_cons (pv 2) pa_nil))) pa_nil)))))
abbrev s_dragged_all : Stmt := topS 20
abbrev N_dragged_all : List Str := ["plays", "wheels", "place", "told", "ahead", "play", "at"]
theorem sc_dragged_all : FnScope N_dragged_all ["plays", "wheels", "place"] (defScope s_dragged_all) := ⟨rfl, rfl, rfl, by decide +kernel, rfl, by decide +kernel, by decide +kernel⟩
theorem ok_dragged_all (T : Tx K mg) {fd : FuncData} (F : FnP K "dragged_all" s_dragged_all (He.ga K "dragged_all") fd) (g : mg "dragged_all" = some (.ref (He.ga K "dragged_all"))) (R_dragged : Rdy P w K mg base "dragged" 1 ["play", "ahead", "at"] 3 m_dragged) : Rdy P w K mg base "dragged_all" 2 ["plays", "wheels", "place"] 3 m_dragged_all := by
  refine ⟨⟨fd, F.ok (k := 1) sc_dragged_all (fn_len rfl) (fun cdv A outer s H vs Q E hr h => ?_), F.bindsN fun _ _ _ _ _ _ us hl => match us, hl with | [_, _, _], _ => rfl⟩, g, F.kp⟩
  refine ⟨_, ?_, fn_body (N := N_dragged_all) (mb := b_dragged_all) (K := K) (ec := ecK K) (ss_seq (ss_asg (se_lst ses_nil) (sg_name _)) (ss_seq (ss_asg (se_sp (sp_flat (sb_var _))) (sg_name _)) (ss_seq (ss_forW (si_zip (ses_cons (se_frz _) (ses_cons (se_frz _) ses_nil))) (sg_tup (sgs_cons (sg_name _) (sgs_cons (sg_name _) sgs_nil))) (ss_seq (ss_asg (se_sp (sp_flat (sb_sp (sp_call (sa_cons (sb_var _) (sa_cons (sb_var _) (sa_cons (sb_var _) sa_nil))))))) (sg_name _)) (ss_app (se_sp (sp_flat (sb_var _)))))) (ss_ret (se_move _))))) h⟩
  exact (pss_cons (ps_set (i := 3) sc_dragged_all.nd rfl (by first | exact Or.inl rfl | exact Or.inr rfl) (pe_lst pa_nil)) (pss_cons (ps_set (i := 4) sc_dragged_all.nd rfl (by first | exact Or.inl rfl | exact Or.inr rfl) (pv 2)) (pss_cons (ps_for (passes_of rfl) rfl (pi_zip (by rfl) T.z_zip (pa_cons (pv 0) (pa_cons (pv 1) pa_nil))) (pg_tup rfl (pgs_cons (pg_name (i := 5) sc_dragged_all.nd rfl (by first | exact Or.inl rfl | exact Or.inr rfl)) (pgs_cons (pg_name (i := 6) sc_dragged_all.nd rfl (by first | exact Or.inl rfl | exact Or.inr rfl)) pgs_nil))) (pss_cons (ps_set (i := 4) sc_dragged_all.nd rfl (by first | exact Or.inl rfl | exact Or.inr rfl) (pe_callF R_dragged (hr.mono (by decide)) (by rfl) (takes_of rfl rfl rfl rfl) (pa_cons (pv 5) (pa_cons (pv 4) (pa_cons (pv 6) pa_nil))))) (pss_one (ps_expr (pe_bm PySem.F.plainAttrs_list PySem.F.slot_list_append PySem.F.type_list_append mt_append (pv 3) (pa_cons (pv 4) pa_nil)))))) (pss_one (ps_ret (pv 3))))))
abbrev s_run_of : Stmt := topS 21
abbrev N_run_of : List Str := ["plays", "handle", "wheels", "row", "told", "now", "place"]
theorem sc_run_of : FnScope N_run_of ["plays", "handle", "wheels", "row"] (defScope s_run_of) := ⟨rfl, rfl, rfl, by decide +kernel, rfl, by decide +kernel, by decide +kernel⟩
theorem ok_run_of (T : Tx K mg) {fd : FuncData} (F : FnP K "run_of" s_run_of (He.ga K "run_of") fd) (g : mg "run_of" = some (.ref (He.ga K "run_of"))) (R_need_stand : Rdy P w K mg base "need_stand" 3 ["plays", "handle", "wheels"] 3 m_need_stand) (R_dragged_all : Rdy P w K mg base "dragged_all" 2 ["plays", "wheels", "place"] 3 m_dragged_all) : Rdy P w K mg base "run_of" 4 ["plays", "handle", "wheels", "row"] 4 m_run_of := by
  refine ⟨⟨fd, F.ok (k := 3) sc_run_of (fn_len rfl) (fun cdv A outer s H vs Q E hr h => ?_), F.bindsN fun _ _ _ _ _ _ us hl => match us, hl with | [_, _, _, _], _ => rfl⟩, g, F.kp⟩
  refine ⟨_, ?_, fn_body (N := N_run_of) (mb := b_run_of) (K := K) (ec := ecK K) (ss_seq (ss_drop (se_sp (sp_flat (sb_sp (sp_call (sa_cons (sb_var _) (sa_cons (sb_var _) (sa_cons (sb_var _) sa_nil)))))))) (ss_seq (ss_asg (se_lst ses_nil) (sg_name _)) (ss_seq (ss_asg (se_sp (sp_f (sf_list (sa_cons (sb_var _) sa_nil)))) (sg_name _)) (ss_seq (ss_forW (si_list (se_frz _)) (sg_name _) (ss_seq (ss_asg (se_sp (sp_call (sa_cons (sb_var _) (sa_cons (sb_var _) (sa_cons (sb_var _) sa_nil))))) (sg_name _)) (ss_app (se_sp (sp_f (sf_list (sa_cons (sb_var _) sa_nil))))))) (ss_ret (se_move _)))))) h⟩
  exact (pss_cons (ps_expr (pe_callF R_need_stand (hr.mono (by decide)) (by rfl) (takes_of rfl rfl rfl rfl) (pa_cons (pv 0) (pa_cons (pv 1) (pa_cons (pv 2) pa_nil))))) (pss_cons (ps_set (i := 4) sc_run_of.nd rfl (by first | exact Or.inl rfl | exact Or.inr rfl) (pe_lst pa_nil)) (pss_cons (ps_set (i := 5) sc_run_of.nd rfl (by first | exact Or.inl rfl | exact Or.inr rfl) (pe_callTy call_list_of (by rfl) T.z_list (by decide +kernel) (pa_cons (pv 2) pa_nil))) (pss_cons (ps_for (passes_of rfl) rfl (pi_list (pv 3)) (pg_name (i := 6) sc_run_of.nd rfl (by first | exact Or.inl rfl | exact Or.inr rfl)) (pss_cons (ps_set (i := 5) sc_run_of.nd rfl (by first | exact Or.inl rfl | exact Or.inr rfl) (pe_callF R_dragged_all (hr.mono (by decide)) (by rfl) (takes_of rfl rfl rfl rfl) (pa_cons (pv 0) (pa_cons (pv 5) (pa_cons (pv 6) pa_nil))))) (pss_one (ps_expr (pe_bm PySem.F.plainAttrs_list PySem.F.slot_list_append PySem.F.type_list_append mt_append (pv 4) (pa_cons (pe_callTy call_list_of (by rfl) T.z_list (by decide +kernel) (pa_cons (pv 5) pa_nil)) pa_nil)))))) (pss_one (ps_ret (pv 4)))))))
abbrev s_law_a_kin : Stmt := topS 29
abbrev N_law_a_kin : List Str := ["e", "kin"]
theorem sc_law_a_kin : FnScope N_law_a_kin ["e"] (defScope s_law_a_kin) := ⟨rfl, rfl, rfl, by decide +kernel, rfl, by decide +kernel, by decide +kernel⟩
theorem ok_law_a_kin (T : Tx K mg) (kn : Kin K) {fd : FuncData} (F : FnP K "_law_a_kin" s_law_a_kin (He.ga K "_law_a_kin") fd) (g : mg "_law_a_kin" = some (.ref (He.ga K "_law_a_kin"))) : KinOk P w K mg base "_law_a_kin" := by
  refine ⟨⟨fd, fnE_of (k := 0) F sc_law_a_kin (fun cdv A outer s H vs Q p hr h => ?_), F.bindsN fun _ _ _ _ _ _ us hl => match us, hl with | [_], _ => rfl⟩, g, F.kp⟩
  obtain ⟨a, oe⟩ := p
  obtain ⟨c, hc, hz, hf, rfl, q⟩ := h
  refine ⟨_, (pss_cons (ps_set (i := 1) sc_law_a_kin.nd rfl (by first | exact Or.inl rfl | exact Or.inr rfl) (pe_lst (pa_cons (pe_callB (call_isP (D := ecK K c) (kn.exc c hc) List.mem_cons_self hz hf) (by rfl) T.z_isinstance (by decide +kernel) (pa_cons (pv 0) (pa_cons (pe_glob (v := .ref (ecK K 1)) (by rfl) T.g_NoTrain rfl) pa_nil))) (pa_cons (pe_callB (call_isP (D := ecK K c) (kn.exc c hc) List.mem_cons_self hz hf) (by rfl) T.z_isinstance (by decide +kernel) (pa_cons (pv 0) (pa_cons (pe_glob (v := .ref (ecK K 2)) (by rfl) T.g_NoStand rfl) pa_nil))) (pa_cons (pe_callB (call_isP (D := ecK K c) (kn.exc c hc) List.mem_cons_self hz hf) (by rfl) T.z_isinstance (by decide +kernel) (pa_cons (pv 0) (pa_cons (pe_glob (v := .ref (ecK K 3)) (by rfl) T.g_NoPaper rfl) pa_nil))) (pa_cons (pe_callB (call_isP (D := ecK K c) (kn.exc c hc) List.mem_cons_self hz hf) (by rfl) T.z_isinstance (by decide +kernel) (pa_cons (pv 0) (pa_cons (pe_glob (v := .ref (ecK K 4)) (by rfl) T.g_NoBox rfl) pa_nil))) pa_nil)))))) (pss_cons (ps_set (i := 1) sc_law_a_kin.nd rfl (by first | exact Or.inl rfl | exact Or.inr rfl) (pe_op op_cat (pv 1) (pe_lst (pa_cons (pe_callB (call_isP (D := ecK K c) (kn.exc c hc) List.mem_cons_self hz hf) (by rfl) T.z_isinstance (by decide +kernel) (pa_cons (pv 0) (pa_cons (pe_glob (v := .ref (ecK K 5)) (by rfl) T.g_NoSwitch rfl) pa_nil))) (pa_cons (pe_callB (call_isP (D := ecK K c) (kn.exc c hc) List.mem_cons_self hz hf) (by rfl) T.z_isinstance (by decide +kernel) (pa_cons (pv 0) (pa_cons (pe_glob (v := .ref (ecK K 6)) (by rfl) T.g_NoPlace rfl) pa_nil))) (pa_cons (pe_callB (call_isP (D := ecK K c) (kn.exc c hc) List.mem_cons_self hz hf) (by rfl) T.z_isinstance (by decide +kernel) (pa_cons (pv 0) (pa_cons (pe_glob (v := .ref (ecK K 7)) (by rfl) T.g_NoTable rfl) pa_nil))) pa_nil)))))) (pss_cons (ps_set (i := 1) sc_law_a_kin.nd rfl (by first | exact Or.inl rfl | exact Or.inr rfl) (pe_op op_cat (pv 1) (pe_lst (pa_cons (pe_callB (call_isP (D := ecK K c) (kn.exc c hc) List.mem_cons_self hz hf) (by rfl) T.z_isinstance (by decide +kernel) (pa_cons (pv 0) (pa_cons (pe_glob (v := .ref (ecK K 8)) (by rfl) T.g_NoText rfl) pa_nil))) (pa_cons (pe_callB (call_isP (D := ecK K c) (kn.exc c hc) List.mem_cons_self hz hf) (by rfl) T.z_isinstance (by decide +kernel) (pa_cons (pv 0) (pa_cons (pe_glob (v := .ref (ecK K 9)) (by rfl) T.g_NoRow rfl) pa_nil))) (pa_cons (pe_callB (call_isP (D := ecK K c) (kn.exc c hc) List.mem_cons_self hz hf) (by rfl) T.z_isinstance (by decide +kernel) (pa_cons (pv 0) (pa_cons (pe_glob (v := .ref (ecK K 10)) (by rfl) T.g_NoPiece rfl) pa_nil))) pa_nil)))))) (pss_one (ps_ret (pe_op op_cat (pv 1) (pe_lst (pa_cons (pe_callB (call_isP (D := ecK K c) (kn.exc c hc) List.mem_cons_self hz hf) (by rfl) T.z_isinstance (by decide +kernel) (pa_cons (pv 0) (pa_cons (pe_glob (v := .ref (ecK K 11)) (by rfl) T.g_NothingLeft rfl) pa_nil))) (pa_cons (pe_callB (call_isP (D := ecK K c) (kn.exc c hc) List.mem_cons_self hz hf) (by rfl) T.z_isinstance (by decide +kernel) (pa_cons (pv 0) (pa_cons (pe_glob (v := .ref (ecK K 12)) (by rfl) T.g_TooMany rfl) pa_nil))) (pa_cons (pe_callB (call_isP (D := ecK K c) (kn.exc c hc) List.mem_cons_self hz hf) (by rfl) T.z_isinstance (by decide +kernel) (pa_cons (pv 0) (pa_cons (pe_bltn (v := .ty "ValueError") (by rfl) T.z_ValueError (by decide +kernel) rfl) pa_nil))) pa_nil)))))))))), ?_⟩
  refine isE_ans rfl (kn.kit' hc (by decide : 1 < 13) rfl) ?_
  refine isE_ans rfl (kn.kit' hc (by decide : 2 < 13) rfl) ?_
  refine isE_ans rfl (kn.kit' hc (by decide : 3 < 13) rfl) ?_
  refine isE_ans rfl (kn.kit' hc (by decide : 4 < 13) rfl) ?_
  refine ⟨by show 4 ≤ sizeLine; rw [sizeLine_eq]; decide, fun l1 n1 => ?_⟩
  refine ⟨_, rfl, ?_⟩
  refine isE_ans rfl (kn.kit' hc (by decide : 5 < 13) rfl) ?_
  refine isE_ans rfl (kn.kit' hc (by decide : 6 < 13) rfl) ?_
  refine isE_ans rfl (kn.kit' hc (by decide : 7 < 13) rfl) ?_
  refine ⟨by show 3 ≤ sizeLine; rw [sizeLine_eq]; decide, fun l2 n2 => ?_⟩
  have e12 : l1 ≠ l2 := ne_of_none upd_same n2
  refine ⟨l1, l2, _, _, rfl, rfl, (upd_ne e12).trans upd_same, upd_same, by show 4 + 3 ≤ sizeLine; rw [sizeLine_eq]; decide, fun l3 n3 => ?_⟩
  refine ⟨_, rfl, ?_⟩
  refine isE_ans rfl (kn.kit' hc (by decide : 8 < 13) rfl) ?_
  refine isE_ans rfl (kn.kit' hc (by decide : 9 < 13) rfl) ?_
  refine isE_ans rfl (kn.kit' hc (by decide : 10 < 13) rfl) ?_
  refine ⟨by show 3 ≤ sizeLine; rw [sizeLine_eq]; decide, fun l4 n4 => ?_⟩
  have e34 : l3 ≠ l4 := ne_of_none upd_same n4
  refine ⟨l3, l4, _, _, rfl, rfl, (upd_ne e34).trans upd_same, upd_same, by show 7 + 3 ≤ sizeLine; rw [sizeLine_eq]; decide, fun l5 n5 => ?_⟩
  refine ⟨_, rfl, ?_⟩
  refine isE_ans rfl (kn.kit' hc (by decide : 11 < 13) rfl) ?_
  refine isE_ans rfl (kn.kit' hc (by decide : 12 < 13) rfl) ?_
  refine isT_ans rfl (kn.val c hc) ?_
  refine ⟨by show 3 ≤ sizeLine; rw [sizeLine_eq]; decide, fun l6 n6 => ?_⟩
  have e56 : l5 ≠ l6 := ne_of_none upd_same n6
  refine ⟨l5, l6, _, _, rfl, rfl, (upd_ne e56).trans upd_same, upd_same, by show 10 + 3 ≤ sizeLine; rw [sizeLine_eq]; decide, fun l7 n7 => ?_⟩
  exact q _ l7 (((((((same_new n1).trans (same_new n2)).trans (same_new n3)).trans (same_new n4)).trans (same_new n5)).trans (same_new n6))) n7
abbrev FnW (K : PySem.W.Frag) (x q : Str) (st : Stmt) (fd : FuncData) : Prop := FunD K x q (defArgs st) (defBody st) (defScope st) [] [] (He.ma K (cW K) x) fd
abbrev s_wk_init : Stmt := inClass (topS 23) 0
abbrev N_wk_init : List Str := ["self", "plays", "handle", "wheels", "at"]
theorem sc_wk_init : FnScope N_wk_init ["self", "plays", "handle", "wheels"] (defScope s_wk_init) := ⟨rfl, rfl, rfl, by decide +kernel, rfl, by decide +kernel, by decide +kernel⟩
abbrev s_wk_go : Stmt := inClass (topS 23) 1
abbrev N_wk_go : List Str := ["self", "place", "behind", "way", "there", "here"]
theorem sc_wk_go : FnScope N_wk_go ["self", "place"] (defScope s_wk_go) := ⟨rfl, rfl, rfl, by decide +kernel, rfl, by decide +kernel, by decide +kernel⟩
abbrev s_wk_back : Stmt := inClass (topS 23) 2
abbrev N_wk_back : List Str := ["self"]
theorem sc_wk_back : FnScope N_wk_back ["self"] (defScope s_wk_back) := ⟨rfl, rfl, rfl, by decide +kernel, rfl, by decide +kernel, by decide +kernel⟩
abbrev s_wk_handle : Stmt := inClass (topS 23) 3
abbrev N_wk_handle : List Str := ["self"]
theorem sc_wk_handle : FnScope N_wk_handle ["self"] (defScope s_wk_handle) := ⟨rfl, rfl, rfl, by decide +kernel, rfl, by decide +kernel, by decide +kernel⟩
abbrev s_wk_wheels : Stmt := inClass (topS 23) 4
abbrev N_wk_wheels : List Str := ["self"]
theorem sc_wk_wheels : FnScope N_wk_wheels ["self"] (defScope s_wk_wheels) := ⟨rfl, rfl, rfl, by decide +kernel, rfl, by decide +kernel, by decide +kernel⟩
abbrev s_wk_ways : Stmt := inClass (topS 23) 5
abbrev N_wk_ways : List Str := ["self"]
theorem sc_wk_ways : FnScope N_wk_ways ["self"] (defScope s_wk_ways) := ⟨rfl, rfl, rfl, by decide +kernel, rfl, by decide +kernel, by decide +kernel⟩
theorem ok_wk_init (T : Tx K mg) {fd_wk_init : FuncData} (F : FnW K "__init__" "Walker.__init__" s_wk_init fd_wk_init) (R_need_stand : Rdy P w K mg base "need_stand" 3 ["plays", "handle", "wheels"] 3 m_need_stand) : FnOk P w K mg base (L2.CX P w) 4 (He.ma K (cW K) "__init__") fd_wk_init ["self", "plays", "handle", "wheels"] (spWkInit K) := by
  refine F.ok (k := 3) sc_wk_init (fun vs H Q E h => ?_) (fun cdv A outer s H vs Q E hr h => ?_)
  · obtain ⟨b, dx, pl, wl, ps, h, ws, rfl, _⟩ := h
    rfl
  · refine ⟨_, ?_, tr_wk_init T.wk rfl h⟩
    exact (pss_cons (ps_expr (pe_callF R_need_stand (hr.mono (by decide)) (by rfl) (takes_of rfl rfl rfl rfl) (pa_cons (pv 1) (pa_cons (pv 2) (pa_cons (pv 3) pa_nil))))) (pss_cons (ps_fld (pv 0) (pe_callTy call_list_of (by rfl) T.z_list (by decide +kernel) (pa_cons (pv 1) pa_nil)) rfl) (pss_cons (ps_fld (pv 0) (pv 2) rfl) (pss_cons (ps_fld (pv 0) (pe_callTy call_list_of (by rfl) T.z_list (by decide +kernel) (pa_cons (pv 3) pa_nil)) rfl) (pss_cons (ps_fld (pv 0) (pe_lc (own := [("at", 4)]) (by rfl) sc_wk_init.nd (pi_list (pv 3)) (blkOk_by (own := [("at", 4)]) (N := N_wk_init) (sc := defScope s_wk_init) (by decide +kernel)) (fun _ _ _ _ _ => (pg_name (i := 4) sc_wk_init.nd rfl (by first | exact Or.inl rfl | exact Or.inr rfl))) (fun _ _ _ _ _ => pts_nil) (fun _ _ _ _ _ => pe_int)) rfl) (pss_one (ps_fld (pv 0) (pe_lst pa_nil) rfl)))))))
theorem ok_wk_go (T : Tx K mg) {fd_wk_go : FuncData} (F : FnW K "go" "Walker.go" s_wk_go fd_wk_go) (R_dragged_all : Rdy P w K mg base "dragged_all" 2 ["plays", "wheels", "place"] 3 m_dragged_all) : FnOk P w K mg base (L2.CX P w) 3 (He.ma K (cW K) "go") fd_wk_go ["self", "place"] (spWkGo K) := by
  refine F.ok (k := 2) sc_wk_go (fun vs H Q E h => ?_) (fun cdv A outer s H vs Q E hr h => ?_)
  · obtain ⟨b, dx, kp, li, go, fo, ps, cur, past, place, ws, rfl, _⟩ := h
    rfl
  · refine ⟨_, ?_, tr_wk_go T.wk rfl h⟩
    exact (pss_cons (ps_expr (pe_bm PySem.F.plainAttrs_list PySem.F.slot_list_append PySem.F.type_list_append mt_append (pe_fld (pv 0) rfl) (pa_cons (pe_tup (pa_cons (pe_fld (pv 0) rfl) (pa_cons (pe_fld (pv 0) rfl) (pa_cons (pe_fld (pv 0) rfl) pa_nil)))) pa_nil))) (pss_cons (ps_set (i := 2) sc_wk_go.nd rfl (by first | exact Or.inl rfl | exact Or.inr rfl) (pe_callF R_dragged_all (hr.mono (by decide)) (by rfl) (takes_of rfl rfl rfl rfl) (pa_cons (pe_fld (pv 0) rfl) (pa_cons (pe_fld (pv 0) rfl) (pa_cons (pv 1) pa_nil))))) (pss_cons (ps_fld (pv 0) (pe_lc (own := [("way", 3), ("there", 4), ("here", 5)]) (by rfl) sc_wk_go.nd (pi_zip3 (by rfl) T.z_zip (pa_cons (pe_fld (pv 0) rfl) (pa_cons (pv 2) (pa_cons (pe_fld (pv 0) rfl) pa_nil)))) (blkOk_by (own := [("way", 3), ("there", 4), ("here", 5)]) (N := N_wk_go) (sc := defScope s_wk_go) (by decide +kernel)) (fun _ _ _ _ _ => (pg_tup rfl (pgs_cons (pg_name (i := 3) sc_wk_go.nd rfl (by first | exact Or.inl rfl | exact Or.inr rfl)) (pgs_cons (pg_name (i := 4) sc_wk_go.nd rfl (by first | exact Or.inl rfl | exact Or.inr rfl)) (pgs_cons (pg_name (i := 5) sc_wk_go.nd rfl (by first | exact Or.inl rfl | exact Or.inr rfl)) pgs_nil))))) (fun _ _ _ _ _ => pts_nil) (fun _ _ _ _ _ => (pe_op op_add (pv 3) (pe_callB call_abs (by rfl) T.z_abs (by decide +kernel) (pa_cons (pe_op op_sub (pv 4) (pv 5)) pa_nil))))) rfl) (pss_cons (ps_fld (pv 0) (pv 1) rfl) (pss_cons (ps_fld (pv 0) (pv 2) rfl) (pss_one (ps_ret (pe_callTy call_list_of (by rfl) T.z_list (by decide +kernel) (pa_cons (pv 2) pa_nil)))))))))
theorem ok_wk_back (T : Tx K mg) {fd_wk_back : FuncData} (F : FnW K "back" "Walker.back" s_wk_back fd_wk_back) : FnOk P w K mg base (L2.CX P w) 1 (He.ma K (cW K) "back") fd_wk_back ["self"] (spWkBack K) := by
  refine F.ok (k := 0) sc_wk_back (fun vs H Q E h => ?_) (fun cdv A outer s H vs Q E hr h => ?_)
  · obtain ⟨b, dx, kp, li, go, fo, ps, cur, past, rfl, _⟩ := h
    rfl
  · refine ⟨_, ?_, tr_wk_back T.wk rfl h⟩
    exact (pss_cons (ps_if (pt_cmpR (op_eqD hr.units) (pe_fld (pv 0) rfl) (pe_lst pa_nil) (nomark _)) (pss_one (ps_raise rfl (takes_of rfl rfl rfl rfl) (T.x_NothingLeft.mk' (by rfl)))) pss_nil) (pss_one (ps_asg (pe_bm0 PySem.F.plainAttrs_list PySem.F.slot_list_pop PySem.F.type_list_pop mt_pop (pe_fld (pv 0) rfl)) (pg_tup rfl (pgs_cons (pg_fld (pv 0)) (pgs_cons (pg_fld (pv 0)) (pgs_cons (pg_fld (pv 0)) pgs_nil)))))))
theorem ok_wk_handle (T : Tx K mg) {fd_wk_handle : FuncData} (F : FnW K "handle" "Walker.handle" s_wk_handle fd_wk_handle) : FnOk P w K mg base (L2.CX P w) 1 (He.ma K (cW K) "handle") fd_wk_handle ["self"] (spWkHandle K) := by
  refine F.ok (k := 0) sc_wk_handle (fun vs H Q E h => ?_) (fun cdv A outer s H vs Q E hr h => ?_)
  · obtain ⟨b, dx, kp, li, go, fo, ps, cur, past, rfl, _⟩ := h
    rfl
  · refine ⟨_, ?_, tr_wk_handle T.wk rfl h⟩
    exact (pss_one (ps_ret (pe_fld (pv 0) rfl)))
theorem ok_wk_wheels (T : Tx K mg) {fd_wk_wheels : FuncData} (F : FnW K "wheels" "Walker.wheels" s_wk_wheels fd_wk_wheels) : FnOk P w K mg base (L2.CX P w) 1 (He.ma K (cW K) "wheels") fd_wk_wheels ["self"] (spWkWheels K) := by
  refine F.ok (k := 0) sc_wk_wheels (fun vs H Q E h => ?_) (fun cdv A outer s H vs Q E hr h => ?_)
  · obtain ⟨b, dx, kp, li, go, fo, ps, cur, past, rfl, _⟩ := h
    rfl
  · refine ⟨_, ?_, tr_wk_wheels T.wk rfl h⟩
    exact (pss_one (ps_ret (pe_callTy call_list_of (by rfl) T.z_list (by decide +kernel) (pa_cons (pe_fld (pv 0) rfl) pa_nil))))
theorem ok_wk_ways (T : Tx K mg) {fd_wk_ways : FuncData} (F : FnW K "ways" "Walker.ways" s_wk_ways fd_wk_ways) : FnOk P w K mg base (L2.CX P w) 1 (He.ma K (cW K) "ways") fd_wk_ways ["self"] (spWkWays K) := by
  refine F.ok (k := 0) sc_wk_ways (fun vs H Q E h => ?_) (fun cdv A outer s H vs Q E hr h => ?_)
  · obtain ⟨b, dx, kp, li, go, fo, ps, cur, past, rfl, _⟩ := h
    rfl
  · refine ⟨_, ?_, tr_wk_ways T.wk rfl h⟩
    exact (pss_one (ps_ret (pe_callTy call_list_of (by rfl) T.z_list (by decide +kernel) (pa_cons (pe_fld (pv 0) rfl) pa_nil))))
abbrev s_law_back : Stmt := topS 31
abbrev N_law_back : List Str := ["walker", "kin", "e"]
theorem sc_law_back : FnScope N_law_back ["walker"] (defScope s_law_back) := ⟨rfl, rfl, rfl, by decide +kernel, rfl, by decide +kernel, by decide +kernel⟩
theorem ok_law_back (T : Tx K mg) {fd : FuncData} (F : FnP K "_law_back" s_law_back (He.ga K "_law_back") fd) (g : mg "_law_back" = some (.ref (He.ga K "_law_back"))) (kn : Kin K) (R_law_a_kin : KinOk P w K mg base "_law_a_kin") {fd_wk_back : FuncData} (GB : FnOk P w K mg base (L2.CX P w) 1 (He.ma K (cW K) "back") fd_wk_back ["self"] (spWkBack K)) (BB : Binds K fd_wk_back ["self"] []) : RdyS P w K mg base "_law_back" 2 ["walker"] (spLBack K) := by
  refine ⟨⟨fd, F.ok (k := 1) sc_law_back (fun vs H Q E h => ?_) (fun cdv A outer s H vs Q E hr h => ?_), F.bindsN fun _ _ _ _ _ _ us hl => match us, hl with | [_], _ => rfl⟩, g, F.kp⟩
  · obtain ⟨b, dx, kp, li, go, fo, ps, cur, past, rfl, _⟩ := h
    rfl
  · refine ⟨_, ?_, tr_law_back (Wout := fun cls d _ H => E cls d H) kn T.wk rfl h⟩
    exact (pss_cons (ps_set (i := 1) sc_law_back.nd rfl (by first | exact Or.inl rfl | exact Or.inr rfl) (pe_lst pa_nil)) (pss_cons (ps_tryK (i := 2) (k := 1) T.g_TrainError sc_law_back.nd rfl rfl (by rfl) (takes_of rfl rfl rfl rfl) (fun W pn xe tk po => (pss_one (ps_expr (pe_meth0S (C := cW K) (m := "back") (pv 0) T.wk.cl T.wk.m2 GB (hr.mono (by decide)) BB (fun σ => passAt tk σ))))) (fun a oe cls d pn hz hf => pss_one (ps_set (i := 1) sc_law_back.nd rfl (by first | exact Or.inl rfl | exact Or.inr rfl) (pe_kin (k := _) (i := 2) R_law_a_kin hr (by decide) hz hf (by rfl) (pv 2))))) (pss_one (ps_ret (pv 1)))))
abbrev s_law_due_kin : Stmt := topS 30
abbrev N_law_due_kin : List Str := ["name", "names", "one"]
theorem sc_law_due_kin : FnScope N_law_due_kin ["name"] (defScope s_law_due_kin) := ⟨rfl, rfl, rfl, by decide +kernel, rfl, by decide +kernel, by decide +kernel⟩
theorem ok_law_due_kin (T : Tx K mg) {fd : FuncData} (F : FnP K "_law_due_kin" s_law_due_kin (He.ga K "_law_due_kin") fd) (g : mg "_law_due_kin" = some (.ref (He.ga K "_law_due_kin"))) : Rdy P w K mg base "_law_due_kin" 1 ["name"] 1 m_law_due_kin := by
  refine ⟨⟨fd, F.ok (k := 0) sc_law_due_kin (fn_len rfl) (fun cdv A outer s H vs Q E hr h => ?_), F.bindsN fun _ _ _ _ _ _ us hl => match us, hl with | [_], _ => rfl⟩, g, F.kp⟩
  refine ⟨_, ?_, fn_body (N := N_law_due_kin) (mb := b_law_due_kin) (K := K) (ec := ecK K) (ss_seq (ss_asg (se_lst (ses_cons (se_sp (sp_flat (sb_str _))) (ses_cons (se_sp (sp_flat (sb_str _))) (ses_cons (se_sp (sp_flat (sb_str _))) (ses_cons (se_sp (sp_flat (sb_str _))) (ses_cons (se_sp (sp_flat (sb_str _))) (ses_cons (se_sp (sp_flat (sb_str _))) (ses_cons (se_sp (sp_flat (sb_str _))) (ses_cons (se_sp (sp_flat (sb_str _))) (ses_cons (se_sp (sp_flat (sb_str _))) ses_nil)))))))))) (sg_name _)) (ss_seq (ss_asg (se_sp (sp_f (sf_cat (sb_var _) (sb_f (sf_lst (sa_cons (sb_str _) (sa_cons (sb_str _) (sa_cons (sb_str _) sa_nil)))))))) (sg_name _)) (ss_ret (se_sp (sp_f (sf_cat (sb_lc (si_list (se_frz _)) (keep_iLst keep_frz) (sg_name _) (by decide) sbt_yes (sp_flat (sb_op opd_eq (sb_var _) (sb_var _)))) (sb_f (sf_lst (sa_cons (sb_bl _) sa_nil))))))))) h⟩
  exact (pss_cons (ps_set (i := 1) sc_law_due_kin.nd rfl (by first | exact Or.inl rfl | exact Or.inr rfl) (pe_lst (pa_cons pe_str (pa_cons pe_str (pa_cons pe_str (pa_cons pe_str (pa_cons pe_str (pa_cons pe_str (pa_cons pe_str (pa_cons pe_str (pa_cons pe_str pa_nil))))))))))) (pss_cons (ps_set (i := 1) sc_law_due_kin.nd rfl (by first | exact Or.inl rfl | exact Or.inr rfl) (pe_op op_addU (pv 1) (pe_lst (pa_cons pe_str (pa_cons pe_str (pa_cons pe_str pa_nil)))))) (pss_one (ps_ret (pe_op op_addU (pe_lc (own := [("one", 2)]) (by rfl) sc_law_due_kin.nd (pi_list (pv 1)) (blkOk_by (own := [("one", 2)]) (N := N_law_due_kin) (sc := defScope s_law_due_kin) (by decide +kernel)) (fun _ _ _ _ _ => (pg_name (i := 2) sc_law_due_kin.nd rfl (by first | exact Or.inl rfl | exact Or.inr rfl))) (fun _ _ _ _ _ => pts_nil) (fun _ _ _ _ _ => (pe_cmpR (op_eqD hr.units) (pv 2) (pv 0) (nomark _)))) (pe_lst (pa_cons pe_bl pa_nil)))))))
abbrev s_law_ways : Stmt := topS 32
abbrev N_law_ways : List Str := ["wheels", "lists", "many", "found", "k", "places", "one", "two"]
theorem sc_law_ways : FnScope N_law_ways ["wheels", "lists", "many"] (defScope s_law_ways) := ⟨rfl, rfl, rfl, by decide +kernel, rfl, by decide +kernel, by decide +kernel⟩
theorem ok_law_ways (T : Tx K mg) {fd : FuncData} (F : FnP K "_law_ways" s_law_ways (He.ga K "_law_ways") fd) (g : mg "_law_ways" = some (.ref (He.ga K "_law_ways"))) : Rdy P w K mg base "_law_ways" 1 ["wheels", "lists", "many"] 3 m_law_ways := by
  refine ⟨⟨fd, F.ok (k := 0) sc_law_ways (fn_len rfl) (fun cdv A outer s H vs Q E hr h => ?_), F.bindsN fun _ _ _ _ _ _ us hl => match us, hl with | [_, _, _], _ => rfl⟩, g, F.kp⟩
  refine ⟨_, ?_, fn_body (N := N_law_ways) (mb := b_law_ways) (K := K) (ec := ecK K) (ss_seq (ss_asg (se_lst ses_nil) (sg_name _)) (ss_seq (ss_forW (si_r1 (sa_cons (sb_cb cbd_len (sa_cons (sb_var _) sa_nil)) sa_nil)) (sg_name _) (ss_seq (ss_asg (se_sp (sp_f (sf_cat (sb_f (sf_lst (sa_cons (sb_op opd_ix (sb_var _) (sb_var _)) sa_nil))) (sb_lc (si_list (se_sl (se_frz _) so_none (so_some (sb_var _)))) (keep_iLst (keep_sl keep_frz)) (sg_name _) (by decide) sbt_yes (sp_flat (sb_op opd_ix (sb_var _) (sb_var _))))))) (sg_name _)) (ss_app (se_sp (sp_flat (sb_cb cbd_sum (sa_cons (sb_lc (si_zip (ses_cons (se_frz _) (ses_cons (se_sp (sp_f (sf_sl (sb_var _) (so_some (sb_int _)) so_none))) ses_nil))) (keep_iZp (keep_cons keep_frz (keep_cons keep_sp keep_nil))) (sg_tup (sgs_cons (sg_name _) (sgs_cons (sg_name _) sgs_nil))) (by decide) sbt_yes (sp_flat (sb_cb cbd_abs (sa_cons (sb_op opd_sub (sb_var _) (sb_var _)) sa_nil)))) sa_nil))))))) (ss_ret (se_move _)))) h⟩
  exact (pss_cons (ps_set (i := 3) sc_law_ways.nd rfl (by first | exact Or.inl rfl | exact Or.inr rfl) (pe_lst pa_nil)) (pss_cons (ps_for (passes_of rfl) rfl (pi_range1 (by rfl) T.z_range (pa_cons (pe_callB call_len (by rfl) T.z_len (by decide +kernel) (pa_cons (pv 0) pa_nil)) pa_nil)) (pg_name (i := 4) sc_law_ways.nd rfl (by first | exact Or.inl rfl | exact Or.inr rfl)) (pss_cons (ps_set (i := 5) sc_law_ways.nd rfl (by first | exact Or.inl rfl | exact Or.inr rfl) (pe_op op_addU (pe_lst (pa_cons (pe_ix ix_seq (pv 0) (pv 4) (fun _ _ => rfl)) pa_nil)) (pe_lc (own := [("one", 6)]) (by rfl) sc_law_ways.nd (pi_list (pe_slice sl_list (pv 1) po_none (po_some (pv 2)))) (blkOk_by (own := [("one", 6)]) (N := N_law_ways) (sc := defScope s_law_ways) (by decide +kernel)) (fun _ _ _ _ _ => (pg_name (i := 6) sc_law_ways.nd rfl (by first | exact Or.inl rfl | exact Or.inr rfl))) (fun _ _ _ _ _ => pts_nil) (fun _ _ _ _ _ => (pe_ix ix_seq (pv 6) (pv 4) (fun _ _ => rfl)))))) (pss_one (ps_expr (pe_bm PySem.F.plainAttrs_list PySem.F.slot_list_append PySem.F.type_list_append mt_append (pv 3) (pa_cons (pe_callB (cr_sum rfl) (by rfl) T.z_sum (by decide +kernel) (pa_cons (pe_lc (own := [("one", 6), ("two", 7)]) (by rfl) sc_law_ways.nd (pi_zip (by rfl) T.z_zip (pa_cons (pv 5) (pa_cons (pe_slice sl_list (pv 5) (po_some pe_int) po_none) pa_nil))) (blkOk_by (own := [("one", 6), ("two", 7)]) (N := N_law_ways) (sc := defScope s_law_ways) (by decide +kernel)) (fun _ _ _ _ _ => (pg_tup rfl (pgs_cons (pg_name (i := 6) sc_law_ways.nd rfl (by first | exact Or.inl rfl | exact Or.inr rfl)) (pgs_cons (pg_name (i := 7) sc_law_ways.nd rfl (by first | exact Or.inl rfl | exact Or.inr rfl)) pgs_nil)))) (fun _ _ _ _ _ => pts_nil) (fun _ _ _ _ _ => (pe_callB call_abs (by rfl) T.z_abs (by decide +kernel) (pa_cons (pe_op op_sub (pv 7) (pv 6)) pa_nil)))) pa_nil)) pa_nil)))))) (pss_one (ps_ret (pv 3)))))
abbrev s_law : Stmt := topS 33
abbrev N_law : List Str := ["script", "plays", "handle", "wheels", "row", "heads", "lists", "walker", "place", "many"]
theorem sc_law : FnScope N_law ["script"] (defScope s_law) := ⟨rfl, rfl, rfl, by decide +kernel, rfl, by decide +kernel, by decide +kernel⟩
theorem fn_law (T : Tx K mg) {fd : FuncData} (F : FnP K "law" s_law (He.ga K "law") fd) (R_law_draws : Rdy P w K mg base "_law_draws" 1 ["cell", "many", "base"] 3 m_law_draws) (R_law_cell_at : Rdy P w K mg base "_law_cell_at" 1 ["script", "k"] 2 m_law_cell_at) (R_law_train : Rdy P w K mg base "_law_train" 2 ["script"] 1 m_law_train) (R_law_a_row : Rdy P w K mg base "_law_a_row" 2 ["cell", "many", "middle", "span"] 4 m_law_a_row) (R_run_of : Rdy P w K mg base "run_of" 4 ["plays", "handle", "wheels", "row"] 4 m_run_of) (R_law_back : RdyS P w K mg base "_law_back" 2 ["walker"] (spLBack K)) (R_law_due_kin : Rdy P w K mg base "_law_due_kin" 1 ["name"] 1 m_law_due_kin) (R_law_ways : Rdy P w K mg base "_law_ways" 1 ["wheels", "lists", "many"] 3 m_law_ways) {fd_wk_init fd_wk_go fd_wk_handle fd_wk_wheels fd_wk_ways : FuncData} (G_wk_init : FnOk P w K mg base (L2.CX P w) 4 (He.ma K (cW K) "__init__") fd_wk_init ["self", "plays", "handle", "wheels"] (spWkInit K)) (B_wk_init : Binds K fd_wk_init ["self", "plays", "handle", "wheels"] []) (G_wk_go : FnOk P w K mg base (L2.CX P w) 3 (He.ma K (cW K) "go") fd_wk_go ["self", "place"] (spWkGo K)) (B_wk_go : Binds K fd_wk_go ["self", "place"] []) (G_wk_handle : FnOk P w K mg base (L2.CX P w) 1 (He.ma K (cW K) "handle") fd_wk_handle ["self"] (spWkHandle K)) (B_wk_handle : Binds K fd_wk_handle ["self"] []) (G_wk_wheels : FnOk P w K mg base (L2.CX P w) 1 (He.ma K (cW K) "wheels") fd_wk_wheels ["self"] (spWkWheels K)) (B_wk_wheels : Binds K fd_wk_wheels ["self"] []) (G_wk_ways : FnOk P w K mg base (L2.CX P w) 1 (He.ma K (cW K) "ways") fd_wk_ways ["self"] (spWkWays K)) (B_wk_ways : Binds K fd_wk_ways ["self"] []) : FnOk P w K mg base (L2.CX P w) 6 (He.ga K "law") fd ["script"] (spM K (ecK K) 1 m_law_k35) := by
  refine F.ok (k := 5) sc_law (fn_len rfl) (fun cdv A outer s H vs Q E hr h => ?_)
  refine ⟨_, ?_, fn_body (N := N_law) (mb := b_law_k35) (K := K) (ec := ecK K) (ss_seq (ss_asg (se_sp (sp_call (sa_cons (sb_var _) sa_nil))) (sg_tup (sgs_cons (sg_name _) (sgs_cons (sg_name _) (sgs_cons (sg_name _) sgs_nil))))) (ss_seq (ss_asg (se_sp (sp_call (sa_cons (sb_sp (sp_call (sa_cons (sb_var _) (sa_cons (sb_int _) sa_nil)))) (sa_cons (sb_int _) (sa_cons (sb_var _) (sa_cons (sb_op opd_add (sb_op opd_mul (sb_int _) (sb_cb cbd_sum (sa_cons (sb_var _) sa_nil))) (sb_int _)) sa_nil)))))) (sg_name _)) (ss_seq (ss_asg (se_sp (sp_call (sa_cons (sb_sp (sp_call (sa_cons (sb_var _) (sa_cons (sb_int _) sa_nil)))) (sa_cons (sb_int _) (sa_cons (sb_int _) sa_nil))))) (sg_name _)) (ss_seq (ss_asg (se_sp (sp_f (sf_cat (sb_f (sf_sl (sb_var _) so_none (so_some (sb_op opd_add (sb_int _) (sb_op opd_mod (sb_op opd_ix (sb_var _) (sb_int _)) (sb_int _)))))) (sb_op opd_mul (sb_var _) (sb_op opd_mul (sb_int _) (sb_cb cbd_int (sa_cons (sb_op opd_eq (sb_op opd_mod (sb_op opd_ix (sb_var _) (sb_int _)) (sb_int _)) (sb_int _)) sa_nil))))))) (sg_name _)) (ss_seq (ss_asg (se_sp (sp_call (sa_cons (sb_var _) (sa_cons (sb_var _) (sa_cons (sb_var _) (sa_cons (sb_var _) sa_nil)))))) (sg_name _)) k35_ss))))) h⟩
  exact (pss_cons (ps_asg (pe_callF R_law_train (hr.mono (by decide)) (by rfl) (takes_of rfl rfl rfl rfl) (pa_cons (pv 0) pa_nil)) (pg_tup rfl (pgs_cons (pg_name (i := 1) sc_law.nd rfl (by first | exact Or.inl rfl | exact Or.inr rfl)) (pgs_cons (pg_name (i := 2) sc_law.nd rfl (by first | exact Or.inl rfl | exact Or.inr rfl)) (pgs_cons (pg_name (i := 3) sc_law.nd rfl (by first | exact Or.inl rfl | exact Or.inr rfl)) pgs_nil))))) (pss_cons (ps_set (i := 4) sc_law.nd rfl (by first | exact Or.inl rfl | exact Or.inr rfl) (pe_callF R_law_a_row (hr.mono (by decide)) (by rfl) (takes_of rfl rfl rfl rfl) (pa_cons (pe_callF R_law_cell_at (hr.mono (by decide)) (by rfl) (takes_of rfl rfl rfl rfl) (pa_cons (pv 0) (pa_cons pe_int pa_nil))) (pa_cons pe_int (pa_cons (pv 2) (pa_cons (pe_op op_addU (pe_op op_mulU pe_int (pe_callB (cr_sum rfl) (by rfl) T.z_sum (by decide +kernel) (pa_cons (pv 1) pa_nil))) pe_int) pa_nil)))))) (pss_cons (ps_set (i := 5) sc_law.nd rfl (by first | exact Or.inl rfl | exact Or.inr rfl) (pe_callF R_law_draws (hr.mono (by decide)) (by rfl) (takes_of rfl rfl rfl rfl) (pa_cons (pe_callF R_law_cell_at (hr.mono (by decide)) (by rfl) (takes_of rfl rfl rfl rfl) (pa_cons (pv 0) (pa_cons pe_int pa_nil))) (pa_cons pe_int (pa_cons pe_int pa_nil))))) (pss_cons (ps_set (i := 4) sc_law.nd rfl (by first | exact Or.inl rfl | exact Or.inr rfl) (pe_op op_addU (pe_slice sl_list (pv 4) po_none (po_some (pe_op op_addU pe_int (pe_op op_mod (pe_ix ix_seq (pv 5) pe_int (fun _ _ => rfl)) pe_int)))) (pe_op op_mulU (pv 4) (pe_op op_mulU pe_int (pe_callTy call_int1 (by rfl) T.z_int (by decide +kernel) (pa_cons (pe_cmpR (op_eqD hr.units) (pe_op op_mod (pe_ix ix_seq (pv 5) pe_int (fun _ _ => rfl)) pe_int) pe_int (nomark _)) pa_nil)))))) (pss_cons (ps_set (i := 6) sc_law.nd rfl (by first | exact Or.inl rfl | exact Or.inr rfl) (pe_callF R_run_of (hr.mono (by decide)) (by rfl) (takes_of rfl rfl rfl rfl) (pa_cons (pv 1) (pa_cons (pv 2) (pa_cons (pv 3) (pa_cons (pv 4) pa_nil)))))) (pss_cons (ps_set (i := 7) sc_law.nd rfl (by first | exact Or.inl rfl | exact Or.inr rfl) (pe_make T.wk.mkw G_wk_init (hr.mono (by decide)) (by rfl) T.wk.g B_wk_init .nil (passT (takes_of rfl rfl rfl rfl)) (pa_cons (pv 1) (pa_cons (pv 2) (pa_cons (pv 3) pa_nil))))) (pss_cons (ps_for (passes_of rfl) rfl (pi_list (pv 4)) (pg_name (i := 8) sc_law.nd rfl (by first | exact Or.inl rfl | exact Or.inr rfl)) (pss_one (ps_expr (pe_meth (C := cW K) (m := "go") (pv 7) T.wk.cl T.wk.m1 G_wk_go (hr.mono (by decide)) B_wk_go .nil (passT (takes_of rfl rfl rfl rfl)) (pa_cons (pv 8) pa_nil))))) (pss_cons (ps_set (i := 9) sc_law.nd rfl (by first | exact Or.inl rfl | exact Or.inr rfl) (pe_callB call_len (by rfl) T.z_len (by decide +kernel) (pa_cons (pv 4) pa_nil))) (pss_cons (ps_while (passes_of rfl) (pt_cmpR op_gt (pv 9) pe_int (nomark _)) (pss_cons (ps_if (PW.pt (pw_or (pt_cmpR (op_eqD hr.units) (pe_op op_mod (pv 9) pe_int) pe_int (nomark _)) (pw_or1 (pt_cmpR (op_eqD hr.units) (pv 9) (pe_callB call_len (by rfl) T.z_len (by decide +kernel) (pa_cons (pv 4) pa_nil)) (nomark _))))) (pss_cons (ps_if (pt_cmpR (op_neD hr.units) (pe_meth0 (C := cW K) (m := "wheels") (pv 7) T.wk.cl T.wk.m4 G_wk_wheels (hr.mono (by decide)) B_wk_wheels .nil (passT (takes_of rfl rfl rfl rfl))) (pe_ix ix_seq (pv 6) (pe_op op_sub (pv 9) pe_int) (fun _ _ => rfl)) (nomark _)) (pss_one (ps_ret pe_bl)) pss_nil) (pss_cons (ps_if (pt_cmpR (op_neD hr.units) (pe_meth0 (C := cW K) (m := "ways") (pv 7) T.wk.cl T.wk.m5 G_wk_ways (hr.mono (by decide)) B_wk_ways .nil (passT (takes_of rfl rfl rfl rfl))) (pe_callF R_law_ways (hr.mono (by decide)) (by rfl) (takes_of rfl rfl rfl rfl) (pa_cons (pv 3) (pa_cons (pv 6) (pa_cons (pv 9) pa_nil)))) (nomark _)) (pss_one (ps_ret pe_bl)) pss_nil) (pss_cons (ps_expr (pe_meth (C := cW K) (m := "go") (pv 7) T.wk.cl T.wk.m1 G_wk_go (hr.mono (by decide)) B_wk_go .nil (passT (takes_of rfl rfl rfl rfl)) (pa_cons (pe_op op_addU (pv 2) pe_int) pa_nil))) (pss_one (ps_if (PW.pt (pw_or (pt_cmpR (op_neD hr.units) (pe_callRS R_law_back (hr.mono (by decide)) (by rfl) (takes_of rfl rfl rfl rfl) (pa_cons (pv 7) pa_nil)) (pe_lst pa_nil) (nomark _)) (pw_or1 (pt_cmpR (op_neD hr.units) (pe_meth0 (C := cW K) (m := "handle") (pv 7) T.wk.cl T.wk.m3 G_wk_handle (hr.mono (by decide)) B_wk_handle .nil (passT (takes_of rfl rfl rfl rfl))) (pe_ix ix_seq (pv 4) (pe_op op_sub (pv 9) pe_int) (fun _ _ => rfl)) (nomark _))))) (pss_one (ps_ret pe_bl)) pss_nil))))) pss_nil) (pss_cons (ps_if (pt_cmpR (op_neD hr.units) (pe_callRS R_law_back (hr.mono (by decide)) (by rfl) (takes_of rfl rfl rfl rfl) (pa_cons (pv 7) pa_nil)) (pe_lst pa_nil) (nomark _)) (pss_one (ps_ret pe_bl)) pss_nil) (pss_one (ps_set (i := 9) sc_law.nd rfl (by first | exact Or.inl rfl | exact Or.inr rfl) (pe_op op_sub (pv 9) pe_int)))))) (pss_cons (ps_if (PW.pt (pw_or (pt_cmpR (op_neD hr.units) (pe_meth0 (C := cW K) (m := "wheels") (pv 7) T.wk.cl T.wk.m4 G_wk_wheels (hr.mono (by decide)) B_wk_wheels .nil (passT (takes_of rfl rfl rfl rfl))) (pv 3) (nomark _)) (pw_or1 (pt_cmpR (op_neD hr.units) (pe_meth0 (C := cW K) (m := "handle") (pv 7) T.wk.cl T.wk.m3 G_wk_handle (hr.mono (by decide)) B_wk_handle .nil (passT (takes_of rfl rfl rfl rfl))) (pv 2) (nomark _))))) (pss_one (ps_ret pe_bl)) pss_nil) (pss_cons (ps_if (pt_cmpR (op_neD hr.units) (pe_meth0 (C := cW K) (m := "ways") (pv 7) T.wk.cl T.wk.m5 G_wk_ways (hr.mono (by decide)) B_wk_ways .nil (passT (takes_of rfl rfl rfl rfl))) (pe_op op_mulU (pe_lst (pa_cons pe_int pa_nil)) (pe_callB call_len (by rfl) T.z_len (by decide +kernel) (pa_cons (pv 1) pa_nil))) (nomark _)) (pss_one (ps_ret pe_bl)) pss_nil) (pss_one (ps_ret (pe_cmpR (op_eqD hr.units) (pe_callRS R_law_back (hr.mono (by decide)) (by rfl) (takes_of rfl rfl rfl rfl) (pa_cons (pv 7) pa_nil)) (pe_callF R_law_due_kin (hr.mono (by decide)) (by rfl) (takes_of rfl rfl rfl rfl) (pa_cons pe_str pa_nil)) (nomark _)))))))))))))))
end
def d_law_draws : He.DefD := ⟨("_law_draws", none), "_law_draws", "_law_draws", defArgs s_law_draws, defBody s_law_draws, defScope s_law_draws, [], []⟩
def d_law_cell_at : He.DefD := ⟨("_law_cell_at", none), "_law_cell_at", "_law_cell_at", defArgs s_law_cell_at, defBody s_law_cell_at, defScope s_law_cell_at, [], []⟩
def d_law_train : He.DefD := ⟨("_law_train", none), "_law_train", "_law_train", defArgs s_law_train, defBody s_law_train, defScope s_law_train, [], []⟩
def d_law_a_row : He.DefD := ⟨("_law_a_row", none), "_law_a_row", "_law_a_row", defArgs s_law_a_row, defBody s_law_a_row, defScope s_law_a_row, [], []⟩
def d_is_train : He.DefD := ⟨("is_train", none), "is_train", "is_train", defArgs s_is_train, defBody s_is_train, defScope s_is_train, [], []⟩
def d_is_stand : He.DefD := ⟨("is_stand", none), "is_stand", "is_stand", defArgs s_is_stand, defBody s_is_stand, defScope s_is_stand, [], []⟩
def d_need_stand : He.DefD := ⟨("need_stand", none), "need_stand", "need_stand", defArgs s_need_stand, defBody s_need_stand, defScope s_need_stand, [], []⟩
def d_dragged : He.DefD := ⟨("dragged", none), "dragged", "dragged", defArgs s_dragged, defBody s_dragged, defScope s_dragged, [], []⟩
def d_dragged_all : He.DefD := ⟨("dragged_all", none), "dragged_all", "dragged_all", defArgs s_dragged_all, defBody s_dragged_all, defScope s_dragged_all, [], []⟩
def d_run_of : He.DefD := ⟨("run_of", none), "run_of", "run_of", defArgs s_run_of, defBody s_run_of, defScope s_run_of, [], []⟩
def d_law_a_kin : He.DefD := ⟨("_law_a_kin", none), "_law_a_kin", "_law_a_kin", defArgs s_law_a_kin, defBody s_law_a_kin, defScope s_law_a_kin, [], []⟩
def d_law_back : He.DefD := ⟨("_law_back", none), "_law_back", "_law_back", defArgs s_law_back, defBody s_law_back, defScope s_law_back, [], []⟩
def d_law_due_kin : He.DefD := ⟨("_law_due_kin", none), "_law_due_kin", "_law_due_kin", defArgs s_law_due_kin, defBody s_law_due_kin, defScope s_law_due_kin, [], []⟩
def d_law_ways : He.DefD := ⟨("_law_ways", none), "_law_ways", "_law_ways", defArgs s_law_ways, defBody s_law_ways, defScope s_law_ways, [], []⟩
def d_law : He.DefD := ⟨("law", none), "law", "law", defArgs s_law, defBody s_law, defScope s_law, [], []⟩
def d_wk_init : He.DefD := ⟨("Walker", some "__init__"), "__init__", "Walker.__init__", defArgs s_wk_init, defBody s_wk_init, defScope s_wk_init, [], []⟩
def d_wk_go : He.DefD := ⟨("Walker", some "go"), "go", "Walker.go", defArgs s_wk_go, defBody s_wk_go, defScope s_wk_go, [], []⟩
def d_wk_back : He.DefD := ⟨("Walker", some "back"), "back", "Walker.back", defArgs s_wk_back, defBody s_wk_back, defScope s_wk_back, [], []⟩
def d_wk_handle : He.DefD := ⟨("Walker", some "handle"), "handle", "Walker.handle", defArgs s_wk_handle, defBody s_wk_handle, defScope s_wk_handle, [], []⟩
def d_wk_wheels : He.DefD := ⟨("Walker", some "wheels"), "wheels", "Walker.wheels", defArgs s_wk_wheels, defBody s_wk_wheels, defScope s_wk_wheels, [], []⟩
def d_wk_ways : He.DefD := ⟨("Walker", some "ways"), "ways", "Walker.ways", defArgs s_wk_ways, defBody s_wk_ways, defScope s_wk_ways, [], []⟩
def fn : List He.DefD := [d_law_draws, d_law_cell_at, d_law_train, d_law_a_row, d_is_train, d_is_stand, d_need_stand, d_dragged, d_dragged_all, d_run_of, d_law_a_kin, d_law_back, d_law_due_kin, d_law_ways, d_law, d_wk_init, d_wk_go, d_wk_back, d_wk_handle, d_wk_wheels, d_wk_ways]
def fa : List He.Fa := [.int "MOST" (12), .glo "NoStand", .exc "NoStand", .glo "NoTrain", .exc "NoTrain", .glo "NothingLeft", .exc "NothingLeft", .free "ValueError", .free "abs", .free "int", .free "isinstance", .free "len", .free "list", .free "max", .free "min", .free "range", .free "sum", .free "zip", .glo "NoBox", .glo "NoPaper", .glo "NoPiece", .glo "NoPlace", .glo "NoRow", .glo "NoStand", .glo "NoSwitch", .glo "NoTable", .glo "NoText", .glo "NoTrain", .glo "NothingLeft", .glo "TooMany", .glo "TrainError", .cls "Walker", .noat "Walker" "kept_plays", .noat "Walker" "stands_at", .noat "Walker" "lies", .noat "Walker" "gone", .noat "Walker" "former", .meth "Walker" "go", .meth "Walker" "back", .meth "Walker" "handle", .meth "Walker" "wheels", .meth "Walker" "ways", .mkr "Walker", .glo "Walker", .glo "_law_draws", .glo "_law_cell_at", .glo "_law_train", .glo "_law_a_row", .glo "is_train", .glo "is_stand", .glo "need_stand", .glo "dragged", .glo "dragged_all", .glo "run_of", .glo "_law_a_kin", .glo "_law_back", .glo "_law_due_kin", .glo "_law_ways", .glo "law"]
def loose0 : List Str := ["MOST", "NoBox", "NoPaper", "NoPiece", "NoPlace", "NoRow", "NoStand", "NoSwitch", "NoTable", "NoText", "NoTrain", "NothingLeft", "TooMany", "TrainError", "Walker", "_law_a_kin", "_law_a_row", "_law_back", "_law_cell_at", "_law_draws", "_law_due_kin", "_law_train", "_law_ways", "dragged", "dragged_all", "is_stand", "is_train", "need_stand", "run_of"]
def loose : List Str := loose0
abbrev R : PySem.W.OpenRow := PySem.W.OpenLaw.row PySem.Challenge.rw_lugtrain_k35_hundreds_of_goings
abbrev hk : PySem.W.Hook := hookM 4 fa fn kinB
def ob (s : PySem.W.SharedT) : AlM := obsM 4 fa fn kinB (HandSHeadRun.getT s)
theorem ob_eq (s : PySem.W.SharedT) : ob s = hk.obs s.abs := obsM_eq (HandSHeadRun.getT_eq s)
set_option maxHeartbeats 0 in
theorem run (w : World) : HandSHeadRun.RunEq R (PySem.W.view R.prog [33]) hk ob 20000 loose w := by
  intro os
  kernel_rfl
theorem facts {P : Program} {w : World} {K : PySem.W.Frag} {h : Heap} {mg : Str → Option Value} {f : Addr} (X : K.In h) (G : h.Ns mainGlobals mg) (hfa : mg ("law" : Str) = some (.ref f)) (c : He.SaysD fa fn K) (cx : kinB K = true) :
    ∃ fd : FuncData, (∀ (s : Shared) (v : Value), BindsTo s fd ⟨[v], []⟩ [("script", v)]) ∧ ∀ base : Heap, K.In base → base.Ns mainGlobals mg → FnOk P w K mg base CX0 6 f fd ["script"] (fun vs H Q _ => spM K (ecK K) 1 m_law_k35 vs H Q fun _ _ _ => False) := by
  have T : Tx K mg := ⟨trivial, He.int_ok X G (c.fact 0 (f := .int "MOST" (12)) rfl), ExF.of X G (c.fact 1 (f := .glo "NoStand") rfl) (c.fact 2 (f := .exc "NoStand") rfl), ExF.of X G (c.fact 3 (f := .glo "NoTrain") rfl) (c.fact 4 (f := .exc "NoTrain") rfl), ExF.of X G (c.fact 5 (f := .glo "NothingLeft") rfl) (c.fact 6 (f := .exc "NothingLeft") rfl), He.free_ok X G (c.fact 7 (f := .free "ValueError") rfl), He.free_ok X G (c.fact 8 (f := .free "abs") rfl), He.free_ok X G (c.fact 9 (f := .free "int") rfl), He.free_ok X G (c.fact 10 (f := .free "isinstance") rfl), He.free_ok X G (c.fact 11 (f := .free "len") rfl), He.free_ok X G (c.fact 12 (f := .free "list") rfl), He.free_ok X G (c.fact 13 (f := .free "max") rfl), He.free_ok X G (c.fact 14 (f := .free "min") rfl), He.free_ok X G (c.fact 15 (f := .free "range") rfl), He.free_ok X G (c.fact 16 (f := .free "sum") rfl), He.free_ok X G (c.fact 17 (f := .free "zip") rfl), He.glo_ok X G (c.fact 18 (f := .glo "NoBox") rfl), He.glo_ok X G (c.fact 19 (f := .glo "NoPaper") rfl), He.glo_ok X G (c.fact 20 (f := .glo "NoPiece") rfl), He.glo_ok X G (c.fact 21 (f := .glo "NoPlace") rfl), He.glo_ok X G (c.fact 22 (f := .glo "NoRow") rfl), He.glo_ok X G (c.fact 23 (f := .glo "NoStand") rfl), He.glo_ok X G (c.fact 24 (f := .glo "NoSwitch") rfl), He.glo_ok X G (c.fact 25 (f := .glo "NoTable") rfl), He.glo_ok X G (c.fact 26 (f := .glo "NoText") rfl), He.glo_ok X G (c.fact 27 (f := .glo "NoTrain") rfl), He.glo_ok X G (c.fact 28 (f := .glo "NothingLeft") rfl), He.glo_ok X G (c.fact 29 (f := .glo "TooMany") rfl), He.glo_ok X G (c.fact 30 (f := .glo "TrainError") rfl), ⟨He.cls_ok (c.fact 31 (f := .cls "Walker") rfl), He.noat_ok (c.fact 32 (f := .noat "Walker" "kept_plays") rfl), He.noat_ok (c.fact 33 (f := .noat "Walker" "stands_at") rfl), He.noat_ok (c.fact 34 (f := .noat "Walker" "lies") rfl), He.noat_ok (c.fact 35 (f := .noat "Walker" "gone") rfl), He.noat_ok (c.fact 36 (f := .noat "Walker" "former") rfl), He.meth_ok (c.fact 37 (f := .meth "Walker" "go") rfl), He.meth_ok (c.fact 38 (f := .meth "Walker" "back") rfl), He.meth_ok (c.fact 39 (f := .meth "Walker" "handle") rfl), He.meth_ok (c.fact 40 (f := .meth "Walker" "wheels") rfl), He.meth_ok (c.fact 41 (f := .meth "Walker" "ways") rfl), He.mkr_ok (c.fact 42 (f := .mkr "Walker") rfl), He.glo_ok X G (c.fact 43 (f := .glo "Walker") rfl)⟩⟩
  obtain ⟨fd_law_draws, F_law_draws⟩ := c.def_ 0 (d := d_law_draws) rfl
  have g_law_draws := He.glo_ok X G (c.fact 44 (f := .glo "_law_draws") rfl)
  obtain ⟨fd_law_cell_at, F_law_cell_at⟩ := c.def_ 1 (d := d_law_cell_at) rfl
  have g_law_cell_at := He.glo_ok X G (c.fact 45 (f := .glo "_law_cell_at") rfl)
  obtain ⟨fd_law_train, F_law_train⟩ := c.def_ 2 (d := d_law_train) rfl
  have g_law_train := He.glo_ok X G (c.fact 46 (f := .glo "_law_train") rfl)
  obtain ⟨fd_law_a_row, F_law_a_row⟩ := c.def_ 3 (d := d_law_a_row) rfl
  have g_law_a_row := He.glo_ok X G (c.fact 47 (f := .glo "_law_a_row") rfl)
  obtain ⟨fd_is_train, F_is_train⟩ := c.def_ 4 (d := d_is_train) rfl
  have g_is_train := He.glo_ok X G (c.fact 48 (f := .glo "is_train") rfl)
  obtain ⟨fd_is_stand, F_is_stand⟩ := c.def_ 5 (d := d_is_stand) rfl
  have g_is_stand := He.glo_ok X G (c.fact 49 (f := .glo "is_stand") rfl)
  obtain ⟨fd_need_stand, F_need_stand⟩ := c.def_ 6 (d := d_need_stand) rfl
  have g_need_stand := He.glo_ok X G (c.fact 50 (f := .glo "need_stand") rfl)
  obtain ⟨fd_dragged, F_dragged⟩ := c.def_ 7 (d := d_dragged) rfl
  have g_dragged := He.glo_ok X G (c.fact 51 (f := .glo "dragged") rfl)
  obtain ⟨fd_dragged_all, F_dragged_all⟩ := c.def_ 8 (d := d_dragged_all) rfl
  have g_dragged_all := He.glo_ok X G (c.fact 52 (f := .glo "dragged_all") rfl)
  obtain ⟨fd_run_of, F_run_of⟩ := c.def_ 9 (d := d_run_of) rfl
  have g_run_of := He.glo_ok X G (c.fact 53 (f := .glo "run_of") rfl)
  obtain ⟨fd_law_a_kin, F_law_a_kin⟩ := c.def_ 10 (d := d_law_a_kin) rfl
  have g_law_a_kin := He.glo_ok X G (c.fact 54 (f := .glo "_law_a_kin") rfl)
  obtain ⟨fd_law_back, F_law_back⟩ := c.def_ 11 (d := d_law_back) rfl
  have g_law_back := He.glo_ok X G (c.fact 55 (f := .glo "_law_back") rfl)
  obtain ⟨fd_law_due_kin, F_law_due_kin⟩ := c.def_ 12 (d := d_law_due_kin) rfl
  have g_law_due_kin := He.glo_ok X G (c.fact 56 (f := .glo "_law_due_kin") rfl)
  obtain ⟨fd_law_ways, F_law_ways⟩ := c.def_ 13 (d := d_law_ways) rfl
  have g_law_ways := He.glo_ok X G (c.fact 57 (f := .glo "_law_ways") rfl)
  obtain ⟨fd_law, F_law⟩ := c.def_ 14 (d := d_law) rfl
  have g_law := He.glo_ok X G (c.fact 58 (f := .glo "law") rfl)
  obtain ⟨fd_wk_init, F_wk_init⟩ := c.def_ 15 (d := d_wk_init) rfl
  obtain ⟨fd_wk_go, F_wk_go⟩ := c.def_ 16 (d := d_wk_go) rfl
  obtain ⟨fd_wk_back, F_wk_back⟩ := c.def_ 17 (d := d_wk_back) rfl
  obtain ⟨fd_wk_handle, F_wk_handle⟩ := c.def_ 18 (d := d_wk_handle) rfl
  obtain ⟨fd_wk_wheels, F_wk_wheels⟩ := c.def_ 19 (d := d_wk_wheels) rfl
  obtain ⟨fd_wk_ways, F_wk_ways⟩ := c.def_ 20 (d := d_wk_ways) rfl
  have e := hfa.symm.trans g_law
  cases e
  have b := FunD.bindsA (ps := ["script"]) F_law fun _ _ _ _ _ _ us hl => match us, hl with | [_], _ => rfl
  refine ⟨fd_law, fun s v => b s [v] rfl, fun base _ _ => ?_⟩
  have R_law_draws : Rdy P w K mg base "_law_draws" 1 ["cell", "many", "base"] 3 m_law_draws := ok_law_draws T F_law_draws g_law_draws
  have R_law_cell_at : Rdy P w K mg base "_law_cell_at" 1 ["script", "k"] 2 m_law_cell_at := ok_law_cell_at T F_law_cell_at g_law_cell_at
  have R_law_train : Rdy P w K mg base "_law_train" 2 ["script"] 1 m_law_train := ok_law_train T F_law_train g_law_train R_law_draws R_law_cell_at
  have R_law_a_row : Rdy P w K mg base "_law_a_row" 2 ["cell", "many", "middle", "span"] 4 m_law_a_row := ok_law_a_row T F_law_a_row g_law_a_row R_law_draws
  have R_is_train : Rdy P w K mg base "is_train" 1 ["plays"] 1 m_is_train := ok_is_train T F_is_train g_is_train
  have R_is_stand : Rdy P w K mg base "is_stand" 2 ["plays", "handle", "wheels"] 3 m_is_stand := ok_is_stand T F_is_stand g_is_stand R_is_train
  have R_need_stand : Rdy P w K mg base "need_stand" 3 ["plays", "handle", "wheels"] 3 m_need_stand := ok_need_stand T F_need_stand g_need_stand R_is_stand
  have R_dragged : Rdy P w K mg base "dragged" 1 ["play", "ahead", "at"] 3 m_dragged := ok_dragged T F_dragged g_dragged
  have R_dragged_all : Rdy P w K mg base "dragged_all" 2 ["plays", "wheels", "place"] 3 m_dragged_all := ok_dragged_all T F_dragged_all g_dragged_all R_dragged
  have R_run_of : Rdy P w K mg base "run_of" 4 ["plays", "handle", "wheels", "row"] 4 m_run_of := ok_run_of T F_run_of g_run_of R_need_stand R_dragged_all
  have kn : Kin K := kinB_ok cx
  have R_law_a_kin : KinOk P w K mg base "_law_a_kin" := ok_law_a_kin T kn F_law_a_kin g_law_a_kin
  have O_wk_init := ok_wk_init (P := P) (w := w) (base := base) T F_wk_init R_need_stand
  have O_wk_go := ok_wk_go (P := P) (w := w) (base := base) T F_wk_go R_dragged_all
  have O_wk_back := ok_wk_back (P := P) (w := w) (base := base) T F_wk_back
  have O_wk_handle := ok_wk_handle (P := P) (w := w) (base := base) T F_wk_handle
  have O_wk_wheels := ok_wk_wheels (P := P) (w := w) (base := base) T F_wk_wheels
  have O_wk_ways := ok_wk_ways (P := P) (w := w) (base := base) T F_wk_ways
  have R_law_back : RdyS P w K mg base "_law_back" 2 ["walker"] (spLBack K) := ok_law_back T F_law_back g_law_back kn R_law_a_kin O_wk_back (F_wk_back.bindsN fun _ _ _ _ _ _ us hl => match us, hl with | [_], _ => rfl)
  have R_law_due_kin : Rdy P w K mg base "_law_due_kin" 1 ["name"] 1 m_law_due_kin := ok_law_due_kin T F_law_due_kin g_law_due_kin
  have R_law_ways : Rdy P w K mg base "_law_ways" 1 ["wheels", "lists", "many"] 3 m_law_ways := ok_law_ways T F_law_ways g_law_ways
  exact fnOk_quiet (fn_law T F_law R_law_draws R_law_cell_at R_law_train R_law_a_row R_run_of R_law_back R_law_due_kin R_law_ways O_wk_init (F_wk_init.bindsN fun _ _ _ _ _ _ us hl => match us, hl with | [_, _, _, _], _ => rfl) O_wk_go (F_wk_go.bindsN fun _ _ _ _ _ _ us hl => match us, hl with | [_, _], _ => rfl) O_wk_handle (F_wk_handle.bindsN fun _ _ _ _ _ _ us hl => match us, hl with | [_], _ => rfl) O_wk_wheels (F_wk_wheels.bindsN fun _ _ _ _ _ _ us hl => match us, hl with | [_], _ => rfl) O_wk_ways (F_wk_ways.bindsN fun _ _ _ _ _ _ us hl => match us, hl with | [_], _ => rfl))
end K35
open PySem PySem.W PySem.Calls PyProof.Rows
set_option maxRecDepth 100000 in
set_option maxHeartbeats 0 in
theorem PySem.Challenge.cw_lugtrain_k35_hundreds_of_goings_holds : PySem.Challenge.rw_lugtrain_k35_hundreds_of_goings.Holds := by
  w_on; o_law
  refine HandSHeadRun.head_any (r := OpenLaw.row PySem.Challenge.rw_lugtrain_k35_hundreds_of_goings) (q := view (OpenLaw.row PySem.Challenge.rw_lugtrain_k35_hundreds_of_goings).prog [33]) (H := K35.hk) (ob := K35.ob) (M := 20000) (loose := K35.loose) (d := HandSHeadRun.topDef (OpenLaw.row PySem.Challenge.rw_lugtrain_k35_hundreds_of_goings).prog 33) (kwd := []) K35.ob_eq
    (by kernel_rfl) (fun s => by kernel_rfl) K35.run (by kernel_rfl) (by kernel_rfl) (by kernel_rfl) (by rfl) (by first | assumption | decide +kernel) (by decide +kernel) ⟨rfl, rfl, rfl, rfl, rfl, by decide +kernel⟩ ?hw ?hc
  case hw => w_witness2
  case hc =>
    refine L2.walk_ofE (l := PySem.Challenge.rw_lugtrain_k35_hundreds_of_goings) (n := 63) (k := 6) (x := "script") (CX := L2.CX0) rfl (by decide) (by kernel_rfl) ⟨rfl, by decide, by decide⟩ ?F (fun _ _ _ _ z => z)
    intro w mg fa h Y G hmg0
    obtain ⟨K, KX, c, cx⟩ := Y
    have hmg : mg ("law" : PySem.Str) = some (.ref fa) := by
      have e : (HandSHeadRun.topDef (OpenLaw.row PySem.Challenge.rw_lugtrain_k35_hundreds_of_goings).prog 33).name = ("law" : PySem.Str) := by kernel_rfl
      rw [← e]
      exact hmg0
    obtain ⟨fd, hb, hF⟩ := K35.facts (P := (PySem.Challenge.rw_lugtrain_k35_hundreds_of_goings).prog) (w := w) KX G hmg c cx
    exact ⟨K, fd, (fun vs H Q _ => Sm.spM K (Sm.ecK K) 1 Sm.m_law_k35 vs H Q fun _ _ _ => False), KX, hb, fun H a ns hl _ hS => Sm.law_sp Sm.law_true H a ns hl hS, hF⟩
