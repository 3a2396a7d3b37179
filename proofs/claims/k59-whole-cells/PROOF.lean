import PyProof.Rows.All
import Wide.All
import OpenK.AllK
import Wide.FinOn
import HandS.ForMost
import HandS.ForExc
import HandS.TupAny
import HandS.Conv
import HandS.CallLocal
import HandS.SortInts
import HandS.DictComp
import HandS.Flow
import HandS.Style
import HandS.StrMore
import HandS.Replace
import HandS.IsInst
import HandS.More
import HandS.TupSets
import HandS.Deep
import HandS.DeepEq
import KE.GoesEnum
import KE.GoesMore
import KE.KExcSuper
import HandS.Exc
import HandS.ExcOwn
import HandS.WordsExc
import HandS.TryOnly
import HandS.Dict
import KE.DataEq
import KE.KEqDict
import PyProof.ReprRoads
import PyProof.StrLawsRepr
import PyProof.FitsInt
import HandS.Ends
import KE.RegKSuper
import PySem.Challenge.RW_nonearer_k59_whole_cells_of_books
set_option Elab.async false
set_option linter.all false
set_option maxRecDepth 100000
set_option maxHeartbeats 4000000
/-! The layer: what a reading makes of data. -/
namespace NN
open PySem PySem.Spec PyProof.Rows L2

/-! ### data in a heap; F: the lists and dicts that stay as they are -/
mutual
inductive TD (F H : Hp) : V → PyData → Prop
  | non : TD F H .non .none
  | bl (b : Bool) : TD F H (.bl b) (.bool b)
  | int (i : Int) : TD F H (.int i) (.int i)
  | str (x : Str) : TD F H (.str x) (.str x)
  | tup {a : Addr} {xs : List V} {ds : List PyData} : H a = some (.tup xs) → TDs F H xs ds → TD F H (.ref a) (.tuple ds)
  | lst {a : Addr} {xs : List V} {ds : List PyData} : F a = some (.lst xs) → TDs F H xs ds → TD F H (.ref a) (.list ds)
  | dct {a : Addr} {ks : List (Key × V)} {kvs : List (PyData × PyData)} : F a = some (.dK ks) → TKs F H ks kvs → TD F H (.ref a) (.dict kvs)
inductive TDs (F H : Hp) : List V → List PyData → Prop
  | nil : TDs F H [] []
  | cons {v : V} {vs : List V} {d : PyData} {ds : List PyData} : TD F H v d → TDs F H vs ds → TDs F H (v :: vs) (d :: ds)
inductive TKs (F H : Hp) : List (Key × V) → List (PyData × PyData) → Prop
  | nil : TKs F H [] []
  | cons {k : Int} {v : V} {ks : List (Key × V)} {d : PyData} {kvs : List (PyData × PyData)} : TD F H v d → TKs F H ks kvs → TKs F H ((Sum.inl k, v) :: ks) ((.int k, d) :: kvs)
end
/-- the tuples stay -/
def Tu (H H' : Hp) : Prop := ∀ a xs, H a = some (.tup xs) → H' a = some (.tup xs)
theorem Tu.refl (H : Hp) : Tu H H := fun _ _ h => h
theorem Tu.trans {H H1 H2 : Hp} (a : Tu H H1) (b : Tu H1 H2) : Tu H H2 := fun x o h => b x o (a x o h)
theorem Tu.of {H H' : Hp} (s : Same H H') : Tu H H' := fun a xs h => s a _ h
mutual
theorem TD.mono {F H F' H' : Hp} (f : Same F F') (t : Tu H H') : ∀ {v : V} {d : PyData}, TD F H v d → TD F' H' v d
  | _, _, .non => .non
  | _, _, .bl b => .bl b
  | _, _, .int i => .int i
  | _, _, .str x => .str x
  | _, _, .tup h q => .tup (t _ _ h) (TDs.mono f t q)
  | _, _, .lst h q => .lst (f _ _ h) (TDs.mono f t q)
  | _, _, .dct h q => .dct (f _ _ h) (TKs.mono f t q)
theorem TDs.mono {F H F' H' : Hp} (f : Same F F') (t : Tu H H') : ∀ {v : List V} {d : List PyData}, TDs F H v d → TDs F' H' v d
  | _, _, .nil => .nil
  | _, _, .cons h q => .cons (TD.mono f t h) (TDs.mono f t q)
theorem TKs.mono {F H F' H' : Hp} (f : Same F F') (t : Tu H H') : ∀ {v : List (Key × V)} {d : List (PyData × PyData)}, TKs F H v d → TKs F' H' v d
  | _, _, .nil => .nil
  | _, _, .cons h q => .cons (TD.mono f t h) (TKs.mono f t q)
end
theorem TD.tu {F H H' : Hp} {v : V} {d : PyData} (t : Tu H H') (h : TD F H v d) : TD F H' v d := h.mono (Same.refl F) t
theorem TDs.tu {F H H' : Hp} {v : List V} {d : List PyData} (t : Tu H H') (h : TDs F H v d) : TDs F H' v d := h.mono (Same.refl F) t
theorem TKs.tu {F H H' : Hp} {v : List (Key × V)} {d : List (PyData × PyData)} (t : Tu H H') (h : TKs F H v d) : TKs F H' v d := h.mono (Same.refl F) t
section
variable {F H : Hp}
theorem TDs.len : ∀ {vs : List V} {ds : List PyData}, TDs F H vs ds → vs.length = ds.length
  | _, _, .nil => rfl
  | _, _, .cons _ q => congrArg (· + 1) q.len
theorem TDs.get : ∀ {vs : List V} {ds : List PyData} {i : Nat} {d : PyData}, TDs F H vs ds → ds[i]? = some d → ∃ v, vs[i]? = some v ∧ TD F H v d
  | _, _, _, _, .nil, e => by simp at e
  | _, _, 0, _, .cons h _, e => by
    have e' := Option.some.inj e
    subst e'
    exact ⟨_, rfl, h⟩
  | _, _, i + 1, d, .cons _ q, e => by
    obtain ⟨v, h1, h2⟩ := TDs.get (i := i) (d := d) q (by simpa using e)
    exact ⟨v, by simpa using h1, h2⟩
theorem TDs.get' : ∀ {vs : List V} {ds : List PyData} {i : Nat} {v : V}, TDs F H vs ds → vs[i]? = some v → ∃ d, ds[i]? = some d ∧ TD F H v d
  | _, _, _, _, .nil, e => by simp at e
  | _, _, 0, _, .cons h _, e => by
    have e' := Option.some.inj e
    subst e'
    exact ⟨_, rfl, h⟩
  | _, _, i + 1, d, .cons _ q, e => by
    obtain ⟨v, h1, h2⟩ := TDs.get' (i := i) (v := d) q (by simpa using e)
    exact ⟨v, by simpa using h1, h2⟩
theorem TDs.append : ∀ {vs ws : List V} {ds es : List PyData}, TDs F H vs ds → TDs F H ws es → TDs F H (vs ++ ws) (ds ++ es)
  | _, _, _, _, .nil, s => s
  | _, _, _, _, .cons h q, s => .cons h (q.append s)
theorem TDs.take : ∀ {vs : List V} {ds : List PyData} (n : Nat), TDs F H vs ds → TDs F H (vs.take n) (ds.take n)
  | _, _, 0, _ => .nil
  | _, _, _ + 1, .nil => .nil
  | _, _, n + 1, .cons h q => .cons h (q.take n)
theorem TDs.drop : ∀ {vs : List V} {ds : List PyData} (n : Nat), TDs F H vs ds → TDs F H (vs.drop n) (ds.drop n)
  | _, _, 0, h => h
  | _, _, _ + 1, .nil => .nil
  | _, _, n + 1, .cons _ q => q.drop n
theorem TDs.snoc {vs : List V} {ds : List PyData} {v : V} {d : PyData} (h : TDs F H vs ds) (q : TD F H v d) : TDs F H (vs ++ [v]) (ds ++ [d]) := h.append (.cons q .nil)
theorem TDs.rev : ∀ {vs : List V} {ds : List PyData}, TDs F H vs ds → TDs F H vs.reverse ds.reverse
  | _, _, .nil => .nil
  | _, _, .cons h q => by
    rw [List.reverse_cons, List.reverse_cons]
    exact q.rev.snoc h
theorem TDs.map {α : Type} {g : α → V} {k : α → PyData} (h : ∀ x, TD F H (g x) (k x)) : ∀ l : List α, TDs F H (l.map g) (l.map k)
  | [] => .nil
  | x :: r => .cons (h x) (TDs.map h r)
theorem TDs.ints (ns : List Int) : TDs F H (ns.map V.int) (ns.map PyData.int) := TDs.map (fun i => .int i) ns
theorem TDs.of_ints : ∀ {vs : List V} {ns : List Int}, TDs F H vs (ns.map PyData.int) → vs = ns.map V.int
  | _, [], .nil => rfl
  | _, i :: r, .cons h q => by
    cases h
    rw [q.of_ints]
    rfl
theorem TDs.of_bools : ∀ {vs : List V} {ns : List Bool}, TDs F H vs (ns.map PyData.bool) → vs = ns.map V.bl
  | _, [], .nil => rfl
  | _, i :: r, .cons h q => by
    cases h
    rw [q.of_bools]
    rfl
theorem TDs.of_strs : ∀ {vs : List V} {ns : List Str}, TDs F H vs (ns.map PyData.str) → vs = ns.map V.str
  | _, [], .nil => rfl
  | _, i :: r, .cons h q => by
    cases h
    rw [q.of_strs]
    rfl
theorem TD.of_int {v : V} {i : Int} (h : TD F H v (.int i)) : v = .int i := by cases h; rfl
theorem TD.of_bool {v : V} {i : Bool} (h : TD F H v (.bool i)) : v = .bl i := by cases h; rfl
theorem TD.of_str {v : V} {i : Str} (h : TD F H v (.str i)) : v = .str i := by cases h; rfl
theorem TD.of_none {v : V} (h : TD F H v .none) : v = .non := by cases h; rfl
theorem TD.of_tup {v : V} {ds : List PyData} (h : TD F H v (.tuple ds)) : ∃ a xs, v = .ref a ∧ H a = some (.tup xs) ∧ TDs F H xs ds := by
  cases h with
  | tup h q => exact ⟨_, _, rfl, h, q⟩
theorem TD.of_lst {v : V} {ds : List PyData} (h : TD F H v (.list ds)) : ∃ a xs, v = .ref a ∧ F a = some (.lst xs) ∧ TDs F H xs ds := by
  cases h with
  | lst h q => exact ⟨_, _, rfl, h, q⟩
theorem TD.of_dct {v : V} {ds : List (PyData × PyData)} (h : TD F H v (.dict ds)) : ∃ a xs, v = .ref a ∧ F a = some (.dK xs) ∧ TKs F H xs ds := by
  cases h with
  | dct h q => exact ⟨_, _, rfl, h, q⟩
theorem TD.nn {v : V} {d : PyData} (h : TD F H v d) : (v = .non ↔ d = .none) := by
  cases h <;> simp
end

/-- fields -/
inductive TFs (F H : Hp) : List (Str × V) → List (Str × PyData) → Prop
  | nil : TFs F H [] []
  | cons {n : Str} {v : V} {vs : List (Str × V)} {d : PyData} {ds : List (Str × PyData)} : TD F H v d → TFs F H vs ds → TFs F H ((n, v) :: vs) ((n, d) :: ds)
theorem TFs.mono {F H F' H' : Hp} (f : Same F F') (t : Tu H H') : ∀ {v : List (Str × V)} {d : List (Str × PyData)}, TFs F H v d → TFs F' H' v d
  | _, _, .nil => .nil
  | _, _, .cons h q => .cons (h.mono f t) (TFs.mono f t q)
theorem TFs.at {F H : Hp} {n : Str} : ∀ {v : List (Str × V)} {d : List (Str × PyData)} {x : PyData}, TFs F H v d → List.lookup n d = some x → ∃ y, List.lookup n v = some y ∧ TD F H y x
  | _, _, _, .nil, e => by cases e
  | _, _, x, .cons (n := m) (v := v) (d := d) h q, e => by
    by_cases c : (n == m) = true
    · simp only [List.lookup, c] at e ⊢
      cases e
      exact ⟨v, rfl, h⟩
    · simp only [List.lookup, Bool.eq_false_iff.mpr c] at e ⊢
      exact q.at e
/-- an instance of the class at C that stays as it is -/
def ObjD (F H : Hp) (C : Addr) (v : V) (fs : List (Str × PyData)) : Prop := ∃ b dx vs, v = .ref b ∧ F b = some (.ins C dx vs) ∧ TFs F H vs fs
theorem ObjD.mono {F H F' H' : Hp} {C : Addr} {v : V} {fs : List (Str × PyData)} (f : Same F F') (t : Tu H H') (h : ObjD F H C v fs) : ObjD F' H' C v fs := by
  obtain ⟨b, dx, vs, e, h1, h2⟩ := h
  exact ⟨b, dx, vs, e, f _ _ h1, h2.mono f t⟩
/-! ### what may change: own, under an invariant -/
structure Rl where
  own : Addr → Prop
  inv : Hp → Prop
  stay : ∀ H H', inv H → (∀ b, own b → H' b = H b) → inv H'
  held : ∀ H b, inv H → own b → H b ≠ none
  notup : ∀ H b xs, inv H → own b → H b ≠ some (.tup xs)
def rS : Rl := ⟨fun _ => False, fun _ => True, fun _ _ _ _ => trivial, fun _ _ _ h => h.elim, fun _ _ _ _ h => h.elim⟩
/-- all but what is own stays -/
def Mv (ρ : Rl) (H H' : Hp) : Prop := ∀ b o, ¬ ρ.own b → H b = some o → H' b = some o
section
variable {ρ : Rl} {H H' H1 H2 : Hp}
theorem Mv.refl (ρ : Rl) (H : Hp) : Mv ρ H H := fun _ _ _ h => h
theorem Mv.trans (a : Mv ρ H H1) (b : Mv ρ H1 H2) : Mv ρ H H2 := fun x o n h => b x o n (a x o n h)
theorem Mv.of (s : Same H H') : Mv ρ H H' := fun b o _ h => s b o h
theorem Mv.tu (m : Mv ρ H H') (i : ρ.inv H) : Tu H H' := fun a xs h => m a _ (fun z => ρ.notup H a xs i z h) h
theorem Mv.same (m : Mv rS H H') : Same H H' := fun b o h => m b o (fun z => z) h
end

/-! ### slots -/
inductive Ty where
  | no
  | dat (d : PyData)
  | val (v : V)
  | lst (ds : List PyData)
  | dct (kvs : List (PyData × PyData))
  | obj (C : Addr) (fs : List (Str × PyData))
def Ty.mut : Ty → Bool
  | .lst _ => true
  | .dct _ => true
  | _ => false
def Has (F H : Hp) (v : V) : Ty → Prop
  | .no => True
  | .dat d => TD F H v d
  | .val u => v = u
  | .lst ds => ∃ l vs, v = .ref l ∧ H l = some (.lst vs) ∧ TDs F H vs ds
  | .dct kvs => ∃ l ks, v = .ref l ∧ H l = some (.dK ks) ∧ TKs F H ks kvs
  | .obj C fs => ObjD F H C v fs
structure SS (ρ : Rl) (H0 F : Hp) (σ : L2.St) (H : Hp) (Γ : List Ty) : Prop where
  inv : ρ.inv H
  rel : Mv ρ H0 H
  len : σ.length = Γ.length
  has : ∀ (i : Nat) (t : Ty), Γ[i]? = some t → t ≠ .no → ∃ v, σ[i]? = some (some v) ∧ Has F H v t
  fresh : ∀ (i : Nat) (t : Ty) (a : Addr), Γ[i]? = some t → t.mut = true → σ[i]? = some (some (.ref a)) → H0 a = none ∧ ¬ ρ.own a ∧ F a = none
  apart : ∀ (i j : Nat) (t u : Ty) (a : Addr), Γ[i]? = some t → Γ[j]? = some u → t.mut = true → u.mut = true → σ[i]? = some (some (.ref a)) → σ[j]? = some (some (.ref a)) → i = j
  fr : ∀ a o, F a = some o → H a = some o ∧ ¬ ρ.own a
section
variable {ρ : Rl} {H0 F F' : Hp} {σ : L2.St} {H H' : Hp} {Γ : List Ty}
/-- the heap goes on, all that is tracked stays (but what is own) -/
theorem SS.on (I : SS ρ H0 F σ H Γ) (i : ρ.inv H') (m : Mv ρ H H') : SS ρ H0 F σ H' Γ where
  inv := i
  rel := I.rel.trans m
  len := I.len
  has := fun i t h n => by
    obtain ⟨v, e, q⟩ := I.has i t h n
    refine ⟨v, e, ?_⟩
    have tu := m.tu I.inv
    cases t with
    | no => trivial
    | dat d => exact TD.tu tu q
    | val u => exact q
    | obj C fs => exact ObjD.mono (Same.refl F) tu q
    | lst ds =>
      obtain ⟨l, vs, rfl, hl, hd⟩ := q
      exact ⟨l, vs, rfl, m l _ (I.fresh i _ l h rfl e).2.1 hl, hd.tu tu⟩
    | dct ds =>
      obtain ⟨l, vs, rfl, hl, hd⟩ := q
      exact ⟨l, vs, rfl, m l _ (I.fresh i _ l h rfl e).2.1 hl, hd.tu tu⟩
  fresh := I.fresh
  apart := I.apart
  fr := fun a o h => ⟨m a o (I.fr a o h).2 (I.fr a o h).1, (I.fr a o h).2⟩
theorem SS.newown (I : SS ρ H0 F σ H Γ) {p : Addr} (n : H p = none) : ¬ ρ.own p := fun z => ρ.held H p I.inv z n
theorem same_new {p : Addr} {o : HO} (n : H p = none) : Same H (upd H p o) := fun b x e => by
  rw [upd_ne (ne_of_none e n)]
  exact e
theorem SS.new (I : SS ρ H0 F σ H Γ) {p : Addr} {o : HO} (n : H p = none) : SS ρ H0 F σ (upd H p o) Γ :=
  I.on (ρ.stay H _ I.inv fun b hb => upd_ne fun e => I.newown n (e ▸ hb)) (Mv.of (same_new n))
theorem SS.same (I : SS ρ H0 F σ H Γ) (s : Same H H') : SS ρ H0 F σ H' Γ :=
  I.on (ρ.stay H _ I.inv fun b hb => by
    cases e : H b with
    | none => exact (ρ.held H b I.inv hb e).elim
    | some o => exact s b o e) (Mv.of s)
theorem SS.base0 (I : SS ρ H0 F σ H Γ) {p : Addr} (n : H p = none) : H0 p = none := by
  cases e : H0 p with
  | none => rfl
  | some o =>
    have := I.rel p o (I.newown n) e
    rw [n] at this
    cases this
theorem SS.frz0 (I : SS ρ H0 F σ H Γ) {p : Addr} (n : H p = none) : F p = none := by
  cases e : F p with
  | none => rfl
  | some o =>
    have := (I.fr p o e).1
    rw [n] at this
    cases this
theorem SS.notslot (I : SS ρ H0 F σ H Γ) {p : Addr} (n : H p = none) {i : Nat} {t : Ty} (h : Γ[i]? = some t) (m : t.mut = true) : σ[i]? ≠ some (some (.ref p)) := fun e => by
  obtain ⟨v, e', q⟩ := I.has i t h (by intro z; subst z; cases m)
  rw [e] at e'
  cases e'
  cases t with
  | lst ds =>
    obtain ⟨l, vs, e, hl, _⟩ := q
    cases e
    rw [n] at hl
    cases hl
  | dct ds =>
    obtain ⟨l, vs, e, hl, _⟩ := q
    cases e
    rw [n] at hl
    cases hl
  | obj C fs => cases m
  | no => cases m
  | dat d => cases m
  | val v => cases m
theorem get_set {α : Type} {l : List α} {i j : Nat} {x y : α} (h : (l.set i x)[j]? = some y) : (i = j ∧ x = y ∧ i < l.length) ∨ (i ≠ j ∧ l[j]? = some y) := by
  by_cases e : i = j
  · subst e
    rw [List.getElem?_set] at h
    split at h
    · split at h
      · exact .inl ⟨rfl, Option.some.inj h, by assumption⟩
      · cases h
    · exact absurd rfl (by assumption)
  · rw [List.getElem?_set_ne e] at h
    exact .inr ⟨e, h⟩
/-- a slot that is not mutable is stored -/
theorem SS.setT (I : SS ρ H0 F σ H Γ) {v : V} {t : Ty} (i : Nat) (hv : Has F H v t) (nm : t.mut = false) : SS ρ H0 F (σ.set i (some v)) H (Γ.set i t) where
  inv := I.inv
  rel := I.rel
  len := by rw [List.length_set, List.length_set]; exact I.len
  has := fun j u h n => by
    rcases get_set h with ⟨rfl, rfl, hl⟩ | ⟨ne, h⟩
    · exact ⟨v, by rw [List.getElem?_set_self (by rw [I.len]; exact hl)], hv⟩
    · obtain ⟨x, e, q⟩ := I.has j u h n
      exact ⟨x, by rw [List.getElem?_set_ne ne]; exact e, q⟩
  fresh := fun j u a h m e => by
    rcases get_set h with ⟨rfl, rfl, _⟩ | ⟨ne, h⟩
    · rw [nm] at m; cases m
    · rw [List.getElem?_set_ne ne] at e
      exact I.fresh j u a h m e
  apart := fun j k u w a h1 h2 m1 m2 e1 e2 => by
    rcases get_set h1 with ⟨rfl, rfl, _⟩ | ⟨ne, h1⟩
    · rw [nm] at m1; cases m1
    · rcases get_set h2 with ⟨rfl, rfl, _⟩ | ⟨ne2, h2⟩
      · rw [nm] at m2; cases m2
      · rw [List.getElem?_set_ne ne] at e1
        rw [List.getElem?_set_ne ne2] at e2
        exact I.apart j k u w a h1 h2 m1 m2 e1 e2
  fr := I.fr
theorem SS.setD (I : SS ρ H0 F σ H Γ) {v : V} {d : PyData} (i : Nat) (hv : TD F H v d) : SS ρ H0 F (σ.set i (some v)) H (Γ.set i (.dat d)) := I.setT (t := .dat d) i hv rfl
/-- a slot is forgotten -/
theorem SS.drop (I : SS ρ H0 F σ H Γ) (i : Nat) : SS ρ H0 F σ H (Γ.set i .no) where
  inv := I.inv
  rel := I.rel
  len := by rw [List.length_set]; exact I.len
  has := fun j u h n => by
    rcases get_set h with ⟨rfl, rfl, hl⟩ | ⟨ne, h⟩
    · exact absurd rfl n
    · exact I.has j u h n
  fresh := fun j u a h m e => by
    rcases get_set h with ⟨rfl, rfl, _⟩ | ⟨ne, h⟩
    · cases m
    · exact I.fresh j u a h m e
  apart := fun j k u w a h1 h2 m1 m2 e1 e2 => by
    rcases get_set h1 with ⟨rfl, rfl, _⟩ | ⟨ne, h1⟩
    · cases m1
    · rcases get_set h2 with ⟨rfl, rfl, _⟩ | ⟨ne2, h2⟩
      · cases m2
      · exact I.apart j k u w a h1 h2 m1 m2 e1 e2
  fr := I.fr
/-- a new list or dict comes into a slot: p was not there at H1 -/
theorem SS.setN {H1 : Hp} (I1 : SS ρ H0 F σ H1 Γ) (I : SS ρ H0 F σ H Γ) {p : Addr} {t : Ty} (i : Nat) (n : H1 p = none) (hv : Has F H (.ref p) t) : SS ρ H0 F (σ.set i (some (.ref p))) H (Γ.set i t) where
  inv := I.inv
  rel := I.rel
  len := by rw [List.length_set, List.length_set]; exact I.len
  has := fun j u h nn => by
    rcases get_set h with ⟨rfl, rfl, hl⟩ | ⟨ne, h⟩
    · exact ⟨_, by rw [List.getElem?_set_self (by rw [I.len]; exact hl)], hv⟩
    · obtain ⟨x, e, q⟩ := I.has j u h nn
      exact ⟨x, by rw [List.getElem?_set_ne ne]; exact e, q⟩
  fresh := fun j u a h m e => by
    rcases get_set h with ⟨rfl, rfl, hl⟩ | ⟨ne, h⟩
    · rw [List.getElem?_set_self (by rw [I.len]; exact hl)] at e
      cases e
      exact ⟨I1.base0 n, I1.newown n, I1.frz0 n⟩
    · rw [List.getElem?_set_ne ne] at e
      exact I.fresh j u a h m e
  apart := fun j k u w a h1 h2 m1 m2 e1 e2 => by
    rcases get_set h1 with ⟨rfl, rfl, hl⟩ | ⟨ne, h1⟩
    · rcases get_set h2 with ⟨rfl, rfl, _⟩ | ⟨ne2, h2⟩
      · rfl
      · rw [List.getElem?_set_self (by rw [I.len]; exact hl)] at e1
        cases e1
        rw [List.getElem?_set_ne ne2] at e2
        exact absurd e2 (I1.notslot n h2 m2)
    · rcases get_set h2 with ⟨rfl, rfl, hl⟩ | ⟨ne2, h2⟩
      · rw [List.getElem?_set_self (by rw [I.len]; exact hl)] at e2
        cases e2
        rw [List.getElem?_set_ne ne] at e1
        exact absurd e1 (I1.notslot n h1 m1)
      · rw [List.getElem?_set_ne ne] at e1
        rw [List.getElem?_set_ne ne2] at e2
        exact I.apart j k u w a h1 h2 m1 m2 e1 e2
  fr := I.fr
/-- the mutable thing in a slot is written -/
theorem SS.write (I : SS ρ H0 F σ H Γ) {i : Nat} {t t' : Ty} {p : Addr} {o : HO} (h : Γ[i]? = some t) (m : t.mut = true) (m' : t'.mut = true) (e : σ[i]? = some (some (.ref p))) (ht : ∀ xs, H p ≠ some (.tup xs)) (hv : Has F (upd H p o) (.ref p) t') : SS ρ H0 F σ (upd H p o) (Γ.set i t') := by
  obtain ⟨f1, f2, f3⟩ := I.fresh i t p h m e
  have tu : Tu H (upd H p o) := fun a xs q => by
    have na : a ≠ p := fun z => by
      subst z
      exact ht xs q
    rw [upd_ne na]
    exact q
  refine ⟨ρ.stay H _ I.inv fun b hb => upd_ne fun z => f2 (z ▸ hb), fun b x n q => ?_, by rw [List.length_set]; exact I.len, fun j u hj n => ?_, fun j u a hj mj ej => ?_, fun j k u w a h1 h2 m1 m2 e1 e2 => ?_, fun a x q => ?_⟩
  · rw [upd_ne (fun z => by subst z; rw [f1] at q; cases q)]
    exact I.rel b x n q
  · rcases get_set hj with ⟨rfl, rfl, hl⟩ | ⟨ne, hj⟩
    · exact ⟨_, e, hv⟩
    · obtain ⟨x, ex, q⟩ := I.has j u hj n
      refine ⟨x, ex, ?_⟩
      cases u with
      | no => trivial
      | dat d => exact TD.tu tu q
      | val u => exact q
      | obj C fs => exact ObjD.mono (Same.refl F) tu q
      | lst ds =>
        obtain ⟨l, vs, rfl, hl, hd⟩ := q
        have nl : l ≠ p := fun z => by
          subst z
          exact ne (I.apart i j _ _ l h hj m rfl e ex)
        exact ⟨l, vs, rfl, by rw [upd_ne nl]; exact hl, hd.tu tu⟩
      | dct ds =>
        obtain ⟨l, vs, rfl, hl, hd⟩ := q
        have nl : l ≠ p := fun z => by
          subst z
          exact ne (I.apart i j _ _ l h hj m rfl e ex)
        exact ⟨l, vs, rfl, by rw [upd_ne nl]; exact hl, hd.tu tu⟩
  · rcases get_set hj with ⟨rfl, rfl, hl⟩ | ⟨ne, hj⟩
    · exact I.fresh i t a h m ej
    · exact I.fresh j u a hj mj ej
  · rcases get_set h1 with ⟨rfl, rfl, _⟩ | ⟨ne, h1⟩
    · rcases get_set h2 with ⟨rfl, rfl, _⟩ | ⟨ne2, h2⟩
      · rfl
      · exact I.apart i k t w a h h2 m m2 e1 e2
    · rcases get_set h2 with ⟨rfl, rfl, _⟩ | ⟨ne2, h2⟩
      · exact I.apart j i u t a h1 h m1 m e1 e2
      · exact I.apart j k u w a h1 h2 m1 m2 e1 e2
  · obtain ⟨q1, q2⟩ := I.fr a x q
    refine ⟨?_, q2⟩
    rw [upd_ne (fun z => by subst z; rw [f3] at q; cases q)]
    exact q1
/-- a thing that is in no slot is frozen -/
theorem SS.frz (I : SS ρ H0 F σ H Γ) {p : Addr} {o : HO} (hp : H p = some o) (no : ¬ ρ.own p) (ns : ∀ (i : Nat) (t : Ty), Γ[i]? = some t → t.mut = true → σ[i]? ≠ some (some (.ref p))) (hf : F p = none) : SS ρ H0 (upd F p o) σ H Γ where
  inv := I.inv
  rel := I.rel
  len := I.len
  has := fun i t h n => by
    obtain ⟨v, e, q⟩ := I.has i t h n
    refine ⟨v, e, ?_⟩
    have f : Same F (upd F p o) := same_new hf
    cases t with
    | no => trivial
    | dat d => exact TD.mono f (Tu.refl H) q
    | val u => exact q
    | obj C fs => exact ObjD.mono f (Tu.refl H) q
    | lst ds =>
      obtain ⟨l, vs, rfl, hl, hd⟩ := q
      exact ⟨l, vs, rfl, hl, hd.mono f (Tu.refl H)⟩
    | dct ds =>
      obtain ⟨l, vs, rfl, hl, hd⟩ := q
      exact ⟨l, vs, rfl, hl, hd.mono f (Tu.refl H)⟩
  fresh := fun i t a h m e => by
    obtain ⟨q1, q2, q3⟩ := I.fresh i t a h m e
    refine ⟨q1, q2, ?_⟩
    rw [upd_ne (fun z => by subst z; exact ns i t h m e)]
    exact q3
  apart := I.apart
  fr := fun a x q => by
    by_cases z : a = p
    · subst z
      rw [upd_same] at q
      cases q
      exact ⟨hp, no⟩
    · rw [upd_ne z] at q
      exact I.fr a x q
/-- a new one: it was not there at H1 -/
theorem SS.frzN {H1 : Hp} (I1 : SS ρ H0 F σ H1 Γ) (I : SS ρ H0 F σ H Γ) {p : Addr} {o : HO} (n : H1 p = none) (hp : H p = some o) : SS ρ H0 (upd F p o) σ H Γ :=
  I.frz hp (I1.newown n) (fun i t h m => I1.notslot n h m) (I1.frz0 n)
/-- fewer frozen things -/
theorem SS.thaw (I : SS ρ H0 F' σ H Γ) (Γ' : List Ty) (f : Same F F') (hg : Γ'.length = Γ.length) (hh : ∀ (i : Nat) (t : Ty), Γ'[i]? = some t → t ≠ .no → Γ[i]? = some t ∧ ∀ v, Has F' H v t → Has F H v t) : SS ρ H0 F σ H Γ' where
  inv := I.inv
  rel := I.rel
  len := by rw [hg]; exact I.len
  has := fun i t h n => by
    obtain ⟨h1, h2⟩ := hh i t h n
    obtain ⟨v, e, q⟩ := I.has i t h1 n
    exact ⟨v, e, h2 v q⟩
  fresh := fun i t a h m e => by
    have n : t ≠ .no := fun z => by subst z; cases m
    obtain ⟨q1, q2, q3⟩ := I.fresh i t a (hh i t h n).1 m e
    exact ⟨q1, q2, f.free q3⟩
  apart := fun i j t u a h1 h2 m1 m2 e1 e2 => I.apart i j t u a (hh i t h1 fun z => by subst z; cases m1).1 (hh j u h2 fun z => by subst z; cases m2).1 m1 m2 e1 e2
  fr := fun a o h => I.fr a o (f a o h)
end
end NN
set_option Elab.async false
set_option linter.all false
set_option maxRecDepth 100000
set_option maxHeartbeats 4000000
/-! What a reading gives, by slots. -/
namespace NN
open PySem PySem.Spec PyProof.Rows L2

/-! ### an expression gives data; a new list; a list; a test; arguments -/
def EvS (ρ : Rl) (F : Hp) (t : TE) (Γ : List Ty) (P : PyData → Prop) : Prop :=
  ∀ (H0 : Hp) (σ : L2.St) (H : Hp), SS ρ H0 F σ H Γ → ∀ Q : VK, (∀ v d H', P d → SS ρ H0 F σ H' Γ → Mv ρ H H' → TD F H' v d → Q v H') → t σ H Q
abbrev EvD (ρ : Rl) (F : Hp) (t : TE) (Γ : List Ty) (d : PyData) : Prop := EvS ρ F t Γ (fun x => x = d)
/-- new -/
def EvL (ρ : Rl) (F : Hp) (t : TE) (Γ : List Ty) (P : List PyData → Prop) : Prop :=
  ∀ (H0 : Hp) (σ : L2.St) (H : Hp), SS ρ H0 F σ H Γ → ∀ Q : VK, (∀ l vs ds H', P ds → SS ρ H0 F σ H' Γ → Mv ρ H H' → H l = none → H' l = some (.lst vs) → TDs F H' vs ds → Q (.ref l) H') → t σ H Q
/-- to be read -/
def EvR (ρ : Rl) (F : Hp) (t : TE) (Γ : List Ty) (P : List PyData → Prop) : Prop :=
  ∀ (H0 : Hp) (σ : L2.St) (H : Hp), SS ρ H0 F σ H Γ → ∀ Q : VK, (∀ l vs ds H', P ds → SS ρ H0 F σ H' Γ → Mv ρ H H' → ¬ ρ.own l → H' l = some (.lst vs) → TDs F H' vs ds → Q (.ref l) H') → t σ H Q
def EvB (ρ : Rl) (F : Hp) (t : TT) (Γ : List Ty) (P : Bool → Prop) : Prop :=
  ∀ (H0 : Hp) (σ : L2.St) (H : Hp), SS ρ H0 F σ H Γ → ∀ Q : Bool → Hp → Prop, (∀ b H', P b → SS ρ H0 F σ H' Γ → Mv ρ H H' → Q b H') → t σ H Q
def EvA (ρ : Rl) (F : Hp) (t : TA) (Γ : List Ty) (P : List PyData → Prop) : Prop :=
  ∀ (H0 : Hp) (σ : L2.St) (H : Hp), SS ρ H0 F σ H Γ → ∀ Q : List V → Hp → Prop, (∀ vs ds H', P ds → SS ρ H0 F σ H' Γ → Mv ρ H H' → TDs F H' vs ds → Q vs H') → t σ H Q
def EvO (ρ : Rl) (F : Hp) (t : TO) (Γ : List Ty) (P : Option Int → Prop) : Prop :=
  ∀ (H0 : Hp) (σ : L2.St) (H : Hp), SS ρ H0 F σ H Γ → ∀ Q : Option Int → Hp → Prop, (∀ b H', P b → SS ρ H0 F σ H' Γ → Mv ρ H H' → Q b H') → t σ H Q
/-- an operation on data -/
def OpD (F : Hp) (r : R2) (a b : PyData) (P : PyData → Prop) : Prop :=
  ∀ (H : Hp) (x y : V), Same F H → TD F H x a → TD F H y b → ∀ Q : VK, (∀ v d H', P d → Same H H' → TD F H' v d → Q v H') → r x y H Q
def UnD (F : Hp) (r : V → Hp → VK → Prop) (a : PyData) (P : PyData → Prop) : Prop :=
  ∀ (H : Hp) (x : V), Same F H → TD F H x a → ∀ Q : VK, (∀ v d H', P d → Same H H' → TD F H' v d → Q v H') → r x H Q
def CbD (F : Hp) (r : List V → Hp → VK → Prop) (a : List PyData) (P : PyData → Prop) : Prop :=
  ∀ (H : Hp) (x : List V), Same F H → TDs F H x a → ∀ Q : VK, (∀ v d H', P d → Same H H' → TD F H' v d → Q v H') → r x H Q
def CbL (F : Hp) (r : List V → Hp → VK → Prop) (a : List PyData) (P : List PyData → Prop) : Prop :=
  ∀ (H : Hp) (x : List V), Same F H → TDs F H x a → ∀ Q : VK, (∀ l vs ds H', P ds → H l = none → Same H H' → H' l = some (.lst vs) → TDs F H' vs ds → Q (.ref l) H') → r x H Q
section
variable {ρ : Rl} {F H0 H H' : Hp} {σ : L2.St} {Γ : List Ty}
theorem SS.sf (I : SS ρ H0 F σ H Γ) : Same F H := fun a o h => (I.fr a o h).1
theorem SS.dat (I : SS ρ H0 F σ H Γ) {i : Nat} {d : PyData} (h : Γ[i]? = some (.dat d)) : ∃ v, σ[i]? = some (some v) ∧ TD F H v d := I.has i _ h (fun z => by cases z)
theorem SS.val (I : SS ρ H0 F σ H Γ) {i : Nat} {d : V} (h : Γ[i]? = some (.val d)) : σ[i]? = some (some d) := by
  obtain ⟨v, e, q⟩ := I.has i _ h (fun z => by cases z)
  have q' : v = d := q
  rw [e, q']
theorem SS.lst (I : SS ρ H0 F σ H Γ) {i : Nat} {ds : List PyData} (h : Γ[i]? = some (.lst ds)) : ∃ l vs, σ[i]? = some (some (.ref l)) ∧ H l = some (.lst vs) ∧ TDs F H vs ds := by
  obtain ⟨v, e, l, vs, rfl, h1, h2⟩ := I.has i _ h (fun z => by cases z)
  exact ⟨l, vs, e, h1, h2⟩
theorem SS.dct (I : SS ρ H0 F σ H Γ) {i : Nat} {ds : List (PyData × PyData)} (h : Γ[i]? = some (.dct ds)) : ∃ l vs, σ[i]? = some (some (.ref l)) ∧ H l = some (.dK vs) ∧ TKs F H vs ds := by
  obtain ⟨v, e, l, vs, rfl, h1, h2⟩ := I.has i _ h (fun z => by cases z)
  exact ⟨l, vs, e, h1, h2⟩

variable {t ta tb tc te : TE} {tt tu : TT} {tr : TA} {P P' Pa Pb : PyData → Prop} {a b d : PyData} {r r' : R2}
theorem EvS.imp (h : EvS ρ F t Γ P) (f : ∀ d, P d → P' d) : EvS ρ F t Γ P' := fun H0 σ H I Q q => h H0 σ H I Q fun v d H' p => q v d H' (f d p)
theorem EvS.is (h : EvD ρ F t Γ a) (e : a = b) : EvD ρ F t Γ b := e ▸ h
theorem EvB.imp {p p' : Bool → Prop} (h : EvB ρ F tt Γ p) (f : ∀ d, p d → p' d) : EvB ρ F tt Γ p' := fun H0 σ H I Q q => h H0 σ H I Q fun d H' z => q d H' (f d z)
theorem EvB.is {a b : Bool} (h : EvB ρ F tt Γ (· = a)) (e : a = b) : EvB ρ F tt Γ (· = b) := e ▸ h
theorem EvL.imp {p p' : List PyData → Prop} (h : EvL ρ F t Γ p) (f : ∀ d, p d → p' d) : EvL ρ F t Γ p' := fun H0 σ H I Q q => h H0 σ H I Q fun l vs d H' z => q l vs d H' (f d z)
theorem EvL.is {a b : List PyData} (h : EvL ρ F t Γ (· = a)) (e : a = b) : EvL ρ F t Γ (· = b) := e ▸ h
theorem EvL.rd {p : List PyData → Prop} (h : EvL ρ F t Γ p) : EvR ρ F t Γ p := fun H0 σ H I Q q => h H0 σ H I Q fun l vs ds H' z I' m n => q l vs ds H' z I' m (I.newown n)
theorem EvR.imp {p p' : List PyData → Prop} (h : EvR ρ F t Γ p) (f : ∀ d, p d → p' d) : EvR ρ F t Γ p' := fun H0 σ H I Q q => h H0 σ H I Q fun l vs d H' z => q l vs d H' (f d z)
theorem er_var {i : Nat} {ds : List PyData} (h : Γ[i]? = some (.lst ds)) : EvR ρ F (tVar i) Γ (· = ds) := fun H0 σ H I Q q => by
  obtain ⟨l, vs, e, h1, h2⟩ := I.lst h
  exact ⟨_, e, q l vs ds H rfl I (Mv.refl ρ H) (I.fresh i _ l h rfl e).2.1 h1 h2⟩
theorem er_frz {ds : List PyData} (h : EvD ρ F t Γ (.list ds)) : EvR ρ F t Γ (· = ds) := fun H0 σ H I Q q => h H0 σ H I Q fun v d H' p I' m td => by
  subst p
  obtain ⟨l, vs, rfl, h1, h2⟩ := td.of_lst
  exact q l vs ds H' rfl I' m (I'.fr l _ h1).2 (I'.fr l _ h1).1 h2
theorem ed_var {i : Nat} (h : Γ[i]? = some (.dat d)) : EvD ρ F (tVar i) Γ d := fun H0 σ H I Q q => by
  obtain ⟨v, e, h1⟩ := I.dat h
  exact ⟨v, e, q v d H rfl I (Mv.refl ρ H) h1⟩
theorem ed_int {i : Int} : EvD ρ F (tC (.int i)) Γ (.int i) := fun H0 σ H I Q q => q _ _ H rfl I (Mv.refl ρ H) (.int i)
theorem ed_str {i : Str} : EvD ρ F (tC (.str i)) Γ (.str i) := fun H0 σ H I Q q => q _ _ H rfl I (Mv.refl ρ H) (.str i)
theorem ed_bl {i : Bool} : EvD ρ F (tC (.bl i)) Γ (.bool i) := fun H0 σ H I Q q => q _ _ H rfl I (Mv.refl ρ H) (.bl i)
theorem ed_non : EvD ρ F (tC .non) Γ .none := fun H0 σ H I Q q => q _ _ H rfl I (Mv.refl ρ H) .non
theorem es_op (ha : EvS ρ F ta Γ Pa) (hb : EvS ρ F tb Γ Pb) (ho : ∀ a b, Pa a → Pb b → OpD F r a b P) : EvS ρ F (tOp r ta tb) Γ P := fun H0 σ H I Q q =>
  ha H0 σ H I _ fun x a H1 pa I1 m1 t1 => hb H0 σ H1 I1 _ fun y b H2 pb I2 m2 t2 =>
    ho a b pa pb H2 x y I2.sf (t1.tu (m2.tu I1.inv)) t2 Q fun v d H3 pd s t3 => q v d H3 pd (I2.same s) ((m1.trans m2).trans (Mv.of s)) t3
theorem ed_op (ha : EvD ρ F ta Γ a) (hb : EvD ρ F tb Γ b) (ho : OpD F r a b P) : EvS ρ F (tOp r ta tb) Γ P := es_op ha hb fun _ _ e1 e2 => by subst e1; subst e2; exact ho
theorem es_un {r : V → Hp → VK → Prop} (ha : EvS ρ F ta Γ Pa) (ho : ∀ a, Pa a → UnD F r a P) : EvS ρ F (tUn r ta) Γ P := fun H0 σ H I Q q =>
  ha H0 σ H I _ fun x a H1 pa I1 m1 t1 => ho a pa H1 x I1.sf t1 Q fun v d H3 pd s t3 => q v d H3 pd (I1.same s) (m1.trans (Mv.of s)) t3
theorem ed_un {r : V → Hp → VK → Prop} (ha : EvD ρ F ta Γ a) (ho : UnD F r a P) : EvS ρ F (tUn r ta) Γ P := es_un ha fun _ e => by subst e; exact ho
theorem ea_nil : EvA ρ F tNil Γ (· = []) := fun H0 σ H I Q q => q [] [] H rfl I (Mv.refl ρ H) .nil
theorem eas_cons {PA PB : List PyData → Prop} (ha : EvS ρ F ta Γ Pa) (hr : EvA ρ F tr Γ PB) (f : ∀ a l, Pa a → PB l → PA (a :: l)) : EvA ρ F (tCons ta tr) Γ PA := fun H0 σ H I Q q =>
  ha H0 σ H I _ fun x a H1 pa I1 m1 t1 => hr H0 σ H1 I1 _ fun xs l H2 pb I2 m2 t2 => q (x :: xs) (a :: l) H2 (f a l pa pb) I2 (m1.trans m2) (.cons (t1.tu (m2.tu I1.inv)) t2)
theorem ea_cons {l : List PyData} (ha : EvD ρ F ta Γ a) (hr : EvA ρ F tr Γ (· = l)) : EvA ρ F (tCons ta tr) Γ (· = a :: l) := eas_cons ha hr fun _ _ e1 e2 => by rw [e1, e2]
theorem es_tup {PA : List PyData → Prop} (h : EvA ρ F tr Γ PA) (f : ∀ l, PA l → l.length ≤ sizeLine ∧ P (.tuple l)) : EvS ρ F (tTup tr) Γ P := fun H0 σ H I Q q =>
  h H0 σ H I _ fun xs l H1 pl I1 m1 t1 => ⟨by rw [t1.len]; exact (f l pl).1, fun p hp => q (.ref p) (.tuple l) _ (f l pl).2 (I1.new hp) (m1.trans (Mv.of (same_new hp))) (.tup upd_same (t1.tu (Tu.of (same_new hp))))⟩
theorem ed_tup {l : List PyData} (h : EvA ρ F tr Γ (· = l)) (hl : l.length ≤ sizeLine := by (show _ ≤ 16777216); decide) : EvD ρ F (tTup tr) Γ (.tuple l) := es_tup h fun _ e => by subst e; exact ⟨hl, rfl⟩
theorem el_lst {PA : List PyData → Prop} (h : EvA ρ F tr Γ PA) (f : ∀ l, PA l → l.length ≤ sizeLine) : EvL ρ F (tLst tr) Γ PA := fun H0 σ H I Q q =>
  h H0 σ H I _ fun xs l H1 pl I1 m1 t1 => ⟨by rw [t1.len]; exact f l pl, fun p hp => q p xs l _ pl (I1.new hp) (m1.trans (Mv.of (same_new hp))) (by
    cases e : H p with
    | none => rfl
    | some o =>
      have := m1 p o (I1.newown hp) e
      rw [hp] at this
      cases this) upd_same (t1.tu (Tu.of (same_new hp)))⟩
theorem el_lstD {l : List PyData} (h : EvA ρ F tr Γ (· = l)) (hl : l.length ≤ sizeLine := by (show _ ≤ 16777216); decide) : EvL ρ F (tLst tr) Γ (· = l) := el_lst h fun _ e => by subst e; exact hl
theorem Mv.free {p : Addr} (m : Mv ρ H H') (n : ¬ ρ.own p) (hp : H' p = none) : H p = none := by
  cases e : H p with
  | none => rfl
  | some o =>
    have := m p o n e
    rw [hp] at this
    cases this
theorem es_cb {rr : List V → Hp → VK → Prop} {PA : List PyData → Prop} (h : EvA ρ F tr Γ PA) (f : ∀ l, PA l → CbD F rr l P) : EvS ρ F (tCB rr tr) Γ P := fun H0 σ H I Q q =>
  h H0 σ H I _ fun xs l H1 pl I1 m1 t1 => f l pl H1 xs I1.sf t1 Q fun v d H3 pd s t3 => q v d H3 pd (I1.same s) (m1.trans (Mv.of s)) t3
theorem ed_cb {rr : List V → Hp → VK → Prop} {l : List PyData} (h : EvA ρ F tr Γ (· = l)) (f : CbD F rr l P) : EvS ρ F (tCB rr tr) Γ P := es_cb h fun _ e => by subst e; exact f
theorem el_cb {rr : List V → Hp → VK → Prop} {PA PL : List PyData → Prop} (h : EvA ρ F tr Γ PA) (f : ∀ l, PA l → CbL F rr l PL) : EvL ρ F (tCB rr tr) Γ PL := fun H0 σ H I Q q =>
  h H0 σ H I _ fun xs l H1 pl I1 m1 t1 => f l pl H1 xs I1.sf t1 Q fun p vs d H3 pd n s e t3 => q p vs d H3 pd (I1.same s) (m1.trans (Mv.of s)) (m1.free (I1.newown n) n) e t3
/-- a built-in of one list -/
theorem es_cbR {rr : List V → Hp → VK → Prop} {PA : List PyData → Prop} (h : EvR ρ F ta Γ PA)
    (f : ∀ l vs ds (H : Hp), PA ds → H l = some (.lst vs) → TDs F H vs ds → Same F H → ∀ Q : VK, (∀ v d H', P d → Same H H' → TD F H' v d → Q v H') → rr [.ref l] H Q) : EvS ρ F (tCB rr (tCons ta tNil)) Γ P := fun H0 σ H I Q q =>
  h H0 σ H I _ fun l vs ds H1 pl I1 m1 n e t1 => f l vs ds H1 pl e t1 I1.sf Q fun v d H3 pd s t3 => q v d H3 pd (I1.same s) (m1.trans (Mv.of s)) t3
theorem el_cbR {rr : List V → Hp → VK → Prop} {PA PL : List PyData → Prop} (h : EvR ρ F ta Γ PA)
    (f : ∀ l vs ds (H : Hp), PA ds → H l = some (.lst vs) → TDs F H vs ds → Same F H → ∀ Q : VK, (∀ p vs d H', PL d → H p = none → Same H H' → H' p = some (.lst vs) → TDs F H' vs d → Q (.ref p) H') → rr [.ref l] H Q) : EvL ρ F (tCB rr (tCons ta tNil)) Γ PL := fun H0 σ H I Q q =>
  h H0 σ H I _ fun l vs ds H1 pl I1 m1 n e t1 => f l vs ds H1 pl e t1 I1.sf Q fun p vs d H3 pd n s e t3 => q p vs d H3 pd (I1.same s) (m1.trans (Mv.of s)) (m1.free (I1.newown n) n) e t3
/-! ### tests -/
theorem eb_test {p : Bool → Prop} (h : EvS ρ F t Γ (fun d => ∃ k, d = .bool k ∧ p k)) : EvB ρ F (tTest t) Γ p := fun H0 σ H I Q q =>
  h H0 σ H I _ fun v d H1 pd I1 m1 t1 => by
    obtain ⟨k, rfl, pk⟩ := pd
    cases t1
    exact ⟨k, rfl, q k H1 pk I1 m1⟩
theorem eb_val {p : Bool → Prop} (h : EvS ρ F t Γ (fun d => ∃ k, d = .bool k ∧ p k)) : EvB ρ F (tB t) Γ p := fun H0 σ H I Q q =>
  h H0 σ H I _ fun v d H1 pd I1 m1 t1 => by
    obtain ⟨k, rfl, pk⟩ := pd
    cases t1
    exact ⟨k, rfl, q k H1 pk I1 m1⟩
theorem ebd_test {k : Bool} (h : EvD ρ F t Γ (.bool k)) : EvB ρ F (tTest t) Γ (· = k) := eb_test (h.imp fun d e => ⟨k, e, rfl⟩)
theorem ebd_val {k : Bool} (h : EvD ρ F t Γ (.bool k)) : EvB ρ F (tB t) Γ (· = k) := eb_val (h.imp fun d e => ⟨k, e, rfl⟩)
theorem eb_and {p p' : Bool → Prop} (h : EvB ρ F tt Γ p) (h1 : p true → EvB ρ F tu Γ p') (h0 : p false → p' false) : EvB ρ F (tAnd tt tu) Γ p' := fun H0 σ H I Q q =>
  h H0 σ H I _ fun b H1 pb I1 m1 => by
    cases b with
    | true =>
      show tu σ H1 Q
      exact h1 pb H0 σ H1 I1 Q fun b H2 p2 I2 m2 => q b H2 p2 I2 (m1.trans m2)
    | false =>
      show Q false H1
      exact q false H1 (h0 pb) I1 m1
theorem eb_or {p p' : Bool → Prop} (h : EvB ρ F tt Γ p) (h1 : p false → EvB ρ F tu Γ p') (h0 : p true → p' true) : EvB ρ F (tOr tt tu) Γ p' := fun H0 σ H I Q q =>
  h H0 σ H I _ fun b H1 pb I1 m1 => by
    cases b with
    | false =>
      show tu σ H1 Q
      exact h1 pb H0 σ H1 I1 Q fun b H2 p2 I2 m2 => q b H2 p2 I2 (m1.trans m2)
    | true =>
      show Q true H1
      exact q true H1 (h0 pb) I1 m1
theorem ebd_and {x y : Bool} (h : EvB ρ F tt Γ (· = x)) (h1 : x = true → EvB ρ F tu Γ (· = y)) : EvB ρ F (tAnd tt tu) Γ (· = (x && y)) := by
  cases x with
  | true => exact eb_and h (fun _ => (h1 rfl).imp fun d e => by rw [e]; rfl) (fun z => nomatch z)
  | false => exact eb_and h (fun z => nomatch z) (fun _ => rfl)
theorem ebd_or {x y : Bool} (h : EvB ρ F tt Γ (· = x)) (h1 : x = false → EvB ρ F tu Γ (· = y)) : EvB ρ F (tOr tt tu) Γ (· = (x || y)) := by
  cases x with
  | false => exact eb_or h (fun _ => (h1 rfl).imp fun d e => by rw [e]; rfl) (fun z => nomatch z)
  | true => exact eb_or h (fun z => nomatch z) (fun _ => rfl)
theorem eb_not {p : Bool → Prop} (h : EvB ρ F tt Γ p) : EvB ρ F (tNot tt) Γ (fun b => p (!b)) := fun H0 σ H I Q q =>
  h H0 σ H I _ fun b H1 pb I1 m1 => q (!b) H1 (by show p (!!b); rw [Bool.not_not]; exact pb) I1 m1
theorem ebd_not {x : Bool} (h : EvB ρ F tt Γ (· = x)) : EvB ρ F (tNot tt) Γ (· = !x) := (eb_not h).imp fun d e => by rw [← e, Bool.not_not]
theorem es_if {p : Bool → Prop} (h : EvB ρ F tt Γ p) (h1 : p true → EvS ρ F ta Γ P) (h2 : p false → EvS ρ F tb Γ P) : EvS ρ F (tIf tt ta tb) Γ P := fun H0 σ H I Q q =>
  h H0 σ H I _ fun b H1 pb I1 m1 => by
    cases b with
    | true =>
      show ta σ H1 Q
      exact h1 pb H0 σ H1 I1 Q fun v d H2 p2 I2 m2 => q v d H2 p2 I2 (m1.trans m2)
    | false =>
      show tb σ H1 Q
      exact h2 pb H0 σ H1 I1 Q fun v d H2 p2 I2 m2 => q v d H2 p2 I2 (m1.trans m2)
theorem ed_if {x : Bool} (h : EvB ρ F tt Γ (· = x)) (h1 : x = true → EvS ρ F ta Γ P) (h2 : x = false → EvS ρ F tb Γ P) : EvS ρ F (tIf tt ta tb) Γ P := es_if h (fun e => h1 e.symm) fun e => h2 e.symm
theorem ed_ifc {c : Prop} [Decidable c] {x y : PyData} (h : EvB ρ F tt Γ (· = decide c)) (h1 : c → EvD ρ F ta Γ x) (h2 : ¬ c → EvD ρ F tb Γ y) : EvD ρ F (tIf tt ta tb) Γ (if c then x else y) := by
  by_cases hc : c
  · rw [if_pos hc]
    exact ed_if h (fun _ => h1 hc) (fun z => absurd hc (of_decide_eq_false z))
  · rw [if_neg hc]
    exact ed_if h (fun z => absurd (of_decide_eq_true z) hc) (fun _ => h2 hc)
/-- a < b < c -/
theorem ed_chain {a b : PyData} {x : Bool} (ha : EvD ρ F ta Γ a) (hb : EvD ρ F tb Γ b) (ho : OpD F r a b (· = .bool x)) {c : PyData} {y : Bool} (hc : EvD ρ F tc Γ c) (ho' : OpD F r' b c (· = .bool y)) : EvD ρ F (tChain r r' ta tb tc) Γ (.bool (x && y)) := fun H0 σ H I Q q =>
  ha H0 σ H I _ fun v a H1 pa I1 m1 t1 => hb H0 σ H1 I1 _ fun w b H2 pb I2 m2 t2 => by
    subst pa; subst pb
    refine ho H2 v w I2.sf (t1.tu (m2.tu I1.inv)) t2 _ fun z d H3 pd s3 t3 => ?_
    subst pd
    cases t3
    have I3 := I2.same s3
    have m3 := (m1.trans m2).trans (Mv.of s3)
    refine ⟨x, rfl, ?_⟩
    cases x with
    | true =>
      rw [if_pos rfl]
      refine hc H0 σ H3 I3 _ fun u c H4 pc I4 m4 t4 => ?_
      subst pc
      refine ho' H4 w u I4.sf ((t2.tu (Tu.of s3)).tu (m4.tu I3.inv)) t4 Q fun z d H5 pd s5 t5 => ?_
      subst pd
      exact q z _ H5 (by rw [Bool.true_and]) (I4.same s5) ((m3.trans m4).trans (Mv.of s5)) t5
    | false =>
      rw [if_neg Bool.false_ne_true]
      exact q (.bl false) _ H3 (by rw [Bool.false_and]) I3 m3 (.bl false)
/-! ### slices -/
theorem eo_none : EvO ρ F tNoPart Γ (· = none) := fun H0 σ H I Q q => q none H rfl I (Mv.refl ρ H)
theorem eos_some {p : Option Int → Prop} (h : EvS ρ F t Γ (fun d => ∃ i, d = .int i ∧ p (some i))) : EvO ρ F (tPart t) Γ p := fun H0 σ H I Q q =>
  h H0 σ H I _ fun v d H1 pd I1 m1 t1 => by
    obtain ⟨i, rfl, pi⟩ := pd
    cases t1
    exact ⟨i, rfl, q (some i) H1 pi I1 m1⟩
theorem eo_some {i : Int} (h : EvD ρ F t Γ (.int i)) : EvO ρ F (tPart t) Γ (· = some i) := eos_some (h.imp fun d e => ⟨i, e, rfl⟩)
end
/-- the items of ds[lo:hi] -/
def cutD {α : Type} (xs : List α) (lo hi : Option Int) : List α := (xs.drop (HT.sIx xs.length 0 lo)).take (HT.sIx xs.length xs.length hi - HT.sIx xs.length 0 lo)
theorem cut_td {F H : Hp} {vs : List V} {ds : List PyData} (h : TDs F H vs ds) (lo hi : Option Int) : TDs F H (cutV vs lo hi) (cutD ds lo hi) := by
  unfold cutV cutD
  rw [h.len]
  exact (h.drop _).take _
theorem cutD_map {α β : Type} (f : α → β) (xs : List α) (lo hi : Option Int) : cutD (xs.map f) lo hi = (cutD xs lo hi).map f := by
  unfold cutD
  rw [List.map_take, List.map_drop, List.length_map]
section
variable {ρ : Rl} {F H0 H H' : Hp} {σ : L2.St} {Γ : List Ty} {K : PySem.W.Frag}
variable {t ta tb tc te : TE} {tt tu : TT} {tr : TA} {P P' Pa Pb : PyData → Prop} {a b d : PyData} {r r' : R2} {tl th : TO}
theorem es_slT {Pl Ph : Option Int → Prop} (ha : EvS ρ F ta Γ Pa) (hl : EvO ρ F tl Γ Pl) (hh : EvO ρ F th Γ Ph) (f : ∀ a lo hi, Pa a → Pl lo → Ph hi → ∃ ds, a = .tuple ds ∧ P (.tuple (cutD ds lo hi))) : EvS ρ F (tSl (rSlA K) ta tl th) Γ P := fun H0 σ H I Q q =>
  ha H0 σ H I _ fun v a H1 pa I1 m1 t1 => hl H0 σ H1 I1 _ fun lo H2 pl I2 m2 => hh H0 σ H2 I2 _ fun hi H3 ph I3 m3 => by
    obtain ⟨ds, rfl, pd⟩ := f a lo hi pa pl ph
    have t3 := (t1.tu (m2.tu I1.inv)).tu (m3.tu I2.inv)
    obtain ⟨p, xs, rfl, hp, hd⟩ := t3.of_tup
    refine ⟨p, xs, rfl, .of hp, fun w => ?_, fun _ p' hp' => ?_⟩
    · have e : cutD ds lo hi = ds := by
        unfold cutD
        rw [hd.len] at w
        rw [w.1, w.2, List.drop_zero, Nat.sub_zero]
        exact List.take_length
      rw [e] at pd
      exact q (.ref p) _ H3 pd I3 ((m1.trans m2).trans m3) (.tup hp hd)
    · exact q (.ref p') _ _ pd (I3.new hp') (((m1.trans m2).trans m3).trans (Mv.of (same_new hp'))) (.tup upd_same ((cut_td hd lo hi).tu (Tu.of (same_new hp'))))
theorem ed_slT {ds : List PyData} {lo hi : Option Int} (ha : EvD ρ F ta Γ (.tuple ds)) (hl : EvO ρ F tl Γ (· = lo)) (hh : EvO ρ F th Γ (· = hi)) : EvD ρ F (tSl (rSlA K) ta tl th) Γ (.tuple (cutD ds lo hi)) :=
  es_slT ha hl hh fun _ _ _ e1 e2 e3 => by subst e1; subst e2; subst e3; exact ⟨ds, rfl, rfl⟩
theorem el_slL {Pl Ph : Option Int → Prop} {PA PL : List PyData → Prop} (ha : EvR ρ F ta Γ PA) (hl : EvO ρ F tl Γ Pl) (hh : EvO ρ F th Γ Ph) (f : ∀ ds lo hi, PA ds → Pl lo → Ph hi → PL (cutD ds lo hi)) : EvL ρ F (tSl (rSlL K) ta tl th) Γ PL := fun H0 σ H I Q q =>
  ha H0 σ H I _ fun l vs ds H1 pa I1 m1 n e t1 => hl H0 σ H1 I1 _ fun lo H2 pl I2 m2 => hh H0 σ H2 I2 _ fun hi H3 ph I3 m3 => by
    have e3 := m3 l _ n (m2 l _ n e)
    have t3 := (t1.tu (m2.tu I1.inv)).tu (m3.tu I2.inv)
    refine ⟨l, vs, rfl, .of e3, fun p hp => q p _ _ _ (f ds lo hi pa pl ph) (I3.new hp) (((m1.trans m2).trans m3).trans (Mv.of (same_new hp))) (((m1.trans m2).trans m3).free (I3.newown hp) hp) upd_same ((cut_td t3 lo hi).tu (Tu.of (same_new hp)))⟩
/-! ### operations on data -/
theorem od_I0 {g : Int → Int → V} {i j : Int} {d : PyData} (h : ∀ H, TD F H (g i j) d) : OpD F (rI0 g) (.int i) (.int j) (· = d) := fun H x y s ha hb Q q => by
  cases ha; cases hb
  exact ⟨i, j, rfl, rfl, q _ d H rfl (Same.refl H) (h H)⟩
theorem od_I {C : Int → Int → Prop} {g : Int → Int → V} {i j : Int} {d : PyData} (hc : C i j) (h : ∀ H, TD F H (g i j) d) : OpD F (rI C g) (.int i) (.int j) (· = d) := fun H x y s ha hb Q q => by
  cases ha; cases hb
  exact ⟨i, j, rfl, rfl, hc, q _ d H rfl (Same.refl H) (h H)⟩
theorem od_int {f : Int → Int → Int} {i j : Int} : OpD F (rI0 fun i j => .int (f i j)) (.int i) (.int j) (· = .int (f i j)) := od_I0 fun _ => .int _
theorem od_bool {f : Int → Int → Bool} {i j : Int} : OpD F (rI0 fun i j => .bl (f i j)) (.int i) (.int j) (· = .bool (f i j)) := od_I0 fun _ => .bl _
theorem od_intC {C : Int → Int → Prop} {f : Int → Int → Int} {i j : Int} (hc : C i j) : OpD F (rI C fun i j => .int (f i j)) (.int i) (.int j) (· = .int (f i j)) := od_I hc fun _ => .int _
theorem ud_int {f : Int → Int} {i : Int} : UnD F (rU fun i => .int (f i)) (.int i) (· = .int (f i)) := fun H x s ha Q q => by
  cases ha
  exact ⟨i, rfl, q _ _ H rfl (Same.refl H) (.int _)⟩
theorem od_eqI {i j : Int} : OpD F rEq (.int i) (.int j) (· = .bool (decide (i = j))) := fun H x y s ha hb Q q => by
  cases ha; cases hb
  refine ⟨rfl, ?_⟩
  have e : decide (V.int i = V.int j) = decide (i = j) := by simp
  rw [e]
  exact q _ _ H rfl (Same.refl H) (.bl _)
theorem od_neI {i j : Int} : OpD F rNe (.int i) (.int j) (· = .bool (!decide (i = j))) := fun H x y s ha hb Q q => by
  cases ha; cases hb
  refine ⟨rfl, ?_⟩
  have e : decide (V.int i = V.int j) = decide (i = j) := by simp
  rw [e]
  exact q _ _ H rfl (Same.refl H) (.bl _)
theorem od_neS {i j : Str} : OpD F rNe (.str i) (.str j) (· = .bool (!decide (i = j))) := fun H x y s ha hb Q q => by
  cases ha; cases hb
  refine ⟨rfl, ?_⟩
  have e : decide (V.str i = V.str j) = decide (i = j) := by simp
  rw [e]
  exact q _ _ H rfl (Same.refl H) (.bl _)
theorem od_isN (b : Bool) (hb : (d = .none ↔ b = true)) : OpD F (fun x y H Q => y = .non ∧ Q (.bl (decide (x = .non))) H) d .none (· = .bool b) := fun H x y s ha hb' Q q => by
  cases hb'
  refine ⟨rfl, ?_⟩
  have e : decide (x = .non) = b := by
    by_cases z : x = .non
    · rw [decide_eq_true z]
      exact (hb.mp (ha.nn.mp z)).symm
    · rw [decide_eq_false z]
      cases b with
      | false => rfl
      | true => exact absurd (ha.nn.mpr (hb.mpr rfl)) z
  rw [e]
  exact q _ _ H rfl (Same.refl H) (.bl _)
theorem od_notN (b : Bool) (hb : (d = .none ↔ b = false)) : OpD F (fun x y H Q => y = .non ∧ Q (.bl (!decide (x = .non))) H) d .none (· = .bool b) := fun H x y s ha hb' Q q => by
  cases hb'
  refine ⟨rfl, ?_⟩
  have e : (!decide (x = .non)) = b := by
    by_cases z : x = .non
    · rw [decide_eq_true z]
      exact (hb.mp (ha.nn.mp z)).symm
    · rw [decide_eq_false z]
      cases b with
      | true => rfl
      | false => exact absurd (ha.nn.mpr (hb.mpr rfl)) z
  rw [e]
  exact q _ _ H rfl (Same.refl H) (.bl _)
theorem od_cat {ds es : List PyData} (hl : ds.length + es.length ≤ sizeLine) : OpD F (rCatA K) (.tuple ds) (.tuple es) (· = .tuple (ds ++ es)) := fun H x y s ha hb Q q => by
  obtain ⟨a, xs, rfl, h1, h2⟩ := ha.of_tup
  obtain ⟨b, ys, rfl, h3, h4⟩ := hb.of_tup
  have l1 := h2.len
  have l2 := h4.len
  refine ⟨a, b, xs, ys, rfl, rfl, .of h1, .of h3, by omega, fun e => ?_, fun _ e => ?_, fun _ _ p hp => ?_⟩
  · subst e
    have z : ds = [] := List.length_eq_zero_iff.mp l1.symm
    subst z
    exact q _ _ H rfl (Same.refl H) (.tup h3 h4)
  · subst e
    have z : es = [] := List.length_eq_zero_iff.mp l2.symm
    subst z
    rw [List.append_nil] at q
    exact q _ _ H rfl (Same.refl H) (.tup h1 h2)
  · exact q _ _ _ rfl (same_new hp) (.tup upd_same ((h2.append h4).tu (Tu.of (same_new hp))))
theorem at_td {vs : List V} {ds : List PyData} {i : Int} (h : TDs F H vs ds) (e : atI ds i = some d) : ∃ v, atI vs i = some v ∧ TD F H v d := by
  unfold atI at e ⊢
  rw [h.len]
  cases q : ixN ds.length i with
  | none => rw [q] at e; cases e
  | some j =>
    rw [q] at e
    exact h.get e
theorem od_ixT {ds : List PyData} {i : Int} (e : atI ds i = some d) : OpD F (rIxT K) (.tuple ds) (.int i) (· = d) := fun H x y s ha hb Q q => by
  obtain ⟨a, xs, rfl, h1, h2⟩ := ha.of_tup
  cases hb
  obtain ⟨v, e1, e2⟩ := at_td h2 e
  exact ⟨a, xs, i, v, rfl, rfl, .of h1, e1, q v d H rfl (Same.refl H) e2⟩
theorem od_ixLf {ds : List PyData} {i : Int} (e : atI ds i = some d) : OpD F (rIxL K) (.list ds) (.int i) (· = d) := fun H x y s ha hb Q q => by
  obtain ⟨a, xs, rfl, h1, h2⟩ := ha.of_lst
  cases hb
  obtain ⟨v, e1, e2⟩ := at_td h2 e
  exact ⟨a, xs, i, v, rfl, rfl, .of (s _ _ h1), e1, q v d H rfl (Same.refl H) e2⟩
theorem od_ixS {z : Str} {i : Int} {c : Nat} (hz : z.length ≤ sizeLine) (e : atI z.cps.toList i = some c) : OpD F rIxS (.str z) (.int i) (· = .str ⟨#[c]⟩) := fun H x y s ha hb Q q => by
  cases ha; cases hb
  exact ⟨z, i, c, rfl, rfl, hz, e, q _ _ H rfl (Same.refl H) (.str _)⟩
theorem es_ixR {PA : List PyData → Prop} (ha : EvR ρ F ta Γ PA) (hb : EvS ρ F tb Γ Pb) (f : ∀ ds b, PA ds → Pb b → ∃ i d, b = .int i ∧ atI ds i = some d ∧ P d) : EvS ρ F (tOp (rIxL K) ta tb) Γ P := fun H0 σ H I Q q =>
  ha H0 σ H I _ fun l vs ds H1 pa I1 m1 n e t1 => hb H0 σ H1 I1 _ fun v b H2 pb I2 m2 t2 => by
    obtain ⟨i, d, rfl, e1, pd⟩ := f ds b pa pb
    cases t2
    obtain ⟨w, e2, e3⟩ := at_td (t1.tu (m2.tu I1.inv)) e1
    exact ⟨l, vs, i, w, rfl, rfl, .of (m2 l _ n e), e2, q w d H2 pd I2 (m1.trans m2) e3⟩
theorem od_strLt {x y : Str} : OpD F (fun x y H Q => ∃ i j, x = .str i ∧ y = .str j ∧ Q (.bl (decide (i.cps.toList < j.cps.toList))) H) (.str x) (.str y) (· = .bool (decide (x.cps.toList < y.cps.toList))) := fun H v w s ha hb Q q => by
  cases ha; cases hb
  exact ⟨x, y, rfl, rfl, q _ _ H rfl (Same.refl H) (.bl _)⟩
/-- len -/
theorem cd_lenT {ds : List PyData} : CbD F (fun xs H Q => ∃ p ys, xs = [.ref p] ∧ (SqL K H p ys ∨ SqT K H p ys) ∧ Q (.int ys.length) H) [.tuple ds] (· = .int ds.length) := fun H x s h Q q => by
  cases h with
  | cons h hn =>
    cases hn
    obtain ⟨a, xs, rfl, h1, h2⟩ := h.of_tup
    exact ⟨a, xs, rfl, .inr (.of h1), q _ _ H (by rw [h2.len]) (Same.refl H) (.int _)⟩
theorem cd_lenS {z : Str} (hz : z.length ≤ sizeLine) : CbD F (fun xs H Q => ∃ z, xs = [.str z] ∧ z.length ≤ sizeLine ∧ Q (.int z.length) H) [.str z] (· = .int z.length) := fun H x s h Q q => by
  cases h with
  | cons h hn =>
    cases hn
    cases h
    exact ⟨z, rfl, hz, q _ _ H rfl (Same.refl H) (.int _)⟩
theorem es_lenR {PA : List PyData → Prop} (h : EvR ρ F ta Γ PA) : EvS ρ F (tCB (fun xs H Q => ∃ p ys, xs = [.ref p] ∧ (SqL K H p ys ∨ SqT K H p ys) ∧ Q (.int ys.length) H) (tCons ta tNil)) Γ (fun d => ∃ ds, PA ds ∧ d = .int ds.length) :=
  es_cbR h fun l vs ds H pd e t s Q q => ⟨l, vs, rfl, .inl (.of e), q _ _ H ⟨ds, pd, by rw [t.len]⟩ (Same.refl H) (.int _)⟩
theorem ed_lenR {ds : List PyData} (h : EvR ρ F ta Γ (· = ds)) : EvD ρ F (tCB (fun xs H Q => ∃ p ys, xs = [.ref p] ∧ (SqL K H p ys ∨ SqT K H p ys) ∧ Q (.int ys.length) H) (tCons ta tNil)) Γ (.int ds.length) := (es_lenR h).imp fun d ⟨ds, e1, e2⟩ => by rw [e2, e1]
/-- tuple(list) -/
theorem es_tupleR {PA : List PyData → Prop} (h : EvR ρ F ta Γ PA) : EvS ρ F (tCB (fun xs H Q => ∃ p ys, xs = [.ref p] ∧ ((SqL K H p ys ∧ ∀ l, H l = none → Q (.ref l) (upd H l (.tup ys))) ∨ (SqT K H p ys ∧ Q (.ref p) H))) (tCons ta tNil)) Γ (fun d => ∃ ds, PA ds ∧ d = .tuple ds) :=
  es_cbR h fun l vs ds H pd e t s Q q => ⟨l, vs, rfl, .inl ⟨.of e, fun p hp => q _ _ _ ⟨ds, pd, rfl⟩ (same_new hp) (.tup upd_same (t.tu (Tu.of (same_new hp))))⟩⟩
theorem ed_tupleR {ds : List PyData} (h : EvR ρ F ta Γ (· = ds)) : EvD ρ F (tCB (fun xs H Q => ∃ p ys, xs = [.ref p] ∧ ((SqL K H p ys ∧ ∀ l, H l = none → Q (.ref l) (upd H l (.tup ys))) ∨ (SqT K H p ys ∧ Q (.ref p) H))) (tCons ta tNil)) Γ (.tuple ds) := (es_tupleR h).imp fun d ⟨ds, e1, e2⟩ => by rw [e2, e1]
/-- list(tuple) -/
theorem cl_listT {ds : List PyData} : CbL F (fun xs H Q => ∃ p ys, xs = [.ref p] ∧ (SqL K H p ys ∨ SqT K H p ys) ∧ ∀ l, H l = none → Q (.ref l) (upd H l (.lst ys))) [.tuple ds] (· = ds) := fun H x s h Q q => by
  cases h with
  | cons h hn =>
    cases hn
    obtain ⟨a, xs, rfl, h1, h2⟩ := h.of_tup
    exact ⟨a, xs, rfl, .inr (.of h1), fun l hl => q l xs ds _ rfl hl (same_new hl) upd_same (h2.tu (Tu.of (same_new hl)))⟩
/-- list + list -/
theorem el_cat {PA PB PL : List PyData → Prop} (ha : EvR ρ F ta Γ PA) (hb : EvR ρ F tb Γ PB) (f : ∀ a b, PA a → PB b → a.length + b.length ≤ sizeLine ∧ PL (a ++ b)) : EvL ρ F (tOp rCat ta tb) Γ PL := fun H0 σ H I Q q =>
  ha H0 σ H I _ fun l vs ds H1 pa I1 m1 n e t1 => hb H0 σ H1 I1 _ fun k ws es H2 pb I2 m2 n2 e2 t2 => by
    obtain ⟨hl, pl⟩ := f ds es pa pb
    have l1 := t1.len
    have l2 := t2.len
    exact ⟨l, k, vs, ws, rfl, rfl, m2 l _ n e, e2, by omega, fun p hp => q p _ _ _ pl (I2.new hp) ((m1.trans m2).trans (Mv.of (same_new hp))) ((m1.trans m2).free (I2.newown hp) hp) upd_same (((t1.tu (m2.tu I1.inv)).append t2).tu (Tu.of (same_new hp)))⟩
theorem eld_cat {a b : List PyData} (ha : EvR ρ F ta Γ (· = a)) (hb : EvR ρ F tb Γ (· = b)) (hl : a.length + b.length ≤ sizeLine) : EvL ρ F (tOp rCat ta tb) Γ (· = a ++ b) := el_cat ha hb fun _ _ e1 e2 => by subst e1; subst e2; exact ⟨hl, rfl⟩
/-- sum, all of a list -/
theorem ed_sum {ns : List Int} (h : EvR ρ F ta Γ (· = ns.map PyData.int)) : EvD ρ F (tCB (rSum K) (tCons ta tNil)) Γ (.int ns.sum) :=
  es_cbR h fun l vs ds H pd e t s Q q => by
    subst pd
    rw [t.of_ints] at e
    exact ⟨l, ns, rfl, .of e, q _ _ H rfl (Same.refl H) (.int _)⟩
theorem ed_all {ns : List Bool} (h : EvR ρ F ta Γ (· = ns.map PyData.bool)) : EvD ρ F (tCB (rAll K) (tCons ta tNil)) Γ (.bool (ns.all id)) :=
  es_cbR h fun l vs ds H pd e t s Q q => by
    subst pd
    rw [t.of_bools] at e
    exact ⟨l, ns, rfl, .of e, q _ _ H rfl (Same.refl H) (.bl _)⟩
/-- calls of defs -/
def SpD (ρ : Rl) (F : Hp) (sp : Sp) (ds : List PyData) (P : PyData → Prop) : Prop :=
  ∀ (H : Hp) (vs : List V), ρ.inv H → Same F H → (∀ a o, F a = some o → ¬ ρ.own a) → TDs F H vs ds → ∀ (Q : VK) (E : XK), (∀ v d H', P d → ρ.inv H' → Mv ρ H H' → TD F H' v d → Q v H') → sp vs H Q E
theorem SS.call (I : SS ρ H0 F σ H Γ) (i : ρ.inv H') (m : Mv ρ H H') : SS ρ H0 F σ H' Γ := I.on i m
theorem es_call {sp : Sp} {E : XK} {PA : List PyData → Prop} (h : EvA ρ F tr Γ PA) (f : ∀ l, PA l → SpD ρ F sp l P) : EvS ρ F (tCall sp [] E tr) Γ P := fun H0 σ H I Q q =>
  h H0 σ H I _ fun xs l H1 pl I1 m1 t1 => by
    show sp (xs ++ []) H1 Q E
    rw [List.append_nil]
    exact f l pl H1 xs I1.inv I1.sf (fun a o h => (I1.fr a o h).2) t1 Q E fun v d H3 pd i m t3 => q v d H3 pd (I1.on i m) (m1.trans m) t3
theorem ed_call {sp : Sp} {E : XK} {l : List PyData} (h : EvA ρ F tr Γ (· = l)) (f : SpD ρ F sp l P) : EvS ρ F (tCall sp [] E tr) Γ P := es_call h fun _ e => by subst e; exact f
/-- the promise of a def on data, that changes nothing: C ds d: from ds it gives d -/
def spP (C : List PyData → PyData → Prop) : Sp := fun vs H Q _ => ∃ (F : Hp) (ds : List PyData) (d : PyData), Same F H ∧ TDs F H vs ds ∧ C ds d ∧ ∀ v H', Same H H' → TD F H' v d → Q v H'
theorem Mv.ofS {ρ : Rl} (i : ρ.inv H) (s : Same H H') : ρ.inv H' := ρ.stay H _ i fun b hb => by
  cases e : H b with
  | none => exact (ρ.held H b i hb e).elim
  | some o => exact s b o e
theorem sd_P {C : List PyData → PyData → Prop} {ds : List PyData} (h : C ds d) : SpD ρ F (spP C) ds (· = d) := fun H vs i s _ t Q E q => ⟨F, ds, d, s, t, h, fun v H' s' t' => q v d H' rfl (Mv.ofS i s') (Mv.of s') t'⟩
theorem ed_callP {C : List PyData → PyData → Prop} {E : XK} {l : List PyData} (h : EvA ρ F tr Γ (· = l)) (c : C l d) : EvD ρ F (tCall (spP C) [] E tr) Γ d := ed_call h (sd_P c)
/-- .. that gives a new list -/
def spL (C : List PyData → List PyData → Prop) : Sp := fun vs H Q _ => ∃ (F : Hp) (ds : List PyData) (d : List PyData), Same F H ∧ TDs F H vs ds ∧ C ds d ∧ ∀ l ws H', Same H H' → H l = none → H' l = some (.lst ws) → TDs F H' ws d → Q (.ref l) H'
theorem el_callL {C : List PyData → List PyData → Prop} {E : XK} {l d : List PyData} (h : EvA ρ F tr Γ (· = l)) (c : C l d) : EvL ρ F (tCall (spL C) [] E tr) Γ (· = d) := fun H0 σ H I Q q =>
  h H0 σ H I _ fun xs l H1 pl I1 m1 t1 => by
    subst pl
    show (spL C) (xs ++ []) H1 Q E
    rw [List.append_nil]
    exact ⟨F, l, d, I1.sf, t1, c, fun p ws H' s n e t => q p ws d H' rfl (I1.same s) (m1.trans (Mv.of s)) (m1.free (I1.newown n) n) e t⟩

/-! ### statements -/
variable {D : Ends} {ts tw : TS}
theorem st_asg {i : Nat} (I : SS ρ H0 F σ H Γ) (h : EvS ρ F t Γ P) (k : ∀ v d H', P d → Mv ρ H H' → SS ρ H0 F (σ.set i (some v)) H' (Γ.set i (.dat d)) → D.nx (σ.set i (some v)) H') : tAsg t (gName i) D σ H :=
  h H0 σ H I _ fun v d H' pd I' m td => k v d H' pd m (I'.setD i td)
theorem st_set {i : Nat} (I : SS ρ H0 F σ H Γ) (h : EvD ρ F t Γ d) (k : ∀ σ' H', SS ρ H0 F σ' H' (Γ.set i (.dat d)) → D.nx σ' H') : tAsg t (gName i) D σ H :=
  st_asg I h fun v d H' pd m I' => by subst pd; exact k _ _ I'
/-- a new list into a slot -/
theorem st_setL {i : Nat} {PL : List PyData → Prop} (I : SS ρ H0 F σ H Γ) (h : EvL ρ F t Γ PL) (k : ∀ ds σ' H', PL ds → SS ρ H0 F σ' H' (Γ.set i (.lst ds)) → D.nx σ' H') : tAsg t (gName i) D σ H :=
  h H0 σ H I _ fun l vs ds H' pd I' m n e td => k ds _ H' pd (I.setN (t := .lst ds) I' i n ⟨l, vs, rfl, e, td⟩)
/-- .. that will not be changed -/
theorem st_setF {i : Nat} {PL : List PyData → Prop} (I : SS ρ H0 F σ H Γ) (h : EvL ρ F t Γ PL) (k : ∀ ds l vs H' σ', PL ds → H l = none → Mv ρ H H' → H' l = some (.lst vs) → SS ρ H0 (upd F l (.lst vs)) σ' H' (Γ.set i (.dat (.list ds))) → D.nx σ' H') : tAsg t (gName i) D σ H :=
  h H0 σ H I _ fun l vs ds H' pd I' m n e td => k ds l vs H' _ pd n m e ((I.frzN I' n e).setD i (.lst upd_same (td.mono (same_new (I.frz0 n)) (Tu.refl H'))))
theorem st_ret (I : SS ρ H0 F σ H Γ) (h : EvS ρ F t Γ P) (k : ∀ v d H', P d → SS ρ H0 F σ H' Γ → Mv ρ H H' → TD F H' v d → D.rt v H') : tRet t D σ H :=
  h H0 σ H I _ fun v d H' pd I' m td => k v d H' pd I' m td
theorem st_if {p : Bool → Prop} (I : SS ρ H0 F σ H Γ) (h : EvB ρ F tt Γ p) (h1 : p true → ∀ H', SS ρ H0 F σ H' Γ → Mv ρ H H' → ts D σ H') (h2 : p false → ∀ H', SS ρ H0 F σ H' Γ → Mv ρ H H' → tw D σ H') : tIfS tt ts tw D σ H :=
  h H0 σ H I _ fun b H' pb I' m => by
    cases b with
    | true =>
      show ts D σ H'
      exact h1 pb H' I' m
    | false =>
      show tw D σ H'
      exact h2 pb H' I' m
/-- what a return promises of data, where nothing is changed -/
theorem SS.sameS (I : SS rS H0 F σ H Γ) : Same H0 H := I.rel.same
theorem start_len {N : List Str} {vs : List V} (h : vs.length ≤ N.length) : (L2.start N vs).length = N.length := by
  unfold L2.start
  rw [List.length_append, List.length_map, List.length_replicate]
  omega
/-- a def's start -/
theorem SS.start {N : List Str} {vs : List V} {Γ : List Ty} (hl : vs.length ≤ N.length) (hg : Γ.length = N.length) (f : Same F H) (h : ∀ (i : Nat) (t : Ty), Γ[i]? = some t → t ≠ .no → t.mut = false ∧ ∃ v, vs[i]? = some v ∧ Has F H v t) : SS rS H F (L2.start N vs) H Γ where
  inv := trivial
  rel := Mv.refl rS H
  len := by rw [start_len hl, hg]
  has := fun i t e n => by
    obtain ⟨_, v, e1, e2⟩ := h i t e n
    refine ⟨v, ?_, e2⟩
    unfold L2.start
    rw [List.getElem?_append_left (by rw [List.length_map]; exact (List.getElem?_eq_some_iff.mp e1).1), List.getElem?_map, e1]
    rfl
  fresh := fun i t a e m _ => by
    have := (h i t e (fun z => by subst z; cases m)).1
    rw [m] at this
    cases this
  apart := fun i j t u a e _ m _ _ _ => by
    have := (h i t e (fun z => by subst z; cases m)).1
    rw [m] at this
    cases this
  fr := fun a o h => ⟨f a o h, fun z => z⟩
/-- .. on data -/
theorem SS.startD {N : List Str} {vs : List V} {ds : List PyData} (f : Same F H) (h : TDs F H vs ds) (hl : ds.length ≤ N.length) : SS rS H F (L2.start N vs) H (ds.map Ty.dat ++ List.replicate (N.length - ds.length) .no) := by
  refine SS.start (by rw [h.len]; exact hl) (by rw [List.length_append, List.length_map, List.length_replicate]; omega) f fun i t e n => ?_
  rw [List.getElem?_append] at e
  split at e
  · rw [List.getElem?_map] at e
    cases q : ds[i]? with
    | none => rw [q] at e; cases e
    | some d =>
      rw [q] at e
      cases e
      obtain ⟨v, e1, e2⟩ := h.get q
      exact ⟨rfl, v, e1, e2⟩
  · rw [List.getElem?_replicate] at e
    split at e
    · cases e
      exact absurd rfl n
    · cases e
end
end NN
set_option Elab.async false
set_option linter.all false
set_option maxRecDepth 100000
set_option maxHeartbeats 4000000
/-! Loops and comprehensions, by slots. -/
namespace NN
open PySem PySem.Spec PyProof.Rows L2

section
variable {ρ : Rl} {F H0 H0' H H' : Hp} {σ : L2.St} {Γ : List Ty}
/-! ### the floor -/
theorem SS.low (I : SS ρ H0' F σ H Γ) (s : Same H0 H0') : SS ρ H0 F σ H Γ := ⟨I.inv, fun b o n h => I.rel b o n (s b o h), I.len, I.has, fun i t a h m e => ⟨s.free (I.fresh i t a h m e).1, (I.fresh i t a h m e).2⟩, I.apart, I.fr⟩
/-- the tuples that stand now, and one more thing, are to stay -/
def flr (H0 H : Hp) (p : Option (Addr × HO)) : Hp := fun b => match H0 b with
  | some o => some o
  | none => match H b with
    | some (.tup xs) => some (.tup xs)
    | _ => match p with
      | some (a, o) => if b = a then some o else none
      | none => none
def Pin (p : Option (Addr × HO)) (H : Hp) : Prop := match p with
  | some (a, o) => H a = some o
  | none => True
/-- it is in no slot -/
def Off (ρ : Rl) (F : Hp) (σ : L2.St) (Γ : List Ty) (a : Addr) : Prop := ¬ ρ.own a ∧ ∀ (i : Nat) (t : Ty), Γ[i]? = some t → t.mut = true → σ[i]? ≠ some (some (.ref a))
def PinOff (ρ : Rl) (F : Hp) (σ : L2.St) (Γ : List Ty) (p : Option (Addr × HO)) : Prop := match p with
  | some (a, _) => Off ρ F σ Γ a
  | none => True
theorem flr_same {p : Option (Addr × HO)} : Same H0 (flr H0 H p) := fun b o h => by
  unfold flr
  rw [h]
theorem flr_tup {p : Option (Addr × HO)} (m : Mv ρ H0 H) (i : ρ.inv H) {a : Addr} {xs : List V} (h : H a = some (.tup xs)) : flr H0 H p a = some (.tup xs) := by
  unfold flr
  cases e : H0 a with
  | none => simp only [h]
  | some o =>
    have z := m a o (fun z => ρ.notup H a xs i z h) e
    rw [h] at z
    cases z
    rfl
theorem flr_pin {a : Addr} {o : HO} (m : Mv ρ H0 H) (n : ¬ ρ.own a) (h : H a = some o) : flr H0 H (some (a, o)) a = some o := by
  unfold flr
  cases e : H0 a with
  | some u =>
    have z := m a u n e
    rw [h] at z
    cases z
    rfl
  | none =>
    simp only [h]
    cases o <;> simp
theorem SS.up (I : SS ρ H0 F σ H Γ) (p : Option (Addr × HO)) (hp : Pin p H) (po : PinOff ρ F σ Γ p) : SS ρ (flr H0 H p) F σ H Γ where
  inv := I.inv
  rel := fun b o n h => by
    unfold flr at h
    cases e : H0 b with
    | some u =>
      rw [e] at h
      cases h
      exact I.rel b _ n e
    | none =>
      rw [e] at h
      cases q : H b with
      | none =>
        rw [q] at h
        cases p with
        | none => cases h
        | some ao =>
          obtain ⟨a, u⟩ := ao
          simp only at h
          split at h
          · rename_i z
            subst z
            have hp' : H b = some u := hp
            rw [q] at hp'
            cases hp'
          · cases h
      | some x =>
        rw [q] at h
        cases x with
        | tup xs => exact h
        | _ =>
          all_goals
            cases p with
            | none => cases h
            | some ao =>
              obtain ⟨a, u⟩ := ao
              simp only at h
              split at h
              · rename_i z
                subst z
                have hp' : H b = some u := hp
                rw [q] at hp'
                cases h
                exact hp'
              · cases h
  len := I.len
  has := I.has
  fresh := fun i t a h m e => by
    obtain ⟨q1, q2, q3⟩ := I.fresh i t a h m e
    refine ⟨?_, q2, q3⟩
    unfold flr
    rw [q1]
    obtain ⟨v, ev, hv⟩ := I.has i t h (fun z => by subst z; cases m)
    rw [e] at ev
    cases ev
    have nt : ∀ xs, H a ≠ some (.tup xs) := fun xs z => by
      cases t with
      | lst ds =>
        obtain ⟨l, vs, el, hl, _⟩ := hv
        cases el
        rw [z] at hl
        cases hl
      | dct ds =>
        obtain ⟨l, vs, el, hl, _⟩ := hv
        cases el
        rw [z] at hl
        cases hl
      | obj C fs => cases m
      | no => cases m
      | dat d => cases m
      | val v => cases m
    have na : ∀ b o, p = some (b, o) → a ≠ b := fun b o ep z => by
      subst ep
      subst z
      exact po.2 i t h m e
    cases q : H a with
    | none =>
      cases p with
      | none => rfl
      | some ao =>
        obtain ⟨b, u⟩ := ao
        simp only
        rw [if_neg (na b u rfl)]
    | some x =>
      cases x with
      | tup xs => exact absurd q (nt xs)
      | _ =>
        all_goals
          cases p with
          | none => rfl
          | some ao =>
            obtain ⟨b, u⟩ := ao
            simp only
            rw [if_neg (na b u rfl)]
  apart := I.apart
  fr := I.fr
/-- a thing off the slots is written -/
theorem SS.off (I : SS ρ H0 F σ H Γ) {p : Addr} {o : HO} (po : Off ρ F σ Γ p) (f : F p = none) (z : H0 p = none) (ht : ∀ xs, H p ≠ some (.tup xs)) : SS ρ H0 F σ (upd H p o) Γ := by
  have tu : Tu H (upd H p o) := fun a xs q => by
    have na : a ≠ p := fun z => by
      subst z
      exact ht xs q
    rw [upd_ne na]
    exact q
  refine ⟨ρ.stay H _ I.inv fun b hb => upd_ne fun z => po.1 (z ▸ hb), fun b x n q => ?_, I.len, fun j u hj n => ?_, I.fresh, I.apart, fun a x q => ?_⟩
  · rw [upd_ne (fun y => by subst y; rw [z] at q; cases q)]
    exact I.rel b x n q
  · obtain ⟨x, ex, q⟩ := I.has j u hj n
    refine ⟨x, ex, ?_⟩
    cases u with
    | no => trivial
    | dat d => exact TD.tu tu q
    | val u => exact q
    | obj C fs => exact ObjD.mono (Same.refl F) tu q
    | lst ds =>
      obtain ⟨l, vs, rfl, hl, hd⟩ := q
      exact ⟨l, vs, rfl, by rw [upd_ne (fun y => by subst y; exact po.2 j _ hj rfl ex)]; exact hl, hd.tu tu⟩
    | dct ds =>
      obtain ⟨l, vs, rfl, hl, hd⟩ := q
      exact ⟨l, vs, rfl, by rw [upd_ne (fun y => by subst y; exact po.2 j _ hj rfl ex)]; exact hl, hd.tu tu⟩
  · obtain ⟨q1, q2⟩ := I.fr a x q
    refine ⟨?_, q2⟩
    rw [upd_ne (fun y => by subst y; rw [f] at q; cases q)]
    exact q1
end

/-! ### what is walked -/
structure Wk (F Hs : Hp) (J : It) (p : Option (Addr × HO)) (n : Nat) (f : Nat → PyData) : Prop where
  go : ∀ i H, i < n → Tu Hs H → Pin p H → J.go i H
  stop : ∀ i H, n ≤ i → Tu Hs H → Pin p H → J.stop i H
  yld : ∀ i x H H', i < n → Tu Hs H → Pin p H → J.yld i H x H' → Same H H' ∧ TD F H' x (f i)
def EvI (ρ : Rl) (F : Hp) (t : TI) (Γ : List Ty) (P : Nat → (Nat → PyData) → Prop) : Prop :=
  ∀ (H0 : Hp) (σ : L2.St) (H : Hp), SS ρ H0 F σ H Γ → ∀ R : It → Hp → Prop, (∀ J p n f H', P n f → SS ρ H0 F σ H' Γ → Mv ρ H H' → Pin p H' → PinOff ρ F σ Γ p → Wk F H' J p n f → R J H') → t σ H R
section
variable {ρ : Rl} {F H0 H0' H H' : Hp} {σ : L2.St} {Γ : List Ty} {K : PySem.W.Frag}
variable {t ta tb tc te : TE} {tt tu : TT} {tr : TA} {P P' Pa Pb : PyData → Prop} {a b d : PyData}
def nth (ds : List PyData) (i : Nat) : PyData := ds.getD i .none
theorem nth_of {ds : List PyData} {i : Nat} {d : PyData} (h : ds[i]? = some d) : nth ds i = d := by
  unfold nth
  rw [List.getD_eq_getElem?_getD, h]
  rfl
theorem nth_at {ds : List PyData} {i : Nat} (h : i < ds.length) : ds[i]? = some (nth ds i) := by
  rw [nth_of (List.getElem?_eq_getElem h)]
  exact List.getElem?_eq_getElem h
theorem ei_tup {ds : List PyData} (h : EvD ρ F t Γ (.tuple ds)) : EvI ρ F (iTup K t) Γ (fun n f => n = ds.length ∧ f = nth ds) := fun H0 σ H I R q =>
  h H0 σ H I _ fun v d H1 pd I1 m1 t1 => by
    subst pd
    obtain ⟨a, xs, rfl, h1, h2⟩ := t1.of_tup
    refine ⟨a, rfl, ⟨xs, .of h1⟩, q _ none ds.length (nth ds) H1 ⟨rfl, rfl⟩ I1 m1 trivial trivial ⟨fun i H hi tu _ => ?_, fun i H hi tu _ => ?_, fun i x H H' hi tu _ hy => ?_⟩⟩
    · have hl : i < xs.length := by rw [h2.len]; exact hi
      exact ⟨xs, xs[i], .of (tu _ _ h1), List.getElem?_eq_getElem hl⟩
    · exact ⟨xs, .of (tu _ _ h1), by rw [h2.len]; exact hi⟩
    · obtain ⟨e, hx⟩ := hy
      subst e
      refine ⟨Same.refl _, ?_⟩
      have hx' := hx xs (.of (tu _ _ h1))
      obtain ⟨d, e1, e2⟩ := h2.get' hx'
      rw [nth_of e1]
      exact e2.tu tu
theorem eis_listR {PA : List PyData → Prop} (h : EvL ρ F t Γ PA) : EvI ρ F (iList K t) Γ (fun n f => ∃ ds, PA ds ∧ n = ds.length ∧ f = nth ds) := fun H0 σ H I R q =>
  h H0 σ H I _ fun a xs ds H1 pd I1 m1 nn h1 h2 => by
    refine ⟨a, rfl, ⟨xs, .of h1⟩, q _ (some (a, .lst xs)) ds.length (nth ds) H1 ⟨ds, pd, rfl, rfl⟩ I1 m1 h1 ⟨I.newown nn, fun i t hi m => I.notslot nn hi m⟩ ⟨fun i H hi tu hp => ?_, fun i H hi tu hp => ?_, fun i x H H' hi tu hp hy => ?_⟩⟩
    · have hl : i < xs.length := by rw [h2.len]; exact hi
      exact ⟨xs, xs[i], .of hp, List.getElem?_eq_getElem hl⟩
    · exact ⟨xs, .of hp, by rw [h2.len]; exact hi⟩
    · obtain ⟨e, hx⟩ := hy
      subst e
      refine ⟨Same.refl _, ?_⟩
      have hx' := hx xs (.of hp)
      obtain ⟨d, e1, e2⟩ := h2.get' hx'
      rw [nth_of e1]
      exact e2.tu tu
theorem ei_listR {ds : List PyData} (h : EvL ρ F t Γ (· = ds)) : EvI ρ F (iList K t) Γ (fun n f => n = ds.length ∧ f = nth ds) := fun H0 σ H I R q => eis_listR h H0 σ H I R fun J p n f H' ⟨ds', e1, e2, e3⟩ => by subst e1; exact q J p n f H' ⟨e2, e3⟩
theorem ei_listF {ds : List PyData} (h : EvD ρ F t Γ (.list ds)) : EvI ρ F (iList K t) Γ (fun n f => n = ds.length ∧ f = nth ds) := fun H0 σ H I R q =>
  h H0 σ H I _ fun v d H1 pd I1 m1 t1 => by
    subst pd
    obtain ⟨a, xs, rfl, hf, h2⟩ := t1.of_lst
    have h1 := (I1.fr a _ hf).1
    refine ⟨a, rfl, ⟨xs, .of h1⟩, q _ (some (a, .lst xs)) ds.length (nth ds) H1 ⟨rfl, rfl⟩ I1 m1 h1 ⟨(I1.fr a _ hf).2, fun i t hi m e => by
      have := (I1.fresh i t a hi m e).2.2
      rw [hf] at this
      cases this⟩ ⟨fun i H hi tu hp => ?_, fun i H hi tu hp => ?_, fun i x H H' hi tu hp hy => ?_⟩⟩
    · have hl : i < xs.length := by rw [h2.len]; exact hi
      exact ⟨xs, xs[i], .of hp, List.getElem?_eq_getElem hl⟩
    · exact ⟨xs, .of hp, by rw [h2.len]; exact hi⟩
    · obtain ⟨e, hx⟩ := hy
      subst e
      refine ⟨Same.refl _, ?_⟩
      have hx' := hx xs (.of hp)
      obtain ⟨d, e1, e2⟩ := h2.get' hx'
      rw [nth_of e1]
      exact e2.tu tu
theorem wk_rng {Hs : Hp} {lo : Int} {n : Nat} : Wk F Hs (Itr lo n) none n (fun i => .int (lo + i)) := ⟨fun i H hi _ _ => hi, fun i H hi _ _ => hi, fun i x H H' hi _ _ hy => by
  obtain ⟨e, hx⟩ := hy
  subst e; subst hx
  exact ⟨Same.refl _, .int _⟩⟩
theorem eis_rng1 {PA : Int → Prop} (h : EvA ρ F tr Γ (fun l => ∃ j : Int, l = [.int j] ∧ PA j)) (hb : ∀ j, PA j → -(2 ^ 62) ≤ j ∧ j < 2 ^ 62) : EvI ρ F (iRng1 tr) Γ (fun n f => ∃ j, PA j ∧ n = j.toNat ∧ f = fun i => .int i) := fun H0 σ H I R q =>
  h H0 σ H I _ fun vs ds H1 pd I1 m1 t1 => by
    obtain ⟨j, rfl, pj⟩ := pd
    cases t1 with
    | cons t1 tn =>
      cases tn
      cases t1
      exact ⟨j, rfl, (hb j pj).1, (hb j pj).2, q _ none j.toNat _ H1 ⟨j, pj, rfl, by funext i; rw [Int.zero_add]⟩ I1 m1 trivial trivial wk_rng⟩
theorem ei_rng1 {j : Int} (h : EvA ρ F tr Γ (· = [.int j])) (hb : -(2 ^ 62) ≤ j ∧ j < 2 ^ 62) : EvI ρ F (iRng1 tr) Γ (fun n f => n = j.toNat ∧ f = fun i => .int i) := fun H0 σ H I R q =>
  eis_rng1 (PA := (· = j)) (fun H0 σ H I Q q => h H0 σ H I Q fun vs ds H' pd => q vs ds H' ⟨j, pd, rfl⟩) (fun _ e => by subst e; exact hb) H0 σ H I R fun J p n f H' ⟨j', e1, e2, e3⟩ => by subst e1; exact q J p n f H' ⟨e2, e3⟩
theorem ei_rng2 {i j : Int} (h : EvA ρ F tr Γ (· = [.int i, .int j])) (hb : -(2 ^ 62) ≤ i ∧ i < 2 ^ 62 ∧ -(2 ^ 62) ≤ j ∧ j < 2 ^ 62) : EvI ρ F (iRng2 tr) Γ (fun n f => n = (j - i).toNat ∧ f = fun k => .int (i + k)) := fun H0 σ H I R q =>
  h H0 σ H I _ fun vs ds H1 pd I1 m1 t1 => by
    subst pd
    cases t1 with
    | cons t1 tn =>
      cases tn with
      | cons t2 tn =>
        cases tn
        cases t1; cases t2
        exact ⟨i, j, rfl, hb, q _ none _ _ H1 ⟨rfl, rfl⟩ I1 m1 trivial trivial wk_rng⟩
theorem ei_rng3 {i j c : Int} {n : Nat} (h : EvA ρ F tr Γ (· = [.int i, .int j, .int c])) (hb : RgC i j c n) : EvI ρ F (iRng3 tr) Γ (fun m f => m = n ∧ f = fun k => .int (i + (k : Nat) * c)) := fun H0 σ H I R q =>
  h H0 σ H I _ fun vs ds H1 pd I1 m1 t1 => by
    subst pd
    cases t1 with
    | cons t1 tn =>
      cases tn with
      | cons t2 tn =>
        cases tn with
        | cons t3 tn =>
          cases tn
          cases t1; cases t2; cases t3
          exact ⟨i, j, c, n, rfl, hb, q _ none _ _ H1 ⟨rfl, rfl⟩ I1 m1 trivial trivial ⟨fun i H hi _ _ => hi, fun i H hi _ _ => hi, fun i x H H' hi _ _ hy => by
            obtain ⟨e, hx⟩ := hy
            subst e; subst hx
            exact ⟨Same.refl _, .int _⟩⟩⟩
/-- a text -/
def sgn (z : Str) (i : Nat) : PyData := .str ⟨#[z.cps.toList.getD i 0]⟩
theorem ei_str {z : Str} (h : EvD ρ F t Γ (.str z)) : EvI ρ F (iStr t) Γ (fun n f => n = z.cps.size ∧ f = sgn z) := fun H0 σ H I R q =>
  h H0 σ H I _ fun v d H1 pd I1 m1 t1 => by
    subst pd
    cases t1
    refine ⟨z, rfl, q _ none z.cps.size (sgn z) H1 ⟨rfl, rfl⟩ I1 m1 trivial trivial ⟨fun i H hi _ _ => hi, fun i H hi _ _ => hi, fun i x H H' hi _ _ hy => ?_⟩⟩
    obtain ⟨e, c, hc, hx⟩ := hy
    subst e; subst hx
    have e : z.cps.toList.getD i 0 = c := by
      rw [List.getD_eq_getElem?_getD, Array.getElem?_toList, hc]
      rfl
    refine ⟨Same.refl _, ?_⟩
    unfold sgn
    rw [e]
    exact .str _
/-! ### targets -/
def BndG (ρ : Rl) (F : Hp) (g : TG) (d : PyData) (Γ Γ' : List Ty) : Prop :=
  ∀ (H0 : Hp) (σ : L2.St) (H : Hp) (v : V), SS ρ H0 F σ H Γ → TD F H v d → ∀ Q : L2.St → Hp → Prop, (∀ σ', SS ρ H0 F σ' H Γ' → Q σ' H) → g v σ H Q
theorem bg_name {i : Nat} : BndG ρ F (gName i) d Γ (Γ.set i (.dat d)) := fun H0 σ H v I td Q q => q _ (I.setD i td)
def BndGs (ρ : Rl) (F : Hp) (g : TGs) (d : List PyData) (Γ Γ' : List Ty) : Prop :=
  ∀ (H0 : Hp) (σ : L2.St) (H : Hp) (v : List V), SS ρ H0 F σ H Γ → TDs F H v d → ∀ Q : L2.St → Hp → Prop, (∀ σ', SS ρ H0 F σ' H Γ' → Q σ' H) → g v σ H Q
theorem bgs_nil : BndGs ρ F gNil [] Γ Γ := fun H0 σ H v I td Q q => by
  cases td
  exact ⟨rfl, q _ I⟩
theorem bgs_cons {g : TG} {gs : TGs} {ds : List PyData} {Γ1 Γ2 : List Ty} (h : BndG ρ F g d Γ Γ1) (hs : BndGs ρ F gs ds Γ1 Γ2) : BndGs ρ F (gCons g gs) (d :: ds) Γ Γ2 := fun H0 σ H v I td Q q => by
  cases td with
  | cons t1 t2 => exact ⟨_, _, rfl, h H0 σ H _ I t1 _ fun σ1 I1 => hs H0 σ1 H _ I1 t2 Q q⟩
theorem bg_tup {gs : TGs} {ds : List PyData} {n : Nat} {Γ1 : List Ty} (hn : ds.length = n) (hs : BndGs ρ F gs ds Γ Γ1) : BndG ρ F (gTup K n gs) (.tuple ds) Γ Γ1 := fun H0 σ H v I td Q q => by
  obtain ⟨a, xs, rfl, h1, h2⟩ := td.of_tup
  exact ⟨a, xs, rfl, .of h1, by rw [h2.len, hn], hs H0 σ H xs I h2 Q q⟩
variable {D : Ends} {ts tw : TS}
/-- target = e -/
theorem st_asgG {g : TG} {Γ' : List Ty} (I : SS ρ H0 F σ H Γ) (h : EvD ρ F t Γ d) (hg : BndG ρ F g d Γ Γ') (k : ∀ σ' H', Mv ρ H H' → SS ρ H0 F σ' H' Γ' → D.nx σ' H') : tAsg t g D σ H :=
  h H0 σ H I _ fun v d' H' pd I' m td => by
    subst pd
    exact hg H0 σ H' v I' td D.nx fun σ' I2 => k σ' H' m I2
/-- a, b = x, y -/
theorem st_par {i j : Nat} {x y : PyData} (I : SS ρ H0 F σ H Γ) (h : EvA ρ F tr Γ (· = [x, y])) (k : ∀ σ' H', SS ρ H0 F σ' H' ((Γ.set i (.dat x)).set j (.dat y)) → D.nx σ' H') : tPar i j tr D σ H :=
  h H0 σ H I _ fun vs ds H' pd I' m td => by
    subst pd
    cases td with
    | cons t1 tn =>
      cases tn with
      | cons t2 tn =>
        cases tn
        exact ⟨_, _, rfl, k _ H' ((I'.setD i t1).setD j t2)⟩
/-! ### for -/
theorem st_forP {wi : TI} {g : TG} {PI : Nat → (Nat → PyData) → Prop} (I : SS ρ H0 F σ H Γ) (hi : EvI ρ F wi Γ PI) (G : (n : Nat) → (f : Nat → PyData) → PI n f → Nat → List Ty) (Γb : (n : Nat) → (f : Nat → PyData) → PI n f → Nat → List Ty)
    (h0 : ∀ n f p H0 σ H, SS ρ H0 F σ H Γ → SS ρ H0 F σ H (G n f p 0)) (hg : ∀ n f p i, i < n → BndG ρ F g (f i) (G n f p i) (Γb n f p i))
    (hs : ∀ n f p H0' σ H, Same H0 H0' → ∀ i, i < n → SS ρ H0' F σ H (Γb n f p i) → ts { D with nx := fun σ' H' => SS ρ H0' F σ' H' (G n f p (i + 1)), ct := fun σ' H' => SS ρ H0' F σ' H' (G n f p (i + 1)), bk := D.nx } σ H)
    (hd : ∀ n f p σ H, SS ρ H0 F σ H (G n f p n) → D.nx σ H) : tFor wi g ts D σ H :=
  hi H0 σ H I _ fun J p n f H1 pi I1 m1 hp po wk => by
    refine ⟨fun i m σ H => m = n - i ∧ i ≤ n ∧ SS ρ (flr H0 H1 p) F σ H (G n f pi i), ⟨n, by omega, Nat.zero_le _, h0 n f pi _ _ _ (I1.up p hp po)⟩, ?_⟩
    rintro i m σ2 H2 ⟨rfl, hin, I2⟩
    have tu : Tu H1 H2 := fun a xs h => I2.rel a _ (fun z => ρ.notup H1 a xs I1.inv z h) (flr_tup I1.rel I1.inv h)
    have pin : Pin p H2 := by
      cases p with
      | none => trivial
      | some ao =>
        obtain ⟨a, o⟩ := ao
        exact I2.rel a o po.1 (flr_pin I1.rel po.1 hp)
    by_cases hlt : i < n
    · refine .inr ⟨wk.go i H2 hlt tu pin, fun σ' H' => SS ρ (flr H0 H1 p) F σ' H' (G n f pi (i + 1)), fun σ' H' h => ⟨n - (i + 1), by omega, rfl, hlt, h⟩, fun x H3 hy => ?_⟩
      obtain ⟨s, td⟩ := wk.yld i x H2 H3 hlt tu pin hy
      exact hg n f pi i hlt _ σ2 H3 x (I2.same s) td _ fun σ' I3 => hs n f pi _ σ' H3 flr_same i hlt I3
    · have e : i = n := by omega
      subst e
      exact .inl ⟨wk.stop i H2 (Nat.le_refl _) tu pin, hd i f pi σ2 H2 (I2.low flr_same)⟩
/-- over known things -/
theorem st_for {wi : TI} {g : TG} {n : Nat} {f : Nat → PyData} (I : SS ρ H0 F σ H Γ) (hi : EvI ρ F wi Γ (fun m h => m = n ∧ h = f)) (G Γb : Nat → List Ty) (h0 : ∀ H0 σ H, SS ρ H0 F σ H Γ → SS ρ H0 F σ H (G 0)) (hg : ∀ i, i < n → BndG ρ F g (f i) (G i) (Γb i))
    (hs : ∀ H0' σ H, Same H0 H0' → ∀ i, i < n → SS ρ H0' F σ H (Γb i) → ts { D with nx := fun σ' H' => SS ρ H0' F σ' H' (G (i + 1)), ct := fun σ' H' => SS ρ H0' F σ' H' (G (i + 1)), bk := D.nx } σ H)
    (hd : ∀ σ H, SS ρ H0 F σ H (G n) → D.nx σ H) : tFor wi g ts D σ H :=
  st_forP I hi (fun _ _ _ => G) (fun _ _ _ => Γb) (fun _ _ _ => h0) (fun m h p i hlt => by obtain ⟨rfl, rfl⟩ := p; exact hg i hlt) (fun m h p H0' σ H s i hlt => by obtain ⟨rfl, rfl⟩ := p; exact hs H0' σ H s i hlt) (fun m h p σ H => by obtain ⟨rfl, rfl⟩ := p; exact hd σ H)
/-! ### while -/
theorem st_while {α : Type} (x0 : α) (p : α → Prop) (G : α → List Ty) (μ : α → Nat) (I : SS ρ H0 F σ H (G x0)) (hp : p x0)
    (hs : ∀ x, p x → ∃ b, EvB ρ F tt (G x) (· = b) ∧ (b = true → ∀ σ H, SS ρ H0 F σ H (G x) → ts { D with nx := fun σ' H' => ∃ y, μ y < μ x ∧ p y ∧ SS ρ H0 F σ' H' (G y), ct := fun σ' H' => ∃ y, μ y < μ x ∧ p y ∧ SS ρ H0 F σ' H' (G y), bk := D.nx } σ H) ∧
      (b = false → ∀ σ H, SS ρ H0 F σ H (G x) → D.nx σ H)) : tWhile tt ts D σ H := by
  refine ⟨fun m σ H => ∃ x, m = μ x ∧ p x ∧ SS ρ H0 F σ H (G x), ⟨μ x0, x0, rfl, hp, I⟩, ?_⟩
  rintro m σ H ⟨x, rfl, px, Ix⟩
  obtain ⟨b, h1, h2, h3⟩ := hs x px
  refine h1 H0 σ H Ix _ fun b' H' eb I' m' => ?_
  subst eb
  cases b' with
  | true =>
    rw [if_pos rfl]
    exact ⟨fun σ' H' => ∃ y, μ y < μ x ∧ p y ∧ SS ρ H0 F σ' H' (G y), fun σ' H' ⟨y, l, py, Iy⟩ => ⟨μ y, l, y, rfl, py, Iy⟩, h2 rfl σ H' I'⟩
  | false =>
    rw [if_neg Bool.false_ne_true]
    exact h3 rfl σ H' I'
/-! ### [e for x in ..] -/
theorem wipe_get {vs : List Nat} {i : Nat} (hi : i ∉ vs) : (wipe σ vs)[i]? = σ[i]? := wipe_out hi
theorem SS.wipe (I : SS ρ H0 F σ H Γ) {vs : List Nat} (h : ∀ i ∈ vs, ∀ t, Γ[i]? = some t → t = .no) : SS ρ H0 F (wipe σ vs) H Γ where
  inv := I.inv
  rel := I.rel
  len := by rw [wipe_length]; exact I.len
  has := fun i t e n => by
    have hi : i ∉ vs := fun z => n (h i z t e)
    rw [wipe_get hi]
    exact I.has i t e n
  fresh := fun i t a e m z => by
    have hi : i ∉ vs := fun y => by
      have := h i y t e
      subst this
      cases m
    rw [wipe_get hi] at z
    exact I.fresh i t a e m z
  apart := fun i j t u a e1 e2 m1 m2 z1 z2 => by
    have hi : i ∉ vs := fun y => by
      have := h i y t e1
      subst this
      cases m1
    have hj : j ∉ vs := fun y => by
      have := h j y u e2
      subst this
      cases m2
    rw [wipe_get hi] at z1
    rw [wipe_get hj] at z2
    exact I.apart i j t u a e1 e2 m1 m2 z1 z2
  fr := I.fr
/-- the target of a comprehension -/
def BndW (ρ : Rl) (F : Hp) (g : TG) (vs : List Nat) (d : PyData) (Γ Γ' : List Ty) : Prop :=
  ∀ (H0 : Hp) (σ : L2.St) (H : Hp) (v : V), SS ρ H0 F (wipe σ vs) H Γ → TD F H v d → ∀ Q : L2.St → Hp → Prop, (∀ σ', L2.wipe σ' vs = L2.wipe σ vs → SS ρ H0 F σ' H Γ' → Q σ' H) → g v (L2.wipe σ vs) H Q
theorem set_set {α : Type} {l : List α} {i : Nat} {x y : α} : (l.set i x).set i y = l.set i y := List.set_set x
theorem wipe1 (i : Nat) : L2.wipe σ [i] = σ.set i none := rfl
theorem wipe2 (i j : Nat) : L2.wipe σ [i, j] = (σ.set j none).set i none := rfl
theorem bw_name {i : Nat} : BndW ρ F (gName i) [i] d Γ (Γ.set i (.dat d)) := fun H0 σ H v I td Q q => q _ (by
  rw [wipe1, wipe1, set_set, set_set]) (I.setD i td)
theorem bw_pair {i j : Nat} {x y : PyData} (hij : i ≠ j) : BndW ρ F (gTup K 2 (gCons (gName i) (gCons (gName j) gNil))) [i, j] (.tuple [x, y]) Γ ((Γ.set i (.dat x)).set j (.dat y)) := fun H0 σ H v I td Q q => by
  obtain ⟨a, xs, rfl, h1, h2⟩ := td.of_tup
  cases h2 with
  | cons t1 tn =>
    cases tn with
    | cons t2 tn =>
      cases tn
      refine ⟨a, _, rfl, .of h1, rfl, _, _, rfl, _, _, rfl, rfl, q _ ?_ ((I.setD i t1).setD j t2)⟩
      rw [wipe2, wipe2]
      apply List.ext_getElem?
      intro k
      by_cases e1 : k = i
      · subst e1
        simp only [List.getElem?_set, List.length_set]
        simp [Ne.symm hij]
      · by_cases e2 : k = j
        · subst e2
          simp only [List.getElem?_set, List.length_set]
          simp
        · simp only [List.getElem?_set, List.length_set, if_neg (Ne.symm e1), if_neg (Ne.symm e2)]
theorem el_lcP {wi : TI} {g : TG} {vs : List Nat} {PI : Nat → (Nat → PyData) → Prop} {PL : List PyData → Prop} (hi : EvI ρ F wi Γ PI) (hw : ∀ i ∈ vs, ∀ t, Γ[i]? = some t → t = .no) (P : (n : Nat) → (f : Nat → PyData) → PI n f → Nat → PyData → Prop)
    (he : ∀ n f p i, i < n → ∃ Γ', BndW ρ F g vs (f i) Γ Γ' ∧ EvS ρ F te Γ' (P n f p i)) (hn : ∀ n f, PI n f → n ≤ sizeLine) (hd : ∀ n f p es, es.length = n → (∀ (i : Nat) e, es[i]? = some e → P n f p i e) → PL es) : EvL ρ F (tLc wi g tYes te vs) Γ PL := fun H0 σ H I Q q =>
  hi H0 σ H I _ fun J p n f H1 pi I1 m1 hp po wk => by
    intro D hD
    have Dn : H D = none := m1.free (I1.newown hD) hD
    have nown := I1.newown hD
    have fD : F D = none := I1.frz0 hD
    have offD : Off ρ F σ Γ D := ⟨nown, fun i t hi m => I1.notslot hD hi m⟩
    have pD : ∀ a o, p = some (a, o) → a ≠ D := fun a o ep z => by
      subst ep
      subst z
      have hp' : H1 a = some o := hp
      rw [hD] at hp'
      cases hp'
    have zD : flr H0 H1 p D = none := by
      unfold flr
      rw [I1.base0 hD]
      simp only [hD]
      cases p with
      | none => rfl
      | some ao =>
        obtain ⟨a, o⟩ := ao
        simp only
        rw [if_neg (fun z => pD a o rfl z.symm)]
    have Iup := I1.up p hp po
    have I2 : SS ρ (flr H0 H1 p) F σ (upd H1 D (.lst [])) Γ := Iup.new hD
    refine ⟨fun i m H2 => m = n - i ∧ i ≤ n ∧ SS ρ (flr H0 H1 p) F σ H2 Γ ∧ Mv ρ H1 H2 ∧ ∃ acc es, H2 D = some (.lst acc) ∧ TDs F H2 acc es ∧ es.length = i ∧ ∀ (k : Nat) e, es[k]? = some e → P n f pi k e, ⟨n, by omega, Nat.zero_le _, I2, Mv.of (same_new hD), [], [], upd_same, .nil, rfl, fun k e z => by simp at z⟩, ?_⟩
    rintro i m H2 ⟨rfl, hin, I2, m2, acc, es, hA, tA, lA, pA⟩
    have tu : Tu H1 H2 := m2.tu I1.inv
    have pin : Pin p H2 := by
      cases p with
      | none => trivial
      | some ao =>
        obtain ⟨a, o⟩ := ao
        exact m2 a o po.1 hp
    by_cases hlt : i < n
    · refine .inr ⟨wk.go i H2 hlt tu pin, fun H' => i + 1 ≤ n ∧ SS ρ (flr H0 H1 p) F σ H' Γ ∧ Mv ρ H1 H' ∧ ∃ acc es, H' D = some (.lst acc) ∧ TDs F H' acc es ∧ es.length = i + 1 ∧ ∀ (k : Nat) e, es[k]? = some e → P n f pi k e, fun H' h => ⟨n - (i + 1), by omega, rfl, h⟩, fun x H3 hy => ?_⟩
      obtain ⟨s, td⟩ := wk.yld i x H2 H3 hlt tu pin hy
      have I3 := I2.same s
      obtain ⟨Γ', bw, ee⟩ := he n f pi i hlt
      refine bw _ σ H3 x (I3.wipe hw) td _ fun σ' ew I4 => ⟨ew, ?_⟩
      show te σ' H3 _
      refine ee _ σ' H3 I4 _ fun y e H4 pe I5 m5 t5 => ?_
      have hA4 : H4 D = some (.lst acc) := m5 D _ nown (s D _ hA)
      have la := tA.len
      refine ⟨acc, hA4, Nat.lt_of_lt_of_le (by omega) (hn n f pi), hlt, ?_⟩
      have nt : ∀ xs, H4 D ≠ some (.tup xs) := fun xs z => by
        rw [hA4] at z
        cases z
      have m34 : Mv ρ H2 H4 := (Mv.of s).trans m5
      have I6 : SS ρ (flr H0 H1 p) F σ H4 Γ := I2.on I5.inv m34
      have tu4 : Tu H4 (upd H4 D (.lst (acc ++ [y]))) := fun a xs z => by
        have na : a ≠ D := fun w => by
          subst w
          exact nt xs z
        rw [upd_ne na]
        exact z
      refine ⟨I6.off offD fD zD nt, fun b o nb z => ?_, acc ++ [y], es ++ [e], upd_same, ((tA.tu (m34.tu I2.inv)).snoc t5).tu tu4, by rw [List.length_append, lA]; rfl, fun k e' z => ?_⟩
      · have nb' : b ≠ D := ne_of_none z hD
        rw [upd_ne nb']
        exact m34 b o nb (m2 b o nb z)
      · by_cases hk : k < es.length
        · rw [List.getElem?_append_left hk] at z
          exact pA k e' z
        · have hk' : k = es.length := by
            have := (List.getElem?_eq_some_iff.mp z).1
            rw [List.length_append] at this
            simp at this
            omega
          subst hk'
          rw [List.getElem?_append_right (Nat.le_refl _), Nat.sub_self] at z
          have ez := Option.some.inj z
          subst ez
          rw [lA]
          exact pe
    · have e : i = n := by omega
      subst e
      exact .inl ⟨wk.stop i H2 (Nat.le_refl _) tu pin, q D acc es H2 (hd i f pi es lA pA) (I2.low flr_same) (m1.trans m2) Dn hA tA⟩
theorem list_of_fun {n : Nat} {h : Nat → PyData} {es : List PyData} (hl : es.length = n) (hp : ∀ (i : Nat) e, es[i]? = some e → e = h i) : es = (List.range n).map h := by
  apply List.ext_getElem?
  intro i
  rw [List.getElem?_map]
  by_cases hi : i < n
  · rw [List.getElem?_range hi, List.getElem?_eq_getElem (by omega)]
    exact congrArg some (hp i _ (List.getElem?_eq_getElem (by omega)))
  · rw [List.getElem?_eq_none (by omega), List.getElem?_eq_none (by rw [List.length_range]; omega)]
    rfl
/-- each element known -/
theorem el_lc {wi : TI} {g : TG} {vs : List Nat} {n : Nat} {f h : Nat → PyData} (hi : EvI ρ F wi Γ (fun m k => m = n ∧ k = f)) (hw : ∀ i ∈ vs, ∀ t, Γ[i]? = some t → t = .no)
    (he : ∀ i, i < n → ∃ Γ', BndW ρ F g vs (f i) Γ Γ' ∧ EvD ρ F te Γ' (h i)) (hn : n ≤ sizeLine) : EvL ρ F (tLc wi g tYes te vs) Γ (· = (List.range n).map h) :=
  el_lcP hi hw (fun _ _ _ i e => e = h i) (fun m k p i hlt => by obtain ⟨rfl, rfl⟩ := p; exact he i hlt) (fun m k p => by rw [p.1]; exact hn) fun m k p es hl hp => by
    obtain ⟨rfl, rfl⟩ := p
    exact list_of_fun hl hp
end
end NN
set_option Elab.async false
set_option linter.all false
set_option maxRecDepth 100000
set_option maxHeartbeats 4000000
/-! enumerate of a tuple -/
namespace NN
open PySem PySem.Spec PyProof.Rows L2

set_option maxHeartbeats 8000000 in
theorem meets_enumerate_new0 {v : Value} {o : Obj} {H : Heap → Prop} (B : Begins v o H) :
    Meets (Builtin.«enumerate.__new__» ⟨[.type "enumerate", v], []⟩) (fun _ R s => H s.heap ∧
      R (.ok (.ret (.ref (s.heap.push o).objs.size))) { s with heap := (s.heap.push o).push { cls := .type "enumerate", data := .fields #[.none, .bool false, .ref s.heap.objs.size, rawInt 0, .none, .none] } }) :=
  .of_wp fun prog w A R s h => by
    obtain ⟨hp, g, d, tk, os⟩ := s; obtain ⟨h1, h⟩ := h
    have hsub := sub_enumerate
    have q1 : ∀ {A' : Around} {E : Value → Shared → Prop} {Q : Value → Shared → Prop}, Q (.ref hp.objs.size) ⟨hp.push o, g, d, tk, os⟩ → wpAny (model prog w) A' (pyIter v) Q E ⟨hp, g, d, tk, os⟩ :=
      fun q => B.iter prog w _ _ ⟨hp, g, d, tk, os⟩ _ h1 q
    wp_walk using q1
    refine wpAny_stack_any fun st => wpAny_pure ?_
    split
    · rename_i c _ _ _ _ _
      cases (c == Value.type "enumerate")
      · wp_walk using q1
        exact ⟨_, rfl, h⟩
      · wp_walk using q1
        exact ⟨_, rfl, h⟩
    · wp_walk using q1
      exact ⟨_, rfl, h⟩
section
variable {prog : Program} {w : World} {A : Around} {E : Value → Shared → Prop} {s : Shared}
theorem enum_begins0 {v : Value} {o : Obj} {H : Heap → Prop} {Q : Value → Shared → Prop} (B : Begins v o H) (h1 : H s.heap)
    (h : ∀ h', IsEnum h' (s.heap.objs.size + 1) s.heap.objs.size 0 .none → h'.get? s.heap.objs.size = some o → h'.objs.size = s.heap.objs.size + 2 →
      (∀ b o, s.heap.get? b = some o → h'.get? b = some o) → Q (.ref (s.heap.objs.size + 1)) { s with heap := h' }) :
    wpAny (model prog w) A (PySem.call (.type "enumerate") [v]) Q E s := by
  refine callType_new F.called_enumerate (by decide) (F.typeCall_enumerate_1 _) (F.newCall_enumerate_1 _) (fun obj => F.args_object_init_2 obj _) F.entry_enumerate_new
    (meets_enumerate_new0 B) ⟨h1, ?_⟩
  have hz : (s.heap.push o).objs.size = s.heap.objs.size + 1 := Heap.size_push ..
  show _ ∧ _
  rw [hz]
  have he : IsEnum ((s.heap.push o).push { cls := .type "enumerate", data := .fields #[.none, .bool false, .ref s.heap.objs.size, rawInt 0, .none, .none] }) (s.heap.objs.size + 1) s.heap.objs.size 0 .none := by
    have := Heap.get?_push_size (s.heap.push o) (o := { cls := .type "enumerate", data := .fields #[.none, .bool false, .ref s.heap.objs.size, rawInt 0, .none, .none] }) rfl
    rw [hz] at this; exact this
  refine ⟨⟨_, he, rfl⟩, h _ he (Heap.get?_push_of_some _ (Heap.get?_push_size _ B.free)) (by rw [Heap.size_push, hz]) fun b o x => Heap.get?_push_of_some _ (Heap.get?_push_of_some _ x)⟩
end
def IteT (K : PySem.W.Frag) (a : Addr) : It :=
  ⟨fun i H => ∃ (xs : List V) (x : V), SqT K H a xs ∧ xs[i]? = some x, fun i H v H' => ∃ T x, v = .ref T ∧ H T = none ∧ H' = upd H T (.tup [.int (i : Nat), x]) ∧ ∀ xs, SqT K H a xs → xs[i]? = some x, fun i H => ∃ xs : List V, SqT K H a xs ∧ xs.length ≤ i⟩
theorem turn_enumT {P : Program} {w : World} {K : PySem.W.Frag} {elts : List Expr} {kk : Nat} {tpos : Pos} (a e it : Addr) :
    Turn P w K (.Tuple elts kk tpos) (IteT K a) [e, it] e (fun i h => (∃ old, IsEnum h e it ((i : Nat) : Int) old) ∧ h.IsTupleIter it a i ∧ e ≠ it) where
  mem := by simp
  obj := fun i h st b hb => by
    obtain ⟨⟨old, he⟩, ⟨o, ho, hc, hd⟩, _⟩ := st
    have e' : b = e ∨ b = it := by simpa using hb
    rcases e' with z | z
    · rw [z]; exact ⟨_, he, fun v q => nomatch q⟩
    · rw [z]; exact ⟨o, ho, fun v q => by rw [hd] at q; cases q⟩
  keep := fun i h h' st k => let ⟨⟨old, he⟩, hi, hne⟩ := st; ⟨⟨old, k e (by simp) _ he⟩, hi.at fun o q => k it (by simp) o q, hne⟩
  item := by
    intro X hP hw hK hc i pins s σ H E I hf st hg
    subst hP hw hK
    obtain ⟨⟨old, he⟩, hit, hne⟩ := st
    obtain ⟨xs, x, hq, hx⟩ := hg
    obtain ⟨its, rv, p, hz⟩ := I.tuple hq
    obtain ⟨u, hu, ru⟩ := rv.get hx
    have hel : e < s.heap.objs.size := Heap.lt_size he
    have hil : it < s.heap.objs.size := by obtain ⟨_, q, _⟩ := hit; exact Heap.lt_size q
    have pt : s.heap.IsTuple a its.toArray := p
    have nea : e ≠ a := fun z => by
      obtain ⟨o, ho, hcc, _⟩ := p
      rw [← z, he] at ho
      cases ho
      simp at hcc
    have nia : a ≠ it := fun z => by
      obtain ⟨o, ho, hcc, _⟩ := p
      obtain ⟨o2, ho2, hc2, _⟩ := hit
      rw [z, ho2] at ho
      cases ho
      rw [hc2] at hcc
      simp at hcc
    have hlt : i < its.toArray.size := by
      have := (List.getElem?_eq_some_iff.mp hu).1
      simpa using this
    refine wpAny_pyNext_enum_itemD (Draws.tuple (A := X.A.in1) (I.ok.hd hc) it a nia its.toArray) he ⟨hit, pt⟩ hlt hne (by simp [hne, nea]) fun x' h' tk hx' ho hst hT hsz hk => ?_
    have ex : x' = u := by
      have h2 : its.toArray[i]? = some u := by simpa using hu
      rw [h2] at hx'
      exact (Option.some.inj hx').symm
    subst ex
    refine ⟨_, rfl, wpAny_letOwnedTupleGo_enum (s := { s with heap := h', toks := tk + 1 }) ho fun h'' he' sb => ?_⟩
    have hT2 : h''.get? s.heap.objs.size = some { cls := .type "tuple", data := .seq #[.int i tk, x'] } := (sb.2 _ (Nat.ne_of_gt hel)).trans hT
    have new : ObjOk X.prog X.w (upd H s.heap.objs.size (.tup [.int (i : Nat), x])) h'' s.heap.objs.size (.tup [.int (i : Nat), x]) :=
      ⟨by show 2 ≤ sizeLine; decide, [.int i tk, x'], .cons ⟨_, rfl⟩ (.cons ru .nil), ⟨_, hT2, rfl, _, rfl⟩⟩
    have I1 : Inv X pins σ (upd H s.heap.objs.size (.tup [.int (i : Nat), x])) { s with heap := h'', toks := tk + 1 } :=
      I.turnedNew (ch := [e, it]) (fun b ob hb q => (sb.2 b (fun z => hb (by simp [z]))).trans (hk b ob (fun z => hb (by simp [z])) (fun z => hb (by simp [z])) q)) hf (Nat.le_refl _) new
    refine ⟨.ref s.heap.objs.size, _, I1, rfl, ⟨_, x, rfl, I.hok.fresh (Nat.le_refl _), rfl, fun ys hy => by rw [I.tuple_inj hy hq]; exact hx⟩, ⟨⟨x', ?_⟩, hst.1.at fun o q => (sb.2 it (Ne.symm hne)).trans q, hne⟩, fun b hb => ?_⟩
    · have e1 : ((i + 1 : Nat) : Int) = (i : Int) + 1 := by omega
      rw [e1]; exact he'
    · have hb' : b < s.heap.objs.size := by
        have e' : b = e ∨ b = it := by simpa using hb
        rcases e' with z | z
        · rw [z]; exact hel
        · rw [z]; exact hil
      rw [upd_ne (Nat.ne_of_lt hb')]
      exact (hf b hb).1
  done := by
    intro X hP hw hK hc i pins s σ H E I hf st hg
    subst hP hw hK
    obtain ⟨⟨old, he⟩, hit, hne⟩ := st
    obtain ⟨xs, hq, hx⟩ := hg
    obtain ⟨its, rv, p, hz⟩ := I.tuple hq
    obtain ⟨f0, f1, f2, f3, f4, f5⟩ := hf it (by simp)
    have hl := rv.length
    have hT : s.TypeIs (.ref e) "enumerate" := ⟨_, he, rfl⟩
    unfold pyNext
    refine wpAny_bind (wpAny_attempt (wpAny_callSpecial?_slot (name := Str.ofString "__next__") hT F.slot_enumerate_next
      (wpAny_call_entry F.slot_enumerate_next hT F.entry_enumerate_next ?_ (F.args_enumerate_next_1 _))))
    show wpAny _ _ (field (.ref e) 2 >>= _) _ _ _
    refine wpAny_bind (wpAny_field he rfl (x := .ref it) rfl ?_)
    refine wpAny_bind (wpAny_nextOf_tuple_end (A := X.A.in1) (I.ok.hd hc) hit (show s.heap.IsTuple a its.toArray from p) (by simp; omega) fun h' x he' hx' => ?_)
    obtain ⟨o, ho, hcc⟩ := hx'
    refine wpAny_bind (wpAny_isInstance (T := "StopIteration") (b := true) ⟨o, ho, hcc⟩ isSubtype_stop ?_)
    exact wpAny_pure ⟨rfl, I.turned (t' := s.toks) (fun b o hb q => he' b o hb q) f0 f1 f3 f4 f5⟩
  self := fun A i s Q E st h => let ⟨⟨_, he⟩, _⟩ := st; wpAny_pyIter_enum he h
def iEnumT (K : PySem.W.Frag) (ta : TA) : TI := fun σ H R => ta σ H fun vs H1 => ∃ a xs, vs = [.ref a] ∧ SqT K H1 a xs ∧ R (IteT K a) H1
theorem pi_enumT {X : Cx} {e : Expr} {ta : TA} {p pos tpos : Pos} {elts : List Expr} {kk : Nat} (hg : Gl X "enumerate") (hm : X.mg "enumerate" = none) (ha : PA X [e] ta) (hs : starEach [e] X.env = [(false, eval e X.env)] := by rfl) :
    PI X (.Tuple elts kk tpos) (.Call (.Name "enumerate" p) [e] [] pos) (iEnumT X.K ta) := by
  refine ⟨fun pins s σ H R I h => ?_⟩
  refine Call_ (ld_blt I hg hm boot_enumerate (PyProof.Rows.callWith_type1 (thn (ha.run pos pins s σ H _ I h) fun us s1 ⟨vs, H1, I1, r1, q1⟩ => ?_) hs rfl))
  obtain ⟨a, xs, ex, hq, q⟩ := q1
  subst ex
  cases r1 with
  | cons r rr =>
    cases rr
    cases r
    obtain ⟨its, rv, p', hz⟩ := I1.tuple hq
    refine enum_begins0 (begins_tuple a its.toArray) (show s1.heap.IsTuple a its.toArray from p') fun h' he hit hsz hk => wpAny_pyIter_enum he ?_
    have I2 : Inv X pins σ H1 { s1 with heap := h' } := I1.kept (t' := s1.toks) hk
    refine ⟨s1.heap.objs.size + 1, [s1.heap.objs.size + 1, s1.heap.objs.size], _, _, H1, rfl, I2, turn_enumT a (s1.heap.objs.size + 1) s1.heap.objs.size, ⟨⟨.none, he⟩, ⟨_, hit, rfl, rfl⟩, Nat.succ_ne_self _⟩, fun b hb => ?_, q⟩
    have e' : b = s1.heap.objs.size + 1 ∨ b = s1.heap.objs.size := by simpa using hb
    have hle : s1.heap.objs.size ≤ b := by
      rcases e' with z | z
      · rw [z]; exact Nat.le_add_right _ _
      · rw [z]; exact Nat.le_refl _
    exact I1.fpOk hle (I1.hok.fresh hle)
section
variable {ρ : Rl} {F : Hp} {Γ : List Ty} {K : PySem.W.Frag} {t : TE}
theorem ei_enumT {ds : List PyData} (h : EvD ρ F t Γ (.tuple ds)) : EvI ρ F (iEnumT K (tCons t tNil)) Γ (fun n f => n = ds.length ∧ f = fun i => .tuple [.int i, nth ds i]) := fun H0 σ H I R q =>
  h H0 σ H I _ fun v d H1 pd I1 m1 t1 => by
    subst pd
    obtain ⟨a, xs, rfl, h1, h2⟩ := t1.of_tup
    refine ⟨a, xs, rfl, .of h1, q _ none ds.length _ H1 ⟨rfl, rfl⟩ I1 m1 trivial trivial ⟨fun i H hi tu _ => ?_, fun i H hi tu _ => ?_, fun i x H H' hi tu _ hy => ?_⟩⟩
    · have hl : i < xs.length := by rw [h2.len]; exact hi
      exact ⟨xs, xs[i], .of (tu _ _ h1), List.getElem?_eq_getElem hl⟩
    · exact ⟨xs, .of (tu _ _ h1), by rw [h2.len]; exact hi⟩
    · obtain ⟨T, y, rfl, nT, rfl, hx⟩ := hy
      refine ⟨same_new nT, ?_⟩
      have hx' := hx xs (.of (tu _ _ h1))
      obtain ⟨d, e1, e2⟩ := h2.get' hx'
      rw [nth_of e1]
      exact .tup upd_same (.cons (.int _) (.cons ((e2.tu tu).tu (Tu.of (same_new nT))) .nil))
end
end NN
set_option Elab.async false
set_option linter.all false
set_option maxRecDepth 100000
set_option maxHeartbeats 4000000
/-! The plain law: cells of books, written and read, no program in sight. -/
namespace NM
open PySem

/-! ### numbers -/
def nc (n : Int) : List Int := if h : 127 < n then (128 + n % 128) :: nc (n / 128) else [n]
termination_by n.toNat
decreasing_by omega
theorem nc_big {n : Int} (h : 127 < n) : nc n = (128 + n % 128) :: nc (n / 128) := by
  rw [nc]
  rw [dif_pos h]
theorem nc_small {n : Int} (h : ¬ 127 < n) : nc n = [n] := by
  rw [nc]
  rw [dif_neg h]
theorem nc_ne (n : Int) : nc n ≠ [] := by
  by_cases h : 127 < n
  · rw [nc_big h]; simp
  · rw [nc_small h]; simp
/-- the first cell of a number may be 0, if it is the only one -/
def rdF : Bool → List Int → Option (Int × List Int)
  | _, [] => none
  | b, c :: r => if c < 128 then (if c = 0 ∧ b = false then none else some (c, r)) else
    match rdF false r with
    | none => none
    | some (n, r') => some (c % 128 + 128 * n, r')
def rdN (l : List Int) : Option (Int × List Int) := rdF true l
def Cs (l : List Int) : Prop := ∀ c ∈ l, 0 ≤ c ∧ c < 256
theorem Cs.append {a b : List Int} (h : Cs a) (k : Cs b) : Cs (a ++ b) := fun c hc => (List.mem_append.mp hc).elim (h c) (k c)
theorem Cs.left {a b : List Int} (h : Cs (a ++ b)) : Cs a := fun c hc => h c (List.mem_append_left _ hc)
theorem Cs.right {a b : List Int} (h : Cs (a ++ b)) : Cs b := fun c hc => h c (List.mem_append_right _ hc)
theorem Cs.tail {a : Int} {b : List Int} (h : Cs (a :: b)) : Cs b := fun c hc => h c (List.mem_cons_of_mem _ hc)
theorem Cs.take {l : List Int} (h : Cs l) (n : Nat) : Cs (l.take n) := fun c hc => h c (List.mem_of_mem_take hc)
theorem Cs.drop {l : List Int} (h : Cs l) (n : Nat) : Cs (l.drop n) := fun c hc => h c (List.mem_of_mem_drop hc)
theorem Cs.cons {c : Int} {l : List Int} (h : 0 ≤ c ∧ c < 256) (k : Cs l) : Cs (c :: l) := fun d hd => by
  rcases List.mem_cons.mp hd with e | e
  · rw [e]; exact h
  · exact k d e
theorem Cs.nil : Cs [] := fun c h => by simp at h
theorem nc_cs {n : Int} (h : 0 ≤ n) : Cs (nc n) := by
  by_cases hb : 127 < n
  · rw [nc_big hb]
    have ih := nc_cs (n := n / 128) (by omega)
    exact Cs.cons (by omega) ih
  · rw [nc_small hb]
    exact Cs.cons (by omega) Cs.nil
termination_by n.toNat
decreasing_by omega
theorem rdF_nc {n : Int} {b : Bool} (h : 0 ≤ n) (hb : n ≠ 0 ∨ b = true) (r : List Int) : rdF b (nc n ++ r) = some (n, r) := by
  by_cases hn : 127 < n
  · rw [nc_big hn]
    have ih := rdF_nc (n := n / 128) (b := false) (by omega) (.inl (by omega)) r
    show rdF b ((128 + n % 128) :: (nc (n / 128) ++ r)) = _
    unfold rdF
    rw [if_neg (by omega), ih]
    simp only
    congr 2
    omega
  · rw [nc_small hn]
    show rdF b (n :: r) = _
    unfold rdF
    rw [if_pos (by omega), if_neg]
    rintro ⟨h1, h2⟩
    rcases hb with z | z
    · exact z h1
    · rw [h2] at z; cases z
termination_by n.toNat
decreasing_by omega
theorem rdF_is : ∀ {l : List Int} {b : Bool} {n : Int} {r : List Int}, Cs l → rdF b l = some (n, r) → l = nc n ++ r ∧ 0 ≤ n ∧ (n ≠ 0 ∨ b = true)
  | [], b, n, r, _, h => by simp [rdF] at h
  | c :: l, b, n, r, hc, h => by
    have c0 := hc c List.mem_cons_self
    unfold rdF at h
    split at h
    · rename_i h1
      split at h
      · cases h
      · rename_i h2
        injection h with h
        injection h with e1 e2
        subst e1; subst e2
        refine ⟨?_, c0.1, ?_⟩
        · rw [nc_small (by omega)]; rfl
        · by_cases z : c = 0
          · right
            cases b with
            | true => rfl
            | false => exact absurd ⟨z, rfl⟩ h2
          · exact .inl z
    · rename_i h1
      cases q : rdF false l with
      | none => rw [q] at h; cases h
      | some p =>
        obtain ⟨m, r'⟩ := p
        rw [q] at h
        injection h with h
        injection h with e1 e2
        subst e1; subst e2
        obtain ⟨i1, i2, i3⟩ := rdF_is hc.tail q
        have i3' : m ≠ 0 := by
          rcases i3 with z | z
          · exact z
          · cases z
        refine ⟨?_, by omega, .inl (by omega)⟩
        rw [nc_big (by omega)]
        have e1 : 128 + (c % 128 + 128 * m) % 128 = c := by omega
        have e2 : (c % 128 + 128 * m) / 128 = m := by omega
        rw [e1, e2, List.cons_append, ← i1]

/-! ### things that are written and read -/
structure Cd (α : Type) where
  pr : α → List Int
  rd : List Int → Option (α × List Int)
  ok : α → Prop
  fwd : ∀ x r, ok x → rd (pr x ++ r) = some (x, r)
  bwd : ∀ l x r, Cs l → rd l = some (x, r) → l = pr x ++ r ∧ ok x
  pos : ∀ x, pr x ≠ []
  cs : ∀ x, ok x → Cs (pr x)
namespace Cd
def num : Cd Int where
  pr := nc
  rd := rdN
  ok := fun n => 0 ≤ n
  fwd := fun x r h => rdF_nc h (.inr rfl) r
  bwd := fun l x r hc h => ⟨(rdF_is hc h).1, (rdF_is hc h).2.1⟩
  pos := nc_ne
  cs := fun x h => nc_cs h
variable {α β : Type}
theorem shorter (c : Cd α) {l : List Int} {x : α} {r : List Int} (hc : Cs l) (h : c.rd l = some (x, r)) : r.length < l.length := by
  obtain ⟨e, _⟩ := c.bwd l x r hc h
  have := c.pos x
  rw [e, List.length_append]
  have : 0 < (c.pr x).length := List.length_pos_iff.mpr this
  omega
theorem suffix (c : Cd α) {l : List Int} {x : α} {r : List Int} (hc : Cs l) (h : c.rd l = some (x, r)) : r = l.drop (l.length - r.length) := by
  obtain ⟨e, _⟩ := c.bwd l x r hc h
  rw [e, List.length_append, Nat.add_sub_cancel, List.drop_left]
theorem csr (c : Cd α) {l : List Int} {x : α} {r : List Int} (hc : Cs l) (h : c.rd l = some (x, r)) : Cs r := by
  rw [c.suffix hc h]
  exact hc.drop _
/-- one after another -/
def pair (a : Cd α) (b : Cd β) : Cd (α × β) where
  pr := fun p => a.pr p.1 ++ b.pr p.2
  rd := fun l => match a.rd l with
    | none => none
    | some (x, r) => match b.rd r with
      | none => none
      | some (y, r') => some ((x, y), r')
  ok := fun p => a.ok p.1 ∧ b.ok p.2
  fwd := fun x r h => by
    rw [List.append_assoc, a.fwd x.1 _ h.1]
    simp only
    rw [b.fwd x.2 _ h.2]
  bwd := fun l x r hc h => by
    cases q : a.rd l with
    | none => rw [q] at h; cases h
    | some p =>
      obtain ⟨y, r1⟩ := p
      rw [q] at h
      simp only at h
      cases q2 : b.rd r1 with
      | none => rw [q2] at h; cases h
      | some p =>
        obtain ⟨z, r2⟩ := p
        rw [q2] at h
        injection h with h
        injection h with e1 e2
        subst e1; subst e2
        obtain ⟨i1, i2⟩ := a.bwd l y r1 hc q
        obtain ⟨j1, j2⟩ := b.bwd r1 z r2 (a.csr hc q) q2
        refine ⟨?_, i2, j2⟩
        rw [i1, j1, List.append_assoc]
  pos := fun x h => a.pos x.1 (List.append_eq_nil_iff.mp h).1
  cs := fun x h => (a.cs x.1 h.1).append (b.cs x.2 h.2)
/-- so many -/
def rdM (rd : List Int → Option (α × List Int)) : Nat → List Int → Option (List α × List Int)
  | 0, l => some ([], l)
  | n + 1, l => match rd l with
    | none => none
    | some (x, r) => match rdM rd n r with
      | none => none
      | some (xs, r') => some (x :: xs, r')
theorem rdM_fwd (a : Cd α) : ∀ (xs : List α) (r : List Int), (∀ x ∈ xs, a.ok x) → rdM a.rd xs.length (xs.flatMap a.pr ++ r) = some (xs, r)
  | [], r, _ => rfl
  | x :: xs, r, h => by
    show rdM a.rd (xs.length + 1) ((a.pr x ++ xs.flatMap a.pr) ++ r) = _
    unfold rdM
    rw [List.append_assoc, a.fwd x _ (h x List.mem_cons_self)]
    simp only
    rw [rdM_fwd a xs r fun y hy => h y (List.mem_cons_of_mem _ hy)]
theorem rdM_bwd (a : Cd α) : ∀ (n : Nat) (l : List Int) (xs : List α) (r : List Int), Cs l → rdM a.rd n l = some (xs, r) → l = xs.flatMap a.pr ++ r ∧ xs.length = n ∧ ∀ x ∈ xs, a.ok x
  | 0, l, xs, r, _, h => by
    injection h with h
    injection h with e1 e2
    subst e1; subst e2
    exact ⟨rfl, rfl, fun x h => by simp at h⟩
  | n + 1, l, xs, r, hc, h => by
    unfold rdM at h
    cases q : a.rd l with
    | none => rw [q] at h; cases h
    | some p =>
      obtain ⟨y, r1⟩ := p
      rw [q] at h
      simp only at h
      cases q2 : rdM a.rd n r1 with
      | none => rw [q2] at h; cases h
      | some p =>
        obtain ⟨ys, r2⟩ := p
        rw [q2] at h
        injection h with h
        injection h with e1 e2
        subst e1; subst e2
        obtain ⟨i1, i2⟩ := a.bwd l y r1 hc q
        obtain ⟨j1, j2, j3⟩ := rdM_bwd a n r1 ys r2 (a.csr hc q) q2
        refine ⟨?_, by rw [List.length_cons, j2], fun x hx => ?_⟩
        · show l = (a.pr y ++ ys.flatMap a.pr) ++ r2
          rw [i1, j1, List.append_assoc]
        · rcases List.mem_cons.mp hx with e | e
          · rw [e]; exact i2
          · exact j3 x e
def prM (a : Cd α) (xs : List α) : List Int := nc xs.length ++ xs.flatMap a.pr
def rdMs (rd : List Int → Option (α × List Int)) (l : List Int) : Option (List α × List Int) := match rdN l with
  | none => none
  | some (n, r) => rdM rd n.toNat r
theorem cs_flat (a : Cd α) : ∀ (xs : List α), (∀ x ∈ xs, a.ok x) → Cs (xs.flatMap a.pr)
  | [], _ => Cs.nil
  | x :: xs, h => by
    show Cs (a.pr x ++ xs.flatMap a.pr)
    exact (a.cs x (h x List.mem_cons_self)).append (cs_flat a xs fun y hy => h y (List.mem_cons_of_mem _ hy))
def many (a : Cd α) : Cd (List α) where
  pr := a.prM
  rd := rdMs a.rd
  ok := fun xs => ∀ x ∈ xs, a.ok x
  fwd := fun xs r h => by
    unfold rdMs prM
    rw [List.append_assoc, show rdN (nc (xs.length : Int) ++ (xs.flatMap a.pr ++ r)) = some ((xs.length : Int), xs.flatMap a.pr ++ r) from num.fwd _ _ (Int.natCast_nonneg _)]
    simp only [Int.toNat_natCast]
    exact rdM_fwd a xs r h
  bwd := fun l xs r hc h => by
    unfold rdMs at h
    cases q : rdN l with
    | none => rw [q] at h; cases h
    | some p =>
      obtain ⟨n, r1⟩ := p
      rw [q] at h
      obtain ⟨i1, i2⟩ := num.bwd l n r1 hc q
      obtain ⟨j1, j2, j3⟩ := rdM_bwd a n.toNat r1 xs r (num.csr hc q) h
      refine ⟨?_, j3⟩
      unfold prM
      have i2' : 0 ≤ n := i2
      have e : (xs.length : Int) = n := by rw [j2]; omega
      rw [e, List.append_assoc, ← j1]
      exact i1
  pos := fun x h => nc_ne _ (List.append_eq_nil_iff.mp h).1
  cs := fun xs h => (nc_cs (Int.natCast_nonneg _)).append (cs_flat a xs h)
/-- by way of another form -/
def via (a : Cd α) (f : α → β) (g : β → α) (fg : ∀ x, a.ok x → g (f x) = x) (gf : ∀ y, f (g y) = y) (okg : ∀ y, a.ok (g y)) : Cd β where
  pr := fun y => a.pr (g y)
  rd := fun l => match a.rd l with
    | none => none
    | some (x, r) => some (f x, r)
  ok := fun _ => True
  fwd := fun y r _ => by
    rw [a.fwd _ r (okg y)]
    simp only
    rw [gf]
  bwd := fun l y r hc h => by
    cases q : a.rd l with
    | none => rw [q] at h; cases h
    | some p =>
      obtain ⟨x, r1⟩ := p
      rw [q] at h
      injection h with h
      injection h with e1 e2
      subst e1; subst e2
      obtain ⟨i1, i2⟩ := a.bwd l x r1 hc q
      rw [fg x i2]
      exact ⟨i1, trivial⟩
  pos := fun y => a.pos _
  cs := fun y _ => a.cs _ (okg y)
/-- only some -/
def only (a : Cd α) (p : α → Bool) : Cd α where
  pr := a.pr
  rd := fun l => match a.rd l with
    | none => none
    | some (x, r) => if p x = true then some (x, r) else none
  ok := fun x => a.ok x ∧ p x = true
  fwd := fun y r h => by
    rw [a.fwd _ r h.1]
    simp only
    rw [if_pos h.2]
  bwd := fun l y r hc h => by
    cases q : a.rd l with
    | none => rw [q] at h; cases h
    | some z =>
      obtain ⟨x, r1⟩ := z
      rw [q] at h
      simp only at h
      split at h
      · rename_i hp
        injection h with h
        injection h with e1 e2
        subst e1; subst e2
        obtain ⟨i1, i2⟩ := a.bwd l x r1 hc q
        exact ⟨i1, i2, hp⟩
      · cases h
  pos := a.pos
  cs := fun y h => a.cs y h.1
theorem inj (c : Cd α) {x y : α} {r s : List Int} (hx : c.ok x) (hy : c.ok y) (e : c.pr x ++ r = c.pr y ++ s) : x = y ∧ r = s := by
  have h := c.fwd x r hx
  rw [e, c.fwd y s hy] at h
  injection h with h
  injection h with e1 e2
  exact ⟨e1.symm, e2.symm⟩
end Cd

/-! ### integers, names, items -/
def zig (i : Int) : Int := if 0 ≤ i then 2 * i else -2 * i - 1
def unzig (n : Int) : Int := if n % 2 = 0 then n / 2 else -(n / 2) - 1
theorem zig_nn (i : Int) : 0 ≤ zig i := by unfold zig; split <;> omega
theorem unzig_zig (i : Int) : unzig (zig i) = i := by unfold unzig zig; split <;> split <;> omega
theorem zig_unzig {n : Int} (h : 0 ≤ n) : zig (unzig n) = n := by unfold unzig zig; split <;> split <;> omega
def int : Cd Int := Cd.num.via unzig zig (fun _ h => zig_unzig h) unzig_zig zig_nn
/-- names: 1 to 8 letters -/
def okName (s : Str) : Prop := (1 ≤ s.length ∧ s.length ≤ 8) ∧ ∀ c ∈ s.cps.toList, 97 ≤ c ∧ c < 123
def nmc (s : Str) : List Int := (s.length : Int) :: s.cps.toList.map (fun c : Nat => (c : Int) - 97)
def rdNm : List Int → Option (Str × List Int)
  | [] => none
  | c :: r => if 1 ≤ c ∧ c ≤ 8 then (if r.length < c.toNat then none else if (r.take c.toNat).all (fun x => decide (x < 26)) = true then some (⟨((r.take c.toNat).map fun x => (x + 97).toNat).toArray⟩, r.drop c.toNat) else none) else none
def name : Cd Str where
  pr := nmc
  rd := rdNm
  ok := okName
  fwd := fun s r h => by
    obtain ⟨⟨h1, h2⟩, h3⟩ := h
    have hl : s.cps.toList.length = s.length := Array.length_toList
    unfold nmc rdNm
    rw [List.cons_append]
    simp only
    have e0 : ((s.length : Int)).toNat = (s.cps.toList.map (fun c : Nat => (c : Int) - 97)).length := by rw [List.length_map, hl]; omega
    rw [if_pos (by omega), if_neg (by rw [List.length_append, ← e0]; omega), e0, List.take_left, List.drop_left, if_pos]
    · rw [List.map_map]
      have e : s.cps.toList.map ((fun x : Int => (x + 97).toNat) ∘ fun c : Nat => (c : Int) - 97) = s.cps.toList := by
        conv => rhs; rw [← List.map_id s.cps.toList]
        apply List.map_congr_left
        intro c hc
        have := h3 c hc
        show (((c : Int) - 97) + 97).toNat = c
        omega
      rw [e]
    · rw [List.all_eq_true]
      intro x hx
      obtain ⟨c, hc, rfl⟩ := List.mem_map.mp hx
      have := h3 c hc
      exact decide_eq_true (by omega)
  bwd := fun l s r hc h => by
    cases l with
    | nil => simp [rdNm] at h
    | cons c l =>
      simp only [rdNm] at h
      split at h
      · rename_i h1
        split at h
        · cases h
        · rename_i h2
          split at h
          · rename_i h3
            injection h with h
            injection h with e1 e2
            subst e1; subst e2
            have hl : (l.take c.toNat).length = c.toNat := by rw [List.length_take]; omega
            have lens : (Str.mk ((l.take c.toNat).map fun x => (x + 97).toNat).toArray).length = c.toNat := by
              show ((l.take c.toNat).map fun x => (x + 97).toNat).toArray.size = _
              rw [List.size_toArray, List.length_map, hl]
            have bnd : ∀ x ∈ l.take c.toNat, 0 ≤ x ∧ x < 26 := fun x hx => ⟨(hc x (List.mem_cons_of_mem _ (List.mem_of_mem_take hx))).1, of_decide_eq_true (List.all_eq_true.mp h3 x hx)⟩
            refine ⟨?_, ⟨by rw [lens]; omega, by rw [lens]; omega⟩, fun d hd => ?_⟩
            · unfold nmc
              rw [lens]
              show c :: l = ((c.toNat : Nat) : Int) :: _ ++ _
              have ec : ((c.toNat : Nat) : Int) = c := by omega
              rw [ec, List.cons_append]
              congr 1
              show l = ((l.take c.toNat).map fun x => (x + 97).toNat).toArray.toList.map (fun c : Nat => (c : Int) - 97) ++ l.drop c.toNat
              rw [List.toList_toArray, List.map_map]
              have e : (l.take c.toNat).map ((fun c : Nat => (c : Int) - 97) ∘ fun x : Int => (x + 97).toNat) = l.take c.toNat := by
                conv => rhs; rw [← List.map_id (l.take c.toNat)]
                apply List.map_congr_left
                intro x hx
                have := bnd x hx
                show (((x + 97).toNat : Nat) : Int) - 97 = x
                omega
              rw [e, List.take_append_drop]
            · have hd' : d ∈ ((l.take c.toNat).map fun x => (x + 97).toNat) := by simpa using hd
              obtain ⟨x, hx, rfl⟩ := List.mem_map.mp hd'
              have := bnd x hx
              omega
          · cases h
      · cases h
  pos := fun s h => by unfold nmc at h; cases h
  cs := fun s h => by
    obtain ⟨⟨h1, h2⟩, h3⟩ := h
    unfold nmc
    refine Cs.cons (by omega) fun c hc => ?_
    obtain ⟨d, hd, rfl⟩ := List.mem_map.mp hc
    have := h3 d hd
    omega
abbrev Lab := Str × Int
def lab : Cd Lab := name.pair int
/-- names ascending -/
def asc (ls : List Lab) : Bool := (List.range (ls.length - 1)).all fun i => decide ((ls.getD i ("", 0)).1.cps.toList < (ls.getD (i + 1) ("", 0)).1.cps.toList)
def labs : Cd (List Lab) := lab.many.only asc
abbrev Item := Int × (List Int × List Lab)
def item : Cd Item := Cd.num.pair (int.many.pair labs)
abbrev Mov (α : Type) := Int × (Int × List α)
def mov {α : Type} (c : Cd α) : Cd (Mov α) := Cd.num.pair (Cd.num.pair c.many)

/-! ### books -/
structure Bk where
  st : List (Int × Item)
  wt : List (Int × (Int × List Item))
  gn : List (Int × (Int × List Int))
  mark : Int
def srt {α : Type} (t : List (Int × α)) : List (Int × α) := t.mergeSort fun a b => decide (a.1 ≤ b.1)
def chk {α : Type} (s : Nat) (l : List α) : List (List α) := (List.range ((l.length + s - 1) / s)).map fun i => (l.drop (s * i)).take s
def recB (its : List Item) : List Int := 7 :: item.many.pr its
def movd {α : Type} (c : Cd α) (t : List (Int × (Int × List α))) : List Int := (mov c).many.pr (srt t)
def sealB (b : Bk) : List Int := 8 :: (nc b.mark ++ (nc b.st.length ++ (movd item b.wt ++ movd Cd.num b.gn)))
def recs (s : Nat) (b : Bk) : List (List Int) := (chk s ((srt b.st).map (·.2))).map recB
def bodies (s : Nat) (b : Bk) : List (List Int) := recs s b ++ [sealB b]
def wsum : Nat → List Int → Int
  | _, [] => 0
  | i, c :: r => ((i : Int) + 1) * c + wsum (i + 1) r
def endc (l : List Int) : Int := wsum 0 l % 251
def frm (l : List Int) : List Int := nc l.length ++ (l ++ [endc l])
def joined (bs : List (List Int)) : List Int := bs.flatMap frm
def snap (b : Bk) : List Int := joined (bodies 8 b)

/-! ### records -/
/-- the next one: none: broken; some none: not whole -/
def nxt (l : List Int) : Option (Option (List Int × List Int)) := match rdN l with
  | none => if l.all (fun c => decide (128 ≤ c)) = true then some none else none
  | some (n, r) => if r.length ≤ n.toNat then some none else if r[n.toNat]? = some (endc (r.take n.toNat)) then some (some (r.take n.toNat, r.drop (n.toNat + 1))) else none
theorem nxt_frm (b r : List Int) : nxt (frm b ++ r) = some (some (b, r)) := by
  unfold nxt frm
  rw [List.append_assoc, show rdN (nc (b.length : Int) ++ ((b ++ [endc b]) ++ r)) = some ((b.length : Int), (b ++ [endc b]) ++ r) from Cd.num.fwd _ _ (Int.natCast_nonneg _)]
  simp only [Int.toNat_natCast]
  rw [List.append_assoc, if_neg (by rw [List.length_append, List.length_append, List.length_singleton]; omega), List.take_left, List.getElem?_append_right (Nat.le_refl _), Nat.sub_self]
  rw [if_pos (by rfl)]
  congr 3
  rw [List.drop_append, List.drop_of_length_le (by omega), show b.length + 1 - b.length = 1 by omega]
  rfl
theorem nxt_nil : nxt [] = some none := rfl
theorem nxt_sh {l b r : List Int} (h : nxt l = some (some (b, r))) : r.length < l.length := by
  unfold nxt at h
  cases q : rdN l with
  | none =>
    rw [q] at h
    simp only at h
    split at h <;> cases h
  | some p =>
    obtain ⟨n, r1⟩ := p
    rw [q] at h
    simp only at h
    have hr : r1.length ≤ l.length := by
      have : ∀ (l : List Int) (b : Bool) n r, rdF b l = some (n, r) → r.length ≤ l.length := by
        intro l
        induction l with
        | nil => intro b n r h; simp [rdF] at h
        | cons c l ih =>
          intro b n r h
          unfold rdF at h
          split at h
          · split at h
            · cases h
            · injection h with h
              injection h with e1 e2
              subst e2
              simp
          · cases q : rdF false l with
            | none => rw [q] at h; cases h
            | some p =>
              obtain ⟨m, r'⟩ := p
              rw [q] at h
              injection h with h
              injection h with e1 e2
              subst e2
              have := ih false m r' q
              simp
              omega
      exact this l true n r1 q
    split at h
    · cases h
    · split at h
      · injection h with h
        injection h with h
        injection h with e1 e2
        subst e2
        rw [List.length_drop]
        omega
      · cases h
def frs (l : List Int) : Option (List (List Int) × List Int) := match h : nxt l with
  | none => none
  | some none => some ([], l)
  | some (some (b, r)) => match frs r with
    | none => none
    | some (bs, r') => some (b :: bs, r')
termination_by l.length
decreasing_by exact nxt_sh h
theorem frs_none {l : List Int} (h : nxt l = none) : frs l = none := by
  rw [frs]
  split
  · rfl
  · rename_i q; rw [h] at q; cases q
  · rename_i q; rw [h] at q; cases q
theorem frs_end {l : List Int} (h : nxt l = some none) : frs l = some ([], l) := by
  rw [frs]
  split
  · rename_i q; rw [h] at q; cases q
  · rfl
  · rename_i q; rw [h] at q; cases q
theorem frs_go {l b r : List Int} (h : nxt l = some (some (b, r))) : frs l = (match frs r with
    | none => none
    | some (bs, r') => some (b :: bs, r')) := by
  rw [frs]
  split
  · rename_i q; rw [h] at q; cases q
  · rename_i q; rw [h] at q; cases q
  · rename_i b' r' q
    rw [h] at q
    injection q with q
    injection q with q
    injection q with e1 e2
    subst e1; subst e2
    rfl
theorem frs_joined : ∀ bs : List (List Int), frs (joined bs) = some (bs, [])
  | [] => frs_end nxt_nil
  | b :: bs => by
    have e : joined (b :: bs) = frm b ++ joined bs := rfl
    rw [e, frs_go (nxt_frm b (joined bs)), frs_joined bs]
theorem joined_inj {bs cs : List (List Int)} (h : joined bs = joined cs) : bs = cs := by
  have e := frs_joined bs
  rw [h, frs_joined cs] at e
  injection e with e
  injection e with e
  exact e.symm
theorem joined_append (bs cs : List (List Int)) : joined (bs ++ cs) = joined bs ++ joined cs := by
  unfold joined
  rw [List.flatMap_append]
/-- where a joining begins with another -/
theorem joined_pre : ∀ {bs cs : List (List Int)} {y : List Int}, joined bs ++ y = joined cs → ∃ ds, cs = bs ++ ds ∧ y = joined ds
  | [], cs, y, h => ⟨cs, rfl, h⟩
  | b :: bs, [], y, h => by
    have : frm b ++ joined bs ++ y = [] := h
    unfold frm at this
    simp [nc_ne] at this
  | b :: bs, c :: cs, y, h => by
    have h' : frm b ++ (joined bs ++ y) = frm c ++ joined cs := by
      rw [← List.append_assoc]
      exact h
    have e := nxt_frm b (joined bs ++ y)
    rw [h', nxt_frm c (joined cs)] at e
    injection e with e
    injection e with e
    injection e with e1 e2
    obtain ⟨ds, h1, h2⟩ := joined_pre e2.symm
    exact ⟨ds, by rw [h1, e1]; rfl, h2⟩
end NM
set_option Elab.async false
set_option linter.all false
set_option maxRecDepth 100000
set_option maxHeartbeats 4000000
/-! What the top has written; short rules. -/
namespace NN
open PySem PySem.Spec PyProof.Rows L2 NM

def topS (i : Nat) : Stmt := PySem.Challenge.pw_nonearer_k59_whole_cells_of_books.main.body.getD i (.Pass ⟨0, 0, 0, 0⟩)
/-- a def of the top -/
def Df (K : PySem.W.Frag) (mg : Str → Option Value) (x : Str) (st : Stmt) (ps : List Str) : Prop := ∃ (f : Addr) (fd : FuncData), Fun K x x st f fd ∧ mg x = some (.ref f) ∧ Binds K fd ps []
/-- a def that keeps its promise -/
def Gf (P : Program) (w : World) (K : PySem.W.Frag) (mg : Str → Option Value) (base : Heap) (k : Nat) (x : Str) (ps : List Str) (sp : Sp) : Prop :=
  ∃ (f : Addr) (fd : FuncData), FnOk P w K mg base CX0 k f fd ps sp ∧ mg x = some (.ref f) ∧ PySem.W.keepIn K (.ref f) = true ∧ Binds K fd ps [] ∧ ∃ st : Stmt, Fun K x x st f fd
section
variable {X : Cx} {k : Nat} {x : Str} {ps : List Str} {sp : Sp} {p pos : Pos} {e : Expr} {es : List Expr} {t : TA}
theorem pe_g (G : Gf X.prog X.w X.K X.mg X.base k x ps sp) (hr : Room k X.A) (ha : PA X (e :: es) t) (hg : Gl X x := by rfl)
    (hdb : (x == ("__debug__" : Str)) = false := by decide) (he : starEach (e :: es) X.env = (false, eval e X.env) :: starEach es X.env := by rfl) (hpl : (backTo pos (starEach es X.env)).any (·.1) = false := by rfl) :
    PE X (.Call (.Name x p) (e :: es) [] pos) (tCall sp [] E0 t) := by
  obtain ⟨f, fd, F, hm, hk, hb, _⟩ := G
  exact pe_call F hr hg hm hk hb .nil pass0 ha hdb he hpl
/-- len(tuple or list), tuple(list), list(tuple), sum, all -/
abbrev rLen (K : PySem.W.Frag) : List V → Hp → VK → Prop := fun xs H Q => ∃ p ys, xs = [.ref p] ∧ (SqL K H p ys ∨ SqT K H p ys) ∧ Q (.int ys.length) H
end
/-- the built-in names are as they were -/
structure Nm (mg : Str → Option Value) : Prop where
  len : mg "len" = none
  tuple : mg "tuple" = none
  range : mg "range" = none
  sum : mg "sum" = none
  all : mg "all" = none
  enumerate : mg "enumerate" = none
  sorted : mg "sorted" = none
  dict : mg "dict" = none
  list : mg "list" = none
  repr : mg "repr" = none
  isinstance : mg "isinstance" = none
  int : mg "int" = none
  abs : mg "abs" = none
  min : mg "min" = none
  max : mg "max" = none
  super : mg "super" = none
def letters : Str := "abcdefghijklmnopqrstuvwxyz"
/-- the module's constants -/
structure Ct (mg : Str → Option Value) : Prop where
  letters : ∃ t, mg "LETTERS" = some (.str letters t)
  longest : ∃ t, mg "LONGEST_NAME" = some (.int 8 t)
  range : ∃ t, mg "END_RANGE" = some (.int 251 t)
  items : ∃ t, mg "ITEMS_WORD" = some (.int 7 t)
  sealw : ∃ t, mg "SEAL_WORD" = some (.int 8 t)
  most : ∃ t, mg "MOST_IN_RECORD" = some (.int 8 t)
section
variable {X : Cx} {p : Pos}
theorem pe_ci {x : Str} {i : Int} (h : ∃ t, X.mg x = some (.int i t)) (hg : Gl X x := by rfl) (hd : (x == ("__debug__" : Str)) = false := by decide) : PE X (.Name x p) (tC (.int i)) := by
  obtain ⟨t, h⟩ := h
  exact pe_glob hg h ⟨t, rfl⟩ hd
theorem pe_cs {x : Str} {i : Str} (h : ∃ t, X.mg x = some (.str i t)) (hg : Gl X x := by rfl) (hd : (x == ("__debug__" : Str)) = false := by decide) : PE X (.Name x p) (tC (.str i)) := by
  obtain ⟨t, h⟩ := h
  exact pe_glob hg h ⟨t, rfl⟩ hd
end
/-- ints in a tuple -/
abbrev dI (ns : List Int) : PyData := .tuple (ns.map .int)
theorem dI_app (a b : List Int) : PyData.tuple (a.map .int ++ b.map .int) = dI (a ++ b) := by
  show _ = PyData.tuple ((a ++ b).map .int)
  rw [List.map_append]
theorem sz {n : Nat} (h : n ≤ 10000000) : n ≤ sizeLine := Nat.le_trans h (by decide)
theorem sz' {n : Nat} (h : n < 10000000) : n < sizeLine := Nat.lt_of_lt_of_le h (by decide)
/-- a def's walk on data -/
theorem fn_data {P : Program} {w : World} {K : PySem.W.Frag} {mg : Str → Option Value} {base : Heap} {k : Nat} {x : Str} {st : Stmt} {N ps : List Str} {C : List PyData → PyData → Prop} (D : Df K mg x st ps) (S : FnScope N ps (defScope st)) (hlen : ∀ ds d, C ds d → ds.length = ps.length)
    (hbody : ∀ (cdv : Value) (A : Around) (outer : List Env) (s : Shared) (f : Addr) (H F : Hp) (vs : List V) (E : XK) (ds : List PyData) (d : PyData), Room k (A.deeper (envOfC x (defScope st) s.heap.objs.size f cdv)) → C ds d →
      ∃ t, PSs (cxOf CX0 P w K mg base N x (defScope st) f cdv A outer s H E).nox (defBody st) t ∧
        ∀ σ, SS rS H F σ H (ds.map Ty.dat ++ List.replicate (N.length - ds.length) .no) → ∀ Q : VK, (∀ H0' v H', Same H H0' → Mv rS H0' H' → TD F H' v d → Q v H') → t { nx := fun _ H' => Q .non H', rt := Q } σ H) : Gf P w K mg base (k + 1) x ps (spP C) := by
  obtain ⟨f, fd, Fu, hm, hb⟩ := D
  refine ⟨f, fd, Fu.ok S (fun vs H Q E h => ?_) (fun cdv A outer s H vs Q E hr h => ?_), hm, Fu.kp, hb, st, Fu⟩
  · obtain ⟨F, ds, d, _, td, c, _⟩ := h
    rw [td.len, hlen ds d c]
  · obtain ⟨F, ds, d, f0, td, c, q⟩ := h
    obtain ⟨t, h1, h2⟩ := hbody cdv A outer s f H F vs E ds d hr c
    have hpl : ps.length ≤ N.length := by
      have := congrArg List.length S.pre
      rw [List.length_take] at this
      omega
    exact ⟨t, h1, h2 _ (SS.startD f0 td (by rw [hlen ds d c]; exact hpl)) Q fun H0' v H' s m t => q v H' (fun b o e => m b o (fun z => z) (s b o e)) t⟩
end NN
set_option Elab.async false
set_option linter.all false
set_option maxRecDepth 100000
set_option maxHeartbeats 4000000
/-! more rules -/
namespace NN
open PySem PySem.Spec PyProof.Rows L2 NM
/-! ### letters -/
theorem letters_len : letters.length = 26 := by decide +kernel
theorem letters_at : ∀ k : Nat, k < 26 → ∃ rest, Builtin.Str.occurrences letters ⟨#[97 + k]⟩ 0 letters.length 1 = k :: rest := by
  have h : ∀ k : Fin 26, (Builtin.Str.occurrences letters ⟨#[97 + k.val]⟩ 0 letters.length 1).head? = some k.val := by decide +kernel
  intro k hk
  have := h ⟨k, hk⟩
  cases e : Builtin.Str.occurrences letters ⟨#[97 + k]⟩ 0 letters.length 1 with
  | nil => rw [e] at this; cases this
  | cons a r =>
    rw [e] at this
    have e2 : a = k := Option.some.inj this
    rw [e2]
    exact ⟨r, rfl⟩
theorem letters_get : ∀ k : Nat, k < 26 → letters.cps.toList[k]? = some (97 + k) := by
  have h : ∀ k : Fin 26, letters.cps.toList[k.val]? = some (97 + k.val) := by decide +kernel
  exact fun k hk => h ⟨k, hk⟩
theorem join_signs : ∀ cs : List Nat, Txt.join (Str.ofString "") (cs.map fun c => (⟨#[c]⟩ : Str)) = ⟨cs.toArray⟩ := by
  intro cs
  rw [TL.join_eq]
  induction cs with
  | nil => rfl
  | cons c r ih =>
    cases r with
    | nil => rfl
    | cons d r =>
      have e : Str.join (Str.ofString "") ((c :: d :: r).map fun c => (⟨#[c]⟩ : Str)) = (⟨#[c]⟩ : Str) ++ Str.ofString "" ++ Str.join (Str.ofString "") ((d :: r).map fun c => (⟨#[c]⟩ : Str)) := rfl
      rw [e, ih]
      have e2 : ∀ a b : Str, a ++ b = ⟨a.cps ++ b.cps⟩ := fun a b => rfl
      rw [e2, e2]
      congr 1
      show #[c] ++ (Str.ofString "").cps ++ (d :: r).toArray = (c :: d :: r).toArray
      have e3 : (Str.ofString "").cps = #[] := by decide +kernel
      rw [e3]
      simp
section
variable {X : Cx} {b : Expr} {es : List Expr} {t : TA} {apos cpos : Pos} {o : Expr} {to : TE}
abbrev rSI : V → List V → Hp → VK → Prop := fun x xs H Q => ∃ a b i rest, x = .str a ∧ xs = [.str b] ∧ Builtin.Str.occurrences a b 0 a.length 1 = i :: rest ∧ Q (.int (i : Nat)) H
theorem pe_index (ho : PE X o to) (ha : PA X (b :: es) t)
    (hbase : attributeBase o "index" X.env (eval o X.env) = eval o X.env := by rfl)
    (hfew : ((backTo cpos (starEach (b :: es) X.env)).all (fun x => !x.1) && (backToKw cpos (keywordEach [] X.env)).all (fun x => x.1.isSome)
      && decide ((b :: es).length + ([] : List Keyword).length + (if ([] : List Keyword).isEmpty then 0 else 1) < 30)) = true := by rfl)
    (hline : (apos.endLine == cpos.line) = true := by rfl) (hs : starEach (b :: es) X.env = (false, eval b X.env) :: starEach es X.env := by rfl) (hplain : (backTo cpos (starEach es X.env)).any (·.1) = false := by rfl) :
    PE X (.Call (.Attribute o "index" apos) (b :: es) [] cpos) (tBM X.K "str" rSI to t) :=
  pe_bm PySem.F.plainAttrs_str PySem.F.slot_str_index PySem.F.type_str_index mt_sindex ho ha hbase hfew hline hs hplain
end
section
variable {ρ : Rl} {F H0 H0' H H' : Hp} {σ : L2.St} {Γ : List Ty} {K : PySem.W.Frag}
variable {t ta tb tc te : TE} {tt tu : TT} {tr : TA} {P P' Pa Pb : PyData → Prop} {a b d : PyData} {D : Ends}
theorem ed_letter {k : Nat} (ha : EvD ρ F ta Γ (.str letters)) (hk : k < 26) (h : EvD ρ F te Γ (.str ⟨#[97 + k]⟩)) : EvD ρ F (tBM K "str" rSI ta (tCons te tNil)) Γ (.int k) := fun H0 σ H I Q q =>
  ha H0 σ H I _ fun v d H1 pd I1 m1 t1 => by
    subst pd
    cases t1
    refine ⟨rfl, h H0 σ H1 I1 _ fun w d H2 pd I2 m2 t2 => ?_⟩
    subst pd
    cases t2
    obtain ⟨rest, e⟩ := letters_at k hk
    exact ⟨letters, _, k, rest, rfl, rfl, e, q _ _ H2 rfl I2 (m1.trans m2) (.int _)⟩
theorem ed_join {ss : List Str} (ha : EvD ρ F ta Γ (.str a')) (h : EvR ρ F te Γ (· = ss.map PyData.str)) (hz : (ss.map (·.length)).sum + ss.length * a'.length ≤ 16777216) :
    EvD ρ F (tM1 (fun x xs H Q => ∃ a p, ∃ ys : List Str, x = .str a ∧ xs = [.ref p] ∧ (SqL K H p (ys.map V.str) ∨ SqT K H p (ys.map V.str)) ∧ (ys.map (·.length)).sum + ys.length * a.length ≤ 16777216 ∧ Q (.str (Txt.join a ys)) H) ta te) Γ (.str (Txt.join a' ss)) := fun H0 σ H I Q q =>
  ha H0 σ H I _ fun v d H1 pd I1 m1 t1 => by
    subst pd
    cases t1
    refine ⟨⟨_, rfl⟩, h H0 σ H1 I1 _ fun l vs ds H2 pd I2 m2 n e t2 => ?_⟩
    subst pd
    rw [t2.of_strs] at e
    exact ⟨a', l, ss, rfl, rfl, .inl (.of e), hz, q _ _ H2 rfl I2 (m1.trans m2) (.str _)⟩
/-! ### lists that grow -/
theorem st_append {i : Nat} {ds : List PyData} (I : SS ρ H0 F σ H Γ) (hi : Γ[i]? = some (.lst ds)) (h : EvS ρ F te Γ P) (hz : ds.length < sizeLine) (k : ∀ d H', P d → SS ρ H0 F σ H' (Γ.set i (.lst (ds ++ [d]))) → D.nx σ H') : tDrop (tBM K "list" rAppend (tVar i) (tCons te tNil)) D σ H := by
  obtain ⟨l, vs, e, h1, h2⟩ := I.lst hi
  have no := (I.fresh i _ l hi rfl e).2.1
  refine ⟨.ref l, e, .inl ⟨rfl, _, .of h1⟩, h H0 σ H I _ fun v d H1 pd I1 m1 t1 => ?_⟩
  have h1' := m1 l _ no h1
  have h2' := h2.tu (m1.tu I.inv)
  have nt : ∀ xs, H1 l ≠ some (.tup xs) := fun xs z => by rw [h1'] at z; cases z
  have tu : Tu H1 (upd H1 l (.lst (vs ++ [v]))) := fun a xs z => by
    have na : a ≠ l := fun w => by
      subst w
      exact nt xs z
    rw [upd_ne na]
    exact z
  exact ⟨l, vs, v, rfl, rfl, h1', by rw [h2.len]; exact hz, k d _ pd (I1.write hi rfl rfl e nt ⟨l, vs ++ [v], rfl, upd_same, (h2'.snoc t1).tu tu⟩)⟩
theorem st_appendD {i : Nat} {ds : List PyData} (I : SS ρ H0 F σ H Γ) (hi : Γ[i]? = some (.lst ds)) (h : EvD ρ F te Γ d) (hz : ds.length < sizeLine) (k : ∀ H', SS ρ H0 F σ H' (Γ.set i (.lst (ds ++ [d]))) → D.nx σ H') : tDrop (tBM K "list" rAppend (tVar i) (tCons te tNil)) D σ H :=
  st_append I hi h hz fun d' H' e => by subst e; exact k H'
theorem st_extend {i : Nat} {ds es : List PyData} (I : SS ρ H0 F σ H Γ) (hi : Γ[i]? = some (.lst ds)) (h : EvR ρ F te Γ (· = es)) (hz : ds.length + es.length ≤ sizeLine) (k : ∀ H', SS ρ H0 F σ H' (Γ.set i (.lst (ds ++ es))) → D.nx σ H') : tDrop (tBM K "list" rExtend (tVar i) (tCons te tNil)) D σ H := by
  obtain ⟨l, vs, e, h1, h2⟩ := I.lst hi
  have no := (I.fresh i _ l hi rfl e).2.1
  refine ⟨.ref l, e, .inl ⟨rfl, _, .of h1⟩, h H0 σ H I _ fun b ws ds' H1 pd I1 m1 nb hb t1 => ?_⟩
  subst pd
  have h1' := m1 l _ no h1
  have h2' := h2.tu (m1.tu I.inv)
  have nt : ∀ xs, H1 l ≠ some (.tup xs) := fun xs z => by rw [h1'] at z; cases z
  have tu : Tu H1 (upd H1 l (.lst (vs ++ ws))) := fun a xs z => by
    have na : a ≠ l := fun w => by
      subst w
      exact nt xs z
    rw [upd_ne na]
    exact z
  exact ⟨l, b, vs, ws, rfl, rfl, h1', hb, by rw [h2.len, t1.len]; exact hz, k _ (I1.write hi rfl rfl e nt ⟨l, vs ++ ws, rfl, upd_same, (h2'.append t1).tu tu⟩)⟩
/-! ### x op= e -/
theorem st_aug {i : Nat} {ti : TIp} (I : SS ρ H0 F σ H Γ) (hi : Γ[i]? = some (.dat a)) (h : EvD ρ F te Γ b) (ho : OpD F ti a b (· = d)) (k : ∀ σ' H', SS ρ H0 F σ' H' (Γ.set i (.dat d)) → D.nx σ' H') : tAug i te ti D σ H := by
  obtain ⟨v, e, h1⟩ := I.dat hi
  refine ⟨v, e, h H0 σ H I _ fun w d' H1 pd I1 m1 t1 => ?_⟩
  subst pd
  refine ho H1 v w I1.sf (h1.tu (m1.tu I.inv)) t1 _ fun z d' H2 pd s t2 => ?_
  subst pd
  exact k _ H2 ((I1.same s).setD i t2)
theorem ip_mul {X : Cx} : PIp X .Mult (rI CMul fun i j => .int (i * j)) := iop_mul
theorem od_ip {f : Int → Int → Int} {i j : Int} : OpD F (ipI f) (.int i) (.int j) (· = .int (f i j)) := od_int (f := f)
/-- for, with something carried -/
theorem st_forA {α : Type} {wi : TI} {g : TG} {ts : TS} {n : Nat} {f : Nat → PyData} (x0 : α) (p : Nat → α → Prop) (I : SS ρ H0 F σ H Γ) (hi : EvI ρ F wi Γ (fun m h => m = n ∧ h = f)) (G Γb : Nat → α → List Ty) (hp : p 0 x0) (h0 : ∀ H0 σ H, SS ρ H0 F σ H Γ → SS ρ H0 F σ H (G 0 x0)) (hg : ∀ i x, i < n → BndG ρ F g (f i) (G i x) (Γb i x))
    (hs : ∀ H0' σ H, Same H0 H0' → ∀ i x, i < n → p i x → SS ρ H0' F σ H (Γb i x) → ts { D with nx := fun σ' H' => ∃ y, p (i + 1) y ∧ SS ρ H0' F σ' H' (G (i + 1) y), ct := fun σ' H' => ∃ y, p (i + 1) y ∧ SS ρ H0' F σ' H' (G (i + 1) y), bk := D.nx } σ H)
    (hd : ∀ σ H x, p n x → SS ρ H0 F σ H (G n x) → D.nx σ H) : tFor wi g ts D σ H :=
  hi H0 σ H I _ fun J q m h H1 pi I1 m1 hq po wk => by
    obtain ⟨rfl, rfl⟩ := pi
    refine ⟨fun i k σ H => k = m - i ∧ i ≤ m ∧ ∃ x, p i x ∧ SS ρ (flr H0 H1 q) F σ H (G i x), ⟨m, by omega, Nat.zero_le _, x0, hp, h0 _ _ _ (I1.up q hq po)⟩, ?_⟩
    rintro i k σ2 H2 ⟨rfl, hin, x, px, I2⟩
    have tu : Tu H1 H2 := fun a xs h => I2.rel a _ (fun z => ρ.notup H1 a xs I1.inv z h) (flr_tup I1.rel I1.inv h)
    have pin : Pin q H2 := by
      cases q with
      | none => trivial
      | some ao =>
        obtain ⟨a, o⟩ := ao
        exact I2.rel a o po.1 (flr_pin I1.rel po.1 hq)
    by_cases hlt : i < m
    · refine .inr ⟨wk.go i H2 hlt tu pin, fun σ' H' => ∃ y, p (i + 1) y ∧ SS ρ (flr H0 H1 q) F σ' H' (G (i + 1) y), fun σ' H' ⟨y, py, h⟩ => ⟨m - (i + 1), by omega, rfl, hlt, y, py, h⟩, fun z H3 hy => ?_⟩
      obtain ⟨s, td⟩ := wk.yld i z H2 H3 hlt tu pin hy
      exact hg i x hlt _ σ2 H3 z (I2.same s) td _ fun σ' I3 => hs _ σ' H3 flr_same i x hlt px I3
    · have e : i = m := by omega
      subst e
      exact .inl ⟨wk.stop i H2 (Nat.le_refl _) tu pin, hd σ2 H2 x px (I2.low flr_same)⟩
theorem st_retN {D : Ends} (k : D.rt .non H) : tRetN D σ H := k
end
/-! ### the same ahead of a rest -/
section
variable {ρ : Rl} {F H0 H0' H H' : Hp} {σ : L2.St} {Γ : List Ty} {K : PySem.W.Frag}
variable {t ta tb tc te : TE} {tt tu : TT} {tr : TA} {P P' Pa Pb : PyData → Prop} {a b d : PyData} {D : Ends} {u ts tw : TS}
theorem sq_asg {i : Nat} (I : SS ρ H0 F σ H Γ) (h : EvS ρ F t Γ P) (k : ∀ v d H', P d → Mv ρ H H' → SS ρ H0 F (σ.set i (some v)) H' (Γ.set i (.dat d)) → u D (σ.set i (some v)) H') : tSeq (tAsg t (gName i)) u D σ H := st_asg (D := { D with nx := u D }) I h k
theorem sq_set {i : Nat} (I : SS ρ H0 F σ H Γ) (h : EvD ρ F t Γ d) (k : ∀ σ' H', SS ρ H0 F σ' H' (Γ.set i (.dat d)) → u D σ' H') : tSeq (tAsg t (gName i)) u D σ H := st_set (D := { D with nx := u D }) I h k
theorem sq_setL {i : Nat} {PL : List PyData → Prop} (I : SS ρ H0 F σ H Γ) (h : EvL ρ F t Γ PL) (k : ∀ ds σ' H', PL ds → SS ρ H0 F σ' H' (Γ.set i (.lst ds)) → u D σ' H') : tSeq (tAsg t (gName i)) u D σ H := st_setL (D := { D with nx := u D }) I h k
theorem sq_setF {i : Nat} {PL : List PyData → Prop} (I : SS ρ H0 F σ H Γ) (h : EvL ρ F t Γ PL) (k : ∀ ds l vs H' σ', PL ds → H l = none → Mv ρ H H' → H' l = some (.lst vs) → SS ρ H0 (upd F l (.lst vs)) σ' H' (Γ.set i (.dat (.list ds))) → u D σ' H') : tSeq (tAsg t (gName i)) u D σ H := st_setF (D := { D with nx := u D }) I h k
theorem sq_asgG {g : TG} {Γ' : List Ty} (I : SS ρ H0 F σ H Γ) (h : EvD ρ F t Γ d) (hg : BndG ρ F g d Γ Γ') (k : ∀ σ' H', Mv ρ H H' → SS ρ H0 F σ' H' Γ' → u D σ' H') : tSeq (tAsg t g) u D σ H := st_asgG (D := { D with nx := u D }) I h hg k
theorem sq_par {i j : Nat} {x y : PyData} (I : SS ρ H0 F σ H Γ) (h : EvA ρ F tr Γ (· = [x, y])) (k : ∀ σ' H', SS ρ H0 F σ' H' ((Γ.set i (.dat x)).set j (.dat y)) → u D σ' H') : tSeq (tPar i j tr) u D σ H := st_par (D := { D with nx := u D }) I h k
theorem sq_ifr {p : Bool → Prop} (I : SS ρ H0 F σ H Γ) (h : EvB ρ F tt Γ p) (h1 : p true → ∀ H', SS ρ H0 F σ H' Γ → Mv ρ H H' → ts { D with nx := u D } σ H') (h2 : p false → ∀ H', SS ρ H0 F σ H' Γ → Mv ρ H H' → u D σ H') : tSeq (tIfS tt ts tNext) u D σ H := st_if (D := { D with nx := u D }) I h h1 h2
theorem sq_if {p : Bool → Prop} (I : SS ρ H0 F σ H Γ) (h : EvB ρ F tt Γ p) (h1 : p true → ∀ H', SS ρ H0 F σ H' Γ → Mv ρ H H' → ts { D with nx := u D } σ H') (h2 : p false → ∀ H', SS ρ H0 F σ H' Γ → Mv ρ H H' → tw { D with nx := u D } σ H') : tSeq (tIfS tt ts tw) u D σ H := st_if (D := { D with nx := u D }) I h h1 h2
/-- an if whose answer is known -/
theorem sq_ifT (I : SS ρ H0 F σ H Γ) (h : EvB ρ F tt Γ (· = true)) (h1 : ∀ H', SS ρ H0 F σ H' Γ → Mv ρ H H' → ts { D with nx := u D } σ H') : tSeq (tIfS tt ts tw) u D σ H := sq_if I h (fun _ => h1) (fun e => nomatch e)
theorem sq_ifF (I : SS ρ H0 F σ H Γ) (h : EvB ρ F tt Γ (· = false)) (h1 : ∀ H', SS ρ H0 F σ H' Γ → Mv ρ H H' → u D σ H') : tSeq (tIfS tt ts tNext) u D σ H := sq_ifr I h (fun e => nomatch e) (fun _ => h1)
theorem sq_append {i : Nat} {ds : List PyData} (I : SS ρ H0 F σ H Γ) (hi : Γ[i]? = some (.lst ds)) (h : EvS ρ F te Γ P) (hz : ds.length < sizeLine) (k : ∀ d H', P d → SS ρ H0 F σ H' (Γ.set i (.lst (ds ++ [d]))) → u D σ H') : tSeq (tDrop (tBM K "list" rAppend (tVar i) (tCons te tNil))) u D σ H := st_append (D := { D with nx := u D }) I hi h hz k
theorem sq_appendD {i : Nat} {ds : List PyData} (I : SS ρ H0 F σ H Γ) (hi : Γ[i]? = some (.lst ds)) (h : EvD ρ F te Γ d) (hz : ds.length < sizeLine) (k : ∀ H', SS ρ H0 F σ H' (Γ.set i (.lst (ds ++ [d]))) → u D σ H') : tSeq (tDrop (tBM K "list" rAppend (tVar i) (tCons te tNil))) u D σ H := st_appendD (D := { D with nx := u D }) I hi h hz k
theorem sq_aug {i : Nat} {ti : TIp} (I : SS ρ H0 F σ H Γ) (hi : Γ[i]? = some (.dat a)) (h : EvD ρ F te Γ b) (ho : OpD F ti a b (· = d)) (k : ∀ σ' H', SS ρ H0 F σ' H' (Γ.set i (.dat d)) → u D σ' H') : tSeq (tAug i te ti) u D σ H := st_aug (D := { D with nx := u D }) I hi h ho k
theorem sq_while {α : Type} (x0 : α) (p : α → Prop) (G : α → List Ty) (μ : α → Nat) (I : SS ρ H0 F σ H (G x0)) (hp : p x0)
    (hs : ∀ x, p x → ∃ b, EvB ρ F tt (G x) (· = b) ∧ (b = true → ∀ σ H, SS ρ H0 F σ H (G x) → ts { D with nx := fun σ' H' => ∃ y, μ y < μ x ∧ p y ∧ SS ρ H0 F σ' H' (G y), ct := fun σ' H' => ∃ y, μ y < μ x ∧ p y ∧ SS ρ H0 F σ' H' (G y), bk := u D } σ H) ∧
      (b = false → ∀ σ H, SS ρ H0 F σ H (G x) → u D σ H)) : tSeq (tWhile tt ts) u D σ H := st_while (D := { D with nx := u D }) x0 p G μ I hp hs
theorem sq_for {wi : TI} {g : TG} {n : Nat} {f : Nat → PyData} (I : SS ρ H0 F σ H Γ) (hi : EvI ρ F wi Γ (fun m h => m = n ∧ h = f)) (G Γb : Nat → List Ty) (h0 : ∀ H0 σ H, SS ρ H0 F σ H Γ → SS ρ H0 F σ H (G 0)) (hg : ∀ i, i < n → BndG ρ F g (f i) (G i) (Γb i))
    (hs : ∀ H0' σ H, Same H0 H0' → ∀ i, i < n → SS ρ H0' F σ H (Γb i) → ts { D with nx := fun σ' H' => SS ρ H0' F σ' H' (G (i + 1)), ct := fun σ' H' => SS ρ H0' F σ' H' (G (i + 1)), bk := u D } σ H)
    (hd : ∀ σ H, SS ρ H0 F σ H (G n) → u D σ H) : tSeq (tFor wi g ts) u D σ H := st_for (D := { D with nx := u D }) I hi G Γb h0 hg hs hd
theorem sq_forA {α : Type} {wi : TI} {g : TG} {n : Nat} {f : Nat → PyData} (x0 : α) (p : Nat → α → Prop) (I : SS ρ H0 F σ H Γ) (hi : EvI ρ F wi Γ (fun m h => m = n ∧ h = f)) (G Γb : Nat → α → List Ty) (hp : p 0 x0) (h0 : ∀ H0 σ H, SS ρ H0 F σ H Γ → SS ρ H0 F σ H (G 0 x0)) (hg : ∀ i x, i < n → BndG ρ F g (f i) (G i x) (Γb i x))
    (hs : ∀ H0' σ H, Same H0 H0' → ∀ i x, i < n → p i x → SS ρ H0' F σ H (Γb i x) → ts { D with nx := fun σ' H' => ∃ y, p (i + 1) y ∧ SS ρ H0' F σ' H' (G (i + 1) y), ct := fun σ' H' => ∃ y, p (i + 1) y ∧ SS ρ H0' F σ' H' (G (i + 1) y), bk := u D } σ H)
    (hd : ∀ σ H x, p n x → SS ρ H0 F σ H (G n x) → u D σ H) : tSeq (tFor wi g ts) u D σ H := st_forA (D := { D with nx := u D }) x0 p I hi G Γb hp h0 hg hs hd
end
def tGuard : TE := fun _ _ _ => False
def tGuardA : TA := fun _ _ _ => False
def tGuardT : TT := fun _ _ _ => False
section
variable {ρ : Rl} {F : Hp} {Γ : List Ty}
theorem gd1 {P : PyData → Prop} (h : False) : EvS ρ F tGuard Γ P := h.elim
theorem gd2 {P : List PyData → Prop} (h : False) : EvL ρ F tGuard Γ P := h.elim
theorem gd3 {P : List PyData → Prop} (h : False) : EvR ρ F tGuard Γ P := h.elim
theorem gd4 {P : List PyData → Prop} (h : False) : EvA ρ F tGuardA Γ P := h.elim
theorem gd5 {P : Bool → Prop} (h : False) : EvB ρ F tGuardT Γ P := h.elim
end
theorem ed_tup' {ρ : Rl} {F : Hp} {Γ : List Ty} {tr : TA} {l : List PyData} (h : EvA ρ F tr Γ (· = l)) (hl : Nat.ble l.length sizeLine = true) : EvD ρ F (tTup tr) Γ (.tuple l) := ed_tup h (Nat.le_of_ble_eq_true hl)
theorem el_lst' {ρ : Rl} {F : Hp} {Γ : List Ty} {tr : TA} {l : List PyData} (h : EvA ρ F tr Γ (· = l)) (hl : Nat.ble l.length sizeLine = true) : EvL ρ F (tLst tr) Γ (· = l) := el_lstD h (Nat.le_of_ble_eq_true hl)
theorem ed_lenT {ρ : Rl} {F : Hp} {Γ : List Ty} {K : PySem.W.Frag} {ta : TE} {ds : List PyData} (h : EvD ρ F ta Γ (.tuple ds)) : EvD ρ F (tCB (fun xs H Q => ∃ p ys, xs = [.ref p] ∧ (SqL K H p ys ∨ SqT K H p ys) ∧ Q (.int ys.length) H) (tCons ta tNil)) Γ (.int ds.length) := ed_cb (ea_cons h ea_nil) cd_lenT
theorem ed_lenS {ρ : Rl} {F : Hp} {Γ : List Ty} {ta : TE} {z : Str} (h : EvD ρ F ta Γ (.str z)) (hz : z.length ≤ sizeLine) : EvD ρ F (tCB (fun xs H Q => ∃ z, xs = [.str z] ∧ z.length ≤ sizeLine ∧ Q (.int z.length) H) (tCons ta tNil)) Γ (.int z.length) := ed_cb (ea_cons h ea_nil) (cd_lenS hz)
theorem ed_lenTI {ρ : Rl} {F : Hp} {Γ : List Ty} {K : PySem.W.Frag} {ta : TE} {ns : List Int} (h : EvD ρ F ta Γ (dI ns)) : EvD ρ F (tCB (fun xs H Q => ∃ p ys, xs = [.ref p] ∧ (SqL K H p ys ∨ SqT K H p ys) ∧ Q (.int ys.length) H) (tCons ta tNil)) Γ (.int ns.length) := by
  have := ed_lenT (K := K) h
  rw [List.length_map] at this
  exact this
theorem od_catI {F : Hp} {K : PySem.W.Frag} {a b : List Int} (hl : a.length + b.length ≤ 10000000) : OpD F (rCatA K) (dI a) (dI b) (· = dI (a ++ b)) := by
  have h := od_cat (F := F) (K := K) (ds := a.map PyData.int) (es := b.map PyData.int) (by rw [List.length_map, List.length_map]; exact sz hl)
  rw [dI_app] at h
  exact h
end NN
set_option Elab.async false
set_option linter.all false
set_option maxRecDepth 100000
set_option maxHeartbeats 4000000
/-! comprehensions and slices of known things -/
namespace NN
open PySem PySem.Spec PyProof.Rows L2 NM
theorem range_getD {α β : Type} (l : List α) (d : α) (g : α → β) : (List.range l.length).map (fun i => g (l.getD i d)) = l.map g := by
  apply List.ext_getElem?
  intro i
  rw [List.getElem?_map, List.getElem?_map]
  by_cases hi : i < l.length
  · rw [List.getElem?_range hi, List.getElem?_eq_getElem hi]
    show some (g (l.getD i d)) = some (g l[i])
    rw [List.getD_eq_getElem?_getD, List.getElem?_eq_getElem hi]
    rfl
  · rw [List.getElem?_eq_none (by rw [List.length_range]; omega), List.getElem?_eq_none (by omega)]
    rfl
theorem getD_mem {α : Type} {l : List α} {i : Nat} (d : α) (h : i < l.length) : l.getD i d ∈ l := by
  rw [List.getD_eq_getElem?_getD, List.getElem?_eq_getElem h]
  exact List.getElem_mem h
theorem cutD_nat {α : Type} {xs : List α} {lo hi : Nat} {i j : Int} (ei : i = (lo : Int)) (ej : j = (hi : Int)) (h : lo ≤ xs.length) (hh : lo ≤ hi) : cutD xs (some i) (some j) = (xs.drop lo).take (hi - lo) := by
  subst ei; subst ej
  unfold cutD
  rw [HT.sIx_nat, HT.sIx_nat, Nat.min_eq_left h]
  apply List.ext_getElem?
  intro k
  rw [List.getElem?_take, List.getElem?_take, List.getElem?_drop]
  by_cases h1 : k < hi - lo
  · rw [if_pos h1]
    by_cases h2 : k < min hi xs.length - lo
    · rw [if_pos h2]
    · rw [if_neg h2, List.getElem?_eq_none (by omega)]
  · rw [if_neg h1, if_neg (by omega)]
theorem cutD_from {α : Type} {xs : List α} {lo : Nat} {i : Int} (ei : i = (lo : Int)) (h : lo ≤ xs.length) : cutD xs (some i) none = xs.drop lo := by
  subst ei
  unfold cutD
  rw [HT.sIx_nat, HT.sIx_none, Nat.min_eq_left h, List.take_of_length_le (by rw [List.length_drop]; omega)]
theorem cutD_to {α : Type} {xs : List α} {hi : Nat} {j : Int} (ej : j = (hi : Int)) : cutD xs none (some j) = xs.take hi := by
  subst ej
  unfold cutD
  rw [HT.sIx_nat, HT.sIx_none, List.drop_zero, Nat.sub_zero]
  apply List.ext_getElem?
  intro k
  rw [List.getElem?_take, List.getElem?_take]
  by_cases h1 : k < hi
  · rw [if_pos h1]
    by_cases h2 : k < min hi xs.length
    · rw [if_pos h2]
    · rw [if_neg h2, List.getElem?_eq_none (by omega)]
  · rw [if_neg h1, if_neg (by omega)]
section
variable {ρ : Rl} {F H0 H0' H H' : Hp} {σ : L2.St} {Γ : List Ty} {K : PySem.W.Frag}
variable {t ta tb tc te : TE} {tt tu : TT} {tr : TA} {P P' Pa Pb : PyData → Prop} {a b d : PyData} {D : Ends}
theorem one_no {j : Nat} (h : Γ[j]? = some .no) : ∀ i ∈ [j], ∀ t, Γ[i]? = some t → t = .no := fun i hi t e => by
  have := List.mem_singleton.mp hi
  subst this
  rw [h] at e
  exact (Option.some.inj e).symm
theorem two_no {j k : Nat} (h : Γ[j]? = some .no) (h' : Γ[k]? = some .no) : ∀ i ∈ [j, k], ∀ t, Γ[i]? = some t → t = .no := fun i hi t e => by
  rcases List.mem_cons.mp hi with z | z
  · subst z
    rw [h] at e
    exact (Option.some.inj e).symm
  · have := List.mem_singleton.mp z
    subst this
    rw [h'] at e
    exact (Option.some.inj e).symm
/-- over a tuple -/
theorem el_lcD {ds : List PyData} {j : Nat} {g : PyData → PyData} (h : EvD ρ F t Γ (.tuple ds)) (hw : Γ[j]? = some .no) (he : ∀ d ∈ ds, EvD ρ F te (Γ.set j (.dat d)) (g d)) (hn : ds.length ≤ sizeLine) : EvL ρ F (tLc (iTup K t) (gName j) tYes te [j]) Γ (· = ds.map g) := by
  refine EvL.is (el_lc (h := fun i => g (nth ds i)) (ei_tup h) (one_no hw) (fun i hi => ⟨_, bw_name, he _ (getD_mem _ hi)⟩) hn) ?_
  exact range_getD ds .none g
/-- over a list that stays -/
theorem el_lcF {ds : List PyData} {j : Nat} {g : PyData → PyData} (h : EvD ρ F t Γ (.list ds)) (hw : Γ[j]? = some .no) (he : ∀ d ∈ ds, EvD ρ F te (Γ.set j (.dat d)) (g d)) (hn : ds.length ≤ sizeLine) : EvL ρ F (tLc (iList K t) (gName j) tYes te [j]) Γ (· = ds.map g) := by
  refine EvL.is (el_lc (h := fun i => g (nth ds i)) (ei_listF h) (one_no hw) (fun i hi => ⟨_, bw_name, he _ (getD_mem _ hi)⟩) hn) ?_
  exact range_getD ds .none g
/-- over a new list -/
theorem el_lcN {ds : List PyData} {j : Nat} {g : PyData → PyData} (h : EvL ρ F t Γ (· = ds)) (hw : Γ[j]? = some .no) (he : ∀ d ∈ ds, EvD ρ F te (Γ.set j (.dat d)) (g d)) (hn : ds.length ≤ sizeLine) : EvL ρ F (tLc (iList K t) (gName j) tYes te [j]) Γ (· = ds.map g) := by
  refine EvL.is (el_lc (h := fun i => g (nth ds i)) (ei_listR h) (one_no hw) (fun i hi => ⟨_, bw_name, he _ (getD_mem _ hi)⟩) hn) ?_
  exact range_getD ds .none g
/-- over ints -/
theorem el_lcI {ns : List Int} {j : Nat} {g : Int → PyData} (h : EvD ρ F t Γ (dI ns)) (hw : Γ[j]? = some .no) (he : ∀ c ∈ ns, EvD ρ F te (Γ.set j (.dat (.int c))) (g c)) (hn : ns.length ≤ 10000000) : EvL ρ F (tLc (iTup K t) (gName j) tYes te [j]) Γ (· = ns.map g) := by
  refine EvL.is (el_lc (h := fun i => g (ns.getD i 0)) (ei_tup h) (one_no hw) (fun i hi => ⟨_, bw_name, ?_⟩) (by rw [List.length_map]; exact sz hn)) ?_
  · rw [List.length_map] at hi
    have e : nth (ns.map PyData.int) i = .int (ns.getD i 0) := nth_of (by
      rw [List.getElem?_map, List.getD_eq_getElem?_getD, List.getElem?_eq_getElem hi]
      rfl)
    rw [e]
    exact he _ (getD_mem _ hi)
  · rw [List.length_map]
    exact range_getD ns 0 g
/-- over a range -/
theorem el_lcR {n : Nat} {j : Nat} {m : Int} {h : Nat → PyData} (hi : EvA ρ F tr Γ (· = [.int m])) (e : m = (n : Int)) (hw : Γ[j]? = some .no) (he : ∀ i : Nat, i < n → EvD ρ F te (Γ.set j (.dat (.int (i : Int)))) (h i)) (hn : n ≤ 10000000) : EvL ρ F (tLc (iRng1 tr) (gName j) tYes te [j]) Γ (· = (List.range n).map h) := by
  subst e
  refine el_lc (n := n) (f := fun i => .int i) (fun H0 σ H I R q => ei_rng1 hi (by omega) H0 σ H I R fun J p n f H' e => q J p n f H' ⟨by rw [e.1]; omega, e.2⟩) (one_no hw) (fun i hi => ⟨_, bw_name, he i hi⟩) (sz hn)
/-- over a text's signs -/
theorem el_lcS {s : Str} {j : Nat} {g : Nat → PyData} (h : EvD ρ F t Γ (.str s)) (hw : Γ[j]? = some .no) (he : ∀ c ∈ s.cps.toList, EvD ρ F te (Γ.set j (.dat (.str ⟨#[c]⟩))) (g c)) (hn : s.length ≤ 10000000) : EvL ρ F (tLc (iStr t) (gName j) tYes te [j]) Γ (· = s.cps.toList.map g) := by
  have hl : s.cps.toList.length = s.cps.size := Array.length_toList
  refine EvL.is (el_lc (h := fun i => g (s.cps.toList.getD i 0)) (ei_str h) (one_no hw) (fun i hi => ⟨_, bw_name, ?_⟩) (sz hn)) ?_
  · exact he _ (getD_mem _ (by rw [hl]; exact hi))
  · rw [← hl]
    exact range_getD s.cps.toList 0 g
/-- over pairs in a tuple: [e for a, b in ..] -/
theorem el_lcP2 {α : Type} {xs : List α} {f1 f2 : α → PyData} {i j : Nat} {g : α → PyData} (h : EvD ρ F t Γ (.tuple (xs.map fun x => .tuple [f1 x, f2 x]))) (hij : i ≠ j) (hi : Γ[i]? = some .no) (hj : Γ[j]? = some .no) (he : ∀ x ∈ xs, EvD ρ F te ((Γ.set i (.dat (f1 x))).set j (.dat (f2 x))) (g x)) (hn : xs.length ≤ 10000000) :
    EvL ρ F (tLc (iTup K t) (gTup K 2 (gCons (gName i) (gCons (gName j) gNil))) tYes te [i, j]) Γ (· = xs.map g) := by
  by_cases hx : xs = []
  · subst hx
    exact EvL.is (el_lc (h := fun _ => .none) (ei_tup h) (two_no hi hj) (fun k hk => absurd hk (by simp)) (sz (by simp))) rfl
  · obtain ⟨x0, hx0⟩ := List.exists_mem_of_ne_nil xs hx
    have ex : ∀ k, k < xs.length → nth (xs.map fun x => .tuple [f1 x, f2 x]) k = .tuple [f1 (xs.getD k x0), f2 (xs.getD k x0)] := fun k hk => nth_of (by
      rw [List.getElem?_map, List.getD_eq_getElem?_getD, List.getElem?_eq_getElem hk]
      rfl)
    refine EvL.is (el_lc (h := fun k => g (xs.getD k x0)) (ei_tup h) (two_no hi hj) (fun k hk => ?_) (by rw [List.length_map]; exact sz hn)) ?_
    · rw [List.length_map] at hk
      rw [ex k hk]
      exact ⟨_, bw_pair hij, he _ (getD_mem _ hk)⟩
    · rw [List.length_map]
      exact range_getD xs x0 g
/-- [e for at, cell in enumerate(t)] -/
theorem el_lcE {ns : List Int} {i j : Nat} {g : Nat → Int → PyData} (h : EvD ρ F t Γ (dI ns)) (hij : i ≠ j) (hi : Γ[i]? = some .no) (hj : Γ[j]? = some .no) (he : ∀ (k : Nat) (c : Int), ns[k]? = some c → EvD ρ F te ((Γ.set i (.dat (.int (k : Int)))).set j (.dat (.int c))) (g k c)) (hn : ns.length ≤ 10000000) :
    EvL ρ F (tLc (iEnumT K (tCons t tNil)) (gTup K 2 (gCons (gName i) (gCons (gName j) gNil))) tYes te [i, j]) Γ (· = (List.range ns.length).map fun k => g k (ns.getD k 0)) := by
  refine el_lc (n := ns.length) (f := fun k => .tuple [.int k, nth (ns.map PyData.int) k]) (fun H0 σ H I R q => ei_enumT h H0 σ H I R fun J p n f H' e => q J p n f H' ⟨by rw [e.1, List.length_map], e.2⟩) (two_no hi hj) (fun k hk => ?_) (sz hn)
  have e : nth (ns.map PyData.int) k = .int (ns.getD k 0) := nth_of (by
    rw [List.getElem?_map, List.getD_eq_getElem?_getD, List.getElem?_eq_getElem hk]
    rfl)
  refine ⟨_, bw_pair hij, ?_⟩
  rw [e]
  refine he k _ ?_
  rw [List.getD_eq_getElem?_getD, List.getElem?_eq_getElem hk]
  rfl
end
end NN
set_option Elab.async false
set_option linter.all false
set_option maxRecDepth 100000
set_option maxHeartbeats 4000000
/-! defs that are handed on; readers -/
namespace NN
open PySem PySem.Spec PyProof.Rows L2 NM
/-- a def's walk, any promise -/
theorem fn_gen {P : Program} {w : World} {K : PySem.W.Frag} {mg : Str → Option Value} {base : Heap} {k : Nat} {x : Str} {st : Stmt} {N ps : List Str} {sp : Sp} (D : Df K mg x st ps) (S : FnScope N ps (defScope st)) (hlen : ∀ vs H Q E, sp vs H Q E → vs.length = ps.length)
    (hbody : ∀ (cdv : Value) (A : Around) (outer : List Env) (s : Shared) (f : Addr) (H : Hp) (vs : List V) (Q : VK) (E : XK), Room k (A.deeper (envOfC x (defScope st) s.heap.objs.size f cdv)) → sp vs H Q E →
      ∃ t, PSs (cxOf CX0 P w K mg base N x (defScope st) f cdv A outer s H E).nox (defBody st) t ∧ t { nx := fun _ H' => Q .non H', rt := Q } (L2.start N vs) H) : Gf P w K mg base (k + 1) x ps sp := by
  obtain ⟨f, fd, Fu, hm, hb⟩ := D
  exact ⟨f, fd, Fu.ok S hlen (fun cdv A outer s H vs Q E hr h => hbody cdv A outer s f H vs Q E hr h), hm, Fu.kp, hb, st, Fu⟩
/-- a def at an address -/
def Rdr (P : Program) (w : World) (K : PySem.W.Frag) (mg : Str → Option Value) (base : Heap) (k : Nat) (f : Addr) (sp : Sp) : Prop :=
  ∃ (fd : FuncData) (ps : List Str), FnOk P w K mg base CX0 k f fd ps sp ∧ PySem.W.keepIn K (.ref f) = true ∧ Binds K fd ps []
theorem Gf.rdr {P : Program} {w : World} {K : PySem.W.Frag} {mg : Str → Option Value} {base : Heap} {k : Nat} {x : Str} {ps : List Str} {sp : Sp} (G : Gf P w K mg base k x ps sp) : ∃ f, mg x = some (.ref f) ∧ Rdr P w K mg base k f sp := by
  obtain ⟨f, fd, F, hm, hk, hb, _⟩ := G
  exact ⟨f, hm, fd, ps, F, hk, hb⟩
section
variable {X : Cx} {k i : Nat} {f : Addr} {sp : Sp} {x : Str} {p pos : Pos} {e : Expr} {es : List Expr} {t : TA}
theorem pe_callR (R : Rdr X.prog X.w X.K X.mg X.base k f sp) (hr : Room k X.A) (ha : PA X (e :: es) t) (hN : X.N[i]? = some x := by rfl) (hv : Vis X.env.scope x := by first | exact Or.inl rfl | exact Or.inr (Or.inl rfl) | exact Or.inr (Or.inr rfl))
    (hdb : (x == ("__debug__" : Str)) = false := by decide) (hcd : (x == ("__classdict__" : Str)) = false := by decide) (he : starEach (e :: es) X.env = (false, eval e X.env) :: starEach es X.env := by rfl) (hpl : (backTo pos (starEach es X.env)).any (·.1) = false := by rfl) :
    PE X (.Call (.Name x p) (e :: es) [] pos) (tCallL i f sp [] E0 t) := by
  obtain ⟨fd, ps, F, hk, hb⟩ := R
  exact pe_callL F hr hN hv hk hb .nil pass0 ha hdb hcd he hpl
theorem pe_fn (hm : X.mg x = some (.ref f)) (hg : Gl X x := by rfl) (hd : (x == ("__debug__" : Str)) = false := by decide) : PE X (.Name x p) (tC (.ref f)) := pe_glob hg hm rfl hd
end
section
variable {ρ : Rl} {F H0 H0' H H' : Hp} {σ : L2.St} {Γ : List Ty} {K : PySem.W.Frag}
variable {t ta tb tc te : TE} {tt tu : TT} {tr : TA} {P P' Pa Pb : PyData → Prop} {a b d : PyData} {D : Ends} {u : TS}
theorem ed_callL {sp : Sp} {E : XK} {i : Nat} {f : Addr} {l : List PyData} (hi : Γ[i]? = some (.val (.ref f))) (h : EvA ρ F tr Γ (· = l)) (c : SpD ρ F sp l P) : EvS ρ F (tCallL i f sp [] E tr) Γ P := fun H0 σ H I Q q =>
  ⟨I.val hi, ed_call (E := E) h c H0 σ H I Q q⟩
def resD {α : Type} (rd : List Int → Option (α × List Int)) (toD : α → PyData) (cs : List Int) (a : Nat) : PyData := match rd (cs.drop a) with
    | none => .none
    | some (x, r) => .tuple [toD x, .int ((cs.length : Int) - r.length)]
theorem resD_none {α : Type} {rd : List Int → Option (α × List Int)} {toD : α → PyData} {cs : List Int} {a : Nat} (h : rd (cs.drop a) = none) : resD rd toD cs a = .none := by
  unfold resD
  rw [h]
theorem resD_some {α : Type} {rd : List Int → Option (α × List Int)} {toD : α → PyData} {cs : List Int} {a : Nat} {x : α} {r : List Int} (h : rd (cs.drop a) = some (x, r)) : resD rd toD cs a = .tuple [toD x, .int ((cs.length : Int) - r.length)] := by
  unfold resD
  rw [h]
/-- where a reading ends -/
theorem rd_end {α : Type} (c : Cd α) {cs : List Int} {a : Nat} {x : α} {r : List Int} (hc : Cs cs) (ha : a ≤ cs.length) (h : c.rd (cs.drop a) = some (x, r)) : r = cs.drop (cs.length - r.length) ∧ cs.length - r.length ≤ cs.length ∧ a < cs.length - r.length ∧ r.length ≤ cs.length := by
  have h1 := c.suffix (hc.drop a) h
  have h2 := c.shorter (hc.drop a) h
  rw [List.length_drop] at h1 h2
  have e : a + (cs.length - a - r.length) = cs.length - r.length := by omega
  rw [List.drop_drop, e] at h1
  exact ⟨h1, by omega, by omega, by omega⟩
/-- the promise of read_many with the reader at f -/
def spMany {α : Type} (f : Addr) (c : Cd α) (toD : α → PyData) : Sp := fun vs H Q _ => ∃ (F : Hp) (v : V) (cs : List Int) (a : Nat), vs = [v, .int a, .ref f] ∧ Same F H ∧ TD F H v (dI cs) ∧ Cs cs ∧ a ≤ cs.length ∧ cs.length ≤ 100000 ∧
  ∀ v H', Same H H' → TD F H' v (resD c.many.rd (fun xs => .tuple (xs.map toD)) cs a) → Q v H'
theorem ed_many {α : Type} {E : XK} {f : Addr} {c : Cd α} {toD : α → PyData} {cs : List Int} {a : Nat} (h1 : EvD ρ F ta Γ (dI cs)) (h2 : EvD ρ F tb Γ (.int a)) (hc : Cs cs) (ha : a ≤ cs.length) (hz : cs.length ≤ 100000) :
    EvD ρ F (tCall (spMany f c toD) [] E (tCons ta (tCons tb (tCons (tC (.ref f)) tNil)))) Γ (resD c.many.rd (fun xs => .tuple (xs.map toD)) cs a) := fun H0 σ H I Q q =>
  h1 H0 σ H I _ fun v d H1 pd I1 m1 t1 => h2 H0 σ H1 I1 _ fun v2 d2 H2 pd2 I2 m2 t2 => by
    subst pd; subst pd2
    cases t2
    show spMany f c toD [v, .int a, .ref f] H2 Q E
    exact ⟨F, v, cs, a, rfl, I2.sf, t1.tu (m2.tu I1.inv), hc, ha, hz, fun v' H' s t => q v' _ H' rfl (I2.same s) ((m1.trans m2).trans (Mv.of s)) t⟩
/-- .. the reader in a slot -/
theorem ed_manyL {α : Type} {E : XK} {i : Nat} {f : Addr} {c : Cd α} {toD : α → PyData} {cs : List Int} {a : Nat} (h1 : EvD ρ F ta Γ (dI cs)) (h2 : EvD ρ F tb Γ (.int a)) (hi : Γ[i]? = some (.val (.ref f))) (hc : Cs cs) (ha : a ≤ cs.length) (hz : cs.length ≤ 100000) :
    EvD ρ F (tCall (spMany f c toD) [] E (tCons ta (tCons tb (tCons (tVar i) tNil)))) Γ (resD c.many.rd (fun xs => .tuple (xs.map toD)) cs a) := fun H0 σ H I Q q =>
  h1 H0 σ H I _ fun v d H1 pd I1 m1 t1 => h2 H0 σ H1 I1 _ fun v2 d2 H2 pd2 I2 m2 t2 => by
    subst pd; subst pd2
    cases t2
    refine ⟨.ref f, I2.val hi, ?_⟩
    show spMany f c toD [v, .int a, .ref f] H2 Q E
    exact ⟨F, v, cs, a, rfl, I2.sf, t1.tu (m2.tu I1.inv), hc, ha, hz, fun v' H' s t => q v' _ H' rfl (I2.same s) ((m1.trans m2).trans (Mv.of s)) t⟩
/-- range(m), m any int -/
theorem el_lcR' {n : Nat} {j : Nat} {m : Int} {h : Nat → PyData} (hi : EvA ρ F tr Γ (· = [.int m])) (e : m.toNat = n) (hm : -(2 ^ 62) ≤ m) (hw : Γ[j]? = some .no) (he : ∀ i : Nat, i < n → EvD ρ F te (Γ.set j (.dat (.int (i : Int)))) (h i)) (hn : n ≤ 10000000) : EvL ρ F (tLc (iRng1 tr) (gName j) tYes te [j]) Γ (· = (List.range n).map h) :=
  el_lc (n := n) (f := fun i => .int i) (fun H0 σ H I R q => ei_rng1 hi ⟨hm, by omega⟩ H0 σ H I R fun J p n f H' e' => q J p n f H' ⟨by rw [e'.1, e], e'.2⟩) (one_no hw) (fun i hi => ⟨_, bw_name, he i hi⟩) (sz hn)
end
theorem take_flat {α : Type} {l : List α} {i : Nat} {x : α} (g : α → List Int) (h : l[i]? = some x) : (l.take (i + 1)).flatMap g = (l.take i).flatMap g ++ g x := by
  rw [List.take_add_one, h, List.flatMap_append]
  show _ ++ (g x ++ []) = _
  rw [List.append_nil]
theorem nth_map {α : Type} {l : List α} {i : Nat} {x : α} (g : α → PyData) (h : l[i]? = some x) : nth (l.map g) i = g x := nth_of (by rw [List.getElem?_map, h]; rfl)
theorem pair_rd {α β : Type} (a : Cd α) (b : Cd β) (l : List Int) : (a.pair b).rd l = (match a.rd l with
    | none => none
    | some (x, r) => match b.rd r with
      | none => none
      | some (y, r') => some ((x, y), r')) := by
  first
    | rfl
    | (unfold Cd.pair
       dsimp only
       cases a.rd l with
       | none => rfl
       | some p =>
         obtain ⟨x, r⟩ := p
         dsimp only
         cases b.rd r with
         | none => rfl
         | some q => rfl)
theorem pair_none1 {α β : Type} {a : Cd α} {b : Cd β} {l : List Int} (h : a.rd l = none) : (a.pair b).rd l = none := by rw [pair_rd, h]
theorem pair_none2 {α β : Type} {a : Cd α} {b : Cd β} {l r : List Int} {x : α} (h : a.rd l = some (x, r)) (h2 : b.rd r = none) : (a.pair b).rd l = none := by
  rw [pair_rd, h]
  simp only
  rw [h2]
theorem pair_some {α β : Type} {a : Cd α} {b : Cd β} {l r r' : List Int} {x : α} {y : β} (h : a.rd l = some (x, r)) (h2 : b.rd r = some (y, r')) : (a.pair b).rd l = some ((x, y), r') := by
  rw [pair_rd, h]
  simp only
  rw [h2]
theorem pair_pr {α β : Type} (a : Cd α) (b : Cd β) (p : α × β) : (a.pair b).pr p = a.pr p.1 ++ b.pr p.2 := rfl
theorem many_pr {α : Type} (a : Cd α) (xs : List α) : a.many.pr xs = nc xs.length ++ xs.flatMap a.pr := rfl
def dLab (p : Lab) : PyData := .tuple [.str p.1, .int p.2]
def dItem (it : Item) : PyData := .tuple [.int it.1, dI it.2.1, .tuple (it.2.2.map dLab)]
theorem item_pr (it : Item) : item.pr it = nc it.1 ++ ((nc it.2.1.length ++ it.2.1.flatMap NM.int.pr) ++ (nc it.2.2.length ++ it.2.2.flatMap lab.pr)) := rfl
end NN
set_option Elab.async false
set_option linter.all false
set_option maxRecDepth 100000
set_option maxHeartbeats 4000000
namespace NN
open PySem PySem.Spec PyProof.Rows L2 NM
local macro_rules | `(tactic| walk_at "ev") => `(tactic| ((fail_if_success (first | with_reducible apply gd1 | with_reducible apply gd2 | with_reducible apply gd3 | with_reducible apply gd4 | with_reducible apply gd5)); first
  | with_reducible exact ed_int | with_reducible exact ed_str | with_reducible exact ed_bl | with_reducible exact ed_non
  | ((with_reducible apply ed_var); rfl) | ((with_reducible apply er_var); rfl)
  | with_reducible exact ea_nil | ((with_reducible apply ea_cons) <;> walk_at "ev")
  | with_reducible exact od_int | with_reducible exact od_bool | exact od_intC (by decide) | exact od_intC ⟨by decide, by decide⟩ | exact od_intC (.inl ⟨by decide, by decide⟩) | with_reducible exact ud_int | with_reducible exact od_eqI | with_reducible exact od_neI | with_reducible exact od_strLt | with_reducible exact od_ip
  | ((with_reducible apply ed_op) <;> walk_at "ev")
  | ((with_reducible apply ed_un) <;> walk_at "ev")
  | ((with_reducible apply ed_tup') <;> walk_at "ev")
  | ((with_reducible apply el_lst') <;> walk_at "ev")
  | ((with_reducible apply ebd_test) <;> walk_at "ev")
  | ((with_reducible apply ebd_val) <;> walk_at "ev")
  | ((with_reducible refine ed_lenT ?_) <;> walk_at "ev")
  | ((with_reducible apply ed_lenR) <;> walk_at "ev")
  | ((with_reducible apply ed_tupleR) <;> walk_at "ev")
  | ((with_reducible apply EvL.rd) <;> walk_at "ev")
  | with_reducible exact eo_none
  | ((with_reducible apply eo_some) <;> walk_at "ev")
  | ((with_reducible apply ed_slT) <;> walk_at "ev")
  | ((with_reducible apply ebd_not) <;> walk_at "ev")
  | ((with_reducible apply ei_tup) <;> walk_at "ev")
  | rfl
  | skip))
section
variable {P : Program} {w : World} {K : PySem.W.Frag} {mg : Str → Option Value} {base : Heap}
/-! number_cells -/
abbrev s06 : Stmt := topS 6
theorem sc06 : FnScope ["number", "found"] ["number"] (defScope s06) := ⟨rfl, rfl, rfl, by decide +kernel, rfl, by decide +kernel, by decide +kernel⟩
def cNC (ds : List PyData) (d : PyData) : Prop := ∃ n : Int, ds = [.int n] ∧ 0 ≤ n ∧ (nc n).length ≤ 1000000 ∧ d = dI (nc n)
theorem g06 (D : Df K mg "number_cells" s06 ["number"]) (N : Nm mg) : Gf P w K mg base 1 "number_cells" ["number"] (spP cNC) := by
  refine fn_data D sc06 (fun ds d ⟨n, e, _⟩ => by rw [e]; rfl) fun cdv A outer s f H F vs E ds d hr c => ?_
  obtain ⟨n, rfl, hn, hz, rfl⟩ := c
  refine ⟨_, (pss_cons (ps_set (i := 1) sc06.nd rfl (.inl rfl) (pe_lst pa_nil))
    (pss_cons (ps_while PassesOwn.never (pt_cmpR op_gt (pv 0) pe_int (nomark _))
    (pss_cons (ps_expr (pe_bm PySem.F.plainAttrs_list PySem.F.slot_list_append PySem.F.type_list_append mt_append (pv 1) (pa_cons (pe_op op_add pe_int (pe_op op_mod (pv 0) pe_int)) pa_nil)))
    (pss_one (ps_set (i := 0) sc06.nd rfl (.inl rfl) (pe_op op_fdiv (pv 0) pe_int)))))
    (pss_one (ps_ret (pe_callTy call_tuple_of (by rfl) N.tuple (by decide +kernel) (pa_cons (pe_op op_cat (pv 1) (pe_lst (pa_cons (pv 0) pa_nil))) pa_nil)))))), ?_⟩
  intro σ I Q q
  show tSeq _ _ _ _ _
  refine sq_setL I (by walk_at "ev") fun ds σ H e I => ?_
  subst e
  refine sq_while (α := Int × List Int) (n, []) (fun x => 0 ≤ x.1 ∧ x.2 ++ nc x.1 = nc n) (fun x => [.dat (.int x.1), .lst (x.2.map .int)]) (fun x => x.1.toNat) I ⟨hn, rfl⟩ fun x hx => ?_
  obtain ⟨m, acc⟩ := x
  obtain ⟨hm, ha⟩ := hx
  have hm : 0 ≤ m := hm
  have ha : acc ++ nc m = nc n := ha
  refine ⟨decide (127 < m), by walk_at "ev", fun hb σ H I => ?_, fun hb σ H I => ?_⟩
  · have hb := of_decide_eq_true hb
    have e := nc_big hb
    rw [e] at ha
    have hl := congrArg List.length ha
    rw [List.length_append, List.length_cons] at hl
    refine sq_appendD I rfl (by walk_at "ev") (sz' (by rw [List.length_map]; show acc.length < _; omega)) fun H I => ?_
    refine st_set I (by walk_at "ev") fun σ H I => ?_
    refine ⟨(m / 128, acc ++ [128 + m % 128]), ?_, ⟨?_, ?_⟩, ?_⟩
    · show (m / 128).toNat < m.toNat
      omega
    · show 0 ≤ m / 128
      omega
    · show acc ++ [128 + m % 128] ++ nc (m / 128) = nc n
      rw [List.append_assoc]
      exact ha
    · rw [List.map_append]
      exact I
  · have hb := of_decide_eq_false hb
    rw [nc_small hb] at ha
    have hl := congrArg List.length ha
    rw [List.length_append, List.length_singleton] at hl
    refine st_ret I (ed_tupleR (EvL.rd (eld_cat (by walk_at "ev") (by walk_at "ev") (sz (by rw [List.length_map, List.length_singleton]; show acc.length + 1 ≤ _; omega))))) fun v d H' pd I m td => ?_
    subst pd
    refine q _ v H' (Same.refl _) I.rel ?_
    rw [← ha]
    show TD F H' v (.tuple ((acc ++ [_]).map .int))
    rw [List.map_append]
    exact td
/-! read_number -/
abbrev s07 : Stmt := topS 7
theorem sc07 : FnScope ["cells", "at", "total", "factor", "place"] ["cells", "at"] (defScope s07) := ⟨rfl, rfl, rfl, by decide +kernel, rfl, by decide +kernel, by decide +kernel⟩
/-- reading at a place of some cells -/
def cRd {α : Type} (rd : List Int → Option (α × List Int)) (toD : α → PyData) (ds : List PyData) (d : PyData) : Prop := ∃ (cs : List Int) (at_ : Nat), ds = [dI cs, .int at_] ∧ Cs cs ∧ at_ ≤ cs.length ∧ cs.length ≤ 100000 ∧
  d = (match rd (cs.drop at_) with
    | none => .none
    | some (x, r) => .tuple [toD x, .int ((cs.length : Int) - r.length)])
theorem ints_at {cs : List Int} {i : Nat} {k c : Int} (e : k = (i : Int)) (h : cs[i]? = some c) : atI (cs.map PyData.int) k = some (.int c) := by
  subst e
  refine atI_nat ?_
  rw [List.getElem?_map, h]
  rfl
/-- what a reading beginning within a number gives -/
def cont (x : Int × Int) : Option (Int × List Int) → Option (Int × List Int)
  | none => none
  | some (n, r) => some (x.1 + x.2 * n, r)
theorem cont0 (o : Option (Int × List Int)) : cont (0, 1) o = o := by
  cases o with
  | none => rfl
  | some p =>
    obtain ⟨n, r⟩ := p
    show some (0 + 1 * n, r) = _
    rw [Int.zero_add, Int.one_mul]
theorem g07 (D : Df K mg "read_number" s07 ["cells", "at"]) (N : Nm mg) : Gf P w K mg base 1 "read_number" ["cells", "at"] (spP (cRd rdN .int)) := by
  refine fn_data D sc07 (fun ds d ⟨cs, a, e, _⟩ => by rw [e]; rfl) fun cdv A outer s f H F vs E ds d hr c => ?_
  obtain ⟨cs, a, rfl, hc, ha, hz, rfl⟩ := c
  refine ⟨_, (pss_cons (ps_asg (pe_tup (pa_cons pe_int (pa_cons pe_int pa_nil))) (pg_tup rfl (pgs_cons (pg_name (i := 2) sc07.nd rfl (.inl rfl)) (pgs_cons (pg_name (i := 3) sc07.nd rfl (.inl rfl)) pgs_nil))))
    (pss_cons (ps_for PassesOwn.never rfl (pi_range2 rfl N.range (pa_cons (pv 1) (pa_cons (pe_callB call_len_seq (by rfl) N.len PySem.boot_len (pa_cons (pv 0) pa_nil)) pa_nil))) (pg_name (i := 4) sc07.nd rfl (.inl rfl))
    (pss_cons (ps_aug (i := 2) sc07.nd rfl (.inl rfl) (pe_op op_mul (pe_op op_mod (pe_ix ix_tup (pv 0) (pv 4) (fun _ _ => rfl)) pe_int) (pv 3)) ip_add)
    (pss_cons (ps_if (pt_cmpR op_lt (pe_ix ix_tup (pv 0) (pv 4) (fun _ _ => rfl)) pe_int (nomark _))
    (pss_one (ps_ret (pe_ifExp (PW.pt (pw_and (pt_cmpR op_eq (pe_ix ix_tup (pv 0) (pv 4) (fun _ _ => rfl)) pe_int (nomark _)) (pw_and1 (pt_cmpR op_gt (pv 4) (pv 1) (nomark _))))) pe_non (pe_tup (pa_cons (pv 2) (pa_cons (pe_op op_add (pv 4) pe_int) pa_nil))))))
    pss_nil)
    (pss_one (ps_aug (i := 3) sc07.nd rfl (.inl rfl) pe_int ip_mul)))))
    (pss_one (ps_ret pe_non)))), ?_⟩
  intro σ I Q q
  show tSeq _ _ _ _ _
  have I0 := I
  refine sq_asgG I (d := .tuple [.int 0, .int 1]) (by walk_at "ev") (bg_tup rfl (bgs_cons bg_name (bgs_cons bg_name bgs_nil))) fun σ H1 _ I => ?_
  refine sq_forA (α := Int × Int) (n := cs.length - a) (f := fun i => .int ((a : Int) + (i : Nat))) (0, 1) (fun i x => rdN (cs.drop a) = cont x (rdF (decide (i = 0)) (cs.drop (a + i)))) I ?_
    (fun i x => [.dat (dI cs), .dat (.int a), .dat (.int x.1), .dat (.int x.2), .no]) (fun i x => [.dat (dI cs), .dat (.int a), .dat (.int x.1), .dat (.int x.2), .dat (.int ((a : Int) + (i : Nat)))]) ?_ (fun H0 σ H I => I) (fun i x hi => bg_name) ?_ ?_
  · intro H0 σ H I R q2
    refine ei_rng2 (i := a) (j := cs.length) (by exact ea_cons (ed_var rfl) (ea_cons (ed_lenTI (ed_var rfl)) ea_nil)) (by omega) H0 σ H I R fun J p n f H' e => q2 J p n f H' ⟨by omega, e.2⟩
  · show rdF true (cs.drop a) = cont (0, 1) (rdF (decide (0 = 0)) (cs.drop (a + 0)))
    rw [cont0]
    rfl
  · intro H0' σ H hs i x hi hp I
    obtain ⟨t, u⟩ := x
    have hlt : a + i < cs.length := by omega
    have hget : cs[a + i]? = some cs[a + i] := List.getElem?_eq_getElem hlt
    have hdrop : cs.drop (a + i) = cs[a + i] :: cs.drop (a + i + 1) := List.drop_eq_getElem_cons hlt
    have hb := hc cs[a + i] (List.getElem_mem hlt)
    generalize cs[a + i] = c at hget hdrop hb
    rw [hdrop] at hp
    have eat : atI (cs.map PyData.int) ((a : Int) + (i : Nat)) = some (.int c) := ints_at (i := a + i) (by omega) hget
    refine sq_aug I rfl (ed_op (ed_op (ed_op (ed_var rfl) (ed_var rfl) (od_ixT eat)) ed_int (od_intC (by decide))) (ed_var rfl) (od_intC (.inl ⟨by omega, by omega⟩))) od_ip fun σ H I => ?_
    refine sq_ifr I (p := (· = decide (c < 128))) (ebd_test (ed_op (ed_op (ed_var rfl) (ed_var rfl) (od_ixT eat)) ed_int od_bool)) (fun e H I _ => ?_) fun e H I _ => ?_
    · have hc1 := of_decide_eq_true e.symm
      refine st_ret I (P := (· = if c = 0 ∧ 0 < i then PyData.none else .tuple [.int (t + c % 128 * u), .int ((a : Int) + (i : Nat) + 1)])) ?_ fun v d H' pd I m td => ?_
      · refine ed_ifc (EvB.is (ebd_and (ebd_test (ed_op (ed_op (ed_var rfl) (ed_var rfl) (od_ixT eat)) ed_int od_eqI)) (fun _ => ebd_test (ed_op (ed_var rfl) (ed_var rfl) od_bool))) ?_) (fun _ => ed_non) (fun _ => by walk_at "ev")
        by_cases h1 : c = 0
        · by_cases h2 : 0 < i
          · rw [decide_eq_true h1, decide_eq_true (show (a : Int) < (a : Int) + (i : Nat) by omega), decide_eq_true ⟨h1, h2⟩]
            rfl
          · rw [decide_eq_true h1, decide_eq_false (show ¬ (a : Int) < (a : Int) + (i : Nat) by omega), decide_eq_false (fun z => h2 z.2)]
            rfl
        · rw [decide_eq_false h1, decide_eq_false (p := c = 0 ∧ 0 < i) (fun z => h1 z.1)]
          rfl
      · subst pd
        refine q _ v H' hs I.rel ?_
        rw [hp]
        unfold rdF
        rw [if_pos hc1]
        by_cases h1 : c = 0 ∧ 0 < i
        · rw [if_pos h1] at td
          rw [if_pos ⟨h1.1, decide_eq_false (by omega)⟩]
          exact td
        · rw [if_neg h1] at td
          rw [if_neg (fun z => h1 ⟨z.1, by have := of_decide_eq_false z.2; omega⟩)]
          show TD F H' v (.tuple [.int (t + u * c), .int ((cs.length : Int) - ((cs.drop (a + i + 1)).length : Nat))])
          have e1 : t + u * c = t + c % 128 * u := by
            have : c % 128 = c := by omega
            rw [this, Int.mul_comm]
          have e2 : (cs.length : Int) - ((cs.drop (a + i + 1)).length : Nat) = (a : Int) + (i : Nat) + 1 := by
            rw [List.length_drop]
            omega
          rw [e1, e2]
          exact td
    · have hc1 := of_decide_eq_false e.symm
      refine st_aug I rfl ed_int (od_intC (.inr ⟨by decide, by decide⟩)) fun σ H I => ?_
      refine ⟨(t + c % 128 * u, u * 128), ?_, I.drop 4⟩
      show rdN (cs.drop a) = _
      rw [hp]
      have hne : decide (i + 1 = 0) = false := decide_eq_false (by omega)
      rw [hne]
      show cont (t, u) (rdF (decide (i = 0)) (c :: cs.drop (a + i + 1))) = cont _ (rdF false (cs.drop (a + (i + 1))))
      rw [show a + (i + 1) = a + i + 1 by omega]
      conv => lhs; unfold rdF
      rw [if_neg hc1]
      cases rdF false (cs.drop (a + i + 1)) with
      | none => rfl
      | some p =>
        obtain ⟨n, r⟩ := p
        show some (t + u * (c % 128 + 128 * n), r) = some (t + c % 128 * u + u * 128 * n, r)
        congr 2
        rw [Int.mul_add, Int.mul_comm u (c % 128), Int.mul_assoc, Int.add_assoc]
  · intro σ H x hp I
    refine st_ret I ed_non fun v d H' pd I m td => ?_
    subst pd
    refine q _ v H' (Same.refl _) I.rel ?_
    rw [hp, List.drop_of_length_le (by omega)]
    exact td
end
end NN
set_option Elab.async false
set_option linter.all false
set_option maxRecDepth 100000
set_option maxHeartbeats 4000000
namespace NN
open PySem PySem.Spec PyProof.Rows L2 NM
local macro_rules | `(tactic| walk_at "ev") => `(tactic| ((fail_if_success (first | with_reducible apply gd1 | with_reducible apply gd2 | with_reducible apply gd3 | with_reducible apply gd4 | with_reducible apply gd5)); first
  | with_reducible exact ed_int | with_reducible exact ed_str | with_reducible exact ed_bl | with_reducible exact ed_non
  | ((with_reducible apply ed_var); rfl) | ((with_reducible apply er_var); rfl)
  | with_reducible exact ea_nil | ((with_reducible apply ea_cons) <;> walk_at "ev")
  | with_reducible exact od_int | with_reducible exact od_bool | exact od_intC (by decide) | exact od_intC ⟨by decide, by decide⟩ | exact od_intC (.inl ⟨by decide, by decide⟩) | with_reducible exact ud_int | with_reducible exact od_eqI | with_reducible exact od_neI | with_reducible exact od_strLt | with_reducible exact od_ip
  | ((with_reducible apply ed_op) <;> walk_at "ev")
  | ((with_reducible apply ed_un) <;> walk_at "ev")
  | ((with_reducible apply ed_tup') <;> walk_at "ev")
  | ((with_reducible apply el_lst') <;> walk_at "ev")
  | ((with_reducible apply ebd_test) <;> walk_at "ev")
  | ((with_reducible apply ebd_val) <;> walk_at "ev")
  | ((with_reducible refine ed_lenT ?_) <;> walk_at "ev")
  | ((with_reducible apply ed_lenR) <;> walk_at "ev")
  | ((with_reducible apply ed_tupleR) <;> walk_at "ev")
  | ((with_reducible apply EvL.rd) <;> walk_at "ev")
  | with_reducible exact eo_none
  | ((with_reducible apply eo_some) <;> walk_at "ev")
  | ((with_reducible apply ed_slT) <;> walk_at "ev")
  | ((with_reducible apply ebd_not) <;> walk_at "ev")
  | ((with_reducible apply ei_tup) <;> walk_at "ev")
  | rfl
  | skip))
section
variable {P : Program} {w : World} {K : PySem.W.Frag} {mg : Str → Option Value} {base : Heap}
/-! integer_cells -/
abbrev s08 : Stmt := topS 8
theorem sc08 : FnScope ["integer"] ["integer"] (defScope s08) := ⟨rfl, rfl, rfl, by decide +kernel, rfl, by decide +kernel, by decide +kernel⟩
def cIC (ds : List PyData) (d : PyData) : Prop := ∃ n : Int, ds = [.int n] ∧ (nc (zig n)).length ≤ 1000000 ∧ d = dI (nc (zig n))
theorem g08 (D : Df K mg "integer_cells" s08 ["integer"]) (N : Nm mg) (g_number_cells : Gf P w K mg base 1 "number_cells" ["number"] (spP cNC)) : Gf P w K mg base 2 "integer_cells" ["integer"] (spP cIC) := by
  refine fn_data D sc08 (fun ds d ⟨n, e, _⟩ => by rw [e]; rfl) fun cdv A outer s f H F vs E ds d hr c => ?_
  obtain ⟨n, rfl, hz, rfl⟩ := c
  refine ⟨_, (pss_one (ps_ret (pe_g g_number_cells (hr.mono (by decide)) (pa_cons (pe_ifExp (pt_cmpR op_ge (pv 0) pe_int (nomark _)) (pe_op op_mul pe_int (pv 0)) (pe_op op_sub (pe_op op_mul (pe_un un_neg pe_int) (pv 0)) pe_int)) pa_nil)))), ?_⟩
  intro σ I Q q
  show tRet _ _ _ _
  refine st_ret I (ed_callP (ea_cons (EvS.is (b := .int (zig n)) (ed_ifc (c := 0 ≤ n) (by walk_at "ev") (fun _ => by walk_at "ev") (fun _ => by walk_at "ev")) ?_) ea_nil) ⟨zig n, rfl, zig_nn n, hz, rfl⟩) fun v d H' pd I m td => ?_
  · unfold zig
    split <;> rfl
  · subst pd
    exact q _ v H' (Same.refl _) I.rel td
/-! read_integer -/
abbrev s09 : Stmt := topS 9
theorem sc09 : FnScope ["cells", "at", "told", "number", "behind"] ["cells", "at"] (defScope s09) := ⟨rfl, rfl, rfl, by decide +kernel, rfl, by decide +kernel, by decide +kernel⟩
theorem g09 (D : Df K mg "read_integer" s09 ["cells", "at"]) (N : Nm mg) (g_read_number : Gf P w K mg base 1 "read_number" ["cells", "at"] (spP (cRd rdN .int))) : Gf P w K mg base 2 "read_integer" ["cells", "at"] (spP (cRd NM.int.rd .int)) := by
  refine fn_data D sc09 (fun ds d ⟨cs, a, e, _⟩ => by rw [e]; rfl) fun cdv A outer s f H F vs E ds d hr c => ?_
  obtain ⟨cs, a, rfl, hc, ha, hz, rfl⟩ := c
  refine ⟨_, (pss_cons (ps_set (i := 2) sc09.nd rfl (.inl rfl) (pe_g g_read_number (hr.mono (by decide)) (pa_cons (pv 0) (pa_cons (pv 1) pa_nil))))
    (pss_cons (ps_if (pt_cmpR op_isN (pv 2) pe_non (nomark _))
    (pss_one (ps_ret pe_non))
    pss_nil)
    (pss_cons (ps_asg (pv 2) (pg_tup rfl (pgs_cons (pg_name (i := 3) sc09.nd rfl (.inl rfl)) (pgs_cons (pg_name (i := 4) sc09.nd rfl (.inl rfl)) pgs_nil))))
    (pss_one (ps_ret (pe_tup (pa_cons (pe_ifExp (pt_cmpR op_eq (pe_op op_mod (pv 3) pe_int) pe_int (nomark _)) (pe_op op_fdiv (pv 3) pe_int) (pe_op op_sub (pe_un un_neg (pe_op op_fdiv (pv 3) pe_int)) pe_int)) (pa_cons (pv 4) pa_nil)))))))), ?_⟩
  intro σ I Q q
  show tSeq _ _ _ _ _
  refine sq_set I (ed_callP (by walk_at "ev") ⟨cs, a, rfl, hc, ha, hz, rfl⟩) fun σ H I => ?_
  have er : NM.int.rd (cs.drop a) = match rdN (cs.drop a) with
    | none => none
    | some (x, r) => some (unzig x, r) := by
    unfold NM.int Cd.via Cd.num
    dsimp only
    cases rdN (cs.drop a) with
    | none => rfl
    | some p => rfl
  rw [er] at q
  cases e : rdN (cs.drop a) with
  | none =>
    rw [e] at I q
    refine sq_ifT I (ebd_test (ed_op (ed_var rfl) ed_non (od_isN true (by simp)))) fun H I _ => ?_
    refine st_ret I ed_non fun v d H' pd I m td => ?_
    subst pd
    exact q _ v H' (Same.refl _) I.rel td
  | some p =>
    obtain ⟨n, r⟩ := p
    rw [e] at I q
    refine sq_ifF I (ebd_test (ed_op (ed_var rfl) ed_non (od_isN false (by simp)))) fun H I _ => ?_
    refine sq_asgG I (ed_var rfl) (bg_tup rfl (bgs_cons bg_name (bgs_cons bg_name bgs_nil))) fun σ H _ I => ?_
    refine st_ret I (ed_tup' (ea_cons (EvS.is (b := .int (unzig n)) (ed_ifc (c := n % 2 = 0) (by walk_at "ev") (fun _ => by walk_at "ev") (fun _ => by walk_at "ev")) ?_) (by walk_at "ev")) rfl) fun v d H' pd I m td => ?_
    · unfold unzig
      split <;> rfl
    · subst pd
      exact q _ v H' (Same.refl _) I.rel td
end
end NN
set_option Elab.async false
set_option linter.all false
set_option maxRecDepth 100000
set_option maxHeartbeats 4000000
namespace NN
open PySem PySem.Spec PyProof.Rows L2 NM
local macro_rules | `(tactic| walk_at "ev") => `(tactic| ((fail_if_success (first | with_reducible apply gd1 | with_reducible apply gd2 | with_reducible apply gd3 | with_reducible apply gd4 | with_reducible apply gd5)); first
  | with_reducible exact ed_int | with_reducible exact ed_str | with_reducible exact ed_bl | with_reducible exact ed_non
  | ((with_reducible apply ed_var); rfl) | ((with_reducible apply er_var); rfl)
  | with_reducible exact ea_nil | ((with_reducible apply ea_cons) <;> walk_at "ev")
  | with_reducible exact od_int | with_reducible exact od_bool | exact od_intC (by decide) | exact od_intC ⟨by decide, by decide⟩ | exact od_intC (.inl ⟨by decide, by decide⟩) | with_reducible exact ud_int | with_reducible exact od_eqI | with_reducible exact od_neI | with_reducible exact od_strLt | with_reducible exact od_ip
  | ((with_reducible apply ed_op) <;> walk_at "ev")
  | ((with_reducible apply ed_un) <;> walk_at "ev")
  | ((with_reducible apply ed_tup') <;> walk_at "ev")
  | ((with_reducible apply el_lst') <;> walk_at "ev")
  | ((with_reducible apply ebd_test) <;> walk_at "ev")
  | ((with_reducible apply ebd_val) <;> walk_at "ev")
  | ((with_reducible refine ed_lenT ?_) <;> walk_at "ev")
  | ((with_reducible apply ed_lenR) <;> walk_at "ev")
  | ((with_reducible apply ed_tupleR) <;> walk_at "ev")
  | ((with_reducible apply EvL.rd) <;> walk_at "ev")
  | with_reducible exact eo_none
  | ((with_reducible apply eo_some) <;> walk_at "ev")
  | ((with_reducible apply ed_slT) <;> walk_at "ev")
  | ((with_reducible apply ebd_not) <;> walk_at "ev")
  | ((with_reducible apply ei_tup) <;> walk_at "ev")
  | rfl
  | skip))
section
variable {P : Program} {w : World} {K : PySem.W.Frag} {mg : Str → Option Value} {base : Heap}
/-! name_cells -/
abbrev s10 : Stmt := topS 10
theorem sc10 : FnScope ["name", "sign"] ["name"] (defScope s10) := ⟨rfl, rfl, rfl, by decide +kernel, rfl, by decide +kernel, by decide +kernel⟩
def cNM (ds : List PyData) (d : PyData) : Prop := ∃ s : Str, ds = [.str s] ∧ okName s ∧ d = dI (nmc s)
theorem letter_is {c : Nat} (h : 97 ≤ c ∧ c < 123) : (⟨#[c]⟩ : Str) = ⟨#[97 + (c - 97)]⟩ := by
  rw [show 97 + (c - 97) = c by omega]
theorem g10 (D : Df K mg "name_cells" s10 ["name"]) (N : Nm mg) (Cc : Ct mg) : Gf P w K mg base 1 "name_cells" ["name"] (spP cNM) := by
  refine fn_data D sc10 (fun ds d ⟨n, e, _⟩ => by rw [e]; rfl) fun cdv A outer s f H F vs E ds d hr c => ?_
  obtain ⟨z, rfl, hz, rfl⟩ := c
  refine ⟨_, (pss_one (ps_ret (pe_op op_catA (pe_tup (pa_cons (pe_callB call_len_str (by rfl) N.len PySem.boot_len (pa_cons (pv 0) pa_nil)) pa_nil)) (pe_callTy call_tuple_of (by rfl) N.tuple (by decide +kernel) (pa_cons (pe_lc (own := [("sign", 1)]) (g := gName 1) (tt := tYes) (te := tBM K "str" rSI (tC (.str letters)) (tCons (tVar 1) tNil)) rfl sc10.nd (pi_str (pv 0)) (blkOk_by (own := [("sign", 1)]) (N := ["name", "sign"]) (sc := defScope s10) (by decide +kernel)) (fun _ _ _ _ _ => (pg_name (i := 1) sc10.nd rfl (.inl rfl))) (fun _ _ _ _ _ => pts_nil) (fun _ _ _ _ _ => (pe_index (pe_cs Cc.letters) (pa_cons (pv 1) pa_nil)))) pa_nil))))), ?_⟩
  intro σ I Q q
  show tRet _ _ _ _
  have hl : z.cps.toList.length = z.length := Array.length_toList
  have hz1 := hz.1.1
  have hz2 := hz.1.2
  refine st_ret I (ed_op (ed_tup' (ea_cons (ed_lenS (ed_var rfl) (sz (by omega))) ea_nil) rfl) (ed_tupleR (EvL.rd (el_lcS (g := fun c => .int ((c - 97 : Nat) : Int)) (ed_var rfl) rfl (fun c hc => ?_) (by omega)))) (od_cat (sz (by rw [List.length_map, hl]; simp; omega)))) fun v d H' pd I m td => ?_
  · have hb := hz.2 c hc
    refine ed_letter ed_str (by omega) (EvS.is (ed_var rfl) ?_)
    rw [letter_is hb]
  · subst pd
    refine q _ v H' (Same.refl _) I.rel ?_
    have e : dI (nmc z) = .tuple ([PyData.int (z.length : Int)] ++ z.cps.toList.map fun c => .int ((c - 97 : Nat) : Int)) := by
      unfold nmc
      show PyData.tuple (.int _ :: (z.cps.toList.map _).map .int) = _
      rw [List.map_map]
      congr 2
      apply List.map_congr_left
      intro c hc
      have hb := hz.2 c hc
      show PyData.int ((c : Int) - 97) = .int ((c - 97 : Nat) : Int)
      congr 1
      omega
    rw [e]
    exact td
/-! read_name -/
theorem sum_ones (part : List Int) (f : Int → Nat) : (part.map fun x : Int => (⟨#[f x]⟩ : Str).length).sum = part.length := by
  induction part with
  | nil => rfl
  | cons a r ih =>
    rw [List.map_cons, List.sum_cons, ih, List.length_cons]
    show 1 + r.length = _
    omega
abbrev s11 : Stmt := topS 11
theorem sc11 : FnScope ["cells", "at", "part", "cell"] ["cells", "at"] (defScope s11) := ⟨rfl, rfl, rfl, by decide +kernel, rfl, by decide +kernel, by decide +kernel⟩
theorem all_map {α : Type} (p : α → Bool) (l : List α) : (l.map p).all id = l.all p := by
  induction l with
  | nil => rfl
  | cons a r ih => rw [List.map_cons, List.all_cons, List.all_cons, ih]; rfl
theorem g11 (D : Df K mg "read_name" s11 ["cells", "at"]) (N : Nm mg) (Cc : Ct mg) : Gf P w K mg base 1 "read_name" ["cells", "at"] (spP (cRd NM.name.rd .str)) := by
  refine fn_data D sc11 (fun ds d ⟨cs, a, e, _⟩ => by rw [e]; rfl) fun cdv A outer s f H F vs E ds d hr c => ?_
  obtain ⟨cs, a, rfl, hc, ha, hz, rfl⟩ := c
  refine ⟨_, (pss_cons (ps_if (PW.pt (pw_or (pt_cmpR op_ge (pv 1) (pe_callB call_len_seq (by rfl) N.len PySem.boot_len (pa_cons (pv 0) pa_nil)) (nomark _)) (pw_or1 (pt_not (pt_chain op_le op_le pe_int (pe_ix ix_tup (pv 0) (pv 1) (fun _ _ => rfl)) (pe_ci Cc.longest))))))
    (pss_one (ps_ret pe_non))
    pss_nil)
    (pss_cons (ps_set (i := 2) sc11.nd rfl (.inl rfl) (pe_slice sl_tupA (pv 0) (po_some (pe_op op_add (pv 1) pe_int)) (po_some (pe_op op_add (pe_op op_add (pv 1) pe_int) (pe_ix ix_tup (pv 0) (pv 1) (fun _ _ => rfl))))))
    (pss_cons (ps_if (PW.pt (pw_or (pt_cmpR op_lt (pe_callB call_len_seq (by rfl) N.len PySem.boot_len (pa_cons (pv 2) pa_nil)) (pe_ix ix_tup (pv 0) (pv 1) (fun _ _ => rfl)) (nomark _)) (pw_or1 (pt_not (pt_val (pe_callB (cr_all rfl) (by rfl) N.all (by decide +kernel) (pa_cons (pe_lc (own := [("cell", 3)]) (g := gName 3) (tt := tYes) rfl sc11.nd (pi_tup (pv 2)) (blkOk_by (own := [("cell", 3)]) (N := ["cells", "at", "part", "cell"]) (sc := defScope s11) (by decide +kernel)) (fun _ _ _ _ _ => (pg_name (i := 3) sc11.nd rfl (.inl rfl))) (fun _ _ _ _ _ => pts_nil) (fun _ _ _ _ _ => (pe_cmpR op_lt (pv 3) (pe_callB call_len_str (by rfl) N.len PySem.boot_len (pa_cons (pe_cs Cc.letters) pa_nil)) (nomark _)))) pa_nil)))))))
    (pss_one (ps_ret pe_non))
    pss_nil)
    (pss_one (ps_ret (pe_tup (pa_cons (pe_join pe_str (pe_lc (own := [("cell", 3)]) (g := gName 3) (tt := tYes) rfl sc11.nd (pi_tup (pv 2)) (blkOk_by (own := [("cell", 3)]) (N := ["cells", "at", "part", "cell"]) (sc := defScope s11) (by decide +kernel)) (fun _ _ _ _ _ => (pg_name (i := 3) sc11.nd rfl (.inl rfl))) (fun _ _ _ _ _ => pts_nil) (fun _ _ _ _ _ => (pe_ix ix_str (pe_cs Cc.letters) (pv 3) (fun _ _ => rfl))))) (pa_cons (pe_op op_add (pe_op op_add (pv 1) pe_int) (pe_ix ix_tup (pv 0) (pv 1) (fun _ _ => rfl))) pa_nil)))))))), ?_⟩
  intro σ I Q q
  show tSeq _ _ _ _ _
  have er : NM.name.rd (cs.drop a) = rdNm (cs.drop a) := rfl
  rw [er] at q
  by_cases hlt : a < cs.length
  · have hget : cs[a]? = some cs[a] := List.getElem?_eq_getElem hlt
    have hdrop : cs.drop a = cs[a] :: cs.drop (a + 1) := List.drop_eq_getElem_cons hlt
    have hb := hc cs[a] (List.getElem_mem hlt)
    generalize cs[a] = c at hget hdrop hb
    rw [hdrop] at q
    simp only [rdNm] at q
    have eat : atI (cs.map PyData.int) (a : Int) = some (.int c) := ints_at rfl hget
    by_cases h8 : 1 ≤ c ∧ c ≤ 8
    · have e1 : (decide ((cs.length : Int) ≤ a) || !(decide (1 ≤ c) && decide (c ≤ 8))) = false := by
        rw [decide_eq_false (show ¬ (cs.length : Int) ≤ a by omega), decide_eq_true h8.1, decide_eq_true h8.2]
        rfl
      rw [if_pos h8] at q
      refine sq_ifF I (EvB.is (ebd_or (ebd_test (ed_op (ed_var rfl) (ed_lenTI (K := K) (ed_var rfl)) (od_bool (f := fun i j => decide (j ≤ i))))) (fun _ => ebd_not (ebd_test (ed_chain ed_int (ed_op (ed_var rfl) (ed_var rfl) (od_ixT (K := K) eat)) (od_bool (f := fun i j => decide (i ≤ j))) ed_int (od_bool (f := fun i j => decide (i ≤ j))))))) e1) fun H I _ => ?_
      have ecut : cutD (cs.map PyData.int) (some ((a : Int) + 1)) (some ((a : Int) + 1 + c)) = ((cs.drop (a + 1)).take c.toNat).map .int := by
        rw [cutD_nat (lo := a + 1) (hi := a + 1 + c.toNat) (by omega) (by omega) (by rw [List.length_map]; omega) (by omega), ← List.map_drop, ← List.map_take, show a + 1 + c.toNat - (a + 1) = c.toNat by omega]
      refine sq_set I (EvS.is (ed_slT (ed_var rfl) (eo_some (by walk_at "ev")) (eo_some (ed_op (by walk_at "ev") (ed_op (ed_var rfl) (ed_var rfl) (od_ixT eat)) od_int))) (by rw [ecut])) fun σ H I => ?_
      have hcp : Cs ((cs.drop (a + 1)).take c.toNat) := (hc.drop _).take _
      have lp : ((cs.drop (a + 1)).take c.toNat).length ≤ 8 := by rw [List.length_take]; omega
      have lq : ((cs.drop (a + 1)).take c.toNat).length = min c.toNat (cs.drop (a + 1)).length := List.length_take
      generalize hpart : (cs.drop (a + 1)).take c.toNat = part at *
      by_cases hs : (cs.drop (a + 1)).length < c.toNat
      · rw [if_pos hs] at q
        refine sq_ifT I (EvB.is (ebd_or (ebd_test (ed_op (ed_lenTI (K := K) (ed_var rfl)) (ed_op (ed_var rfl) (ed_var rfl) (od_ixT (K := K) eat)) (od_bool (f := fun i j => decide (i < j))))) (fun _ => ebd_not (ebd_val (EvS.is (ed_all (K := K) (ns := part.map fun x => decide (x < 26)) (EvL.rd (EvL.is (el_lcI (K := K) (g := fun x => .bool (decide (x < 26))) (ed_var rfl) rfl (fun x hx => ed_op (ed_var rfl) (EvS.is (b := .int 26) (ed_lenS ed_str (sz (by rw [letters_len]; decide))) (by rw [letters_len]; rfl)) (od_bool (f := fun i j => decide (i < j)))) (by omega)) (by rw [List.map_map]; rfl)))) (by rw [all_map]))))) (by rw [decide_eq_true (by omega)]; rfl)) fun H I _ => ?_
        refine st_ret I ed_non fun v d H' pd I m td => ?_
        subst pd
        exact q _ v H' (Same.refl _) I.rel td
      · rw [if_neg hs] at q
        have e2 : decide ((part.length : Int) < c) = false := decide_eq_false (by omega)
        by_cases hall : (part.all fun x => decide (x < 26)) = true
        · rw [if_pos hall] at q
          refine sq_ifF I (EvB.is (ebd_or (ebd_test (ed_op (ed_lenTI (K := K) (ed_var rfl)) (ed_op (ed_var rfl) (ed_var rfl) (od_ixT (K := K) eat)) (od_bool (f := fun i j => decide (i < j))))) (fun _ => ebd_not (ebd_val (EvS.is (ed_all (K := K) (ns := part.map fun x => decide (x < 26)) (EvL.rd (EvL.is (el_lcI (K := K) (g := fun x => .bool (decide (x < 26))) (ed_var rfl) rfl (fun x hx => ed_op (ed_var rfl) (EvS.is (b := .int 26) (ed_lenS ed_str (sz (by rw [letters_len]; decide))) (by rw [letters_len]; rfl)) (od_bool (f := fun i j => decide (i < j)))) (by omega)) (by rw [List.map_map]; rfl)))) (by rw [all_map]))))) (by rw [e2, hall]; rfl)) fun H I _ => ?_
          refine st_ret I (ed_tup' (ea_cons (ed_join (ss := (part.map fun x => (x + 97).toNat).map fun k => (⟨#[k]⟩ : Str)) ed_str (EvL.rd (EvL.is (el_lcI (g := fun x => .str ⟨#[(x + 97).toNat]⟩) (ed_var rfl) rfl (fun x hx => ?_) (by omega)) ?_)) ?_) (ea_cons (ed_op (by walk_at "ev") (ed_op (ed_var rfl) (ed_var rfl) (od_ixT eat)) od_int) ea_nil)) rfl) fun v d H' pd I m td => ?_
          · have h1 := of_decide_eq_true (List.all_eq_true.mp hall x hx)
            have h2 := hcp x hx
            refine ed_op ed_str (ed_var rfl) (od_ixS (sz (by rw [letters_len]; decide)) ?_)
            have e3 : x = ((x.toNat : Nat) : Int) := by omega
            rw [e3, atI_nat (letters_get x.toNat (by omega))]
            congr 1
            omega
          · rw [List.map_map, List.map_map]
            rfl
          · rw [List.map_map, List.map_map, List.length_map, List.length_map]
            have e4 : (Str.ofString "").length = 0 := by decide +kernel
            rw [e4]
            have := sum_ones part (fun x : Int => (x + 97).toNat)
            show (part.map fun x : Int => (⟨#[(x + 97).toNat]⟩ : Str).length).sum + part.length * 0 ≤ _
            rw [this]
            omega
          · subst pd
            refine q _ v H' (Same.refl _) I.rel ?_
            rw [join_signs] at td
            show TD F H' v (.tuple [.str ⟨(part.map fun x => (x + 97).toNat).toArray⟩, .int ((cs.length : Int) - ((cs.drop (a + 1)).drop c.toNat).length)])
            have e5 : (cs.length : Int) - (((cs.drop (a + 1)).drop c.toNat).length : Nat) = (a : Int) + 1 + c := by
              rw [List.length_drop] at hs
              rw [List.length_drop, List.length_drop]
              omega
            rw [e5]
            exact td
        · rw [if_neg hall] at q
          refine sq_ifT I (EvB.is (ebd_or (ebd_test (ed_op (ed_lenTI (K := K) (ed_var rfl)) (ed_op (ed_var rfl) (ed_var rfl) (od_ixT (K := K) eat)) (od_bool (f := fun i j => decide (i < j))))) (fun _ => ebd_not (ebd_val (EvS.is (ed_all (K := K) (ns := part.map fun x => decide (x < 26)) (EvL.rd (EvL.is (el_lcI (K := K) (g := fun x => .bool (decide (x < 26))) (ed_var rfl) rfl (fun x hx => ed_op (ed_var rfl) (EvS.is (b := .int 26) (ed_lenS ed_str (sz (by rw [letters_len]; decide))) (by rw [letters_len]; rfl)) (od_bool (f := fun i j => decide (i < j)))) (by omega)) (by rw [List.map_map]; rfl)))) (by rw [all_map]))))) (by rw [e2, Bool.eq_false_iff.mpr hall]; rfl)) fun H I _ => ?_
          refine st_ret I ed_non fun v d H' pd I m td => ?_
          subst pd
          exact q _ v H' (Same.refl _) I.rel td
    · rw [if_neg h8] at q
      refine sq_ifT I (EvB.is (ebd_or (ebd_test (ed_op (ed_var rfl) (ed_lenTI (K := K) (ed_var rfl)) (od_bool (f := fun i j => decide (j ≤ i))))) (fun _ => ebd_not (ebd_test (ed_chain ed_int (ed_op (ed_var rfl) (ed_var rfl) (od_ixT (K := K) eat)) (od_bool (f := fun i j => decide (i ≤ j))) ed_int (od_bool (f := fun i j => decide (i ≤ j))))))) ?_) fun H I _ => ?_
      · by_cases h1 : 1 ≤ c
        · rw [decide_eq_false (show ¬ c ≤ 8 by omega)]
          simp
        · rw [decide_eq_false h1]
          simp
      · refine st_ret I ed_non fun v d H' pd I m td => ?_
        subst pd
        exact q _ v H' (Same.refl _) I.rel td
  · have hdrop : cs.drop a = [] := List.drop_of_length_le (by omega)
    rw [hdrop] at q
    refine sq_ifT I (eb_or (p := (· = true)) (EvB.is (ebd_test (ed_op (ed_var rfl) (ed_lenTI (ed_var rfl)) od_bool)) (decide_eq_true (by omega))) (fun z => nomatch z) (fun _ => rfl)) fun H I _ => ?_
    refine st_ret I ed_non fun v d H' pd I m td => ?_
    subst pd
    exact q _ v H' (Same.refl _) I.rel td
end
end NN
set_option Elab.async false
set_option linter.all false
set_option maxRecDepth 100000
set_option maxHeartbeats 4000000
namespace NN
open PySem PySem.Spec PyProof.Rows L2 NM
local macro_rules | `(tactic| walk_at "ev") => `(tactic| ((fail_if_success (first | with_reducible apply gd1 | with_reducible apply gd2 | with_reducible apply gd3 | with_reducible apply gd4 | with_reducible apply gd5)); first
  | with_reducible exact ed_int | with_reducible exact ed_str | with_reducible exact ed_bl | with_reducible exact ed_non
  | ((with_reducible apply ed_var); rfl) | ((with_reducible apply er_var); rfl)
  | with_reducible exact ea_nil | ((with_reducible apply ea_cons) <;> walk_at "ev")
  | with_reducible exact od_int | with_reducible exact od_bool | exact od_intC (by decide) | exact od_intC ⟨by decide, by decide⟩ | exact od_intC (.inl ⟨by decide, by decide⟩) | with_reducible exact ud_int | with_reducible exact od_eqI | with_reducible exact od_neI | with_reducible exact od_strLt | with_reducible exact od_ip
  | ((with_reducible apply ed_op) <;> walk_at "ev")
  | ((with_reducible apply ed_un) <;> walk_at "ev")
  | ((with_reducible apply ed_tup') <;> walk_at "ev")
  | ((with_reducible apply el_lst') <;> walk_at "ev")
  | ((with_reducible apply ebd_test) <;> walk_at "ev")
  | ((with_reducible apply ebd_val) <;> walk_at "ev")
  | ((with_reducible refine ed_lenT ?_) <;> walk_at "ev")
  | ((with_reducible apply ed_lenR) <;> walk_at "ev")
  | ((with_reducible apply ed_tupleR) <;> walk_at "ev")
  | ((with_reducible apply EvL.rd) <;> walk_at "ev")
  | with_reducible exact eo_none
  | ((with_reducible apply eo_some) <;> walk_at "ev")
  | ((with_reducible apply ed_slT) <;> walk_at "ev")
  | ((with_reducible apply ebd_not) <;> walk_at "ev")
  | ((with_reducible apply ei_tup) <;> walk_at "ev")
  | rfl
  | skip))
section
variable {P : Program} {w : World} {K : PySem.W.Frag} {mg : Str → Option Value} {base : Heap}
/-! item_cells -/
abbrev s12 : Stmt := topS 12
theorem sc12 : FnScope ["item", "key", "vector", "labels", "found", "part", "name", "value"] ["item"] (defScope s12) := ⟨rfl, rfl, rfl, by decide +kernel, rfl, by decide +kernel, by decide +kernel⟩
def cIT (ds : List PyData) (d : PyData) : Prop := ∃ it : Item, ds = [dItem it] ∧ item.ok it ∧ (item.pr it).length ≤ 1000000 ∧ d = dI (item.pr it)
theorem flat_le {α : Type} (g : α → List Int) : ∀ {l : List α} {x : α}, x ∈ l → (g x).length ≤ (l.flatMap g).length
  | a :: r, x, h => by
    show _ ≤ (g a ++ r.flatMap g).length
    rw [List.length_append]
    rcases List.mem_cons.mp h with e | e
    · rw [e]; omega
    · have := flat_le g e
      omega
theorem flat_take_le {α : Type} (g : α → List Int) : ∀ (l : List α) (i : Nat), ((l.take i).flatMap g).length ≤ (l.flatMap g).length
  | [], i => by simp
  | a :: r, 0 => by simp
  | a :: r, i + 1 => by
    show (g a ++ (r.take i).flatMap g).length ≤ (g a ++ r.flatMap g).length
    have := flat_take_le g r i
    rw [List.length_append, List.length_append]
    omega
theorem g12 (D : Df K mg "item_cells" s12 ["item"]) (N : Nm mg) (g_number_cells : Gf P w K mg base 1 "number_cells" ["number"] (spP cNC)) (g_integer_cells : Gf P w K mg base 2 "integer_cells" ["integer"] (spP cIC)) (g_name_cells : Gf P w K mg base 1 "name_cells" ["name"] (spP cNM)) : Gf P w K mg base 3 "item_cells" ["item"] (spP cIT) := by
  refine fn_data D sc12 (fun ds d ⟨n, e, _⟩ => by rw [e]; rfl) fun cdv A outer s f H F vs E ds d hr c => ?_
  obtain ⟨⟨key, vec, ls⟩, rfl, hok, hz, rfl⟩ := c
  refine ⟨_, (pss_cons (ps_asg (pv 0) (pg_tup rfl (pgs_cons (pg_name (i := 1) sc12.nd rfl (.inl rfl)) (pgs_cons (pg_name (i := 2) sc12.nd rfl (.inl rfl)) (pgs_cons (pg_name (i := 3) sc12.nd rfl (.inl rfl)) pgs_nil)))))
    (pss_cons (ps_set (i := 4) sc12.nd rfl (.inl rfl) (pe_op op_catA (pe_g g_number_cells (hr.mono (by decide)) (pa_cons (pv 1) pa_nil)) (pe_g g_number_cells (hr.mono (by decide)) (pa_cons (pe_callB call_len_seq (by rfl) N.len PySem.boot_len (pa_cons (pv 2) pa_nil)) pa_nil))))
    (pss_cons (ps_for PassesOwn.never rfl (pi_tup (pv 2)) (pg_name (i := 5) sc12.nd rfl (.inl rfl))
    (pss_one (ps_set (i := 4) sc12.nd rfl (.inl rfl) (pe_op op_catA (pv 4) (pe_g g_integer_cells (hr.mono (by decide)) (pa_cons (pv 5) pa_nil))))))
    (pss_cons (ps_set (i := 4) sc12.nd rfl (.inl rfl) (pe_op op_catA (pv 4) (pe_g g_number_cells (hr.mono (by decide)) (pa_cons (pe_callB call_len_seq (by rfl) N.len PySem.boot_len (pa_cons (pv 3) pa_nil)) pa_nil))))
    (pss_cons (ps_for PassesOwn.never rfl (pi_tup (pv 3)) (pg_tup rfl (pgs_cons (pg_name (i := 6) sc12.nd rfl (.inl rfl)) (pgs_cons (pg_name (i := 7) sc12.nd rfl (.inl rfl)) pgs_nil)))
    (pss_one (ps_set (i := 4) sc12.nd rfl (.inl rfl) (pe_op op_catA (pe_op op_catA (pv 4) (pe_g g_name_cells (hr.mono (by decide)) (pa_cons (pv 6) pa_nil))) (pe_g g_integer_cells (hr.mono (by decide)) (pa_cons (pv 7) pa_nil))))))
    (pss_one (ps_ret (pv 4)))))))), ?_⟩
  intro σ I Q q
  show tSeq _ _ _ _ _
  have hk : 0 ≤ key := hok.1
  have hnm : ∀ p ∈ ls, okName p.1 := fun p hp => (hok.2.2.1 p hp).1
  rw [item_pr] at hz q
  dsimp only at hz q
  simp only [List.length_append] at hz
  refine sq_asgG I (ed_var rfl) (bg_tup rfl (bgs_cons bg_name (bgs_cons bg_name (bgs_cons bg_name bgs_nil)))) fun σ H _ I => ?_
  refine sq_set I (ed_op (ed_callP (by walk_at "ev") ⟨key, rfl, hk, by omega, rfl⟩) (ed_callP (ea_cons (ed_lenTI (ed_var rfl)) ea_nil) ⟨vec.length, rfl, by omega, by omega, rfl⟩) (od_catI (by omega))) fun σ H I => ?_
  refine sq_for I (ei_tup (ed_var rfl)) (fun i => [.dat (dItem (key, vec, ls)), .dat (.int key), .dat (dI vec), .dat (.tuple (ls.map dLab)), .dat (dI ((nc key ++ nc vec.length) ++ (vec.take i).flatMap NM.int.pr)), .no, .no, .no]) (fun i => [.dat (dItem (key, vec, ls)), .dat (.int key), .dat (dI vec), .dat (.tuple (ls.map dLab)), .dat (dI ((nc key ++ nc vec.length) ++ (vec.take i).flatMap NM.int.pr)), .dat (nth (vec.map .int) i), .no, .no]) ?_ (fun i hi => bg_name) ?_ ?_
  · intro H0 σ H I
    have e : (nc key ++ nc vec.length) ++ (vec.take 0).flatMap NM.int.pr = nc key ++ nc vec.length := by simp
    rw [e]
    exact I
  · intro H0' σ H hs i hi I
    rw [List.length_map] at hi
    have hg : vec[i]? = some vec[i] := List.getElem?_eq_getElem hi
    have hm : vec[i] ∈ vec := List.getElem_mem hi
    generalize vec[i] = x at hg hm
    rw [nth_map PyData.int hg] at I
    have b1 := flat_le NM.int.pr hm
    have b2 := flat_take_le NM.int.pr vec i
    have b3 : (nc (zig x)).length = (NM.int.pr x).length := rfl
    refine st_set I (ed_op (ed_var rfl) (ed_callP (by walk_at "ev") ⟨x, rfl, by omega, rfl⟩) (od_catI (by simp only [List.length_append]; omega))) fun σ H I => ?_
    have e : (nc key ++ nc vec.length) ++ (vec.take (i + 1)).flatMap NM.int.pr = (nc key ++ nc vec.length) ++ (vec.take i).flatMap NM.int.pr ++ nc (zig x) := by
      rw [take_flat _ hg, ← List.append_assoc]
      rfl
    show SS rS H0' F σ H _
    rw [e]
    exact I.drop 5
  · intro σ H I
    have ev : (vec.map PyData.int).length = vec.length := List.length_map _
    rw [ev, List.take_length] at I
    refine sq_set I (ed_op (ed_var rfl) (ed_callP (ea_cons (ed_lenT (ed_var rfl)) ea_nil) ⟨ls.length, by rw [List.length_map], by omega, by omega, rfl⟩) (od_catI (by simp only [List.length_append]; omega))) fun σ H I => ?_
    refine sq_for I (ei_tup (ed_var rfl)) (fun i => [.dat (dItem (key, vec, ls)), .dat (.int key), .dat (dI vec), .dat (.tuple (ls.map dLab)), .dat (dI ((nc key ++ nc vec.length ++ vec.flatMap NM.int.pr ++ nc ls.length) ++ (ls.take i).flatMap lab.pr)), .no, .no, .no]) (fun i => [.dat (dItem (key, vec, ls)), .dat (.int key), .dat (dI vec), .dat (.tuple (ls.map dLab)), .dat (dI ((nc key ++ nc vec.length ++ vec.flatMap NM.int.pr ++ nc ls.length) ++ (ls.take i).flatMap lab.pr)), .no, .dat (.str (ls.getD i ("", 0)).1), .dat (.int (ls.getD i ("", 0)).2)]) ?_ ?_ ?_ ?_
    · intro H0 σ H I
      have e : (nc key ++ nc vec.length ++ vec.flatMap NM.int.pr ++ nc ls.length) ++ (ls.take 0).flatMap lab.pr = nc key ++ nc vec.length ++ vec.flatMap NM.int.pr ++ nc ls.length := by simp
      rw [e]
      exact I
    · intro i hi
      rw [List.length_map] at hi
      have hg : ls[i]? = some (ls.getD i ("", 0)) := by rw [List.getD_eq_getElem?_getD, List.getElem?_eq_getElem hi]; rfl
      rw [nth_map dLab hg]
      exact bg_tup rfl (bgs_cons bg_name (bgs_cons bg_name bgs_nil))
    · intro H0' σ H hs i hi I
      rw [List.length_map] at hi
      have hg : ls[i]? = some (ls.getD i ("", 0)) := by rw [List.getD_eq_getElem?_getD, List.getElem?_eq_getElem hi]; rfl
      have hm : ls.getD i ("", 0) ∈ ls := getD_mem _ hi
      generalize ls.getD i ("", 0) = x at hg hm I
      have b1 := flat_le lab.pr hm
      have b2 := flat_take_le lab.pr ls i
      have b3 : lab.pr x = nmc x.1 ++ nc (zig x.2) := rfl
      rw [b3, List.length_append] at b1
      refine st_set I (ed_op (ed_op (ed_var rfl) (ed_callP (by walk_at "ev") ⟨x.1, rfl, hnm x hm, rfl⟩) (od_catI (by simp only [List.length_append]; omega))) (ed_callP (by walk_at "ev") ⟨x.2, rfl, by omega, rfl⟩) (od_catI (by simp only [List.length_append]; omega))) fun σ H I => ?_
      have e : (nc key ++ nc vec.length ++ vec.flatMap NM.int.pr ++ nc ls.length) ++ (ls.take (i + 1)).flatMap lab.pr = (nc key ++ nc vec.length ++ vec.flatMap NM.int.pr ++ nc ls.length) ++ (ls.take i).flatMap lab.pr ++ nmc x.1 ++ nc (zig x.2) := by
        rw [take_flat _ hg, b3, ← List.append_assoc, ← List.append_assoc]
      show SS rS H0' F σ H _
      rw [e]
      exact (I.drop 6).drop 7
    · intro σ H I
      have ev : (ls.map dLab).length = ls.length := List.length_map _
      rw [ev, List.take_length] at I
      refine st_ret I (ed_var rfl) fun v d H' pd I m td => ?_
      subst pd
      refine q _ v H' (Same.refl _) I.rel ?_
      have e : nc key ++ ((nc vec.length ++ vec.flatMap NM.int.pr) ++ (nc ls.length ++ ls.flatMap lab.pr)) = nc key ++ nc vec.length ++ vec.flatMap NM.int.pr ++ nc ls.length ++ ls.flatMap lab.pr := by simp only [List.append_assoc]
      rw [e]
      exact td
/-! read_many -/
abbrev s13 : Stmt := topS 13
theorem sc13 : FnScope ["cells", "at", "reader", "told", "many", "found"] ["cells", "at", "reader"] (defScope s13) := ⟨rfl, rfl, rfl, by decide +kernel, rfl, by decide +kernel, by decide +kernel⟩
def pre {α : Type} (xs : List α) : Option (List α × List Int) → Option (List α × List Int)
  | none => none
  | some (ys, r) => some (xs ++ ys, r)
theorem pre_nil {α : Type} (o : Option (List α × List Int)) : pre [] o = o := by
  cases o <;> rfl
theorem many_rd {α : Type} (c : Cd α) (l : List Int) : c.many.rd l = (match rdN l with
    | none => none
    | some (n, r) => Cd.rdM c.rd n.toNat r) := by
  show Cd.rdMs c.rd l = _
  unfold Cd.rdMs
  cases rdN l with
  | none => rfl
  | some p => rfl
theorem g13 {α : Type} {k : Nat} {fr : Addr} {c : Cd α} {toD : α → PyData} (D : Df K mg "read_many" s13 ["cells", "at", "reader"]) (N : Nm mg) (g_read_number : Gf P w K mg base 1 "read_number" ["cells", "at"] (spP (cRd rdN .int))) (R : Rdr P w K mg base k fr (spP (cRd c.rd toD))) : Gf P w K mg base (k + 2) "read_many" ["cells", "at", "reader"] (spMany fr c toD) := by
  refine fn_gen D sc13 (fun vs H Q E ⟨F, v, cs, a, e, _⟩ => by rw [e]; rfl) fun cdv A outer s f H vs Q E hr h => ?_
  obtain ⟨F, v, cs, a, rfl, hF, hv, hc, ha, hz, q⟩ := h
  refine ⟨_, (pss_cons (ps_set (i := 3) sc13.nd rfl (.inl rfl) (pe_g g_read_number (hr.mono (by omega)) (pa_cons (pv 0) (pa_cons (pv 1) pa_nil))))
    (pss_cons (ps_if (pt_cmpR op_isN (pv 3) pe_non (nomark _))
    (pss_one (ps_ret pe_non))
    pss_nil)
    (pss_cons (ps_asg (pv 3) (pg_tup rfl (pgs_cons (pg_name (i := 4) sc13.nd rfl (.inl rfl)) (pgs_cons (pg_name (i := 1) sc13.nd rfl (.inl rfl)) pgs_nil))))
    (pss_cons (ps_set (i := 5) sc13.nd rfl (.inl rfl) (pe_lst pa_nil))
    (pss_cons (ps_while PassesOwn.never (pt_cmpR op_lt (pe_callB call_len_seq (by rfl) N.len PySem.boot_len (pa_cons (pv 5) pa_nil)) (pv 4) (nomark _))
    (pss_cons (ps_set (i := 3) sc13.nd rfl (.inl rfl) (pe_callR (i := 2) R (hr.mono (by omega)) (pa_cons (pv 0) (pa_cons (pv 1) pa_nil))))
    (pss_cons (ps_if (pt_cmpR op_isN (pv 3) pe_non (nomark _))
    (pss_one (ps_ret pe_non))
    pss_nil)
    (pss_cons (ps_expr (pe_bm PySem.F.plainAttrs_list PySem.F.slot_list_append PySem.F.type_list_append mt_append (pv 5) (pa_cons (pe_ix ix_tup (pv 3) pe_int (fun _ _ => rfl)) pa_nil)))
    (pss_one (ps_set (i := 1) sc13.nd rfl (.inl rfl) (pe_ix ix_tup (pv 3) pe_int (fun _ _ => rfl))))))))
    (pss_one (ps_ret (pe_tup (pa_cons (pe_callTy call_tuple_of (by rfl) N.tuple (by decide +kernel) (pa_cons (pv 5) pa_nil)) (pa_cons (pv 1) pa_nil)))))))))), ?_⟩
  show tSeq _ _ _ _ _
  have I : SS rS H F (L2.start ["cells", "at", "reader", "told", "many", "found"] [v, .int a, .ref fr]) H [.dat (dI cs), .dat (.int a), .val (.ref fr), .no, .no, .no] := by
    refine SS.start (by show 3 ≤ 6; decide) rfl hF fun i t e n => ?_
    match i, e with
    | 0, e => cases e; exact ⟨rfl, v, rfl, hv⟩
    | 1, e => cases e; exact ⟨rfl, _, rfl, .int _⟩
    | 2, e => cases e; exact ⟨rfl, _, rfl, rfl⟩
    | 3, e => cases e; exact absurd rfl n
    | 4, e => cases e; exact absurd rfl n
    | 5, e => cases e; exact absurd rfl n
    | i + 6, e => cases e
  refine sq_set I (ed_callP (by walk_at "ev") ⟨cs, a, rfl, hc, ha, hz, rfl⟩) fun σ H1 I => ?_
  unfold resD at q
  rw [many_rd] at q
  cases e : rdN (cs.drop a) with
  | none =>
    rw [e] at I q
    refine sq_ifT I (ebd_test (ed_op (ed_var rfl) ed_non (od_isN true (by simp)))) fun H I _ => ?_
    refine st_ret I ed_non fun v d H' pd I m td => ?_
    subst pd
    exact q v H' I.rel.same td
  | some p =>
    obtain ⟨n, r⟩ := p
    rw [e] at I q
    obtain ⟨hr1, hr2, hr3, hr4⟩ := rd_end Cd.num hc ha e
    have hn : 0 ≤ n := (Cd.num.bwd _ _ _ (hc.drop a) e).2
    refine sq_ifF I (ebd_test (ed_op (ed_var rfl) ed_non (od_isN false (by simp)))) fun H2 I _ => ?_
    refine sq_asgG I (ed_var rfl) (bg_tup rfl (bgs_cons bg_name (bgs_cons bg_name bgs_nil))) fun σ H2 _ I => ?_
    refine sq_setL I (by walk_at "ev") fun ds σ H2 e2 I => ?_
    subst e2
    refine sq_while (ρ := rS) (H0 := H) (F := F) (α := List α × Nat) ([], cs.length - r.length) (fun x => x.2 ≤ cs.length ∧ x.1.length ≤ n.toNat ∧ x.1.length ≤ x.2 ∧ Cd.rdM c.rd n.toNat r = pre x.1 (Cd.rdM c.rd (n.toNat - x.1.length) (cs.drop x.2)))
      (fun x => [.dat (dI cs), .dat (.int x.2), .val (.ref fr), .no, .dat (.int n), .lst (x.1.map toD)]) (fun x => cs.length - x.2) ?_ ⟨hr2, Nat.zero_le _, Nat.zero_le _, ?_⟩ fun x hx => ?_
    · have e3 : ((cs.length - r.length : Nat) : Int) = (cs.length : Int) - r.length := by omega
      show SS rS H F σ H2 [.dat (dI cs), .dat (.int ((cs.length - r.length : Nat) : Int)), .val (.ref fr), .no, .dat (.int n), .lst []]
      rw [e3]
      exact I.drop 3
    · show Cd.rdM c.rd n.toNat r = pre [] (Cd.rdM c.rd (n.toNat - 0) (cs.drop (cs.length - r.length)))
      rw [pre_nil, ← hr1]
      rfl
    · obtain ⟨xs, b⟩ := x
      obtain ⟨hb, hl, hlb, hR⟩ := hx
      have hb : b ≤ cs.length := hb
      have hl : xs.length ≤ n.toNat := hl
      have hlb : xs.length ≤ b := hlb
      have hR : Cd.rdM c.rd n.toNat r = pre xs (Cd.rdM c.rd (n.toNat - xs.length) (cs.drop b)) := hR
      refine ⟨decide ((xs.length : Int) < n), EvB.is (ebd_test (ed_op (ed_lenR (er_var rfl)) (ed_var rfl) od_bool)) (by rw [List.length_map]), fun ht σ H I => ?_, fun ht σ H I => ?_⟩
      · have ht := of_decide_eq_true ht
        obtain ⟨m, hm⟩ : ∃ m, n.toNat - xs.length = m + 1 := ⟨n.toNat - xs.length - 1, by omega⟩
        rw [hm] at hR
        refine sq_set I (ed_callL rfl (by walk_at "ev") (sd_P ⟨cs, b, rfl, hc, hb, hz, rfl⟩)) fun σ H I => ?_
        cases e4 : c.rd (cs.drop b) with
        | none =>
          rw [e4] at I
          refine sq_ifT I (ebd_test (ed_op (ed_var rfl) ed_non (od_isN true (by simp)))) fun H I _ => ?_
          refine st_ret I ed_non fun v d H' pd I _ td => ?_
          subst pd
          have e5 : Cd.rdM c.rd (m + 1) (cs.drop b) = none := by
            unfold Cd.rdM
            rw [e4]
          rw [e5] at hR
          simp only [hR] at q
          exact q v H' I.rel.same td
        | some p =>
          obtain ⟨y, r2⟩ := p
          rw [e4] at I
          obtain ⟨k1, k2, k3, k4⟩ := rd_end c hc hb e4
          refine sq_ifF I (ebd_test (ed_op (ed_var rfl) ed_non (od_isN false (by simp)))) fun H I _ => ?_
          refine sq_appendD I rfl (ed_op (ed_var rfl) ed_int (od_ixT (i := 0) rfl)) (sz' (by rw [List.length_map]; show xs.length < _; omega)) fun H I => ?_
          refine st_set I (ed_op (ed_var rfl) ed_int (od_ixT (i := 1) rfl)) fun σ H I => ?_
          refine ⟨(xs ++ [y], cs.length - r2.length), ?_, ⟨?_, ?_, ?_, ?_⟩, ?_⟩
          · show cs.length - (cs.length - r2.length) < cs.length - b
            omega
          · exact k2
          · show (xs ++ [y]).length ≤ n.toNat
            rw [List.length_append, List.length_singleton]
            omega
          · show (xs ++ [y]).length ≤ cs.length - r2.length
            rw [List.length_append, List.length_singleton]
            omega
          · show Cd.rdM c.rd n.toNat r = pre (xs ++ [y]) (Cd.rdM c.rd (n.toNat - (xs ++ [y]).length) (cs.drop (cs.length - r2.length)))
            rw [hR, ← k1, show n.toNat - (xs ++ [y]).length = m by rw [List.length_append, List.length_singleton]; omega]
            conv => lhs; unfold Cd.rdM
            rw [e4]
            simp only
            cases Cd.rdM c.rd m r2 with
            | none => rfl
            | some p =>
              obtain ⟨ys, r3⟩ := p
              show some (xs ++ y :: ys, r3) = some (xs ++ [y] ++ ys, r3)
              rw [List.append_assoc]
              rfl
          · have e3 : ((cs.length - r2.length : Nat) : Int) = (cs.length : Int) - r2.length := by omega
            show SS rS _ F σ H [.dat (dI cs), .dat (.int ((cs.length - r2.length : Nat) : Int)), .val (.ref fr), .no, .dat (.int n), .lst ((xs ++ [y]).map toD)]
            rw [e3, List.map_append]
            exact I.drop 3
      · have ht := of_decide_eq_false ht
        have hm : n.toNat - xs.length = 0 := by omega
        rw [hm] at hR
        refine st_ret I (ed_tup' (ea_cons (ed_tupleR (er_var rfl)) (ea_cons (ed_var rfl) ea_nil)) rfl) fun v d H' pd I m td => ?_
        subst pd
        have e5 : Cd.rdM c.rd n.toNat r = some (xs, cs.drop b) := by
          rw [hR]
          show some (xs ++ [], cs.drop b) = _
          rw [List.append_nil]
        simp only [e5] at q
        refine q v H' I.rel.same ?_
        have e6 : (cs.length : Int) - ((cs.drop b).length : Nat) = (b : Int) := by
          rw [List.length_drop]
          omega
        rw [e6]
        exact td
end
end NN
set_option Elab.async false
set_option linter.all false
set_option maxRecDepth 100000
set_option maxHeartbeats 4000000
namespace NN
open PySem PySem.Spec PyProof.Rows L2 NM
local macro_rules | `(tactic| walk_at "ev") => `(tactic| ((fail_if_success (first | with_reducible apply gd1 | with_reducible apply gd2 | with_reducible apply gd3 | with_reducible apply gd4 | with_reducible apply gd5)); first
  | with_reducible exact ed_int | with_reducible exact ed_str | with_reducible exact ed_bl | with_reducible exact ed_non
  | ((with_reducible apply ed_var); rfl) | ((with_reducible apply er_var); rfl)
  | with_reducible exact ea_nil | ((with_reducible apply ea_cons) <;> walk_at "ev")
  | with_reducible exact od_int | with_reducible exact od_bool | exact od_intC (by decide) | exact od_intC ⟨by decide, by decide⟩ | exact od_intC (.inl ⟨by decide, by decide⟩) | with_reducible exact ud_int | with_reducible exact od_eqI | with_reducible exact od_neI | with_reducible exact od_strLt | with_reducible exact od_ip
  | ((with_reducible apply ed_op) <;> walk_at "ev")
  | ((with_reducible apply ed_un) <;> walk_at "ev")
  | ((with_reducible apply ed_tup') <;> walk_at "ev")
  | ((with_reducible apply el_lst') <;> walk_at "ev")
  | ((with_reducible apply ebd_test) <;> walk_at "ev")
  | ((with_reducible apply ebd_val) <;> walk_at "ev")
  | ((with_reducible refine ed_lenT ?_) <;> walk_at "ev")
  | ((with_reducible apply ed_lenR) <;> walk_at "ev")
  | ((with_reducible apply ed_tupleR) <;> walk_at "ev")
  | ((with_reducible apply EvL.rd) <;> walk_at "ev")
  | with_reducible exact eo_none
  | ((with_reducible apply eo_some) <;> walk_at "ev")
  | ((with_reducible apply ed_slT) <;> walk_at "ev")
  | ((with_reducible apply ebd_not) <;> walk_at "ev")
  | ((with_reducible apply ei_tup) <;> walk_at "ev")
  | rfl
  | skip))
section
variable {P : Program} {w : World} {K : PySem.W.Frag} {mg : Str → Option Value} {base : Heap}
/-! read_label -/
abbrev s14 : Stmt := topS 14
theorem sc14 : FnScope ["cells", "at", "told", "name"] ["cells", "at"] (defScope s14) := ⟨rfl, rfl, rfl, by decide +kernel, rfl, by decide +kernel, by decide +kernel⟩
theorem g14 (D : Df K mg "read_label" s14 ["cells", "at"]) (N : Nm mg) (g_read_name : Gf P w K mg base 1 "read_name" ["cells", "at"] (spP (cRd NM.name.rd .str))) (g_read_integer : Gf P w K mg base 2 "read_integer" ["cells", "at"] (spP (cRd NM.int.rd .int))) : Gf P w K mg base 3 "read_label" ["cells", "at"] (spP (cRd lab.rd dLab)) := by
  refine fn_data D sc14 (fun ds d ⟨cs, a, e, _⟩ => by rw [e]; rfl) fun cdv A outer s f H F vs E ds d hr c => ?_
  obtain ⟨cs, a, rfl, hc, ha, hz, rfl⟩ := c
  refine ⟨_, (pss_cons (ps_set (i := 2) sc14.nd rfl (.inl rfl) (pe_g g_read_name (hr.mono (by decide)) (pa_cons (pv 0) (pa_cons (pv 1) pa_nil))))
    (pss_cons (ps_if (pt_cmpR op_isN (pv 2) pe_non (nomark _))
    (pss_one (ps_ret pe_non))
    pss_nil)
    (pss_cons (ps_asg (pv 2) (pg_tup rfl (pgs_cons (pg_name (i := 3) sc14.nd rfl (.inl rfl)) (pgs_cons (pg_name (i := 1) sc14.nd rfl (.inl rfl)) pgs_nil))))
    (pss_cons (ps_set (i := 2) sc14.nd rfl (.inl rfl) (pe_g g_read_integer (hr.mono (by decide)) (pa_cons (pv 0) (pa_cons (pv 1) pa_nil))))
    (pss_one (ps_ret (pe_ifExp (pt_cmpR op_isN (pv 2) pe_non (nomark _)) pe_non (pe_tup (pa_cons (pe_tup (pa_cons (pv 3) (pa_cons (pe_ix ix_tup (pv 2) pe_int (fun _ _ => rfl)) pa_nil))) (pa_cons (pe_ix ix_tup (pv 2) pe_int (fun _ _ => rfl)) pa_nil)))))))))), ?_⟩
  intro σ I Q q
  show tSeq _ _ _ _ _
  refine sq_set I (ed_callP (by walk_at "ev") ⟨cs, a, rfl, hc, ha, hz, rfl⟩) fun σ H I => ?_
  cases e : NM.name.rd (cs.drop a) with
  | none =>
    have el : lab.rd (cs.drop a) = none := pair_none1 e
    rw [e] at I
    rw [el] at q
    refine sq_ifT I (ebd_test (ed_op (ed_var rfl) ed_non (od_isN true (by simp)))) fun H I _ => ?_
    refine st_ret I ed_non fun v d H' pd I m td => ?_
    subst pd
    exact q _ v H' (Same.refl _) I.rel td
  | some p =>
    obtain ⟨x, r⟩ := p
    rw [e] at I
    obtain ⟨k1, k2, k3, k4⟩ := rd_end NM.name hc ha e
    refine sq_ifF I (ebd_test (ed_op (ed_var rfl) ed_non (od_isN false (by simp)))) fun H I _ => ?_
    refine sq_asgG I (ed_var rfl) (bg_tup rfl (bgs_cons bg_name (bgs_cons bg_name bgs_nil))) fun σ H _ I => ?_
    refine sq_set I (ed_callP (by walk_at "ev") ⟨cs, cs.length - r.length, by rw [show ((cs.length - r.length : Nat) : Int) = (cs.length : Int) - r.length by omega], hc, k2, hz, rfl⟩) fun σ H I => ?_
    rw [← k1] at I
    cases e2 : NM.int.rd r with
    | none =>
      have el : lab.rd (cs.drop a) = none := pair_none2 e e2
      rw [e2] at I
      rw [el] at q
      refine st_ret I (ed_if (ebd_test (ed_op (ed_var rfl) ed_non (od_isN true (by simp)))) (fun _ => ed_non) (fun z => nomatch z)) fun v d H' pd I m td => ?_
      subst pd
      exact q _ v H' (Same.refl _) I.rel td
    | some p =>
      obtain ⟨y, r2⟩ := p
      have el : lab.rd (cs.drop a) = some ((x, y), r2) := pair_some e e2
      rw [e2] at I
      rw [el] at q
      refine st_ret I (ed_if (ebd_test (ed_op (ed_var rfl) ed_non (od_isN false (by simp)))) (fun z => nomatch z) (fun _ => ed_tup' (ea_cons (ed_tup' (ea_cons (ed_var rfl) (ea_cons (ed_op (ed_var rfl) ed_int (od_ixT (i := 0) rfl)) ea_nil)) rfl) (ea_cons (ed_op (ed_var rfl) ed_int (od_ixT (i := 1) rfl)) ea_nil)) rfl)) fun v d H' pd I m td => ?_
      subst pd
      exact q _ v H' (Same.refl _) I.rel td
/-! read_labels -/
abbrev s15 : Stmt := topS 15
theorem sc15 : FnScope ["cells", "at", "told", "names", "name", "value", "place"] ["cells", "at"] (defScope s15) := ⟨rfl, rfl, rfl, by decide +kernel, rfl, by decide +kernel, by decide +kernel⟩
theorem labs_rd (l : List Int) : labs.rd l = (match lab.many.rd l with
    | none => none
    | some (x, r) => if asc x = true then some (x, r) else none) := by
  unfold labs Cd.only
  dsimp only
  cases lab.many.rd l with
  | none => rfl
  | some p => rfl
theorem asc_eq (ls : List Lab) : ((List.range (ls.length - 1)).map fun i => decide ((ls.getD i ("", 0)).1.cps.toList < (ls.getD (i + 1) ("", 0)).1.cps.toList)).all id = asc ls := by
  rw [all_map]
  rfl
theorem g15 {fl : Addr} (D : Df K mg "read_labels" s15 ["cells", "at"]) (N : Nm mg) (m_read_label : mg "read_label" = some (.ref fl)) (g_read_many : Gf P w K mg base 5 "read_many" ["cells", "at", "reader"] (spMany fl lab dLab)) : Gf P w K mg base 6 "read_labels" ["cells", "at"] (spP (cRd labs.rd (fun ls => .tuple (ls.map dLab)))) := by
  refine fn_data D sc15 (fun ds d ⟨cs, a, e, _⟩ => by rw [e]; rfl) fun cdv A outer s f H F vs E ds d hr c => ?_
  obtain ⟨cs, a, rfl, hc, ha, hz, rfl⟩ := c
  refine ⟨_, (pss_cons (ps_set (i := 2) sc15.nd rfl (.inl rfl) (pe_g g_read_many (hr.mono (by decide)) (pa_cons (pv 0) (pa_cons (pv 1) (pa_cons (pe_fn m_read_label) pa_nil)))))
    (pss_cons (ps_if (pt_cmpR op_isN (pv 2) pe_non (nomark _))
    (pss_one (ps_ret pe_non))
    pss_nil)
    (pss_cons (ps_set (i := 3) sc15.nd rfl (.inr rfl) (pe_lc (own := [("name", 4), ("value", 5)]) (g := gTup K 2 (gCons (gName 4) (gCons (gName 5) gNil))) (tt := tYes) rfl sc15.nd (pi_tup (pe_ix ix_tup (pv 2) pe_int (fun _ _ => rfl))) (blkOk_by (own := [("name", 4), ("value", 5)]) (N := ["cells", "at", "told", "names", "name", "value", "place"]) (sc := defScope s15) (by decide +kernel)) (fun _ _ _ _ _ => (pg_tup rfl (pgs_cons (pg_name (i := 4) sc15.nd rfl (.inl rfl)) (pgs_cons (pg_name (i := 5) sc15.nd rfl (.inl rfl)) pgs_nil)))) (fun _ _ _ _ _ => pts_nil) (fun _ _ _ _ _ => (pv 4))))
    (pss_one (ps_ret (pe_ifExp (pt_val (pe_callB (cr_all rfl) (by rfl) N.all (by decide +kernel) (pa_cons (pe_lc (own := [("place", 6)]) (g := gName 6) (tt := tYes) (te := tOp (fun x y H Q => ∃ i j, x = .str i ∧ y = .str j ∧ Q (.bl (decide (i.cps.toList < j.cps.toList))) H) (tOp (rIxL K) (tVar 3) (tVar 6)) (tOp (rIxL K) (tVar 3) (tOp (rI0 fun i j => .int (i + j)) (tVar 6) (tC (.int 1))))) rfl sc15.nd (pi_range1 rfl N.range (pa_cons (pe_op op_sub (pe_callB call_len_seq (by rfl) N.len PySem.boot_len (pa_cons (pv 3) pa_nil)) pe_int) pa_nil)) (blkOk_by (own := [("place", 6)]) (N := ["cells", "at", "told", "names", "name", "value", "place"]) (sc := defScope s15) (by decide +kernel)) (fun _ _ _ _ _ => (pg_name (i := 6) sc15.nd rfl (.inl rfl))) (fun _ _ _ _ _ => pts_nil) (fun _ _ _ _ _ => (pe_cmpR op_lt_str (pe_ix ix_list (pv 3) (pv 6) (fun _ _ => rfl)) (pe_ix ix_list (pv 3) (pe_op op_add (pv 6) pe_int) (fun _ _ => rfl)) (nomark _)))) pa_nil))) (pv 2) pe_non)))))), ?_⟩
  intro σ I Q q
  show tSeq _ _ _ _ _
  refine sq_set I (ed_many (by walk_at "ev") (by walk_at "ev") hc ha hz) fun σ H I => ?_
  rw [labs_rd] at q
  cases e : lab.many.rd (cs.drop a) with
  | none =>
    rw [resD_none e] at I
    simp only [e] at q
    refine sq_ifT I (ebd_test (ed_op (ed_var rfl) ed_non (od_isN true (by simp)))) fun H I _ => ?_
    refine st_ret I ed_non fun v d H' pd I m td => ?_
    subst pd
    exact q _ v H' (Same.refl _) I.rel td
  | some p =>
    obtain ⟨ls, r⟩ := p
    rw [resD_some e] at I
    simp only [e] at q
    have hls : ls.length ≤ 100000 := by
      have h1 := (lab.many.bwd _ _ _ (hc.drop a) e).1
      have h2 : ls.length ≤ (ls.flatMap lab.pr).length := by
        clear h1 e I q
        induction ls with
        | nil => simp
        | cons x ls ih =>
          show ls.length + 1 ≤ (lab.pr x ++ ls.flatMap lab.pr).length
          have := List.length_pos_iff.mpr (lab.pos x)
          rw [List.length_append]
          omega
      have h3 := congrArg List.length h1
      rw [many_pr, List.length_append, List.length_append, List.length_drop] at h3
      omega
    refine sq_ifF I (ebd_test (ed_op (ed_var rfl) ed_non (od_isN false (by simp)))) fun H I _ => ?_
    refine sq_setL I (el_lcP2 (f1 := fun p : Lab => PyData.str p.1) (f2 := fun p : Lab => PyData.int p.2) (g := fun p : Lab => PyData.str p.1) (xs := ls) (ed_op (ed_var rfl) ed_int (od_ixT (i := 0) rfl)) (by decide) rfl rfl (fun x hx => ed_var rfl) (by omega)) fun ds σ H e3 I => ?_
    subst e3
    have hlen : (ls.map fun p : Lab => PyData.str p.1).length = ls.length := List.length_map _
    refine st_ret I (P := (· = if asc ls = true then PyData.tuple [.tuple (ls.map dLab), .int ((cs.length : Int) - r.length)] else .none)) ?_ fun v d H' pd I m td => ?_
    · refine EvS.is (ed_ifc (c := asc ls = true) ?_ (fun _ => ed_var rfl) (fun _ => ed_non)) rfl
      refine EvB.is (ebd_val (ed_all (ns := (List.range (ls.length - 1)).map fun i => decide ((ls.getD i ("", 0)).1.cps.toList < (ls.getD (i + 1) ("", 0)).1.cps.toList)) (EvL.rd (EvL.is (el_lcR' (n := ls.length - 1) (h := fun i => .bool (decide ((ls.getD i ("", 0)).1.cps.toList < (ls.getD (i + 1) ("", 0)).1.cps.toList))) (ea_cons (ed_op (ed_lenR (er_var rfl)) ed_int od_int) ea_nil) (by rw [hlen]; omega) (by rw [hlen]; omega) rfl (fun i hi => ?_) (by omega)) (by rw [List.map_map]; rfl))))) ?_
      · have g1 : ∀ k, k < ls.length → atI (ls.map fun p : Lab => PyData.str p.1) (k : Int) = some (.str (ls.getD k ("", 0)).1) := fun k hk => atI_nat (by
          rw [List.getElem?_map, List.getD_eq_getElem?_getD, List.getElem?_eq_getElem hk]
          rfl)
        refine ed_op (a := .str (ls.getD i ("", 0)).1) (b := .str (ls.getD (i + 1) ("", 0)).1) (es_ixR (er_var rfl) (ed_var rfl) ?_) (es_ixR (er_var rfl) (ed_op (ed_var rfl) ed_int od_int) ?_) od_strLt
        · rintro ds b rfl rfl
          exact ⟨_, _, rfl, g1 i (by omega), rfl⟩
        · rintro ds b rfl rfl
          exact ⟨_, _, rfl, by
            have := g1 (i + 1) (by omega)
            rw [show ((i + 1 : Nat) : Int) = (i : Int) + 1 by omega] at this
            exact this, rfl⟩
      · rw [asc_eq]
        cases asc ls <;> rfl
    · subst pd
      refine q _ v H' (Same.refl _) I.rel ?_
      by_cases ha2 : asc ls = true
      · simp only [if_pos ha2] at td ⊢
        exact td
      · simp only [if_neg ha2] at td ⊢
        exact td
end
end NN
set_option Elab.async false
set_option linter.all false
set_option maxRecDepth 100000
set_option maxHeartbeats 4000000
namespace NN
open PySem PySem.Spec PyProof.Rows L2 NM
local macro_rules | `(tactic| walk_at "ev") => `(tactic| ((fail_if_success (first | with_reducible apply gd1 | with_reducible apply gd2 | with_reducible apply gd3 | with_reducible apply gd4 | with_reducible apply gd5)); first
  | with_reducible exact ed_int | with_reducible exact ed_str | with_reducible exact ed_bl | with_reducible exact ed_non
  | ((with_reducible apply ed_var); rfl) | ((with_reducible apply er_var); rfl)
  | with_reducible exact ea_nil | ((with_reducible apply ea_cons) <;> walk_at "ev")
  | with_reducible exact od_int | with_reducible exact od_bool | exact od_intC (by decide) | exact od_intC ⟨by decide, by decide⟩ | exact od_intC (.inl ⟨by decide, by decide⟩) | with_reducible exact ud_int | with_reducible exact od_eqI | with_reducible exact od_neI | with_reducible exact od_strLt | with_reducible exact od_ip
  | ((with_reducible apply ed_op) <;> walk_at "ev")
  | ((with_reducible apply ed_un) <;> walk_at "ev")
  | ((with_reducible apply ed_tup') <;> walk_at "ev")
  | ((with_reducible apply el_lst') <;> walk_at "ev")
  | ((with_reducible apply ebd_test) <;> walk_at "ev")
  | ((with_reducible apply ebd_val) <;> walk_at "ev")
  | ((with_reducible refine ed_lenT ?_) <;> walk_at "ev")
  | ((with_reducible apply ed_lenR) <;> walk_at "ev")
  | ((with_reducible apply ed_tupleR) <;> walk_at "ev")
  | ((with_reducible apply EvL.rd) <;> walk_at "ev")
  | with_reducible exact eo_none
  | ((with_reducible apply eo_some) <;> walk_at "ev")
  | ((with_reducible apply ed_slT) <;> walk_at "ev")
  | ((with_reducible apply ebd_not) <;> walk_at "ev")
  | ((with_reducible apply ei_tup) <;> walk_at "ev")
  | rfl
  | skip))
section
variable {P : Program} {w : World} {K : PySem.W.Frag} {mg : Str → Option Value} {base : Heap}
/-! read_item -/
abbrev s16 : Stmt := topS 16
theorem sc16 : FnScope ["cells", "at", "told", "key", "vector"] ["cells", "at"] (defScope s16) := ⟨rfl, rfl, rfl, by decide +kernel, rfl, by decide +kernel, by decide +kernel⟩
theorem isN {ρ : Rl} {F : Hp} {Γ : List Ty} {i : Nat} (h : Γ[i]? = some (.dat .none)) : EvB ρ F (tTest (tOp (fun x y H Q => y = .non ∧ Q (.bl (decide (x = .non))) H) (tVar i) (tC .non))) Γ (· = true) := ebd_test (ed_op (ed_var h) ed_non (od_isN true (by simp)))
theorem isS {ρ : Rl} {F : Hp} {Γ : List Ty} {i : Nat} {ds : List PyData} (h : Γ[i]? = some (.dat (.tuple ds))) : EvB ρ F (tTest (tOp (fun x y H Q => y = .non ∧ Q (.bl (decide (x = .non))) H) (tVar i) (tC .non))) Γ (· = false) := ebd_test (ed_op (ed_var h) ed_non (od_isN false (by simp)))
theorem g16 {fi : Addr} (D : Df K mg "read_item" s16 ["cells", "at"]) (N : Nm mg) (m_read_integer : mg "read_integer" = some (.ref fi)) (g_read_number : Gf P w K mg base 1 "read_number" ["cells", "at"] (spP (cRd rdN .int))) (g_read_many : Gf P w K mg base 4 "read_many" ["cells", "at", "reader"] (spMany fi NM.int .int)) (g_read_labels : Gf P w K mg base 6 "read_labels" ["cells", "at"] (spP (cRd labs.rd (fun ls => .tuple (ls.map dLab))))) : Gf P w K mg base 7 "read_item" ["cells", "at"] (spP (cRd item.rd dItem)) := by
  refine fn_data D sc16 (fun ds d ⟨cs, a, e, _⟩ => by rw [e]; rfl) fun cdv A outer s f H F vs E ds d hr c => ?_
  obtain ⟨cs, a, rfl, hc, ha, hz, rfl⟩ := c
  refine ⟨_, (pss_cons (ps_set (i := 2) sc16.nd rfl (.inl rfl) (pe_g g_read_number (hr.mono (by decide)) (pa_cons (pv 0) (pa_cons (pv 1) pa_nil))))
    (pss_cons (ps_if (pt_cmpR op_isN (pv 2) pe_non (nomark _))
    (pss_one (ps_ret pe_non))
    pss_nil)
    (pss_cons (ps_asg (pv 2) (pg_tup rfl (pgs_cons (pg_name (i := 3) sc16.nd rfl (.inl rfl)) (pgs_cons (pg_name (i := 1) sc16.nd rfl (.inl rfl)) pgs_nil))))
    (pss_cons (ps_set (i := 2) sc16.nd rfl (.inl rfl) (pe_g g_read_many (hr.mono (by decide)) (pa_cons (pv 0) (pa_cons (pv 1) (pa_cons (pe_fn m_read_integer) pa_nil)))))
    (pss_cons (ps_if (pt_cmpR op_isN (pv 2) pe_non (nomark _))
    (pss_one (ps_ret pe_non))
    pss_nil)
    (pss_cons (ps_asg (pv 2) (pg_tup rfl (pgs_cons (pg_name (i := 4) sc16.nd rfl (.inl rfl)) (pgs_cons (pg_name (i := 1) sc16.nd rfl (.inl rfl)) pgs_nil))))
    (pss_cons (ps_set (i := 2) sc16.nd rfl (.inl rfl) (pe_g g_read_labels (hr.mono (by decide)) (pa_cons (pv 0) (pa_cons (pv 1) pa_nil))))
    (pss_one (ps_ret (pe_ifExp (pt_cmpR op_isN (pv 2) pe_non (nomark _)) pe_non (pe_tup (pa_cons (pe_tup (pa_cons (pv 3) (pa_cons (pv 4) (pa_cons (pe_ix ix_tup (pv 2) pe_int (fun _ _ => rfl)) pa_nil)))) (pa_cons (pe_ix ix_tup (pv 2) pe_int (fun _ _ => rfl)) pa_nil))))))))))))), ?_⟩
  intro σ I Q q
  show tSeq _ _ _ _ _
  refine sq_set I (ed_callP (by walk_at "ev") ⟨cs, a, rfl, hc, ha, hz, rfl⟩) fun σ H I => ?_
  cases e : rdN (cs.drop a) with
  | none =>
    have el : item.rd (cs.drop a) = none := pair_none1 e
    rw [e] at I
    rw [el] at q
    refine sq_ifT I (isN rfl) fun H I _ => ?_
    refine st_ret I ed_non fun v d H' pd I m td => ?_
    subst pd
    exact q _ v H' (Same.refl _) I.rel td
  | some p =>
    obtain ⟨x, r⟩ := p
    rw [e] at I
    obtain ⟨k1, k2, k3, k4⟩ := rd_end Cd.num hc ha e
    refine sq_ifF I (isS rfl) fun H I _ => ?_
    refine sq_asgG I (ed_var rfl) (bg_tup rfl (bgs_cons bg_name (bgs_cons bg_name bgs_nil))) fun σ H _ I => ?_
    have c1 : (cs.length : Int) - r.length = ((cs.length - r.length : Nat) : Int) := by omega
    rw [c1] at I
    refine sq_set I (ed_many (by walk_at "ev") (by walk_at "ev") hc k2 hz) fun σ H I => ?_
    cases e2 : NM.int.many.rd r with
    | none =>
      have el : item.rd (cs.drop a) = none := pair_none2 e (pair_none1 e2)
      rw [k1] at e2
      rw [resD_none e2] at I
      rw [el] at q
      refine sq_ifT I (isN rfl) fun H I _ => ?_
      refine st_ret I ed_non fun v d H' pd I m td => ?_
      subst pd
      exact q _ v H' (Same.refl _) I.rel td
    | some p =>
      obtain ⟨y, r2⟩ := p
      have e2' := e2
      rw [k1] at e2'
      rw [resD_some e2'] at I
      obtain ⟨j1, j2, j3, j4⟩ := rd_end NM.int.many hc k2 e2'
      refine sq_ifF I (isS rfl) fun H I _ => ?_
      refine sq_asgG I (ed_var rfl) (bg_tup rfl (bgs_cons bg_name (bgs_cons bg_name bgs_nil))) fun σ H _ I => ?_
      have c2 : (cs.length : Int) - r2.length = ((cs.length - r2.length : Nat) : Int) := by omega
      rw [c2] at I
      refine sq_set I (ed_callP (by walk_at "ev") ⟨cs, cs.length - r2.length, rfl, hc, j2, hz, rfl⟩) fun σ H I => ?_
      rw [← j1] at I
      cases e3 : labs.rd r2 with
      | none =>
        have el : item.rd (cs.drop a) = none := pair_none2 e (pair_none2 e2 e3)
        rw [e3] at I
        rw [el] at q
        refine st_ret I (ed_if (isN rfl) (fun _ => ed_non) (fun z => nomatch z)) fun v d H' pd I m td => ?_
        subst pd
        exact q _ v H' (Same.refl _) I.rel td
      | some p =>
        obtain ⟨z, r3⟩ := p
        have el : item.rd (cs.drop a) = some ((x, (y, z)), r3) := pair_some e (pair_some e2 e3)
        rw [e3] at I
        rw [el] at q
        refine st_ret I (ed_if (isS rfl) (fun z => nomatch z) (fun _ => ed_tup' (ea_cons (ed_tup' (ea_cons (ed_var rfl) (ea_cons (ed_var rfl) (ea_cons (ed_op (ed_var rfl) ed_int (od_ixT (i := 0) rfl)) ea_nil))) rfl) (ea_cons (ed_op (ed_var rfl) ed_int (od_ixT (i := 1) rfl)) ea_nil)) rfl)) fun v d H' pd I m td => ?_
        subst pd
        exact q _ v H' (Same.refl _) I.rel td
end
end NN
set_option Elab.async false
set_option linter.all false
set_option maxRecDepth 100000
set_option maxHeartbeats 4000000
namespace NN
open PySem PySem.Spec PyProof.Rows L2 NM
local macro_rules | `(tactic| walk_at "ev") => `(tactic| ((fail_if_success (first | with_reducible apply gd1 | with_reducible apply gd2 | with_reducible apply gd3 | with_reducible apply gd4 | with_reducible apply gd5)); first
  | with_reducible exact ed_int | with_reducible exact ed_str | with_reducible exact ed_bl | with_reducible exact ed_non
  | ((with_reducible apply ed_var); rfl) | ((with_reducible apply er_var); rfl)
  | with_reducible exact ea_nil | ((with_reducible apply ea_cons) <;> walk_at "ev")
  | with_reducible exact od_int | with_reducible exact od_bool | exact od_intC (by decide) | exact od_intC ⟨by decide, by decide⟩ | exact od_intC (.inl ⟨by decide, by decide⟩) | with_reducible exact ud_int | with_reducible exact od_eqI | with_reducible exact od_neI | with_reducible exact od_strLt | with_reducible exact od_ip
  | ((with_reducible apply ed_op) <;> walk_at "ev")
  | ((with_reducible apply ed_un) <;> walk_at "ev")
  | ((with_reducible apply ed_tup') <;> walk_at "ev")
  | ((with_reducible apply el_lst') <;> walk_at "ev")
  | ((with_reducible apply ebd_test) <;> walk_at "ev")
  | ((with_reducible apply ebd_val) <;> walk_at "ev")
  | ((with_reducible refine ed_lenT ?_) <;> walk_at "ev")
  | ((with_reducible apply ed_lenR) <;> walk_at "ev")
  | ((with_reducible apply ed_tupleR) <;> walk_at "ev")
  | ((with_reducible apply EvL.rd) <;> walk_at "ev")
  | with_reducible exact eo_none
  | ((with_reducible apply eo_some) <;> walk_at "ev")
  | ((with_reducible apply ed_slT) <;> walk_at "ev")
  | ((with_reducible apply ebd_not) <;> walk_at "ev")
  | ((with_reducible apply ei_tup) <;> walk_at "ev")
  | rfl
  | skip))
section
variable {P : Program} {w : World} {K : PySem.W.Frag} {mg : Str → Option Value} {base : Heap}
/-! end_cell -/
abbrev s19 : Stmt := topS 19
theorem sc19 : FnScope ["body", "at", "cell"] ["body"] (defScope s19) := ⟨rfl, rfl, rfl, by decide +kernel, rfl, by decide +kernel, by decide +kernel⟩
def cEC (ds : List PyData) (d : PyData) : Prop := ∃ ns : List Int, ds = [dI ns] ∧ ns.length ≤ 1000000 ∧ d = .int (endc ns)
theorem wsum_eq : ∀ (ns : List Int) (i : Nat), ((List.range ns.length).map fun k => (((i + k : Nat) : Int) + 1) * ns.getD k 0).sum = wsum i ns
  | [], i => rfl
  | c :: r, i => by
    rw [List.length_cons, List.range_succ_eq_map, List.map_cons, List.sum_cons, List.map_map]
    show (((i + 0 : Nat) : Int) + 1) * c + _ = ((i : Int) + 1) * c + wsum (i + 1) r
    rw [Nat.add_zero, ← wsum_eq r (i + 1)]
    congr 2
    apply List.map_congr_left
    intro k hk
    show (((i + (k + 1) : Nat) : Int) + 1) * (c :: r).getD (k + 1) 0 = (((i + 1 + k : Nat) : Int) + 1) * r.getD k 0
    rw [show i + (k + 1) = i + 1 + k by omega]
    rfl
theorem nc_len (n : Int) : (nc n).length ≤ n.toNat + 1 := by
  by_cases h : 127 < n
  · rw [nc_big h, List.length_cons]
    have := nc_len (n / 128)
    omega
  · rw [nc_small h]
    simp
termination_by n.toNat
decreasing_by omega
theorem nc_lenN (n : Nat) : (nc (n : Int)).length ≤ n + 1 := by
  have := nc_len (n : Int)
  omega
theorem g19 (D : Df K mg "end_cell" s19 ["body"]) (N : Nm mg) (Cc : Ct mg) : Gf P w K mg base 1 "end_cell" ["body"] (spP cEC) := by
  refine fn_data D sc19 (fun ds d ⟨n, e, _⟩ => by rw [e]; rfl) fun cdv A outer s f H F vs E ds d hr c => ?_
  obtain ⟨ns, rfl, hz, rfl⟩ := c
  refine ⟨_, (pss_one (ps_ret (pe_op op_mod (pe_callB (cr_sum rfl) (by rfl) N.sum (by decide +kernel) (pa_cons (pe_lc (own := [("at", 1), ("cell", 2)]) (g := gTup K 2 (gCons (gName 1) (gCons (gName 2) gNil))) (tt := tYes) rfl sc19.nd (pi_enumT rfl N.enumerate (pa_cons (pv 0) pa_nil)) (blkOk_by (own := [("at", 1), ("cell", 2)]) (N := ["body", "at", "cell"]) (sc := defScope s19) (by decide +kernel)) (fun _ _ _ _ _ => (pg_tup rfl (pgs_cons (pg_name (i := 1) sc19.nd rfl (.inl rfl)) (pgs_cons (pg_name (i := 2) sc19.nd rfl (.inl rfl)) pgs_nil)))) (fun _ _ _ _ _ => pts_nil) (fun _ _ _ _ _ => (pe_op op_mul (pe_op op_add (pv 1) pe_int) (pv 2)))) pa_nil)) (pe_ci Cc.range)))), ?_⟩
  intro σ I Q q
  show tRet _ _ _ _
  refine st_ret I (ed_op (ed_sum (ns := (List.range ns.length).map fun k : Nat => ((k : Int) + 1) * ns.getD k 0) (EvL.rd (EvL.is (el_lcE (g := fun (k : Nat) c => .int (((k : Int) + 1) * c)) (ed_var rfl) (by decide) rfl rfl (fun k c hk => ?_) (by omega)) (by rw [List.map_map]; rfl)))) ed_int (od_intC (by decide))) fun v d H' pd I m td => ?_
  · have : k < ns.length := (List.getElem?_eq_some_iff.mp hk).1
    exact ed_op (ed_op (ed_var rfl) ed_int od_int) (ed_var rfl) (od_intC (.inl ⟨by omega, by omega⟩))
  · subst pd
    refine q _ v H' (Same.refl _) I.rel ?_
    have e := wsum_eq ns 0
    simp only [Nat.zero_add] at e
    rw [e] at td
    exact td
/-! framed -/
abbrev s20 : Stmt := topS 20
theorem sc20 : FnScope ["body"] ["body"] (defScope s20) := ⟨rfl, rfl, rfl, by decide +kernel, rfl, by decide +kernel, by decide +kernel⟩
def cFR (ds : List PyData) (d : PyData) : Prop := ∃ ns : List Int, ds = [dI ns] ∧ ns.length ≤ 900000 ∧ d = dI (frm ns)
theorem g20 (D : Df K mg "framed" s20 ["body"]) (N : Nm mg) (g_number_cells : Gf P w K mg base 1 "number_cells" ["number"] (spP cNC)) (g_end_cell : Gf P w K mg base 1 "end_cell" ["body"] (spP cEC)) : Gf P w K mg base 2 "framed" ["body"] (spP cFR) := by
  refine fn_data D sc20 (fun ds d ⟨n, e, _⟩ => by rw [e]; rfl) fun cdv A outer s f H F vs E ds d hr c => ?_
  obtain ⟨ns, rfl, hz, rfl⟩ := c
  refine ⟨_, (pss_one (ps_ret (pe_op op_catA (pe_op op_catA (pe_g g_number_cells (hr.mono (by decide)) (pa_cons (pe_callB call_len_seq (by rfl) N.len PySem.boot_len (pa_cons (pv 0) pa_nil)) pa_nil)) (pv 0)) (pe_tup (pa_cons (pe_g g_end_cell (hr.mono (by decide)) (pa_cons (pv 0) pa_nil)) pa_nil))))), ?_⟩
  intro σ I Q q
  show tRet _ _ _ _
  have hn := nc_lenN ns.length
  refine st_ret I (ed_op (b := dI [endc ns]) (ed_op (ed_callP (ea_cons (ed_lenTI (ed_var rfl)) ea_nil) ⟨ns.length, rfl, by omega, by omega, rfl⟩) (ed_var rfl) (od_catI (by omega))) (ed_tup' (ea_cons (ed_callP (by walk_at "ev") ⟨ns, rfl, by omega, rfl⟩) ea_nil) rfl) (od_catI (by rw [List.length_append, List.length_singleton]; omega))) fun v d H' pd I m td => ?_
  subst pd
  refine q _ v H' (Same.refl _) I.rel ?_
  rw [List.append_assoc] at td
  exact td
/-! is_unfinished -/
abbrev s21 : Stmt := topS 21
theorem sc21 : FnScope ["cells", "at", "cell"] ["cells", "at"] (defScope s21) := ⟨rfl, rfl, rfl, by decide +kernel, rfl, by decide +kernel, by decide +kernel⟩
def cUN (ds : List PyData) (d : PyData) : Prop := ∃ (cs : List Int) (a : Nat), ds = [dI cs, .int a] ∧ a ≤ cs.length ∧ cs.length ≤ 100000 ∧ d = .bool ((cs.drop a).all fun c => decide (128 ≤ c))
theorem g21 (D : Df K mg "is_unfinished" s21 ["cells", "at"]) (N : Nm mg) : Gf P w K mg base 1 "is_unfinished" ["cells", "at"] (spP cUN) := by
  refine fn_data D sc21 (fun ds d ⟨n, a, e, _⟩ => by rw [e]; rfl) fun cdv A outer s f H F vs E ds d hr c => ?_
  obtain ⟨cs, a, rfl, ha, hz, rfl⟩ := c
  refine ⟨_, (pss_one (ps_ret (pe_callB (cr_all rfl) (by rfl) N.all (by decide +kernel) (pa_cons (pe_lc (own := [("cell", 2)]) (g := gName 2) (tt := tYes) rfl sc21.nd (pi_tup (pe_slice sl_tupA (pv 0) (po_some (pv 1)) po_none)) (blkOk_by (own := [("cell", 2)]) (N := ["cells", "at", "cell"]) (sc := defScope s21) (by decide +kernel)) (fun _ _ _ _ _ => (pg_name (i := 2) sc21.nd rfl (.inl rfl))) (fun _ _ _ _ _ => pts_nil) (fun _ _ _ _ _ => (pe_cmpR op_ge (pv 2) pe_int (nomark _)))) pa_nil)))), ?_⟩
  intro σ I Q q
  show tRet _ _ _ _
  have ecut : cutD (cs.map PyData.int) (some (a : Int)) none = (cs.drop a).map .int := by
    rw [cutD_from (lo := a) rfl (by rw [List.length_map]; exact ha), List.map_drop]
  refine st_ret I (ed_all (ns := (cs.drop a).map fun c => decide (128 ≤ c)) (EvL.rd (EvL.is (el_lcI (g := fun c => .bool (decide (128 ≤ c))) (EvS.is (ed_slT (ed_var rfl) (eo_some (ed_var rfl)) eo_none) (by rw [ecut])) rfl (fun c hc => ed_op (ed_var rfl) ed_int od_bool) (by rw [List.length_drop]; omega)) (by rw [List.map_map]; rfl)))) fun v d H' pd I m td => ?_
  subst pd
  refine q _ v H' (Same.refl _) I.rel ?_
  rw [all_map] at td
  exact td
end
end NN
set_option Elab.async false
set_option linter.all false
set_option maxRecDepth 100000
set_option maxHeartbeats 4000000
/-! Broken: made (its __init__ says super().__init__("broken"), then a field), raised. -/
namespace PySem
namespace Brk
open PySem.W PySem.Calls PyProof.Rows PySem.HandSPX
abbrev stI : Stmt := L2.inClass (NN.topS 2) 0
structure Txt (prog : Program) (K : Frag) (mg : Str → Option Value) (C fI : Addr) : Prop where
  gC : mg "Broken" = some (.ref C)
  gS : mg "super" = none
  top : (prog.main.scope.names.lookup ("super" : Str)).isSome = false
  cls : ∃ nm q N bs bm sn sub ab col dd k0 k1 k2 k3 k5, K.lookup C = some (excClassObj nm q C N bs bm true sn sub ab col dd k0 k1 k2 k3 k5 "ValueError.__new__") ∧ refsVE bm = true
  sa : findIn K (.ref C) "__setattr__" = some (some (.builtin "object.__setattr__"))
  noN : findIn K (.ref C) "word" = some none
  iC : findIn K (.ref C) "__init__" = some (some (.ref fI))
  tC : typeIn K (.ref fI) = some (.type "function")
  kC : keepIn K (.ref C) = true
  exC : subIn K (.ref C) (.type "BaseException") = some true
  veC : subIn K (.ref C) (.type "ValueError") = some true
  tyC : typeIn K (.ref C) = some (.type "type")
  te : exmOne K (.ref C) (.ref C) = some true
  opq : nsIn K cStatics "thirdparty.any" = some none
  self : mroIn K C (.ref C) = some true
  sup : ks_superIn K C C "__init__" = some (some (.builtin "ValueError.__init__"))
  fn : ∃ (oc ct : Value) (od : Option Addr) (doc pm : Value) (an : Option Addr) (cda cc : Addr) (osl : Array (Option Value)),
    K.lookup fI = some ⟨oc, od, .func (fnX "__init__" "Broken.__init__" (L2.defArgs stI) (L2.defBody stI) (L2.defScope stI) [("__class__", cc)] .none .none doc pm an (.ref cda) ct), osl⟩ ∧ codeIn K (.ref cda) "Broken.__init__" = true ∧
    (∃ (cl : Value) (cld : Option Addr) (csl : Array (Option Value)), K.lookup cc = some ⟨cl, cld, .cell (some (.ref C)), csl⟩) ∧
    ∃ (ccl : Value) (cdd : Option Addr) (vs : Array Value) (ccs : Array (Option Value)) (file : Str) (tf : Tok), K.lookup cda = some ⟨ccl, cdd, .fields vs, ccs⟩ ∧ vs[2]? = some (.str file tf) ∧ ((prog.main.file : Str) == file) = true
theorem few (v : Value) : [v].length ≤ sizeLine := by
  rw [sizeLine_eq]
  exact (by decide : 1 ≤ 16777216)
theorem in_but {K : Frag} {h h' : Heap} {x : Addr} (X : K.In h) (hx : K.lookup x = none) (k : ∀ b o, b ≠ x → h.get? b = some o → h'.get? b = some o) : K.In h' :=
  fun a o e => k a o (fun z => by rw [z, hx] at e; exact absurd e (by simp)) (X a o e)
/-- what __init__ leaves of a fresh exception at x -/
structure Left (h h' : Heap) (x C dx t1 : Addr) (v : Value) : Prop where
  keep : ∀ b o, b ≠ x → h.get? b = some o → h'.get? b = some o
  obj : h'.get? x = some { cls := .ref C, dict := some dx, data := .fields #[.ref t1, .none, .none, .none, .bool false, .none] }
  dbig : h.objs.size ≤ dx
  dne : dx ≠ x
  ns : h'.Ns1 dx (fun y => if y = "word" then some v else none)
/-- a made Broken -/
structure Made (h h' : Heap) (e C d : Addr) (v : Value) : Prop where
  keep : ∀ b o, h.get? b = some o → h'.get? b = some o
  new : h.objs.size ≤ e
  obj : ∃ oe vs, h'.get? e = some oe ∧ oe.cls = .ref C ∧ oe.dict = some d ∧ oe.data = .fields vs ∧ vs[1]? = some .none
  dbig : h.objs.size ≤ d
  dne : d ≠ e
  ns : h'.Ns1 d (fun y => if y = "word" then some v else none)
section
variable {prog : Program} {w : World} {A : Around} {E : Value → Shared → Prop} {R : Result → Shared → Prop} {s : Shared} {K : Frag} {mg mb : Str → Option Value} {C fI : Addr}
theorem init_runs (T : Txt prog K mg C fI) {x t0 : Addr} {v : Value} (X : K.In s.heap) (hlim : s.heap.NoLimit) (hG : s.heap.Ns mainGlobals mg) (hB : s.heap.Ns builtinsNs mb) (hb : mb "super" = some (.type "super"))
    (hx : s.heap.get? x = some (excO C t0)) (hnx : K.lookup x = none) (hroom : A.depth < recursionLimit)
    (hq : ∀ h' tk dx t1, Left s.heap h' x C dx t1 v → R (.ok (.ret .none)) { s with heap := h', toks := tk }) :
    codeAny (model prog w) A (.call (.ref fI) ⟨[.ref x, v], []⟩) R s := by
  obtain ⟨oc, ct, od, doc, pm, an, cda, cc, osl, ho, hcd, ⟨cl, cld, csl, hcell⟩, ccl, cdd, vs, ccs, file, tf, hcode, hvs, hfile⟩ := T.fn
  obtain ⟨nm, q, N, bs, bm, sn, sub, ab, col, dd, k0, k1, k2, k3, k5, hC, hbm⟩ := T.cls
  have hcl : clsIn K C = some { name := nm, bases := bs, mro := .ref C :: bm, ns := N, qualname := q, hasDict := true, slotNames := sn, subclasses := sub, abstract := ab, collection := col, hasDel := false } := by unfold clsIn; rw [hC] <;> rfl
  have FB := F.excBase_ValueError
  refine ks_codeAny_call_defAt (binds := [("self", .ref x), ("word", v)]) (body := L2.defBody stI) hroom (X _ _ ho) rfl hlim (codeRec_of X hcd) rfl (BindsTo.of_eq (by first | rfl | with_unfolding_all rfl)) (show ∀ x ∈ (L2.defScope stI).names, x.2 ≠ .cell by decide +kernel) (by intro y hy; simp only [List.mem_cons, List.not_mem_nil, or_false] at hy; rcases hy with rfl | rfl <;> rfl) (fun h₁ hns hk => ?_) rfl rfl rfl
  have X₁ : K.In h₁ := X.keeps hk
  have hx₁ := hk _ _ hx
  have hxC : x ≠ C := by
    rintro rfl
    have z := X _ _ hC
    rw [hx] at z
    cases z
  have hxL : x < s.heap.objs.size := Heap.lt_size hx
  have hfo := X₁ _ _ ho
  have hCo := X₁ _ _ hC
  refine ks_wpAt_execs_cons (ks_wpAt_Expr_any (ks_wpAt_MethodCall ?_ rfl) rfl rfl)
  refine ks_wpAt_super_base (f := fI) (cc := cda) (ar := (L2.defArgs stI).args.headD ⟨"", none, ⟨0, 0, 0, 0⟩⟩) rfl rfl rfl rfl hfo rfl rfl rfl (X₁ _ _ hcode) rfl hvs hfile T.top ?_
  refine ks_loadName_global rfl rfl (loadGlobal_builtin (hG.keeps hk) T.gS (hB.keeps hk) hb ⟨rfl, ?_⟩)
  refine wpAny_loadName_free (c := cc) rfl rfl rfl ⟨_, X₁ _ _ hcell, rfl⟩ ?_
  refine wpAny_loadName_local (v := .ref x) rfl rfl hns rfl ?_
  refine ks_wpAny_isType_cls hCo rfl ⟨rfl, ?_⟩
  refine ks_wpAny_call_super hCo rfl hx₁ rfl (fun c e => by cases e) (looks_mroIn X₁ T.self) (fun h₂ e₂ k₂ => ?_)
  have X₂ : K.In h₂ := X₁.keeps k₂
  have hx₂ := k₂ _ _ hx₁
  have I₂ : InstAt h₂ x (excO C t0) C none := ⟨hx₂, rfl, rfl, trivial⟩
  have al : alongIn K "__init__" (((Value.ref C :: bm).dropWhile (· != .ref C)).drop 1) = some (some (.builtin "ValueError.__init__")) := by
    have z := T.sup
    unfold ks_superIn at z
    rw [hcl] at z
    exact z
  refine kxs_getMethod kxs_ValueError e₂ (looks_opaque X₂ T.opq) (l₀ := Value.ref C :: bm) ?_ rfl X₂ al (I₂.type.andThen (looks_subIn X₂ T.veC)) hxC rfl ?_
  · exact fun A Q E s k q => wpAny_bind ((looks_clsIn X₂ hcl) A _ E s k (wpAny_pure q))
  refine kxs_callWith (i := "ValueError.__init__") (x := x) rfl (evalArgs_plain (spliced_more (wpAny_Constant_str (spliced_none ⟨Heap.get?_push_at rfl rfl, ?_⟩)) rfl))
  -- the wrapper called
  have hx₃ : (h₂.push (kxs_mw "ValueError.__init__" x)).get? x = some (excO C t0) := Heap.get?_push_of_some _ hx₂
  have hC₃ := Heap.get?_push_of_some (h := h₂) (kxs_mw "ValueError.__init__" x) (k₂ _ _ hCo)
  refine wpAny_call (codeAny_of_tree ?_)
  simp only [List.nil_append]
  show wpAny _ _ (callAny (.ref h₂.objs.size) ⟨[.str "broken" _], []⟩) _ _ _
  simp only [callAny]
  refine wpAny_bind (wpAny_load (o := kxs_mw "ValueError.__init__" x) (Heap.get?_push_at rfl rfl) ?_)
  simp only [kxs_mw, show (Value.type "method-wrapper" == Value.type "method" || Value.type "method-wrapper" == Value.type "builtin_function_or_method" || Value.type "method-wrapper" == Value.type "method-wrapper") = true by decide, if_true]
  refine KFB.if_so (by decide) ?_
  refine wpAny_bind (check_bound_init FB.toExcCallFacts hC₃ hx₃ rfl ?_)
  refine wpAny_bind (wpAny_pure (wpAny_pure ?_))
  refine ⟨plainId_quiet FB.init.plain _, codeAny_builtin FB.initEntry ?_⟩
  refine exc_init_tree (cls := .ref C) (t0 := t0) (dv := none) (c2 := .none) (c3 := .none) (b4 := .bool false) hx₃ (few _) fun h₄ k₄ e₄ _ => ?_
  have k₁₄ : ∀ b o, b ≠ x → h₁.get? b = some o → h₄.get? b = some o := fun b o hb e => k₄ b o hb (Heap.get?_push_of_some _ (k₂ _ _ e))
  have X₄ : K.In h₄ := in_but X₁ hnx k₁₄
  -- self.word = word
  have hns₄ : h₄.Ns s.heap.objs.size (fun y => ([("self", .ref x), ("word", v)] : List (Str × Value)).reverse.lookup y) := by
    obtain ⟨oL, es, ep, hL, r⟩ := hns
    exact ⟨oL, es, ep, k₁₄ _ _ (Nat.ne_of_gt hxL) hL, r⟩
  refine wpAt_of_wpAny (wpAny_execs_cons (plainObj_wpAny_Assign_Attribute ?_))
  refine wpAny_Name (wpAny_loadName_local (v := v) rfl rfl hns₄ rfl ?_) (by decide)
  refine wpAny_Name (wpAny_loadName_local (v := .ref x) rfl rfl hns₄ rfl ?_) (by decide)
  refine set_plain X₄ (ox := excO C (h₂.push (kxs_mw "ValueError.__init__" x)).objs.size) (od := none) ⟨e₄, rfl, rfl, trivial⟩ T.sa ?_
  refine exc_osa X₄ e₄ hcl (show refsVE (.ref C :: bm) = true from hbm) rfl T.noN (fun h₅ tk₅ dx k₅ dn dne hx₅ hn₅ => ?_)
  show wpAny _ _ (execs _ _) _ _ _
  have z : s.heap.objs.size < h₄.objs.size := hns₄.lt
  exact wpAny_execs_nil (hq h₅ tk₅ dx _ ⟨fun b o hb e => k₅ b o hb (k₁₄ b o hb (hk b o e)), hx₅, Nat.le_of_lt (Nat.lt_of_lt_of_le z dn), dne, hn₅⟩)
theorem made (T : Txt prog K mg C fI) {v : Value} (X : K.In s.heap) (hlim : s.heap.NoLimit) (hG : s.heap.Ns mainGlobals mg) (hB : s.heap.Ns builtinsNs mb) (hb : mb "super" = some (.type "super")) (hroom : A.depth + 1 < recursionLimit)
    (hq : ∀ h' tk e d, Made s.heap h' e C d v → R (.ok (.ret (.ref e))) { s with heap := h', toks := tk }) :
    codeAny (model prog w) A (.call (.ref C) ⟨[v], []⟩) R s := by
  obtain ⟨nm, q, N, bs, bm, sn, sub, ab, col, dd, k0, k1, k2, k3, k5, hC, hbm⟩ := T.cls
  obtain ⟨hp, g, dr, tk, os⟩ := s
  have k : ∀ b o, hp.get? b = some o → ((hp.push (kdv_tup [v])).push (excO C hp.objs.size)).get? b = some o := fun b o e => Heap.get?_push_of_some _ (Heap.get?_push_of_some _ e)
  have hget : ((hp.push (kdv_tup [v])).push (excO C hp.objs.size)).get? (hp.objs.size + 1) = some (excO C hp.objs.size) := by heap_get
  have hnx : K.lookup (hp.objs.size + 1) = none := by
    cases e : K.lookup (hp.objs.size + 1) with
    | none => rfl
    | some o =>
      have z : hp.get? (hp.objs.size + 1) = some o := X _ _ e
      have y : hp.objs.size + 1 < hp.objs.size := Heap.lt_size z
      exact absurd y (by omega)
  refine call_own F.excBase_ValueError (fun X => refsVE_contains X bm hbm) (X _ _ hC) (looks_findIn X T.iC) (fun self => bind_fn X self T.tC) (few v) ?_
  refine init_runs (s := ⟨(hp.push (kdv_tup [v])).push (excO C hp.objs.size), g, dr, tk, os⟩) T (X.keeps k) (hlim.keeps k) (hG.keeps k) (hB.keeps k) hb hget hnx ?_ fun h' tk' dx t1 ⟨k', hx, dn, dne, hns⟩ => ?_
  · show A.depth + 1 < recursionLimit
    exact hroom
  · have old : ∀ b o, hp.get? b = some o → h'.get? b = some o := fun b o e => k' b o (Nat.ne_of_lt (Nat.lt_succ_of_lt (Heap.lt_size e))) (k b o e)
    have z : hp.objs.size + 1 + 1 ≤ dx := by
      have q := dn
      simp only [Heap.size_push] at q
      exact q
    exact ⟨rfl, hq h' tk' (hp.objs.size + 1) dx ⟨old, Nat.le_succ _, ⟨_, _, hx, rfl, rfl, rfl, rfl⟩, Nat.le_trans (Nat.le_trans (Nat.le_succ _) (Nat.le_succ _)) z, dne, hns⟩⟩
end
end Brk
end PySem
set_option Elab.async false
set_option linter.all false
set_option maxRecDepth 100000
set_option maxHeartbeats 4000000
/-! Broken raised, let through, caught. -/
namespace NN
open PySem PySem.Spec PyProof.Rows L2 NM
theorem relO_word {v : V} {v' : Value} (r : RelV v v') (f : Str) : RelO (List.lookup f [(("word" : Str), v)]) (if f = "word" then some v' else none) := by
  by_cases hw : f = "word"
  · subst hw
    rw [if_pos rfl, show List.lookup ("word" : Str) [(("word" : Str), v)] = some v by simp [List.lookup]]
    exact r
  · rw [if_neg hw, show List.lookup f [(("word" : Str), v)] = none by simp [List.lookup, show (f == ("word" : Str)) = false by simpa using hw]]
    trivial
section
variable {X : Cx} {C fI : Addr}
/-- Broken(e) -/
def tMkBrk (C : Addr) (ta : TA) : L2.St → Hp → XK → Prop := fun σ H Q => ta σ H fun vs H1 => ∃ v, vs = [v] ∧ ∀ d, H1 d = none → Q (.ref C) (some d) (upd H1 d (.xd [(("word" : Str), v)]))
theorem pmk_brk {a : Expr} {ta : TA} {p pos : Pos} {k : Nat} (T : PySem.Brk.Txt X.prog X.K X.mg C fI) (hr : Room k X.A) (ha : PA X [a] ta) (hg : Gl X "Broken" := by rfl)
    (he : starEach (a :: []) X.env = (false, eval a X.env) :: starEach [] X.env := by rfl) (hpl : (backTo pos (starEach [] X.env)).any (·.1) = false := by rfl) :
    PMk X (.Call (.Name "Broken" p) [a] [] pos) (tMkBrk C ta) := by
  intro pins s σ H Q I h
  refine wpAny_Call_Name_kw (ld_glob I hg T.gC ?_)
  refine PySem.W.callWith_K (h₀ := X.base) I.ok.mod.kin T.kC (thn (ha.run pos pins s σ H _ I h) fun us s1 hh => ?_) he hpl
  obtain ⟨vs, H1, I1, r1, v, ev, q1⟩ := hh
  subst ev
  refine ⟨I1.kIn, ?_⟩
  cases r1 with
  | cons rv rn =>
    rename_i v' us'
    cases rn
    show wpAny _ _ (call (.ref C) [v']) _ _ _
    have hlim := I1.nolimit
    have hG : s1.heap.Ns mainGlobals X.mg := I1.mod.glob.keeps I1.bk
    obtain ⟨mb, b1, b2⟩ := I1.mod.blt
    have hB : s1.heap.Ns builtinsNs mb := b1.keeps I1.bk
    have hsup : mb "super" = some (.type "super") := (b2 "super" (by decide)).trans (by decide +kernel)
    obtain ⟨hp, g, dr, tk, os⟩ := s1
    refine wpAny_call (PySem.Brk.made T I1.kIn hlim hG hB hsup (by have := hr.dp; omega) fun h' tk' e d M => ?_)
    show MkP X pins σ Q (.ref e) ⟨h', g, dr, tk', os⟩
    obtain ⟨oe, fv, hoe, hc, hd, hdat, h1⟩ := M.obj
    have hns := M.ns
    obtain ⟨G', g1, g2⟩ := restrict h' fun b => decide (b ≠ e)
    have gk : ∀ b, b ≠ e → G'.get? b = h'.get? b := fun b hb => g1 b (decide_eq_true hb)
    have ge : G'.get? e = none := g2 e (by simp)
    have old : ∀ b o, hp.get? b = some o → G'.get? b = some o := fun b o q => (gk b (Nat.ne_of_lt (Nat.lt_of_lt_of_le (Heap.lt_size q) M.new))).trans (M.keep b o q)
    have ob : ObjOk X.prog X.w (upd H1 d (.xd [(("word" : Str), v)])) G' d (.xd [(("word" : Str), v)]) :=
      ⟨_, hns.at (fun o q => (gk d M.dne).trans q), fun f => relO_word rv f⟩
    have J : Inv X pins σ (upd H1 d (.xd [(("word" : Str), v)])) ⟨G', g, dr, tk', os⟩ := I1.laid (t' := tk') old M.dbig ob
    refine ⟨e, oe, fv, ⟨G', g, dr, tk', os⟩, _, .ref C, some d, rfl, J, fun b o q => ?_, ge, hoe, ⟨hc, hd⟩, hdat, h1, ?_, rfl, I1.bare, raises_own T.exC T.tyC, q1 d (I1.hok.fresh M.dbig)⟩
    · by_cases hb : b = e
      · have q' : G'.get? b = some o := q
        rw [hb, ge] at q'
        cases q'
      · exact (gk b hb).symm.trans q
    · rw [upd_ne (Ne.symm M.dne)]
      exact I1.hok.fresh M.new
/-- raise Broken(e) -/
def tRaiseB (C : Addr) (W : WX) (ta : TA) : TS := fun _ σ H => tMkBrk C ta σ H fun cls d H' => W cls d σ H'
theorem ps_raiseB {a : Expr} {ta : TA} {W : WX} {p pos pos2 : Pos} {k : Nat} (hc : X.calm = true) (T : PySem.Brk.Txt X.prog X.K X.mg C fI) (hr : Room k X.A) (tk : Takes X W) (ha : PA X [a] ta) (hg : Gl X "Broken" := by rfl)
    (he : starEach (a :: []) X.env = (false, eval a X.env) :: starEach [] X.env := by rfl) (hpl : (backTo pos (starEach [] X.env)).any (·.1) = false := by rfl) :
    PS X (.Raise (some (.Call (.Name "Broken" p) [a] [] pos)) none pos2) (tRaiseB C W ta) := ps_raise hc tk (pmk_brk T hr ha hg he hpl)
end
/-- a def that may raise -/
def GfX (P : Program) (w : World) (K : PySem.W.Frag) (mg : Str → Option Value) (base : Heap) (k : Nat) (x : Str) (ps : List Str) (sp : Sp) : Prop :=
  ∃ (f : Addr) (fd : FuncData), FnOk P w K mg base (L2.CX P w) k f fd ps sp ∧ mg x = some (.ref f) ∧ PySem.W.keepIn K (.ref f) = true ∧ Binds K fd ps []
/-- .. that it raises tells nothing but its class -/
def spX (C : Addr) (R : List PyData → Option PyData → Prop) : Sp := fun vs H Q E => ∃ (F : Hp) (ds : List PyData) (r : Option PyData), Same F H ∧ TDs F H vs ds ∧ R ds r ∧
  (∀ d, r = some d → ∀ v H', Same H H' → TD F H' v d → Q v H') ∧ (r = none → ∀ a H', Same H H' → E (.ref C) (some a) H')
section
variable {X : Cx} {k : Nat} {x : Str} {ps : List Str} {sp : Sp} {p pos : Pos} {e : Expr} {es : List Expr} {t : TA} {W : WX}
theorem pe_gX (G : GfX X.prog X.w X.K X.mg X.base k x ps sp) (hr : Room k X.A) (tk : Takes X W) (ha : PA X (e :: es) t) (hg : Gl X x := by rfl)
    (hdb : (x == ("__debug__" : Str)) = false := by decide) (he : starEach (e :: es) X.env = (false, eval e X.env) :: starEach es X.env := by rfl) (hpl : (backTo pos (starEach es X.env)).any (·.1) = false := by rfl) :
    PE X (.Call (.Name x p) (e :: es) [] pos) (tCallS sp (WE W) t) := by
  obtain ⟨f, fd, F, hm, hk, hb⟩ := G
  exact pe_callS F hr hg hm hk hb (fun σ => L2.passAt tk σ) ha hdb he hpl
theorem fn_genX {P : Program} {w : World} {K : PySem.W.Frag} {mg : Str → Option Value} {base : Heap} {k : Nat} {x : Str} {st : Stmt} {N ps : List Str} {sp : Sp} (D : Df K mg x st ps) (S : FnScope N ps (defScope st)) (hlen : ∀ vs H Q E, sp vs H Q E → vs.length = ps.length)
    (hbody : ∀ (cdv : Value) (A : Around) (outer : List Env) (s : Shared) (f : Addr) (H : Hp) (vs : List V) (Q : VK) (E : XK), Room k (A.deeper (envOfC x (defScope st) s.heap.objs.size f cdv)) → sp vs H Q E →
      ∃ t, PSs (cxOf (L2.CX P w) P w K mg base N x (defScope st) f cdv A outer s H E) (defBody st) t ∧ t { nx := fun _ H' => Q .non H', rt := Q } (L2.start N vs) H) : GfX P w K mg base (k + 1) x ps sp := by
  obtain ⟨f, fd, Fu, hm, hb⟩ := D
  exact ⟨f, fd, Fu.okX S hlen (fun cdv A outer s H vs Q E hr h => hbody cdv A outer s f H vs Q E hr h), hm, Fu.kp, hb⟩
end
section
variable {ρ : Rl} {F H0 H0' H H' : Hp} {σ : L2.St} {Γ : List Ty} {t : TE} {tr : TA} {P : PyData → Prop} {C : Addr} {W : WX} {D : Ends} {u : TS}
/-- a reading that raises the class at C -/
def EvX (ρ : Rl) (F : Hp) (C : Addr) (W : WX) (t : TE) (Γ : List Ty) : Prop := ∀ (H0 : Hp) (σ : L2.St) (H : Hp), SS ρ H0 F σ H Γ → (∀ a H', SS ρ H0 F σ H' Γ → Mv ρ H H' → W (.ref C) (some a) σ H') → ∀ Q : VK, t σ H Q
theorem ed_callX {R : List PyData → Option PyData → Prop} {l : List PyData} {d : PyData} (h : EvA ρ F tr Γ (· = l)) (c : R l (some d)) : EvD ρ F (tCallS (spX C R) (WE W) tr) Γ d := fun H0 σ H I Q q =>
  h H0 σ H I _ fun vs l H1 pl I1 m1 t1 => by
    subst pl
    exact ⟨F, _, some d, I1.sf, t1, c, fun d' e v H' s t => by cases e; exact q v _ H' rfl (I1.same s) (m1.trans (Mv.of s)) t, fun e => by cases e⟩
theorem ex_callX {R : List PyData → Option PyData → Prop} {l : List PyData} (h : EvA ρ F tr Γ (· = l)) (c : R l none) : EvX ρ F C W (tCallS (spX C R) (WE W) tr) Γ := fun H0 σ H I q Q =>
  h H0 σ H I _ fun vs l H1 pl I1 m1 t1 => by
    subst pl
    exact ⟨F, _, none, I1.sf, t1, c, fun d' e => (by cases e), fun _ a H' s => q a H' (I1.same s) (m1.trans (Mv.of s))⟩
theorem sq_raiseB {ta : TA} {l0 : Str} (I : SS ρ H0 F σ H Γ) (h : EvA ρ F ta Γ (· = [.str l0])) (q : ∀ a H', SS ρ H0 F σ H' Γ → Mv ρ H H' → W (.ref C) (some a) σ H') : tRaiseB C W ta D σ H :=
  h H0 σ H I _ fun vs l H1 pl I1 m1 t1 => by
    subst pl
    cases t1 with
    | cons a b =>
      cases b
      refine ⟨_, rfl, fun d hd => ?_⟩
      exact q d _ (I1.same (same_new hd)) (m1.trans (Mv.of (same_new hd)))
end
end NN
set_option Elab.async false
set_option linter.all false
set_option maxRecDepth 100000
set_option maxHeartbeats 4000000
namespace NN
open PySem PySem.Spec PyProof.Rows L2 NM
local macro_rules | `(tactic| walk_at "ev") => `(tactic| ((fail_if_success (first | with_reducible apply gd1 | with_reducible apply gd2 | with_reducible apply gd3 | with_reducible apply gd4 | with_reducible apply gd5)); first
  | with_reducible exact ed_int | with_reducible exact ed_str | with_reducible exact ed_bl | with_reducible exact ed_non
  | ((with_reducible apply ed_var); rfl) | ((with_reducible apply er_var); rfl)
  | with_reducible exact ea_nil | ((with_reducible apply ea_cons) <;> walk_at "ev")
  | with_reducible exact od_int | with_reducible exact od_bool | exact od_intC (by decide) | exact od_intC ⟨by decide, by decide⟩ | exact od_intC (.inl ⟨by decide, by decide⟩) | with_reducible exact ud_int | with_reducible exact od_eqI | with_reducible exact od_neI | with_reducible exact od_strLt | with_reducible exact od_ip
  | ((with_reducible apply ed_op) <;> walk_at "ev")
  | ((with_reducible apply ed_un) <;> walk_at "ev")
  | ((with_reducible apply ed_tup') <;> walk_at "ev")
  | ((with_reducible apply el_lst') <;> walk_at "ev")
  | ((with_reducible apply ebd_test) <;> walk_at "ev")
  | ((with_reducible apply ebd_val) <;> walk_at "ev")
  | ((with_reducible refine ed_lenT ?_) <;> walk_at "ev")
  | ((with_reducible apply ed_lenR) <;> walk_at "ev")
  | ((with_reducible apply ed_tupleR) <;> walk_at "ev")
  | ((with_reducible apply EvL.rd) <;> walk_at "ev")
  | with_reducible exact eo_none
  | ((with_reducible apply eo_some) <;> walk_at "ev")
  | ((with_reducible apply ed_slT) <;> walk_at "ev")
  | ((with_reducible apply ebd_not) <;> walk_at "ev")
  | ((with_reducible apply ei_tup) <;> walk_at "ev")
  | rfl
  | skip))
section
variable {P : Program} {w : World} {K : PySem.W.Frag} {mg : Str → Option Value} {base : Heap}
/-! next_body -/
abbrev s22 : Stmt := topS 22
theorem sc22 : FnScope ["cells", "at", "told", "size", "first", "body"] ["cells", "at"] (defScope s22) := ⟨rfl, rfl, rfl, by decide +kernel, rfl, by decide +kernel, by decide +kernel⟩
def dNx (cs : List Int) (a : Nat) : Option PyData := match nxt (cs.drop a) with
  | none => none
  | some none => some .none
  | some (some (b, r)) => some (.tuple [dI b, .int ((cs.length : Int) - r.length)])
def cNX (ds : List PyData) (r : Option PyData) : Prop := ∃ (cs : List Int) (a : Nat), ds = [dI cs, .int a] ∧ Cs cs ∧ a ≤ cs.length ∧ cs.length ≤ 100000 ∧ r = dNx cs a
variable {C fI : Addr}
theorem g22 (D : Df K mg "next_body" s22 ["cells", "at"]) (N : Nm mg) (T : PySem.Brk.Txt P K mg C fI) (g_read_number : Gf P w K mg base 1 "read_number" ["cells", "at"] (spP (cRd rdN .int))) (g_end_cell : Gf P w K mg base 1 "end_cell" ["body"] (spP cEC))
    (g_is_unfinished : Gf P w K mg base 1 "is_unfinished" ["cells", "at"] (spP cUN)) : GfX P w K mg base 3 "next_body" ["cells", "at"] (spX C cNX) := by
  refine fn_genX D sc22 (fun vs H Q E ⟨F, ds, r, _, t, ⟨cs, a, e, _⟩, _⟩ => by subst e; exact t.len) fun cdv A outer s f H vs Q E hr c => ?_
  obtain ⟨F, ds, r, f0, td, ⟨cs, a, rfl, hc, ha, hz, rfl⟩, qr, qx⟩ := c
  refine ⟨_, (pss_cons (ps_set (i := 2) sc22.nd rfl (.inl rfl) (pe_g g_read_number (hr.mono (by decide)) (pa_cons (pv 0) (pa_cons (pv 1) pa_nil))))
    (pss_cons (ps_if (pt_cmpR op_isN (pv 2) pe_non (nomark _))
    (pss_cons (ps_if (pt_val (pe_g g_is_unfinished (hr.mono (by decide)) (pa_cons (pv 0) (pa_cons (pv 1) pa_nil))))
    (pss_one (ps_ret pe_non))
    pss_nil)
    (pss_one (ps_raiseB rfl T hr (takes_of rfl rfl rfl rfl) (pa_cons pe_str pa_nil))))
    pss_nil)
    (pss_cons (ps_asg (pv 2) (pg_tup rfl (pgs_cons (pg_name (i := 3) sc22.nd rfl (.inl rfl)) (pgs_cons (pg_name (i := 4) sc22.nd rfl (.inl rfl)) pgs_nil))))
    (pss_cons (ps_if (pt_cmpR op_le (pe_callB call_len_seq (by rfl) N.len PySem.boot_len (pa_cons (pv 0) pa_nil)) (pe_op op_add (pv 4) (pv 3)) (nomark _))
    (pss_one (ps_ret pe_non))
    pss_nil)
    (pss_cons (ps_set (i := 5) sc22.nd rfl (.inl rfl) (pe_slice sl_tupA (pv 0) (po_some (pv 4)) (po_some (pe_op op_add (pv 4) (pv 3)))))
    (pss_cons (ps_if (pt_cmpR op_ne (pe_ix ix_tup (pv 0) (pe_op op_add (pv 4) (pv 3)) (fun _ _ => rfl)) (pe_g g_end_cell (hr.mono (by decide)) (pa_cons (pv 5) pa_nil)) (nomark _))
    (pss_one (ps_raiseB rfl T hr (takes_of rfl rfl rfl rfl) (pa_cons pe_str pa_nil)))
    pss_nil)
    (pss_one (ps_ret (pe_tup (pa_cons (pv 5) (pa_cons (pe_op op_add (pe_op op_add (pv 4) (pv 3)) pe_int) pa_nil))))))))))), ?_⟩
  have I := SS.startD (N := ["cells", "at", "told", "size", "first", "body"]) f0 td (show 2 ≤ 6 by decide)
  show tSeq _ _ _ _ _
  refine sq_set I (ed_callP (by walk_at "ev") ⟨cs, a, rfl, hc, ha, hz, rfl⟩) fun σ H' I => ?_
  have fin : ∀ d, dNx cs a = some d → ∀ v H'', Mv rS H H'' → TD F H'' v d → Q v H'' := fun d e v H'' m t => qr d e v H'' m.same t
  have finx : dNx cs a = none → ∀ b H'', Mv rS H H'' → E (.ref C) (some b) H'' := fun e b H'' m => qx e b H'' m.same
  cases e : rdN (cs.drop a) with
  | none =>
    rw [e] at I
    refine sq_ifT I (isN rfl) fun H' I _ => ?_
    by_cases hu : ((cs.drop a).all fun c => decide (128 ≤ c)) = true
    · have en : nxt (cs.drop a) = some none := by
        unfold nxt
        rw [e]
        exact if_pos hu
      refine sq_ifT I (ebd_val (EvS.is (ed_callP (by walk_at "ev") ⟨cs, a, rfl, ha, hz, rfl⟩) (by rw [hu]))) fun H' I _ => ?_
      refine st_ret I ed_non fun v d H' pd I m t => ?_
      subst pd
      exact fin _ (by unfold dNx; rw [en]) v H' I.rel t
    · have en : nxt (cs.drop a) = none := by
        unfold nxt
        rw [e]
        exact if_neg hu
      refine sq_ifF I (ebd_val (EvS.is (ed_callP (by walk_at "ev") ⟨cs, a, rfl, ha, hz, rfl⟩) (by rw [Bool.eq_false_iff.mpr hu]))) fun H' I _ => ?_
      refine sq_raiseB (l0 := "record") I (ea_cons ed_str ea_nil) fun b H' I _ => ?_
      exact finx (by unfold dNx; rw [en]) b H' I.rel
  | some p =>
    obtain ⟨x, r⟩ := p
    rw [e] at I
    obtain ⟨k1, k2, k3, k4⟩ := rd_end Cd.num hc ha e
    have hx0 : 0 ≤ x := (Cd.num.bwd _ _ _ (hc.drop a) e).2
    refine sq_ifF I (isS rfl) fun H' I _ => ?_
    refine sq_asgG I (ed_var rfl) (bg_tup rfl (bgs_cons bg_name (bgs_cons bg_name bgs_nil))) fun σ H' _ I => ?_
    by_cases hle : r.length ≤ x.toNat
    · have en : nxt (cs.drop a) = some none := by
        unfold nxt
        rw [e]
        exact if_pos hle
      refine sq_ifT I (ebd_test (EvS.is (ed_op (ed_lenTI (K := K) (ed_var rfl)) (ed_op (ed_var rfl) (ed_var rfl) od_int) (od_bool (f := fun i j => decide (i ≤ j)))) (by rw [decide_eq_true (by omega)]))) fun H' I _ => ?_
      refine st_ret I ed_non fun v d H' pd I m t => ?_
      subst pd
      exact fin _ (by unfold dNx; rw [en]) v H' I.rel t
    · have hlt : x.toNat < r.length := by omega
      obtain ⟨n, rfl⟩ : ∃ n : Nat, x = n := ⟨x.toNat, by omega⟩
      simp only [Int.toNat_natCast] at hlt hle
      refine sq_ifF I (ebd_test (EvS.is (ed_op (ed_lenTI (K := K) (ed_var rfl)) (ed_op (ed_var rfl) (ed_var rfl) od_int) (od_bool (f := fun i j => decide (i ≤ j)))) (by rw [decide_eq_false (by omega)]))) fun H' I _ => ?_
      generalize hb : cs.length - r.length = j at *
      have c1 : (cs.length : Int) - r.length = (j : Int) := by omega
      rw [c1] at I
      have ecut : cutD (cs.map PyData.int) (some (j : Int)) (some ((j : Int) + n)) = (r.take n).map .int := by
        rw [cutD_nat (lo := j) (hi := j + n) (by omega) (by omega) (by rw [List.length_map]; omega) (by omega), ← List.map_drop, ← List.map_take, show j + n - j = n by omega, ← k1]
      refine sq_set I (EvS.is (ed_slT (ed_var rfl) (eo_some (by walk_at "ev")) (eo_some (ed_op (by walk_at "ev") (by walk_at "ev") od_int))) (by rw [ecut])) fun σ H' I => ?_
      have hget : r[n]? = some r[n] := List.getElem?_eq_getElem hlt
      generalize r[n] = z at hget
      have eat : atI (cs.map PyData.int) ((j : Int) + n) = some (.int z) := ints_at (i := j + n) (by omega) (by rw [k1, List.getElem?_drop] at hget; exact hget)
      have lb : (r.take n).length ≤ 100000 := by rw [List.length_take]; omega
      by_cases hz2 : z = endc (r.take n)
      · have en : nxt (cs.drop a) = some (some (r.take n, r.drop (n + 1))) := by
          unfold nxt
          rw [e]
          simp only [Int.toNat_natCast]
          rw [if_neg (by omega), if_pos (by rw [hget, hz2])]
        refine sq_ifF I (ebd_test (EvS.is (ed_op (ed_op (ed_var rfl) (ed_op (ed_var rfl) (ed_var rfl) od_int) (od_ixT (K := K) eat)) (ed_callP (by walk_at "ev") ⟨r.take n, rfl, by omega, rfl⟩) od_neI) (by rw [hz2, decide_eq_true rfl]; rfl))) fun H' I _ => ?_
        refine st_ret I (ed_tup' (ea_cons (ed_var rfl) (ea_cons (ed_op (ed_op (ed_var rfl) (ed_var rfl) od_int) ed_int od_int) ea_nil)) rfl) fun v d H' pd I m t => ?_
        subst pd
        refine fin _ (by unfold dNx; rw [en]) v H' I.rel ?_
        rw [show (cs.length : Int) - ((r.drop (n + 1)).length : Nat) = (j : Int) + n + 1 by rw [List.length_drop]; omega]
        exact t
      · have en : nxt (cs.drop a) = none := by
          unfold nxt
          rw [e]
          simp only [Int.toNat_natCast]
          rw [if_neg (by omega), if_neg (by rw [hget]; intro q; exact hz2 (Option.some.inj q))]
        refine sq_ifT I (ebd_test (EvS.is (ed_op (ed_op (ed_var rfl) (ed_op (ed_var rfl) (ed_var rfl) od_int) (od_ixT (K := K) eat)) (ed_callP (by walk_at "ev") ⟨r.take n, rfl, by omega, rfl⟩) od_neI) (by rw [decide_eq_false hz2]; rfl))) fun H' I _ => ?_
        refine sq_raiseB (l0 := "record") I (ea_cons ed_str ea_nil) fun b H' I _ => ?_
        exact finx (by unfold dNx; rw [en]) b H' I.rel
end
end NN
set_option Elab.async false
set_option linter.all false
set_option maxRecDepth 100000
set_option maxHeartbeats 4000000
namespace NN
open PySem PySem.Spec PyProof.Rows L2 NM
local macro_rules | `(tactic| walk_at "ev") => `(tactic| ((fail_if_success (first | with_reducible apply gd1 | with_reducible apply gd2 | with_reducible apply gd3 | with_reducible apply gd4 | with_reducible apply gd5)); first
  | with_reducible exact ed_int | with_reducible exact ed_str | with_reducible exact ed_bl | with_reducible exact ed_non
  | ((with_reducible apply ed_var); rfl) | ((with_reducible apply er_var); rfl)
  | with_reducible exact ea_nil | ((with_reducible apply ea_cons) <;> walk_at "ev")
  | with_reducible exact od_int | with_reducible exact od_bool | exact od_intC (by decide) | exact od_intC ⟨by decide, by decide⟩ | exact od_intC (.inl ⟨by decide, by decide⟩) | with_reducible exact ud_int | with_reducible exact od_eqI | with_reducible exact od_neI | with_reducible exact od_strLt | with_reducible exact od_ip
  | ((with_reducible apply ed_op) <;> walk_at "ev")
  | ((with_reducible apply ed_un) <;> walk_at "ev")
  | ((with_reducible apply ed_tup') <;> walk_at "ev")
  | ((with_reducible apply el_lst') <;> walk_at "ev")
  | ((with_reducible apply ebd_test) <;> walk_at "ev")
  | ((with_reducible apply ebd_val) <;> walk_at "ev")
  | ((with_reducible refine ed_lenT ?_) <;> walk_at "ev")
  | ((with_reducible apply ed_lenR) <;> walk_at "ev")
  | ((with_reducible apply ed_tupleR) <;> walk_at "ev")
  | ((with_reducible apply EvL.rd) <;> walk_at "ev")
  | with_reducible exact eo_none
  | ((with_reducible apply eo_some) <;> walk_at "ev")
  | ((with_reducible apply ed_slT) <;> walk_at "ev")
  | ((with_reducible apply ebd_not) <;> walk_at "ev")
  | ((with_reducible apply ei_tup) <;> walk_at "ev")
  | rfl
  | skip))
section
variable {P : Program} {w : World} {K : PySem.W.Frag} {mg : Str → Option Value} {base : Heap}
theorem nxt_suf {l b r : List Int} (hc : Cs l) (h : nxt l = some (some (b, r))) : r = l.drop (l.length - r.length) := by
  have hs := nxt_sh h
  unfold nxt at h
  cases q : rdN l with
  | none =>
    rw [q] at h
    simp only at h
    split at h <;> cases h
  | some p =>
    obtain ⟨n, r1⟩ := p
    rw [q] at h
    have h1 := Cd.num.suffix hc q
    have h2 := Cd.num.shorter hc q
    simp only at h
    split at h
    · cases h
    · rename_i hn
      split at h
      · injection h with h
        injection h with h
        injection h with e1 e2
        subst e2
        rw [List.length_drop] at hs ⊢
        have e : l.length - (r1.length - (n.toNat + 1)) = (l.length - r1.length) + (n.toNat + 1) := by omega
        have e3 : l.drop ((l.length - r1.length) + (n.toNat + 1)) = (l.drop (l.length - r1.length)).drop (n.toNat + 1) := by rw [List.drop_drop]
        rw [e, e3, ← h1]
      · cases h
theorem ex_set {ρ : Rl} {F H0 H : Hp} {σ : L2.St} {Γ : List Ty} {C : Addr} {W : WX} {t : TE} {g : TG} {D : Ends} (I : SS ρ H0 F σ H Γ) (h : EvX ρ F C W t Γ) (q : ∀ a H', SS ρ H0 F σ H' Γ → Mv ρ H H' → W (.ref C) (some a) σ H') : tAsg t g D σ H := h _ σ H I q _
theorem xq_set {ρ : Rl} {F H0 H : Hp} {σ : L2.St} {Γ : List Ty} {C : Addr} {W : WX} {t : TE} {g : TG} {D : Ends} {u : TS} (I : SS ρ H0 F σ H Γ) (h : EvX ρ F C W t Γ) (q : ∀ a H', SS ρ H0 F σ H' Γ → Mv ρ H H' → W (.ref C) (some a) σ H') : tSeq (tAsg t g) u D σ H := h _ σ H I q _
theorem isN2 {ρ : Rl} {F : Hp} {Γ : List Ty} {i : Nat} (h : Γ[i]? = some (.dat .none)) : EvB ρ F (tTest (tOp (fun x y H Q => y = .non ∧ Q (.bl (!decide (x = .non))) H) (tVar i) (tC .non))) Γ (· = false) := ebd_test (ed_op (ed_var h) ed_non (od_notN false (by simp)))
theorem isS2 {ρ : Rl} {F : Hp} {Γ : List Ty} {i : Nat} {ds : List PyData} (h : Γ[i]? = some (.dat (.tuple ds))) : EvB ρ F (tTest (tOp (fun x y H Q => y = .non ∧ Q (.bl (!decide (x = .non))) H) (tVar i) (tC .non))) Γ (· = true) := ebd_test (ed_op (ed_var h) ed_non (od_notN true (by simp)))
/-- l, b = new list, data -/
theorem sq_parL {ρ : Rl} {F H0 H : Hp} {σ : L2.St} {Γ : List Ty} {ta tb : TE} {i j : Nat} {ds : List PyData} {y : PyData} {D : Ends} {u : TS} (I : SS ρ H0 F σ H Γ) (h : EvL ρ F ta Γ (· = ds)) (hb : EvD ρ F tb Γ y) (k : ∀ σ' H', SS ρ H0 F σ' H' ((Γ.set i (.lst ds)).set j (.dat y)) → u D σ' H') : tSeq (tPar i j (tCons ta (tCons tb tNil))) u D σ H :=
  h H0 σ H I _ fun l vs d H1 pd I1 m1 n e td => hb H0 σ H1 I1 _ fun v d2 H2 pd2 I2 m2 t2 => by
    subst pd; subst pd2
    have e2 := m2 l _ (I.newown n) e
    exact ⟨_, _, rfl, k _ H2 ((I.setN (t := .lst d) I2 i n ⟨l, vs, rfl, e2, td.mono (Same.refl F) (m2.tu I1.inv)⟩).setD j t2)⟩
/-! read_frames -/
abbrev s23 : Stmt := topS 23
theorem sc23 : FnScope ["cells", "bodies", "at", "found"] ["cells"] (defScope s23) := ⟨rfl, rfl, rfl, by decide +kernel, rfl, by decide +kernel, by decide +kernel⟩
def dFr (cs : List Int) : Option PyData := match frs cs with
  | none => none
  | some (bs, r) => some (.tuple [.tuple (bs.map dI), .int ((cs.length : Int) - r.length)])
def cFRS (ds : List PyData) (r : Option PyData) : Prop := ∃ (cs : List Int), ds = [dI cs] ∧ Cs cs ∧ cs.length ≤ 100000 ∧ r = dFr cs
def dNo (cs : List Int) : Option (List Int × List Int) → PyData
  | none => .none
  | some (b, r) => .tuple [dI b, .int ((cs.length : Int) - r.length)]
variable {C fI : Addr}
theorem g23 (D : Df K mg "read_frames" s23 ["cells"]) (N : Nm mg) (g_next_body : GfX P w K mg base 3 "next_body" ["cells", "at"] (spX C cNX)) : GfX P w K mg base 4 "read_frames" ["cells"] (spX C cFRS) := by
  refine fn_genX D sc23 (fun vs H Q E ⟨F, ds, r, _, t, ⟨cs, e, _⟩, _⟩ => by subst e; exact t.len) fun cdv A outer s f H vs Q E hr c => ?_
  obtain ⟨F, ds, r, f0, td, ⟨cs, rfl, hc, hz, rfl⟩, qr, qx⟩ := c
  refine ⟨_, (pss_cons (ps_par (i := 1) (j := 2) rfl sc23.nd rfl rfl (by decide) rfl rfl (pa_cons (pe_lst pa_nil) (pa_cons pe_int pa_nil)) (by rfl))
    (pss_cons (ps_set (i := 3) sc23.nd rfl (.inl rfl) (pe_gX g_next_body (hr.mono (by decide)) (takes_of rfl rfl rfl rfl) (pa_cons (pv 0) (pa_cons (pv 2) pa_nil))))
    (pss_cons (ps_while (passes_of rfl) (pt_cmpR op_notN (pv 3) pe_non (nomark _))
    (pss_cons (ps_expr (pe_bm PySem.F.plainAttrs_list PySem.F.slot_list_append PySem.F.type_list_append mt_append (pv 1) (pa_cons (pe_ix ix_tup (pv 3) pe_int (fun _ _ => rfl)) pa_nil)))
    (pss_cons (ps_set (i := 2) sc23.nd rfl (.inl rfl) (pe_ix ix_tup (pv 3) pe_int (fun _ _ => rfl)))
    (pss_one (ps_set (i := 3) sc23.nd rfl (.inl rfl) (pe_gX g_next_body (hr.mono (by decide)) (takes_of rfl rfl rfl rfl) (pa_cons (pv 0) (pa_cons (pv 2) pa_nil))))))))
    (pss_one (ps_ret (pe_tup (pa_cons (pe_callTy call_tuple_of (by rfl) N.tuple (by decide +kernel) (pa_cons (pv 1) pa_nil)) (pa_cons (pv 2) pa_nil)))))))), ?_⟩
  have I := SS.startD (N := ["cells", "bodies", "at", "found"]) f0 td (show 1 ≤ 4 by decide)
  show tSeq _ _ _ _ _
  have fin : ∀ d, dFr cs = some d → ∀ v H'', Mv rS H H'' → TD F H'' v d → Q v H'' := fun d e v H'' m t => qr d e v H'' m.same t
  have finx : dFr cs = none → ∀ b H'', Mv rS H H'' → E (.ref C) (some b) H'' := fun e b H'' m => qx e b H'' m.same
  refine sq_parL (ds := []) I (by walk_at "ev") ed_int fun σ H' I => ?_
  have enx : ∀ r : List Int, r = cs.drop (cs.length - r.length) → r.length ≤ cs.length → ∀ o, nxt r = some o → cNX [dI cs, .int ((cs.length - r.length : Nat) : Int)] (some (dNo cs o)) := fun r er hl o ho => ⟨cs, cs.length - r.length, rfl, hc, by omega, hz, by
    unfold dNx
    rw [← er, ho]
    cases o with
    | none => rfl
    | some p => rfl⟩
  have enn : ∀ r : List Int, r = cs.drop (cs.length - r.length) → r.length ≤ cs.length → nxt r = none → cNX [dI cs, .int ((cs.length - r.length : Nat) : Int)] none := fun r er hl ho => ⟨cs, cs.length - r.length, rfl, hc, by omega, hz, by
    unfold dNx
    rw [← er, ho]⟩
  have z0 : cs = cs.drop (cs.length - cs.length) := by rw [Nat.sub_self]; rfl
  have z1 : ((cs.length - cs.length : Nat) : Int) = 0 := by omega
  cases e0 : nxt cs with
  | none =>
    refine xq_set I (ex_callX (R := cNX) (ea_cons (ed_var rfl) (ea_cons (ed_var rfl) ea_nil)) (by have := enn cs z0 (by omega) e0; rw [z1] at this; exact this)) fun b H' I _ => ?_
    exact finx (by unfold dFr; rw [frs_none e0]) b H' I.rel
  | some o0 =>
    refine sq_set I (ed_callX (R := cNX) (ea_cons (ed_var rfl) (ea_cons (ed_var rfl) ea_nil)) (by have := enx cs z0 (by omega) o0 e0; rw [z1] at this; exact this)) fun σ H' I => ?_
    refine sq_while (α := List (List Int) × List Int × Option (List Int × List Int)) (ρ := rS) (H0 := H) (F := F) ([], cs, o0)
      (fun x => nxt x.2.1 = some x.2.2 ∧ x.2.1 = cs.drop (cs.length - x.2.1.length) ∧ x.1.length + x.2.1.length ≤ cs.length ∧ frs cs = (frs x.2.1).map fun q => (x.1 ++ q.1, q.2))
      (fun x => [.dat (dI cs), .lst (x.1.map dI), .dat (.int ((cs.length - x.2.1.length : Nat) : Int)), .dat (dNo cs x.2.2)]) (fun x => x.2.1.length) ?_ ⟨e0, z0, by simp, by cases frs cs <;> rfl⟩ ?_
    · show SS rS H _ σ H' [.dat (dI cs), .lst [], .dat (.int ((cs.length - cs.length : Nat) : Int)), .dat (dNo cs o0)]
      rw [z1]
      exact I
    · rintro ⟨bs, r, o⟩ ⟨p1, p2, p3, p4⟩
      dsimp only at p1 p2 p3 p4
      cases o with
      | none =>
        refine ⟨false, isN2 rfl, (fun z => nomatch z), fun _ σ H' I => ?_⟩
        refine st_ret I (ed_tup' (ea_cons (ed_tupleR (er_var rfl)) (ea_cons (ed_var rfl) ea_nil)) rfl) fun v d H' pd I m t => ?_
        subst pd
        refine fin _ (by unfold dFr; rw [p4, frs_end p1]; rfl) v H' I.rel ?_
        rw [List.append_nil]
        have e : ((cs.length - r.length : Nat) : Int) = (cs.length : Int) - r.length := by omega
        rw [← e]
        exact t
      | some q =>
        obtain ⟨b, r2⟩ := q
        refine ⟨true, isS2 rfl, fun _ σ H' I => ?_, (fun z => nomatch z)⟩
        have sh := nxt_sh p1
        have hcr : Cs r := by rw [p2]; exact hc.drop _
        have p5 := nxt_suf hcr p1
        have p6 : r2 = cs.drop (cs.length - r2.length) := by
          have e3 : (cs.drop (cs.length - r.length)).drop (r.length - r2.length) = cs.drop (cs.length - r2.length) := by
            rw [List.drop_drop]
            congr 1
            omega
          rw [← p2] at e3
          exact p5.trans e3
        show tSeq _ _ _ _ _
        refine sq_appendD I rfl (ed_op (ed_var rfl) ed_int (od_ixT (i := 0) rfl)) (sz' (by rw [List.length_map]; show bs.length < _; omega)) fun H' I => ?_
        show tSeq _ _ _ _ _
        refine sq_set I (ed_op (ed_var rfl) ed_int (od_ixT (i := 1) rfl)) fun σ H' I => ?_
        have p7 : frs cs = (frs r2).map fun q => ((bs ++ [b]) ++ q.1, q.2) := by
          rw [p4, frs_go p1]
          cases frs r2 with
          | none => rfl
          | some q => simp
        have c1 : (cs.length : Int) - r2.length = ((cs.length - r2.length : Nat) : Int) := by omega
        have I' : SS rS H F σ H' [.dat (dI cs), .lst (bs.map dI ++ [dI b]), .dat (.int ((cs.length - r2.length : Nat) : Int)), .dat (dNo cs (some (b, r2)))] := by
          rw [← c1]
          exact I
        cases e2 : nxt r2 with
        | none =>
          refine ex_set I' (ex_callX (R := cNX) (ea_cons (ed_var rfl) (ea_cons (ed_var rfl) ea_nil)) (enn r2 p6 (by omega) e2)) fun b H' I _ => ?_
          exact finx (by unfold dFr; rw [p7, frs_none e2]; rfl) b H' I.rel
        | some o2 =>
          refine st_set I' (ed_callX (R := cNX) (ea_cons (ed_var rfl) (ea_cons (ed_var rfl) ea_nil)) (enx r2 p6 (by omega) o2 e2)) fun σ H' I => ?_
          refine ⟨(bs ++ [b], r2, o2), sh, ⟨e2, p6, by simp; omega, p7⟩, ?_⟩
          show SS rS H F σ H' [.dat (dI cs), .lst ((bs ++ [b]).map dI), .dat (.int ((cs.length - r2.length : Nat) : Int)), .dat (dNo cs o2)]
          rw [List.map_append]
          exact I
end
end NN
set_option Elab.async false
set_option linter.all false
set_option maxRecDepth 100000
set_option maxHeartbeats 4000000
/-! Dicts with int keys, objects. -/
namespace NN
open PySem PySem.Spec PyProof.Rows L2 NM
/-! ### tables -/
section
variable {α β : Type}
def atK (l : List (Int × α)) (k : Int) : Option α := (l.find? fun p => decide (p.1 = k)).map (·.2)
def putI (l : List (Int × α)) (k : Int) (d : α) : List (Int × α) :=
  if (l.any fun p => decide (p.1 = k)) = true then l.map (fun p => if p.1 = k then (p.1, d) else p) else l ++ [(k, d)]
def mkI (l : List (Int × α)) : List (Int × α) := l.foldl (fun a p => putI a p.1 p.2) []
theorem putI_map (g : α → β) (l : List (Int × α)) (k : Int) (d : α) : (putI l k d).map (fun p => (p.1, g p.2)) = putI (l.map fun p => (p.1, g p.2)) k (g d) := by
  have ea : ((l.map fun p => (p.1, g p.2)).any fun p => decide (p.1 = k)) = l.any fun p => decide (p.1 = k) := by
    rw [List.any_map]
    rfl
  unfold putI
  rw [ea]
  by_cases c : (l.any fun p => decide (p.1 = k)) = true
  · rw [if_pos c, if_pos c, List.map_map, List.map_map]
    apply List.map_congr_left
    intro p _
    show (fun p : Int × α => (p.1, g p.2)) (if p.1 = k then (p.1, d) else p) = if p.1 = k then (p.1, g d) else (p.1, g p.2)
    split <;> rfl
  · rw [if_neg c, if_neg c, List.map_append]
    rfl
theorem foldI_map (g : α → β) : ∀ (l a : List (Int × α)), (l.foldl (fun a p => putI a p.1 p.2) a).map (fun p => (p.1, g p.2)) = (l.map fun p => (p.1, g p.2)).foldl (fun a p => putI a p.1 p.2) (a.map fun p => (p.1, g p.2))
  | [], a => rfl
  | p :: r, a => by
    rw [List.foldl_cons, foldI_map g r, List.map_cons, List.foldl_cons, putI_map]
theorem mkI_map (g : α → β) (l : List (Int × α)) : (mkI l).map (fun p => (p.1, g p.2)) = mkI (l.map fun p => (p.1, g p.2)) := foldI_map g l []
theorem atK_map (g : α → β) (k : Int) : ∀ l : List (Int × α), atK (l.map fun p => (p.1, g p.2)) k = (atK l k).map g
  | [] => rfl
  | p :: r => by
    have ih := atK_map g k r
    unfold atK at ih ⊢
    rw [List.map_cons, List.find?_cons, List.find?_cons]
    by_cases c : p.1 = k
    · simp [c]
    · simp only [c, decide_false]
      exact ih
theorem putI_len (l : List (Int × α)) (k : Int) (d : α) : (putI l k d).length ≤ l.length + 1 := by
  unfold putI
  split
  · rw [List.length_map]; omega
  · rw [List.length_append]; exact Nat.le_refl _
theorem foldI_len : ∀ (l a : List (Int × α)), (l.foldl (fun a p => putI a p.1 p.2) a).length ≤ a.length + l.length
  | [], a => Nat.le_refl _
  | p :: r, a => by
    rw [List.foldl_cons]
    have h1 := foldI_len r (putI a p.1 p.2)
    have h2 := putI_len a p.1 p.2
    rw [List.length_cons]
    omega
theorem mkI_len (l : List (Int × α)) : (mkI l).length ≤ l.length := by
  have h := foldI_len l []
  rw [List.length_nil, Nat.zero_add] at h
  exact h
end
abbrev dK (l : List (Int × PyData)) : List (PyData × PyData) := l.map fun p => (PyData.int p.1, p.2)
section
variable {F H : Hp}
theorem TKs.inv1 {ks : List (Key × V)} {p : Int × PyData} {r : List (Int × PyData)} (h : TKs F H ks (dK (p :: r))) : ∃ v ks', ks = (Sum.inl p.1, v) :: ks' ∧ TD F H v p.2 ∧ TKs F H ks' (dK r) := by
  cases h with
  | cons a b => exact ⟨_, _, rfl, a, b⟩
theorem TKs.at : ∀ {l : List (Int × PyData)} {ks : List (Key × V)} {k : Int} {d : PyData}, TKs F H ks (dK l) → atK l k = some d → ∃ v, valV ks (Sum.inl k) = some v ∧ TD F H v d
  | [], _, _, _, _, e => by cases e
  | p :: r, _, k, d, h, e => by
    obtain ⟨v, ks', rfl, h1, h2⟩ := h.inv1
    by_cases c : p.1 = k
    · refine ⟨v, valV_pos (by rw [c]), ?_⟩
      have e' : atK (p :: r) k = some p.2 := by simp [atK, List.find?_cons, c]
      rw [e'] at e
      cases e
      exact h1
    · have e' : atK (p :: r) k = atK r k := by simp [atK, List.find?_cons, c]
      rw [e'] at e
      obtain ⟨y, a, b⟩ := TKs.at h2 e
      exact ⟨y, by rw [valV_neg (fun z => c (Sum.inl.inj z))]; exact a, b⟩
theorem TKs.len : ∀ {l : List (Int × PyData)} {ks : List (Key × V)}, TKs F H ks (dK l) → ks.length = l.length
  | [], _, .nil => rfl
  | p :: r, _, h => by
    obtain ⟨v, ks', rfl, _, h2⟩ := h.inv1
    rw [List.length_cons, List.length_cons, h2.len]
theorem TKs.keys : ∀ {l : List (Int × PyData)} {ks : List (Key × V)}, TKs F H ks (dK l) → ks.map (·.1) = (l.map (·.1)).map Sum.inl
  | [], _, .nil => rfl
  | p :: r, _, h => by
    obtain ⟨v, ks', rfl, _, h2⟩ := h.inv1
    rw [List.map_cons, List.map_cons, List.map_cons, h2.keys]
theorem TKs.any (k : Int) : ∀ {l : List (Int × PyData)} {ks : List (Key × V)}, TKs F H ks (dK l) → (ks.any fun kv => decide (kv.1 = Sum.inl k)) = l.any fun p => decide (p.1 = k)
  | [], _, .nil => rfl
  | p :: r, _, h => by
    obtain ⟨v, ks', rfl, _, h2⟩ := h.inv1
    rw [List.any_cons, List.any_cons, h2.any k]
    congr 1
    exact decide_eq_decide.mpr ⟨fun z => Sum.inl.inj z, fun z => by rw [z]⟩
theorem TKs.repl {k : Int} {y : V} {d : PyData} (hy : TD F H y d) : ∀ {l : List (Int × PyData)} {ks : List (Key × V)}, TKs F H ks (dK l) → TKs F H (ks.map fun kv => if kv.1 = Sum.inl k then (kv.1, y) else kv) (dK (l.map fun p => if p.1 = k then (p.1, d) else p))
  | [], _, .nil => .nil
  | p :: r, _, h => by
    obtain ⟨v, ks', rfl, h1, h2⟩ := h.inv1
    have ih := h2.repl (k := k) hy
    by_cases c : p.1 = k
    · have e1 : (List.map (fun kv : Key × V => if kv.1 = Sum.inl k then (kv.1, y) else kv) ((Sum.inl p.1, v) :: ks')) = (Sum.inl p.1, y) :: List.map (fun kv : Key × V => if kv.1 = Sum.inl k then (kv.1, y) else kv) ks' := by
        rw [List.map_cons, if_pos (by rw [c])]
      rw [e1, List.map_cons, if_pos c]
      exact .cons hy ih
    · have e1 : (List.map (fun kv : Key × V => if kv.1 = Sum.inl k then (kv.1, y) else kv) ((Sum.inl p.1, v) :: ks')) = (Sum.inl p.1, v) :: List.map (fun kv : Key × V => if kv.1 = Sum.inl k then (kv.1, y) else kv) ks' := by
        rw [List.map_cons, if_neg (fun z => c (Sum.inl.inj z))]
      rw [e1, List.map_cons, if_neg c]
      exact .cons h1 ih
theorem TKs.snoc {k : Int} {y : V} {d : PyData} (hy : TD F H y d) : ∀ {l : List (Int × PyData)} {ks : List (Key × V)}, TKs F H ks (dK l) → TKs F H (ks ++ [(Sum.inl k, y)]) (dK (l ++ [(k, d)]))
  | [], _, .nil => .cons hy .nil
  | p :: r, _, h => by
    obtain ⟨v, ks', rfl, h1, h2⟩ := h.inv1
    exact .cons h1 (h2.snoc hy)
theorem TKs.put {k : Int} {y : V} {d : PyData} {l : List (Int × PyData)} {ks : List (Key × V)} (h : TKs F H ks (dK l)) (hy : TD F H y d) : TKs F H (putK ks (Sum.inl k) y) (dK (putI l k d)) := by
  unfold putK putI
  rw [h.any k]
  split
  · exact h.repl hy
  · exact h.snoc hy
end
/-! ### a sorted dict -/
section
variable {X : Cx}
abbrev rSortDA : List V → Hp → VK → Prop := fun xs H Q => ∃ (a : Addr) (kvs : List (Key × V)) (ks : List Int), xs = [.ref a] ∧ H a = some (.dK kvs) ∧ kvs.map (·.1) = ks.map Sum.inl ∧
    ∀ (ys : List Int) (p : Addr), ys.Perm ks → ys.Pairwise (· ≤ ·) → H p = none → Q (.ref p) (upd H p (.lst (ys.map V.int)))
/-- sorted(d), any number of int keys -/
theorem call_sortedDA (hcalm : X.calm = true) : CallR X (.builtin "sorted") rSortDA := by
  intro pins s σ H xs us Q I r q
  obtain ⟨a, kvs, ks, rfl, hd, hks, q⟩ := q
  obtain ⟨u, rfl, rx⟩ := vals1 r
  cases rx
  obtain ⟨z, lo, vs, rel, dd⟩ := dk_of I.hok hd
  obtain ⟨ep, hat⟩ := dd.dictAt
  have hkeys : vs.map (·.1) = ks.map Sum.inl := rel.keys.symm.trans hks
  have hl : vs.length = ks.length := by
    have e := congrArg List.length hkeys
    rw [List.length_map, List.length_map] at e
    exact e
  have h16 : vs.length ≤ sizeLine := by
    rw [← rel.length]
    exact z
  refine Calls.call_function_entry PyProof.Rows.kind_sorted PyProof.Rows.plain_sorted PyProof.Rows.entry_sorted (PyProof.Rows.args_sorted1 _) ?_
  unfold Builtin.«sorted»
  refine wpAny_bind (m := checkCount "sorted" 1 1 _) (wpAny_pure (wpAny_bind (PySem.W.kdu_collect (A := X.A.in1) (PySem.W.kdl_dict (knd := mixKind X.prog X.w) (kvs := vs) (ep := ep) lo) (I.ok.hd hcalm) hat h16 fun h' tk acc hk hacc => ?_)))
  have hal : acc.toList.length = ks.length := by rw [Array.length_toList, hacc.1, hl]
  have hS : IntsAre acc.toList ks := ints_each hal fun j v e => by
    obtain ⟨k, x, e1, e2⟩ := hacc.2 j v (by rw [← Array.getElem?_toList]; exact e)
    have e3 := congrArg (fun l => l[j]?) hkeys
    simp only [List.getElem?_map, e1] at e3
    cases e4 : ks[j]? with
    | none => rw [e4] at e3; cases e3
    | some y =>
      rw [e4] at e3
      have e5 : k = Sum.inl y := Option.some.inj e3
      subst e5
      rcases keyIs_shape (show keyIs (Sum.inl y) v = true from e2) with ⟨i, t, ek, ev⟩ | ⟨z, t, ek, ev⟩
      · cases ek
        exact ⟨y, t, rfl, ev⟩
      · cases ek
  have I1 : Inv X pins σ H { s with heap := h', toks := tk } := I.kept hk
  have hz2 : acc.toList.length ≤ sizeLine := by rw [hal, ← hl]; exact h16
  refine wpAny_bind (wpAny_newList ?_ hz2)
  have hoL : (h'.push (seqObj "list" acc.toList.toArray 0)).get? h'.objs.size = some (seqObj "list" acc.toList.toArray 0) := Heap.get?_push_size _ rfl
  show wpAny _ _ _ _ _ { s with heap := h'.push (seqObj "list" acc.toList.toArray 0), toks := tk }
  refine wpAny_bind (wpAny_holding (wpAny_call_entry PyProof.Rows.slot_list_sort ⟨_, hoL, rfl⟩ PyProof.Rows.entry_list_sort
    (SrtO.list_sort_ord (s := { s with heap := h'.push (seqObj "list" acc.toList.toArray 0), toks := tk }) SrtO.swo_int hoL hz2 (fun h2 => SrtO.ints_sortable hS h2) fun out h1 h2 => ⟨_, rfl, ?_⟩) (PyProof.Rows.args_list_sort _)))
  obtain ⟨k1, k2, k3⟩ := SrtO.ints_out hS h1 h2
  obtain ⟨e', he'⟩ := PyProof.Rows.sortedHeap_at (vs := acc.toList) (out := out.toArray) hoL
  have hlen : ((out.map SrtO.iv).map V.int).length ≤ sizeLine := by
    rw [List.length_map, k2.length_eq, ← hal]
    exact hz2
  refine wpAny_pure ⟨_, rfl, .ref h'.objs.size, upd H h'.objs.size (.lst ((out.map SrtO.iv).map V.int)), I1.laid (t' := tk) (fun b u e => ?_) (Nat.le_refl _)
    (show ObjOk X.prog X.w _ _ _ (.lst ((out.map SrtO.iv).map V.int)) from ⟨hlen, out, e', vals_of_ints k1, he'⟩), rfl, q _ _ k2 k3 (I1.hok.fresh (Nat.le_refl _))⟩
  have hb : b < h'.objs.size := Heap.lt_size e
  rw [PyProof.Rows.sortedHeap_old (Nat.ne_of_lt hb) (by rw [size_push']; exact Nat.lt_succ_of_lt hb)]
  exact Heap.get?_push_of_some _ e
abbrev rLenD : List V → Hp → VK → Prop := fun xs H Q => ∃ (a : Addr) (kvs : List (Key × V)), xs = [.ref a] ∧ H a = some (.dK kvs) ∧ Q (.int kvs.length) H
theorem call_lenD : CallR X (.builtin "len") rLenD := by
  intro pins s σ H xs us Q I r q
  obtain ⟨a, kvs, rfl, hd, q⟩ := q
  obtain ⟨u, rfl, rx⟩ := vals1 r
  cases rx
  exact d_len I (.inl hd) fun t s' I' => ⟨.int kvs.length, H, I', ⟨t, rfl⟩, q⟩
end
end NN
set_option Elab.async false
set_option linter.all false
set_option maxRecDepth 100000
set_option maxHeartbeats 4000000
/-! Dicts and objects, by slots. -/
namespace NN
open PySem PySem.Spec PyProof.Rows L2 NM
/-- all that is new is frozen -/
def fz (F H H' : Hp) : Hp := fun b => match H b with
  | none => H' b
  | some _ => F b
theorem fz_new {F H H' : Hp} {b : Addr} (h : H b = none) : fz F H H' b = H' b := by
  unfold fz
  rw [h]
theorem fz_old {F H H' : Hp} {b : Addr} {o : HO} (h : H b = some o) : fz F H H' b = F b := by
  unfold fz
  rw [h]
theorem fz_same {F H H' : Hp} (s : Same F H) : Same F (fz F H H') := fun a o h => by rw [fz_old (s a o h)]; exact h
/-- F2 is F and cells that are new to H -/
def Grw (F H F2 : Hp) : Prop := ∀ a o, F2 a = some o → F a = some o ∨ H a = none
theorem Grw.refl (F H : Hp) : Grw F H F := fun _ _ h => .inl h
theorem Grw.frz {F H F2 Ha Hb : Hp} (g : Grw F H F2) (s : Same H Ha) : Grw F H (NN.fz F2 Ha Hb) := fun a o h => by
  cases e : Ha a with
  | none =>
    cases e2 : H a with
    | none => exact .inr rfl
    | some x => rw [s a x e2] at e; cases e
  | some x =>
    rw [fz_old e] at h
    exact g a o h
theorem Grw.into {F H F2 H' : Hp} (g : Grw F H F2) (s : Same F H) (f : Same F2 H') : Same F2 (fz F H H') := fun a o h => by
  rcases g a o h with e | e
  · rw [fz_old (s a o e)]
    exact e
  · rw [fz_new e]
    exact f a o h
section
variable {ρ : Rl} {F F' H0 H0' H H' : Hp} {σ : L2.St} {Γ : List Ty} {K : PySem.W.Frag}
variable {t ta tb tc te tk tv : TE} {tt tu : TT} {tr : TA} {P P' Pa Pb : PyData → Prop} {a b d : PyData} {D : Ends} {u : TS}
theorem SS.frzA (I : SS ρ H0 F σ H Γ) (I' : SS ρ H0 F σ H' Γ) : SS ρ H0 (fz F H H') σ H' Γ where
  inv := I'.inv
  rel := I'.rel
  len := I'.len
  has := fun i t h n => by
    obtain ⟨v, e, q⟩ := I'.has i t h n
    refine ⟨v, e, ?_⟩
    have f : Same F (NN.fz F H H') := fz_same I.sf
    cases t with
    | no => trivial
    | dat d => exact TD.mono f (Tu.refl H') q
    | val u => exact q
    | obj C fs => exact ObjD.mono f (Tu.refl H') q
    | lst ds =>
      obtain ⟨l, vs, rfl, hl, hd⟩ := q
      exact ⟨l, vs, rfl, hl, hd.mono f (Tu.refl H')⟩
    | dct ds =>
      obtain ⟨l, vs, rfl, hl, hd⟩ := q
      exact ⟨l, vs, rfl, hl, hd.mono f (Tu.refl H')⟩
  fresh := fun i t a h m e => by
    obtain ⟨q1, q2, q3⟩ := I'.fresh i t a h m e
    refine ⟨q1, q2, ?_⟩
    cases x : H a with
    | none => exact (I.notslot x h m e).elim
    | some o =>
      rw [fz_old x]
      exact q3
  apart := I'.apart
  fr := fun a o h => by
    cases x : H a with
    | none =>
      rw [fz_new x] at h
      exact ⟨h, I.newown x⟩
    | some y =>
      rw [fz_old x] at h
      exact I'.fr a o h
theorem SS.thawG (I : SS ρ H0 F' σ H Γ) (f : Same F F') (hn : ∀ (i : Nat) (t : Ty), Γ[i]? = some t → t = .no) : SS ρ H0 F σ H Γ := I.thaw Γ f rfl fun i t h n => absurd (hn i t h) n
/-! ### readings -/
def EvK (ρ : Rl) (F : Hp) (t : TE) (Γ : List Ty) (P : List (Int × PyData) → Prop) : Prop :=
  ∀ (H0 : Hp) (σ : L2.St) (H : Hp), SS ρ H0 F σ H Γ → ∀ Q : VK, (∀ l ks ds H', P ds → SS ρ H0 F σ H' Γ → Mv ρ H H' → H l = none → H' l = some (.dK ks) → TKs F H' ks (dK ds) → Q (.ref l) H') → t σ H Q
def EvOb (ρ : Rl) (F : Hp) (C : Addr) (t : TE) (Γ : List Ty) (P : List (Str × PyData) → Prop) : Prop :=
  ∀ (H0 : Hp) (σ : L2.St) (H : Hp), SS ρ H0 F σ H Γ → ∀ Q : VK, (∀ v fs H', P fs → SS ρ H0 F σ H' Γ → Mv ρ H H' → ObjD (fz F H H') H' C v fs → Q v H') → t σ H Q
/-- new data, frozen -/
def EvN (ρ : Rl) (F : Hp) (t : TE) (Γ : List Ty) (P : PyData → Prop) : Prop :=
  ∀ (H0 : Hp) (σ : L2.St) (H : Hp), SS ρ H0 F σ H Γ → ∀ Q : VK, (∀ v d H', P d → SS ρ H0 F σ H' Γ → Mv ρ H H' → TD (fz F H H') H' v d → Q v H') → t σ H Q
theorem EvK.new {l : List (Int × PyData)} (h : EvK ρ F t Γ (· = l)) : EvN ρ F t Γ (· = .dict (dK l)) := fun H0 σ H I Q q => h H0 σ H I Q fun p ks ds H' e I' m n el td => by
  subst e
  exact q _ _ H' rfl I' m (.dct (by rw [fz_new n]; exact el) (td.mono (fz_same I.sf) (Tu.refl H')))
theorem EvL.new {l : List PyData} (h : EvL ρ F t Γ (· = l)) : EvN ρ F t Γ (· = .list l) := fun H0 σ H I Q q => h H0 σ H I Q fun p ks ds H' e I' m n el td => by
  subst e
  exact q _ _ H' rfl I' m (.lst (by rw [fz_new n]; exact el) (td.mono (fz_same I.sf) (Tu.refl H')))
theorem sq_setN {i : Nat} (I : SS ρ H0 F σ H Γ) (h : EvN ρ F t Γ (· = d)) (k : ∀ σ' H', Mv ρ H H' → Same F (fz F H H') → SS ρ H0 (fz F H H') σ' H' (Γ.set i (.dat d)) → u D σ' H') : tSeq (tAsg t (gName i)) u D σ H :=
  h H0 σ H I _ fun v d H' e I' m td => by
    subst e
    exact k _ H' m (fz_same I.sf) ((I.frzA I').setD i td)
theorem sq_setO {i : Nat} {C : Addr} {fs : List (Str × PyData)} (I : SS ρ H0 F σ H Γ) (h : EvOb ρ F C t Γ (· = fs)) (k : ∀ σ' H', Mv ρ H H' → Same F (fz F H H') → SS ρ H0 (fz F H H') σ' H' (Γ.set i (.obj C fs)) → u D σ' H') : tSeq (tAsg t (gName i)) u D σ H :=
  h H0 σ H I _ fun v d H' e I' m td => by
    subst e
    exact k _ H' m (fz_same I.sf) ((I.frzA I').setT (t := .obj C d) i td rfl)
theorem sq_setK {i : Nat} {l : List (Int × PyData)} (I : SS ρ H0 F σ H Γ) (h : EvK ρ F t Γ (· = l)) (k : ∀ σ' H', SS ρ H0 F σ' H' (Γ.set i (.dct (dK l))) → u D σ' H') : tSeq (tAsg t (gName i)) u D σ H :=
  h H0 σ H I _ fun l vs ds H' pd I' m n e td => by
    subst pd
    exact k _ H' (I.setN (t := .dct (dK ds)) I' i n ⟨l, vs, rfl, e, td⟩)
/-! ### an object's field, a dict's value -/
theorem ed_fld {i : Nat} {C : Addr} {fs : List (Str × PyData)} {f : Str} (hi : Γ[i]? = some (.obj C fs)) (hc : Cls K C) (hn : NoAttr K C f) (hl : List.lookup f fs = some d) : EvD ρ F (tFld K (tVar i) f) Γ d := fun H0 σ H I Q q => by
  obtain ⟨v, e, b, dx, vs, rfl, h1, h2⟩ := I.has i _ hi (fun z => by cases z)
  obtain ⟨y, l1, l2⟩ := h2.at hl
  exact ⟨_, e, b, C, dx, vs, y, rfl, (I.fr b _ h1).1, hc, hn, l1, q y d H rfl I (Mv.refl ρ H) l2⟩
theorem ed_dget {l : List (Int × PyData)} {k : Int} (h1 : EvD ρ F ta Γ (.dict (dK l))) (h2 : EvD ρ F tb Γ (.int k)) (e : atK l k = some d) : EvD ρ F (tDGet ta tb) Γ d := fun H0 σ H I Q q =>
  h1 H0 σ H I _ fun x xd H1 e1 I1 m1 t1 => h2 H0 σ H1 I1 _ fun y yd H2 e2 I2 m2 t2 => by
    subst e1; subst e2
    cases t2
    obtain ⟨p, ks, rfl, hF, hk⟩ := (t1.tu (m2.tu I1.inv)).of_dct
    obtain ⟨v, v1, v2⟩ := hk.at e
    refine ⟨p, v, rfl, .inl ⟨ks, Sum.inl k, .inl (I2.fr p _ hF).1, rfl, v1.symm⟩, q v d H2 rfl I2 (m1.trans m2) v2⟩
theorem ed_lenD {l : List (Int × PyData)} (h1 : EvD ρ F ta Γ (.dict (dK l))) : EvD ρ F (tCB rLenD (tCons ta tNil)) Γ (.int l.length) := fun H0 σ H I Q q =>
  h1 H0 σ H I _ fun x xd H1 e1 I1 m1 t1 => by
    subst e1
    obtain ⟨p, ks, rfl, hF, hk⟩ := t1.of_dct
    exact ⟨p, ks, rfl, (I1.fr p _ hF).1, by rw [hk.len]; exact q _ _ H1 rfl I1 m1 (.int _)⟩
theorem ed_lenK {i : Nat} {l : List (Int × PyData)} (h1 : Γ[i]? = some (.dct (dK l))) : EvD ρ F (tCB rLenD (tCons (tVar i) tNil)) Γ (.int l.length) := fun H0 σ H I Q q => by
  obtain ⟨p, ks, e, hl, hk⟩ := I.dct h1
  exact ⟨_, e, p, ks, rfl, hl, by rw [hk.len]; exact q _ _ H rfl I (Mv.refl ρ H) (.int _)⟩
theorem srt_keys {α : Type} {l : List (Int × α)} {ys : List Int} (p : ys.Perm (l.map (·.1))) (s : ys.Pairwise (· ≤ ·)) : ys = (srt l).map (·.1) := by
  refine List.Perm.eq_of_pairwise (le := (· ≤ ·)) (fun a b _ _ h h' => Int.le_antisymm h h') s ?_ (p.trans ((List.mergeSort_perm l _).symm.map _))
  refine List.pairwise_map.mpr ((List.pairwise_mergeSort (fun a b c h1 h2 => ?_) (fun a b => ?_) l).imp fun h => of_decide_eq_true h)
  · have := of_decide_eq_true h1
    have := of_decide_eq_true h2
    exact decide_eq_true (by omega)
  · by_cases c : a.1 ≤ b.1
    · rw [decide_eq_true c]; rfl
    · rw [decide_eq_true (show b.1 ≤ a.1 by omega), Bool.or_true]
theorem el_sortedD {l : List (Int × PyData)} (h1 : EvD ρ F ta Γ (.dict (dK l))) : EvL ρ F (tCB rSortDA (tCons ta tNil)) Γ (· = (srt l).map fun p => .int p.1) := fun H0 σ H I Q q =>
  h1 H0 σ H I _ fun x xd H1 e1 I1 m1 t1 => by
    subst e1
    obtain ⟨p, ks, rfl, hF, hk⟩ := t1.of_dct
    refine ⟨p, ks, l.map (·.1), rfl, (I1.fr p _ hF).1, hk.keys, fun ys p2 hp hs hn => ?_⟩
    have ey := srt_keys hp hs
    subst ey
    have e2 : ((srt l).map fun p => PyData.int p.1) = ((srt l).map (·.1)).map PyData.int := by rw [List.map_map]; rfl
    refine q p2 _ _ _ rfl (I1.new hn) (m1.trans (Mv.of (same_new hn))) (m1.free (I1.newown hn) hn) upd_same ?_
    rw [e2]
    exact TDs.ints _
/-- list(d): the keys -/
theorem el_listD {l : List (Int × PyData)} (h1 : EvD ρ F ta Γ (.dict (dK l))) : EvL ρ F (tCB (fun xs H Q => ∃ (a : Addr) (kvs : List (Key × V)), xs = [.ref a] ∧ Rd H a (.dK kvs) ∧ ∀ p, H p = none → Q (.ref p) (upd H p (.lst (kvs.map fun kv => kV kv.1)))) (tCons ta tNil)) Γ (· = l.map fun p => .int p.1) := fun H0 σ H I Q q =>
  h1 H0 σ H I _ fun x xd H1 e1 I1 m1 t1 => by
    subst e1
    obtain ⟨p, ks, rfl, hF, hk⟩ := t1.of_dct
    refine ⟨p, ks, rfl, .inl (I1.fr p _ hF).1, fun p2 hn => ?_⟩
    have e2 : (l.map fun p => PyData.int p.1) = (l.map (·.1)).map PyData.int := by rw [List.map_map]; rfl
    have e3 : (ks.map fun kv => kV kv.1) = (l.map (·.1)).map V.int := by
      have := congrArg (List.map kV) hk.keys
      rw [List.map_map, List.map_map] at this
      exact this
    refine q p2 _ _ _ rfl (I1.new hn) (m1.trans (Mv.of (same_new hn))) (m1.free (I1.newown hn) hn) upd_same ?_
    rw [e2, e3]
    exact TDs.ints _
theorem ek_new : EvK ρ F tDNewK Γ (· = []) := fun H0 σ H I Q q => fun p hp => q p [] [] _ rfl (I.new hp) (Mv.of (same_new hp)) hp upd_same .nil
/-- d[k] = v, d a slot's own -/
theorem sq_dput {i : Nat} {l : List (Int × PyData)} {k : Int} (I : SS ρ H0 F σ H Γ) (hi : Γ[i]? = some (.dct (dK l))) (hk : EvD ρ F tk Γ (.int k)) (hv : EvD ρ F tv Γ d) (hz : l.length < sizeLine) (q : ∀ H', SS ρ H0 F σ H' (Γ.set i (.dct (dK (putI l k d)))) → u D σ H') : tSeq (sDPut (tVar i) tk tv) u D σ H :=
  hv H0 σ H I _ fun v vd H1 e1 I1 m1 t1 => by
    subst e1
    obtain ⟨p, ks, e, hl, hks⟩ := I1.dct hi
    refine ⟨_, e, hk H0 σ H1 I1 _ fun y yd H2 e2 I2 m2 t2 => ?_⟩
    subst e2
    cases t2
    have hl2 : H2 p = some (.dK ks) := m2 p _ (I1.fresh i _ p hi rfl e).2.1 hl
    have nt : ∀ xs, H2 p ≠ some (.tup xs) := fun xs z => by rw [hl2] at z; cases z
    refine ⟨p, _, rfl, .inl ⟨ks, Sum.inl k, hl2, rfl, by rw [hks.len]; exact hz, rfl⟩, q _ (I2.write hi rfl rfl e nt ?_)⟩
    refine ⟨p, _, rfl, upd_same, ?_⟩
    have tu : Tu H2 (upd H2 p (.dK (putK ks (Sum.inl k) v))) := fun a xs z => by
      rw [upd_ne (fun w => by subst w; exact nt xs z)]
      exact z
    exact ((hks.tu (m2.tu I1.inv)).put (t1.tu (m2.tu I1.inv))).tu tu
end
end NN
set_option Elab.async false
set_option linter.all false
set_option maxRecDepth 100000
set_option maxHeartbeats 4000000
/-! Dict comprehensions; Book. -/
namespace NN
open PySem PySem.Spec PyProof.Rows L2 NM
theorem mkI_snoc {α : Type} (l : List (Int × α)) (p : Int × α) : mkI (l ++ [p]) = putI (mkI l) p.1 p.2 := by
  unfold mkI
  rw [List.foldl_append]
  rfl
section
variable {ρ : Rl} {F F' H0 H0' H H' : Hp} {σ : L2.St} {Γ : List Ty} {K : PySem.W.Frag}
variable {t ta tb tc te tk tv : TE} {tt tu : TT} {tr : TA} {P P' Pa Pb : PyData → Prop} {a b d : PyData} {D : Ends} {u : TS}
theorem ek_dc {wi : TI} {g : TG} {vs : List Nat} {n : Nat} {f : Nat → PyData} {kf : Nat → Int} {vf : Nat → PyData} (hi : EvI ρ F wi Γ (fun m k => m = n ∧ k = f)) (hw : ∀ i ∈ vs, ∀ t, Γ[i]? = some t → t = .no)
    (he : ∀ i, i < n → ∃ Γ', BndW ρ F g vs (f i) Γ Γ' ∧ EvD ρ F tk Γ' (.int (kf i)) ∧ EvD ρ F tv Γ' (vf i)) (hn : n ≤ sizeLine) : EvK ρ F (tDc wi g tYes tk tv vs) Γ (· = mkI ((List.range n).map fun i => (kf i, vf i))) := fun H0 σ H I Q q =>
  hi H0 σ H I _ fun J p m0 f0 H1 pi I1 m1 hp po wk => by
    obtain ⟨rfl, rfl⟩ := pi
    intro D hD
    have Dn : H D = none := m1.free (I1.newown hD) hD
    have nown := I1.newown hD
    have fD : F D = none := I1.frz0 hD
    have offD : Off ρ F σ Γ D := ⟨nown, fun i t hi m => I1.notslot hD hi m⟩
    have pD : ∀ a o, p = some (a, o) → a ≠ D := fun a o ep z => by
      subst ep
      subst z
      have hp' : H1 a = some o := hp
      rw [hD] at hp'
      cases hp'
    have zD : flr H0 H1 p D = none := by
      unfold flr
      rw [I1.base0 hD]
      simp only [hD]
      cases p with
      | none => rfl
      | some ao =>
        obtain ⟨a, o⟩ := ao
        simp only
        rw [if_neg (fun z => pD a o rfl z.symm)]
    have I2 : SS ρ (flr H0 H1 p) F σ (upd H1 D (.dK [])) Γ := (I1.up p hp po).new hD
    refine ⟨fun i m H2 => m = m0 - i ∧ i ≤ m0 ∧ SS ρ (flr H0 H1 p) F σ H2 Γ ∧ Mv ρ H1 H2 ∧ ∃ acc, H2 D = some (.dK acc) ∧ TKs F H2 acc (dK (mkI ((List.range i).map fun i => (kf i, vf i)))), ⟨m0, by omega, Nat.zero_le _, I2, Mv.of (same_new hD), [], upd_same, .nil⟩, ?_⟩
    rintro i m H2 ⟨rfl, hin, I2, m2, acc, hA, tA⟩
    have tu : Tu H1 H2 := m2.tu I1.inv
    have pin : Pin p H2 := by
      cases p with
      | none => trivial
      | some ao =>
        obtain ⟨a, o⟩ := ao
        exact m2 a o po.1 hp
    by_cases hlt : i < m0
    · refine .inr ⟨wk.go i H2 hlt tu pin, fun H' => i + 1 ≤ m0 ∧ SS ρ (flr H0 H1 p) F σ H' Γ ∧ Mv ρ H1 H' ∧ ∃ acc, H' D = some (.dK acc) ∧ TKs F H' acc (dK (mkI ((List.range (i + 1)).map fun i => (kf i, vf i)))), fun H' h => ⟨m0 - (i + 1), by omega, rfl, h⟩, fun x H3 hy => ?_⟩
      obtain ⟨s, td⟩ := wk.yld i x H2 H3 hlt tu pin hy
      have I3 := I2.same s
      obtain ⟨Γ', bw, ek, ev⟩ := he i hlt
      refine bw _ σ H3 x (I3.wipe hw) td _ fun σ' ew I4 => ⟨ew, ?_⟩
      show tk σ' H3 _
      refine ek _ σ' H3 I4 _ fun y e H4 pe I5 m5 t5 => ?_
      subst pe
      cases t5
      refine ev _ σ' H4 I5 _ fun y e H5 pe I6 m6 t6 => ?_
      subst pe
      have hA5 : H5 D = some (.dK acc) := m6 D _ nown (m5 D _ nown (s D _ hA))
      have la := tA.len
      have lm := mkI_len ((List.range i).map fun i => (kf i, vf i))
      rw [List.length_map, List.length_range] at lm
      refine ⟨acc, Sum.inl (kf i), rfl, hA5, Nat.lt_of_lt_of_le (by omega) hn, hlt, ?_⟩
      have nt : ∀ xs, H5 D ≠ some (.tup xs) := fun xs z => by
        rw [hA5] at z
        cases z
      have m35 : Mv ρ H2 H5 := ((Mv.of s).trans m5).trans m6
      have I7 : SS ρ (flr H0 H1 p) F σ H5 Γ := I2.on I6.inv m35
      have tu5 : ∀ o, Tu H5 (upd H5 D o) := fun o a xs z => by
        have na : a ≠ D := fun w => by
          subst w
          exact nt xs z
        rw [upd_ne na]
        exact z
      refine ⟨I7.off offD fD zD nt, fun b o nb z => ?_, _, upd_same, ?_⟩
      · have nb' : b ≠ D := ne_of_none z hD
        rw [upd_ne nb']
        exact m35 b o nb (m2 b o nb z)
      · rw [List.range_succ, List.map_append, List.map_cons, List.map_nil, mkI_snoc]
        exact ((tA.tu (m35.tu I2.inv)).put t6).tu (tu5 _)
    · have e : i = m0 := by omega
      subst e
      exact .inl ⟨wk.stop i H2 (Nat.le_refl _) tu pin, q D acc _ H2 rfl (I2.low flr_same) (m1.trans m2) Dn hA tA⟩
end
/-! ### Book -/
section
variable {P : Program} {w : World} {K : PySem.W.Frag} {mg : Str → Option Value} {base : Heap}
abbrev s25 : Stmt := inClass (topS 25) 0
theorem sc25 : FnScope ["self", "state", "waiting", "given_away", "mark"] ["self", "state", "waiting", "given_away", "mark"] (defScope s25) := ⟨rfl, rfl, rfl, by decide +kernel, rfl, by decide +kernel, by decide +kernel⟩
structure BkC (K : PySem.W.Frag) (C : Addr) : Prop where
  cls : Cls K C
  n1 : NoAttr K C "state"
  n2 : NoAttr K C "waiting"
  n3 : NoAttr K C "given_away"
  n4 : NoAttr K C "mark"
abbrev bkV (p1 p2 p3 : Addr) (m : V) : List (Str × V) := [("state", .ref p1), ("waiting", .ref p2), ("given_away", .ref p3), ("mark", m)]
def spInit (C : Addr) : Sp := fun vs H Q _ => ∃ (x dx a1 a2 a3 : Addr) (k1 k2 k3 : List (Key × V)) (m : V), vs = [.ref x, .ref a1, .ref a2, .ref a3, m] ∧ H x = some (.ins C dx []) ∧ H a1 = some (.dK k1) ∧ H a2 = some (.dK k2) ∧ H a3 = some (.dK k3) ∧
  ∀ p1 p2 p3 H', H p1 = none → H p2 = none → H p3 = none → H' x = some (.ins C dx (bkV p1 p2 p3 m)) → H' p1 = some (.dK k1) → H' p2 = some (.dK k2) → H' p3 = some (.dK k3) → (∀ b o, b ≠ x → H b = some o → H' b = some o) → Q .non H'
theorem g25 {fi C : Addr} {fd : FuncData} (Fu : Fun K "__init__" "Book.__init__" s25 fi fd) (N : Nm mg) (B : BkC K C) : FnOk P w K mg base CX0 1 fi fd ["self", "state", "waiting", "given_away", "mark"] (spInit C) := by
  refine Fu.ok sc25 (fun vs H Q E ⟨x, dx, a1, a2, a3, k1, k2, k3, m, e, _⟩ => by rw [e]; rfl) (fun cdv A outer s H vs Q E hr h => ?_)
  obtain ⟨x, dx, a1, a2, a3, k1, k2, k3, m, rfl, hx, h1, h2, h3, q⟩ := h
  refine ⟨_, (pss_cons (ps_fld (pv 0) (pe_callTy call_dictD (by rfl) N.dict (by decide +kernel) (pa_cons (pv 1) pa_nil)) (by rfl))
    (pss_cons (ps_fld (pv 0) (pe_callTy call_dictD (by rfl) N.dict (by decide +kernel) (pa_cons (pv 2) pa_nil)) (by rfl))
    (pss_cons (ps_fld (pv 0) (pe_callTy call_dictD (by rfl) N.dict (by decide +kernel) (pa_cons (pv 3) pa_nil)) (by rfl))
    (pss_one (ps_fld (pv 0) (pv 4) (by rfl)))))), ?_⟩
  have nx : ∀ {a : Addr} {ks : List (Key × V)}, H a = some (.dK ks) → a ≠ x := fun e z => by
    subst z
    rw [hx] at e
    cases e
  have n1 := nx h1
  have n2 := nx h2
  have n3 := nx h3
  have step : ∀ (G : Hp) (p : Addr) (k : List (Key × V)) (fs fs' : List (Str × V)), G x = some (.ins C dx fs) → G p = none → p ≠ x ∧ upd G p (.dK k) x = some (.ins C dx fs) ∧ upd (upd G p (.dK k)) x (.ins C dx fs') p = some (.dK k) ∧ ∀ b o, b ≠ x → G b = some o → upd (upd G p (.dK k)) x (.ins C dx fs') b = some o := fun G p k fs fs' gx gp => by
    have px : p ≠ x := fun z => by rw [z, gx] at gp; cases gp
    exact ⟨px, by rw [upd_ne (Ne.symm px)]; exact gx, by rw [upd_ne px, upd_same], fun b o hb e => by rw [upd_ne hb, upd_ne (ne_of_none e gp)]; exact e⟩
  refine ⟨_, rfl, a1, k1, rfl, .inl h1, fun p1 hp1 => ⟨_, rfl, x, C, dx, [], rfl, ?_, B.cls, B.n1, by decide, ?_⟩⟩
  · exact (step H p1 k1 _ [] hx hp1).2.1
  obtain ⟨x1, _, y1, keep1⟩ := step H p1 k1 _ (putF "state" (.ref p1) []) hx hp1
  have g1 : upd (upd H p1 (.dK k1)) x (.ins C dx (putF "state" (.ref p1) [])) x = some (.ins C dx (putF "state" (.ref p1) [])) := upd_same
  generalize upd (upd H p1 (.dK k1)) x (.ins C dx (putF "state" (.ref p1) [])) = G1 at y1 keep1 g1
  refine ⟨_, rfl, a2, k2, rfl, .inl (keep1 _ _ n2 h2), fun p2 hp2 => ⟨_, rfl, x, C, dx, putF "state" (.ref p1) [], rfl, ?_, B.cls, B.n2, (show 1 < 1000 by decide), ?_⟩⟩
  · exact (step G1 p2 k2 _ [] g1 hp2).2.1
  obtain ⟨x2, _, y2, keep2⟩ := step G1 p2 k2 _ (putF "waiting" (.ref p2) (putF "state" (.ref p1) [])) g1 hp2
  have g2 : upd (upd G1 p2 (.dK k2)) x (.ins C dx (putF "waiting" (.ref p2) (putF "state" (.ref p1) []))) x = some (.ins C dx (putF "waiting" (.ref p2) (putF "state" (.ref p1) []))) := upd_same
  generalize upd (upd G1 p2 (.dK k2)) x (.ins C dx (putF "waiting" (.ref p2) (putF "state" (.ref p1) []))) = G2 at y2 keep2 g2
  refine ⟨_, rfl, a3, k3, rfl, .inl (keep2 _ _ n3 (keep1 _ _ n3 h3)), fun p3 hp3 => ⟨_, rfl, x, C, dx, putF "waiting" (.ref p2) (putF "state" (.ref p1) []), rfl, ?_, B.cls, B.n3, (show 2 < 1000 by decide), ?_⟩⟩
  · exact (step G2 p3 k3 _ [] g2 hp3).2.1
  obtain ⟨x3, _, y3, keep3⟩ := step G2 p3 k3 _ (putF "given_away" (.ref p3) (putF "waiting" (.ref p2) (putF "state" (.ref p1) []))) g2 hp3
  have g3 : upd (upd G2 p3 (.dK k3)) x (.ins C dx (putF "given_away" (.ref p3) (putF "waiting" (.ref p2) (putF "state" (.ref p1) [])))) x = some (.ins C dx (putF "given_away" (.ref p3) (putF "waiting" (.ref p2) (putF "state" (.ref p1) [])))) := upd_same
  generalize upd (upd G2 p3 (.dK k3)) x (.ins C dx (putF "given_away" (.ref p3) (putF "waiting" (.ref p2) (putF "state" (.ref p1) [])))) = G3 at y3 keep3 g3
  refine ⟨_, rfl, _, rfl, x, C, dx, _, rfl, g3, B.cls, B.n4, (show 3 < 1000 by decide), ?_⟩
  have free : ∀ {G : Hp} {p : Addr}, (∀ b o, b ≠ x → H b = some o → G b = some o) → G p = none → p ≠ x → H p = none := fun {G p} k e px => by
    cases z : H p with
    | none => rfl
    | some o => rw [k p o px z] at e; cases e
  have k12 : ∀ b o, b ≠ x → H b = some o → G2 b = some o := fun b o hb e => keep2 b o hb (keep1 b o hb e)
  refine q p1 p2 p3 _ hp1 (free keep1 hp2 x2) (free k12 hp3 x3) upd_same ?_ ?_ ?_ fun b o hb e => ?_
  · rw [upd_ne x1]
    exact keep3 _ _ x1 (keep2 _ _ x1 y1)
  · rw [upd_ne x2]
    exact keep3 _ _ x2 y2
  · rw [upd_ne x3]
    exact y3
  · rw [upd_ne hb]
    exact keep3 _ _ hb (k12 b o hb e)
end
section
variable {ρ : Rl} {F F' H0 H0' H H' : Hp} {σ : L2.St} {Γ : List Ty} {K : PySem.W.Frag} {ta tb tc td : TE}
def bkF (st wt gn : List (Int × PyData)) (m : PyData) : List (Str × PyData) := [("state", .dict (dK st)), ("waiting", .dict (dK wt)), ("given_away", .dict (dK gn)), ("mark", m)]
theorem eo_book {C : Addr} {E : XK} {st wt gn : List (Int × PyData)} {m : PyData} (h1 : EvN ρ F ta Γ (· = .dict (dK st))) (h2 : EvN ρ F tb Γ (· = .dict (dK wt))) (h3 : EvN ρ F tc Γ (· = .dict (dK gn))) (h4 : EvD ρ F td Γ m) :
    EvOb ρ F C (tMake C (spInit C) [] E (tCons ta (tCons tb (tCons tc (tCons td tNil))))) Γ (· = bkF st wt gn m) := fun H0 σ H I Q q =>
  h1 H0 σ H I _ fun v1 d1 H1 e1 I1 m1 t1 => h2 H0 σ H1 I1 _ fun v2 d2 H2 e2 I2 m2 t2 => h3 H0 σ H2 I2 _ fun v3 d3 H3 e3 I3 m3 t3 => h4 H0 σ H3 I3 _ fun v4 d4 H4 e4 I4 m4 t4 => by
    subst e1; subst e2; subst e3; subst e4
    intro x dx hx hdx hne
    obtain ⟨a1, k1, rfl, f1, j1⟩ := t1.of_dct
    obtain ⟨a2, k2, rfl, f2, j2⟩ := t2.of_dct
    obtain ⟨a3, k3, rfl, f3, j3⟩ := t3.of_dct
    have s1 : Same (fz F H H1) H1 := (I.frzA I1).sf
    have s2 : Same (fz F H1 H2) H2 := (I1.frzA I2).sf
    have s3 : Same (fz F H2 H3) H3 := (I2.frzA I3).sf
    have o1 := ((I.frzA I1).fr _ _ f1).2
    have o2 := ((I1.frzA I2).fr _ _ f2).2
    have o3 := ((I2.frzA I3).fr _ _ f3).2
    have g1 : H4 a1 = some (.dK k1) := m4 _ _ o1 (m3 _ _ o1 (m2 _ _ o1 (s1 _ _ f1)))
    have g2 : H4 a2 = some (.dK k2) := m4 _ _ o2 (m3 _ _ o2 (s2 _ _ f2))
    have g3 : H4 a3 = some (.dK k3) := m4 _ _ o3 (s3 _ _ f3)
    have nx : ∀ b o, H4 b = some o → b ≠ x := fun b o e z => by rw [z, hx] at e; cases e
    have nd : ∀ b o, H4 b = some o → b ≠ dx := fun b o e z => by rw [z, hdx] at e; cases e
    have up : ∀ b o, H4 b = some o → upd (upd H4 dx (.own x)) x (.ins C dx []) b = some o := fun b o e => by rw [upd_ne (nx b o e), upd_ne (nd b o e)]; exact e
    refine ⟨x, dx, a1, a2, a3, k1, k2, k3, v4, rfl, upd_same, up _ _ g1, up _ _ g2, up _ _ g3, fun p1 p2 p3 H' n1 n2 n3 hx' hp1 hp2 hp3 hk => ⟨rfl, ?_⟩⟩
    have s4 : Same H4 H' := fun b o e => hk b o (nx b o e) (up b o e)
    have I' := I4.same s4
    have mm : Mv ρ H H' := (((m1.trans m2).trans m3).trans m4).trans (Mv.of s4)
    have fr : ∀ {p : Addr}, upd (upd H4 dx (.own x)) x (.ins C dx []) p = none → H4 p = none := fun {p} e => by
      cases z : H4 p with
      | none => rfl
      | some o => rw [up p o z] at e; cases e
    have fH : ∀ {p : Addr}, H4 p = none → H p = none := fun {p} e => (((m1.trans m2).trans m3).trans m4).free (I4.newown e) e
    have tuN : ∀ {Ha Hb : Hp}, ρ.inv Ha → Mv ρ Ha Hb → Tu Ha Hb := fun i m => m.tu i
    have big : ∀ {Ha Hb : Hp}, SS ρ H0 F σ Ha Γ → SS ρ H0 F σ Hb Γ → Mv ρ H Ha → Mv ρ Hb H' → Same (fz F Ha Hb) (fz F H H') := fun {Ha Hb} Ja Jb ma mb b o e => by
      have ob := ((Ja.frzA Jb).fr b o e)
      cases z : Ha b with
      | none =>
        have zh : H b = none := ma.free (Ja.newown z) z
        rw [fz_new zh]
        exact mb b o ob.2 ob.1
      | some y =>
        rw [fz_old z] at e
        rw [fz_old (I.sf b o e)]
        exact e
    have T1 : Tu H1 H' := Mv.tu (((m2.trans m3).trans m4).trans (Mv.of s4)) I1.inv
    have T2 : Tu H2 H' := Mv.tu ((m3.trans m4).trans (Mv.of s4)) I2.inv
    have T3 : Tu H3 H' := Mv.tu (m4.trans (Mv.of s4)) I3.inv
    have b1 := big I I1 (Mv.refl ρ H) (((m2.trans m3).trans m4).trans (Mv.of s4))
    have b2 := big I1 I2 m1 ((m3.trans m4).trans (Mv.of s4))
    have b3 := big I2 I3 (m1.trans m2) (m4.trans (Mv.of s4))
    refine q (.ref x) _ H' rfl I' mm ⟨x, dx, bkV p1 p2 p3 v4, rfl, by rw [fz_new (fH hx)]; exact hx', ?_⟩
    refine .cons (.dct (by rw [fz_new (fH (fr n1))]; exact hp1) (j1.mono b1 T1)) (.cons (.dct (by rw [fz_new (fH (fr n2))]; exact hp2) (j2.mono b2 T2)) (.cons (.dct (by rw [fz_new (fH (fr n3))]; exact hp3) (j3.mono b3 T3)) (.cons (t4.mono (fz_same I.sf) (Tu.of s4)) .nil)))
theorem EvN.of {t : TE} {d : PyData} (h : EvD ρ F t Γ d) : EvN ρ F t Γ (· = d) := fun H0 σ H I Q q => h H0 σ H I Q fun v d H' e I' m td => q v d H' e I' m (td.mono (fz_same I.sf) (Tu.refl H'))
end
end NN
set_option Elab.async false
set_option linter.all false
set_option maxRecDepth 100000
set_option maxHeartbeats 4000000
namespace NN
open PySem PySem.Spec PyProof.Rows L2 NM
local macro_rules | `(tactic| walk_at "ev") => `(tactic| ((fail_if_success (first | with_reducible apply gd1 | with_reducible apply gd2 | with_reducible apply gd3 | with_reducible apply gd4 | with_reducible apply gd5)); first
  | with_reducible exact ed_int | with_reducible exact ed_str | with_reducible exact ed_bl | with_reducible exact ed_non
  | ((with_reducible apply ed_var); rfl) | ((with_reducible apply er_var); rfl)
  | with_reducible exact ea_nil | ((with_reducible apply ea_cons) <;> walk_at "ev")
  | with_reducible exact od_int | with_reducible exact od_bool | exact od_intC (by decide) | exact od_intC ⟨by decide, by decide⟩ | exact od_intC (.inl ⟨by decide, by decide⟩) | with_reducible exact ud_int | with_reducible exact od_eqI | with_reducible exact od_neI | with_reducible exact od_strLt | with_reducible exact od_ip
  | ((with_reducible apply ed_op) <;> walk_at "ev")
  | ((with_reducible apply ed_un) <;> walk_at "ev")
  | ((with_reducible apply ed_tup') <;> walk_at "ev")
  | ((with_reducible apply el_lst') <;> walk_at "ev")
  | ((with_reducible apply ebd_test) <;> walk_at "ev")
  | ((with_reducible apply ebd_val) <;> walk_at "ev")
  | ((with_reducible refine ed_lenT ?_) <;> walk_at "ev")
  | ((with_reducible apply ed_lenR) <;> walk_at "ev")
  | ((with_reducible apply ed_tupleR) <;> walk_at "ev")
  | ((with_reducible apply EvL.rd) <;> walk_at "ev")
  | with_reducible exact eo_none
  | ((with_reducible apply eo_some) <;> walk_at "ev")
  | ((with_reducible apply ed_slT) <;> walk_at "ev")
  | ((with_reducible apply ebd_not) <;> walk_at "ev")
  | ((with_reducible apply ei_tup) <;> walk_at "ev")
  | rfl
  | skip))
section
variable {P : Program} {w : World} {K : PySem.W.Frag} {mg : Str → Option Value} {base : Heap}
theorem rgc_chunk {s n : Nat} (h1 : 1 ≤ s) (h2 : s ≤ 1000) (h3 : n ≤ 100000) : RgC 0 (n : Int) (s : Int) ((n + s - 1) / s) := by
  have e : Builtin.Range.rangeSize 0 (n : Int) (s : Int) = (((n + s - 1) / s : Nat) : Int) := by
    rw [PyProof.Rows.rangeSize_pos (by omega) (by omega)]
    have : (n : Int) + s - 1 = ((n + s - 1 : Nat) : Int) := by omega
    rw [this]
    rfl
  have hd : (n + s - 1) / s ≤ n + s - 1 := Nat.div_le_self _ _
  generalize (n + s - 1) / s = m at e hd ⊢
  refine ⟨by omega, by omega, ?_, e⟩
  unfold Builtin.Range.small
  rw [e, if_pos (show (s : Int) > 0 by omega)]
  simp only [Builtin.Range.rangeFitsLong, Bool.and_eq_true, Bool.or_eq_true, decide_eq_true_eq, beq_iff_eq]
  omega
theorem e_itemsw {ρ : Rl} {F : Hp} {Γ : List Ty} : EvD ρ F (tTup (tCons (tC (.int 7)) tNil)) Γ (dI [7]) := ed_tup' (ea_cons ed_int ea_nil) rfl
/-! items_record -/
abbrev s30 : Stmt := topS 30
theorem sc30 : FnScope ["items", "body", "item"] ["items"] (defScope s30) := ⟨rfl, rfl, rfl, by decide +kernel, rfl, by decide +kernel, by decide +kernel⟩
def cIR (ds : List PyData) (d : PyData) : Prop := ∃ its : List Item, ds = [.tuple (its.map dItem)] ∧ (∀ it ∈ its, item.ok it) ∧ (recB its).length ≤ 800000 ∧ d = dI (frm (recB its))
theorem recB_eq (its : List Item) : recB its = [7] ++ (nc its.length ++ its.flatMap item.pr) := rfl
theorem g30 (D : Df K mg "items_record" s30 ["items"]) (N : Nm mg) (Cc : Ct mg) (g_number_cells : Gf P w K mg base 1 "number_cells" ["number"] (spP cNC)) (g_item_cells : Gf P w K mg base 3 "item_cells" ["item"] (spP cIT)) (g_framed : Gf P w K mg base 2 "framed" ["body"] (spP cFR)) : Gf P w K mg base 4 "items_record" ["items"] (spP cIR) := by
  refine fn_data D sc30 (fun ds d ⟨n, e, _⟩ => by rw [e]; rfl) fun cdv A outer s f H F vs E ds d hr c => ?_
  obtain ⟨its, rfl, hok, hz, rfl⟩ := c
  refine ⟨_, (pss_cons (ps_set (i := 1) sc30.nd rfl (.inl rfl) (pe_op op_catA (pe_tup (pa_cons (pe_ci Cc.items) pa_nil)) (pe_g g_number_cells (hr.mono (by decide)) (pa_cons (pe_callB call_len_seq (by rfl) N.len PySem.boot_len (pa_cons (pv 0) pa_nil)) pa_nil))))
    (pss_cons (ps_for PassesOwn.never rfl (pi_tup (pv 0)) (pg_name (i := 2) sc30.nd rfl (.inl rfl))
    (pss_one (ps_set (i := 1) sc30.nd rfl (.inl rfl) (pe_op op_catA (pv 1) (pe_g g_item_cells (hr.mono (by decide)) (pa_cons (pv 2) pa_nil))))))
    (pss_one (ps_ret (pe_g g_framed (hr.mono (by decide)) (pa_cons (pv 1) pa_nil)))))), ?_⟩
  intro σ I Q q
  show tSeq _ _ _ _ _
  rw [recB_eq] at hz q
  simp only [List.length_append, List.length_singleton] at hz
  refine sq_set I (ed_op (b := dI (nc its.length)) e_itemsw (ed_callP (ea_cons (ed_lenT (ed_var rfl)) ea_nil) ⟨its.length, by rw [List.length_map], by omega, by omega, rfl⟩) (od_catI (by simp only [List.length_singleton]; omega))) fun σ H I => ?_
  refine sq_for I (ei_tup (ed_var rfl)) (fun i => [.dat (.tuple (its.map dItem)), .dat (dI (([7] ++ nc its.length) ++ (its.take i).flatMap item.pr)), .no]) (fun i => [.dat (.tuple (its.map dItem)), .dat (dI (([7] ++ nc its.length) ++ (its.take i).flatMap item.pr)), .dat (nth (its.map dItem) i)]) ?_ (fun i hi => bg_name) ?_ ?_
  · intro H0 σ H I
    have e : ([7] ++ nc its.length) ++ (its.take 0).flatMap item.pr = [7] ++ nc its.length := by simp
    rw [e]
    exact I
  · intro H0' σ H hs i hi I
    rw [List.length_map] at hi
    have hg : its[i]? = some its[i] := List.getElem?_eq_getElem hi
    have hm : its[i] ∈ its := List.getElem_mem hi
    generalize its[i] = x at hg hm
    rw [nth_map dItem hg] at I
    have b1 := flat_le item.pr hm
    have b2 := flat_take_le item.pr its i
    refine st_set I (ed_op (ed_var rfl) (ed_callP (by walk_at "ev") ⟨x, rfl, hok x hm, by omega, rfl⟩) (od_catI (by simp only [List.length_append, List.length_singleton]; omega))) fun σ H I => ?_
    have e : ([7] ++ nc its.length) ++ (its.take (i + 1)).flatMap item.pr = ([7] ++ nc its.length) ++ (its.take i).flatMap item.pr ++ item.pr x := by
      rw [take_flat _ hg, ← List.append_assoc]
    show SS rS H0' F σ H _
    rw [e]
    exact I.drop 2
  · intro σ H I
    have ev : (its.map dItem).length = its.length := List.length_map _
    rw [ev, List.take_length] at I
    refine st_ret I (ed_callP (by walk_at "ev") ⟨_, rfl, by simp only [List.length_append, List.length_singleton]; omega, rfl⟩) fun v d H' pd I m td => ?_
    subst pd
    refine q _ v H' (Same.refl _) I.rel ?_
    rw [List.append_assoc] at td
    exact td
/-! eights_of -/
abbrev s34 : Stmt := topS 34
theorem sc34 : FnScope ["items", "at"] ["items"] (defScope s34) := ⟨rfl, rfl, rfl, by decide +kernel, rfl, by decide +kernel, by decide +kernel⟩
def cE8 (ds : List PyData) (d : List PyData) : Prop := ∃ xs : List PyData, ds = [.tuple xs] ∧ xs.length ≤ 100000 ∧ d = (chk 8 xs).map .tuple
theorem st_retL {ρ : Rl} {F H0 H : Hp} {σ : L2.St} {Γ : List Ty} {t : TE} {ds : List PyData} {D : Ends} (I : SS ρ H0 F σ H Γ) (h : EvL ρ F t Γ (· = ds)) (k : ∀ l vs H', SS ρ H0 F σ H' Γ → Mv ρ H H' → H l = none → H' l = some (.lst vs) → TDs F H' vs ds → D.rt (.ref l) H') : tRet t D σ H :=
  h H0 σ H I _ fun l vs d H' pd I' m n e td => by
    subst pd
    exact k l vs H' I' m n e td
theorem g34 (D : Df K mg "eights_of" s34 ["items"]) (N : Nm mg) (Cc : Ct mg) : Gf P w K mg base 1 "eights_of" ["items"] (spL cE8) := by
  refine fn_gen D sc34 (fun vs H Q E ⟨F, ds, d, _, t, ⟨xs, e, _⟩, _⟩ => by subst e; exact t.len) fun cdv A outer s f H vs Q E hr c => ?_
  obtain ⟨F, ds, d, f0, td, ⟨xs, rfl, hz, rfl⟩, q⟩ := c
  refine ⟨_, (pss_one (ps_ret (pe_lc (own := [("at", 1)]) (g := gName 1) (tt := tYes) (te := tSl (rSlA K) _ _ _) rfl sc34.nd (pi_range3 rfl N.range (pa_cons pe_int (pa_cons (pe_callB call_len_seq (by rfl) N.len PySem.boot_len (pa_cons (pv 0) pa_nil)) (pa_cons (pe_ci Cc.most) pa_nil)))) (blkOk_by (own := [("at", 1)]) (N := ["items", "at"]) (sc := defScope s34) (by decide +kernel)) (fun _ _ _ _ _ => (pg_name (i := 1) sc34.nd rfl (.inl rfl))) (fun _ _ _ _ _ => pts_nil) (fun _ _ _ _ _ => (pe_slice sl_tupA (pv 0) (po_some (pv 1)) (po_some (pe_op op_add (pv 1) (pe_ci Cc.most)))))))), ?_⟩
  have I := SS.startD (N := ["items", "at"]) f0 td (show 1 ≤ 2 by decide)
  show tRet _ _ _ _
  refine st_retL (ds := (chk 8 xs).map .tuple) I (EvL.is (el_lc (n := (xs.length + 7) / 8) (f := fun k => .int (0 + (k : Nat) * 8)) (h := fun k => .tuple ((xs.drop (8 * k)).take 8)) (ei_rng3 (ea_cons ed_int (ea_cons (ed_lenT (ed_var rfl)) (ea_cons ed_int ea_nil))) ?_) (one_no rfl) (fun k hk => ⟨_, bw_name, ?_⟩) (sz (by omega))) ?_) fun l vs H' I' m n e t => ?_
  · exact rgc_chunk (s := 8) (n := xs.length) (by decide) (by decide) hz
  · refine EvS.is (ed_slT (ed_var rfl) (eo_some (ed_var rfl)) (eo_some (ed_op (ed_var rfl) ed_int od_int))) ?_
    rw [cutD_nat (lo := 8 * k) (hi := 8 * k + 8) (by omega) (by omega) (by omega) (by omega), show 8 * k + 8 - 8 * k = 8 by omega]
  · show _ = ((List.range ((xs.length + 8 - 1) / 8)).map fun i => (xs.drop (8 * i)).take 8).map PyData.tuple
    rw [List.map_map]
    rfl
  · exact q l vs H' I'.sameS n e t
end
end NN
set_option Elab.async false
set_option linter.all false
set_option maxRecDepth 100000
set_option maxHeartbeats 4000000
namespace NN
open PySem PySem.Spec PyProof.Rows L2 NM
local macro_rules | `(tactic| walk_at "ev") => `(tactic| ((fail_if_success (first | with_reducible apply gd1 | with_reducible apply gd2 | with_reducible apply gd3 | with_reducible apply gd4 | with_reducible apply gd5)); first
  | with_reducible exact ed_int | with_reducible exact ed_str | with_reducible exact ed_bl | with_reducible exact ed_non
  | ((with_reducible apply ed_var); rfl) | ((with_reducible apply er_var); rfl)
  | with_reducible exact ea_nil | ((with_reducible apply ea_cons) <;> walk_at "ev")
  | with_reducible exact od_int | with_reducible exact od_bool | exact od_intC (by decide) | exact od_intC ⟨by decide, by decide⟩ | exact od_intC (.inl ⟨by decide, by decide⟩) | with_reducible exact ud_int | with_reducible exact od_eqI | with_reducible exact od_neI | with_reducible exact od_strLt | with_reducible exact od_ip
  | ((with_reducible apply ed_op) <;> walk_at "ev")
  | ((with_reducible apply ed_un) <;> walk_at "ev")
  | ((with_reducible apply ed_tup') <;> walk_at "ev")
  | ((with_reducible apply el_lst') <;> walk_at "ev")
  | ((with_reducible apply ebd_test) <;> walk_at "ev")
  | ((with_reducible apply ebd_val) <;> walk_at "ev")
  | ((with_reducible refine ed_lenT ?_) <;> walk_at "ev")
  | ((with_reducible apply ed_lenR) <;> walk_at "ev")
  | ((with_reducible apply ed_tupleR) <;> walk_at "ev")
  | ((with_reducible apply EvL.rd) <;> walk_at "ev")
  | with_reducible exact eo_none
  | ((with_reducible apply eo_some) <;> walk_at "ev")
  | ((with_reducible apply ed_slT) <;> walk_at "ev")
  | ((with_reducible apply ebd_not) <;> walk_at "ev")
  | ((with_reducible apply ei_tup) <;> walk_at "ev")
  | rfl
  | skip))
section
variable {P : Program} {w : World} {K : PySem.W.Frag} {mg : Str → Option Value} {base : Heap}
/-! what a book is, as data -/
def dSt (st : List (Int × Item)) : List (Int × PyData) := st.map fun p => (p.1, dItem p.2)
def dWt (wt : List (Int × (Int × List Item))) : List (Int × PyData) := wt.map fun p => (p.1, .tuple [.int p.2.1, .tuple (p.2.2.map dItem)])
def dGn (gn : List (Int × (Int × List Int))) : List (Int × PyData) := gn.map fun p => (p.1, .tuple [.int p.2.1, dI p.2.2])
def dBk (b : Bk) : List (Str × PyData) := bkF (dSt b.st) (dWt b.wt) (dGn b.gn) (.int b.mark)
/-- a promise to a book -/
def spB {α : Type} (C : Addr) (ok : Bk → α → Prop) (R : Bk → α → PyData) (g : α → List PyData) : Sp := fun vs H Q _ => ∃ (F : Hp) (v : V) (ws : List V) (b : Bk) (x : α), vs = v :: ws ∧ Same F H ∧ ObjD F H C v (dBk b) ∧ TDs F H ws (g x) ∧ ok b x ∧ ∀ v' H', Same H H' → TD F H' v' (R b x) → Q v' H'
theorem ed_callB {ρ : Rl} {F : Hp} {Γ : List Ty} {α : Type} {C : Addr} {ok : Bk → α → Prop} {R : Bk → α → PyData} {g : α → List PyData} {E : XK} {i : Nat} {tr : TA} {b : Bk} {x : α} (hi : Γ[i]? = some (.obj C (dBk b))) (h : EvA ρ F tr Γ (· = g x)) (c : ok b x) : EvD ρ F (tCall (spB C ok R g) [] E (tCons (tVar i) tr)) Γ (R b x) := fun H0 σ H I Q q => by
  obtain ⟨v, e, o⟩ := I.has i _ hi (fun z => by cases z)
  refine ⟨v, e, h H0 σ H I _ fun ws ds H1 pd I1 m1 t1 => ?_⟩
  subst pd
  show (spB C ok R g) (v :: ws ++ []) H1 Q E
  rw [List.append_nil]
  exact ⟨F, v, ws, b, x, rfl, I1.sf, ObjD.mono (Same.refl F) (m1.tu I.inv) o, t1, c, fun v' H' s t => q v' _ H' rfl (I1.same s) (m1.trans (Mv.of s)) t⟩
theorem SS.startT {N : List Str} {v : V} {ws : List V} {ds : List PyData} {F H : Hp} {C : Addr} {fs : List (Str × PyData)} (f : Same F H) (o : ObjD F H C v fs) (h : TDs F H ws ds) (hl : ds.length + 1 ≤ N.length) : SS rS H F (L2.start N (v :: ws)) H (.obj C fs :: (ds.map Ty.dat ++ List.replicate (N.length - (ds.length + 1)) .no)) := by
  refine SS.start (by rw [List.length_cons, h.len]; exact hl) (by simp; omega) f fun i t e n => ?_
  cases i with
  | zero =>
    simp at e
    subst e
    exact ⟨rfl, v, rfl, o⟩
  | succ i =>
    simp only [List.getElem?_cons_succ] at e ⊢
    by_cases hi : i < ds.length
    · rw [List.getElem?_append_left (by rw [List.length_map]; exact hi), List.getElem?_map, List.getElem?_eq_getElem hi] at e
      cases e
      obtain ⟨y, h1, h2⟩ := h.get (List.getElem?_eq_getElem hi)
      exact ⟨rfl, y, h1, h2⟩
    · rw [List.getElem?_append_right (by rw [List.length_map]; omega)] at e
      have := List.mem_of_getElem? e
      exact absurd (List.mem_replicate.mp this).2 n
theorem srt_map {α β : Type} (g : α → β) (l : List (Int × α)) : srt (l.map fun p => (p.1, g p.2)) = (srt l).map fun p => (p.1, g p.2) := by
  unfold srt
  rw [← List.map_mergeSort]
  intro a _ b _
  rfl
theorem atK_of {α : Type} : ∀ {l : List (Int × α)} {p : Int × α}, (l.map (·.1)).Nodup → p ∈ l → atK l p.1 = some p.2
  | [], p, _, h => by cases h
  | q :: r, p, n, h => by
    rw [List.map_cons, List.nodup_cons] at n
    rcases List.mem_cons.mp h with e | h
    · subst e
      simp [atK, List.find?_cons]
    · have hne : q.1 ≠ p.1 := fun z => n.1 (by rw [z]; exact List.mem_map_of_mem h)
      have ih := atK_of n.2 h
      unfold atK at ih ⊢
      rw [List.find?_cons, decide_eq_false hne]
      exact ih
theorem mem_srt {α : Type} {l : List (Int × α)} {p : Int × α} : p ∈ srt l ↔ p ∈ l := (List.mergeSort_perm l _).mem_iff
theorem srt_len {α : Type} (l : List (Int × α)) : (srt l).length = l.length := (List.mergeSort_perm l _).length_eq
theorem st_retIs {ρ : Rl} {F H0 H : Hp} {σ : L2.St} {Γ : List Ty} {t : TE} {D : Ends} (d : PyData) (I : SS ρ H0 F σ H Γ) (h : EvD ρ F t Γ d) (k : ∀ v H', SS ρ H0 F σ H' Γ → Mv ρ H H' → TD F H' v d → D.rt v H') : tRet t D σ H :=
  h H0 σ H I _ fun v d' H' pd I' m td => by
    subst pd
    exact k v H' I' m td
variable {C : Addr}
/-! items_of -/
abbrev s33 : Stmt := topS 33
theorem sc33 : FnScope ["book", "key"] ["book"] (defScope s33) := ⟨rfl, rfl, rfl, by decide +kernel, rfl, by decide +kernel, by decide +kernel⟩
abbrev spIO (C : Addr) : Sp := spB C (fun b (_ : Unit) => (b.st.map (·.1)).Nodup ∧ b.st.length ≤ 100000) (fun b _ => .tuple (((srt b.st).map (·.2)).map dItem)) (fun _ => [])
theorem g33 (D : Df K mg "items_of" s33 ["book"]) (N : Nm mg) (B : BkC K C) : Gf P w K mg base 1 "items_of" ["book"] (spIO C) := by
  refine fn_gen D sc33 (fun vs H Q E ⟨F, v, ws, b, x, e, _, _, t, _⟩ => by cases t; subst e; rfl) fun cdv A outer s f H vs Q E hr c => ?_
  obtain ⟨F, v, ws, b, x, rfl, f0, o, td, ⟨hnd, hz⟩, q⟩ := c
  refine ⟨_, (pss_one (ps_ret (pe_callTy call_tuple_of (by rfl) N.tuple (by decide +kernel) (pa_cons (pe_lc (own := [("key", 1)]) (g := gName 1) (tt := tYes) (te := tDGet (tFld K (tVar 0) "state") (tVar 1)) rfl sc33.nd (pi_list (pe_callB (call_sortedDA rfl) (by rfl) N.sorted (by decide +kernel) (pa_cons (pe_fld (pv 0) (by rfl)) pa_nil))) (blkOk_by (own := [("key", 1)]) (N := ["book", "key"]) (sc := defScope s33) (by decide +kernel)) (fun _ _ _ _ _ => (pg_name (i := 1) sc33.nd rfl (.inl rfl))) (fun _ _ _ _ _ => pts_nil) (fun _ _ _ _ _ => (pe_dget (hu_of hr) (pe_fld (pv 0) (by rfl)) (pv 1) (fun _ _ => rfl)))) pa_nil)))), ?_⟩
  have I := SS.startT (N := ["book", "key"]) f0 o td (show 1 ≤ 2 by decide)
  show tRet _ _ _ _
  have hz2 : (srt b.st).length ≤ 100000 := by rw [srt_len]; exact hz
  have nd2 : ((dSt b.st).map (·.1)).Nodup := by
    unfold dSt
    rw [List.map_map]
    exact hnd
  refine st_retIs (.tuple (((srt b.st).map (·.2)).map dItem)) I (EvS.is (ed_tupleR (EvL.rd (el_lcN (g := fun d => match d with | .int k => (atK (dSt b.st) k).getD .none | _ => .none) (el_sortedD (ed_fld rfl B.cls B.n1 rfl)) rfl (fun d hd => ?_) (sz (by rw [List.length_map, srt_len]; unfold dSt; rw [List.length_map]; omega))))) ?_) fun v H' I m td => ?_
  · obtain ⟨p, hp, rfl⟩ := List.mem_map.mp hd
    have e := atK_of nd2 (mem_srt.mp hp)
    refine ed_dget (ed_fld rfl B.cls B.n1 rfl) (ed_var rfl) ?_
    simp only [e]
    rfl
  · have e2 : srt (dSt b.st) = (srt b.st).map fun p => (p.1, dItem p.2) := srt_map dItem b.st
    rw [e2, List.map_map, List.map_map, List.map_map]
    congr 1
    apply List.map_congr_left
    intro p hp
    have hp2 : (p.1, dItem p.2) ∈ dSt b.st := List.mem_map_of_mem (f := fun p : Int × Item => (p.1, dItem p.2)) (mem_srt.mp hp)
    have e := atK_of nd2 hp2
    show (atK (dSt b.st) p.1).getD .none = dItem p.2
    rw [e]
    rfl
  · exact q v H' I.rel.same td
end
end NN
set_option Elab.async false
set_option linter.all false
set_option maxRecDepth 100000
set_option maxHeartbeats 4000000
namespace NN
open PySem PySem.Spec PyProof.Rows L2 NM
local macro_rules | `(tactic| walk_at "ev") => `(tactic| ((fail_if_success (first | with_reducible apply gd1 | with_reducible apply gd2 | with_reducible apply gd3 | with_reducible apply gd4 | with_reducible apply gd5)); first
  | with_reducible exact ed_int | with_reducible exact ed_str | with_reducible exact ed_bl | with_reducible exact ed_non
  | ((with_reducible apply ed_var); rfl) | ((with_reducible apply er_var); rfl)
  | with_reducible exact ea_nil | ((with_reducible apply ea_cons) <;> walk_at "ev")
  | with_reducible exact od_int | with_reducible exact od_bool | exact od_intC (by decide) | exact od_intC ⟨by decide, by decide⟩ | exact od_intC (.inl ⟨by decide, by decide⟩) | with_reducible exact ud_int | with_reducible exact od_eqI | with_reducible exact od_neI | with_reducible exact od_strLt | with_reducible exact od_ip
  | ((with_reducible apply ed_op) <;> walk_at "ev")
  | ((with_reducible apply ed_un) <;> walk_at "ev")
  | ((with_reducible apply ed_tup') <;> walk_at "ev")
  | ((with_reducible apply el_lst') <;> walk_at "ev")
  | ((with_reducible apply ebd_test) <;> walk_at "ev")
  | ((with_reducible apply ebd_val) <;> walk_at "ev")
  | ((with_reducible refine ed_lenT ?_) <;> walk_at "ev")
  | ((with_reducible apply ed_lenR) <;> walk_at "ev")
  | ((with_reducible apply ed_tupleR) <;> walk_at "ev")
  | ((with_reducible apply EvL.rd) <;> walk_at "ev")
  | with_reducible exact eo_none
  | ((with_reducible apply eo_some) <;> walk_at "ev")
  | ((with_reducible apply ed_slT) <;> walk_at "ev")
  | ((with_reducible apply ebd_not) <;> walk_at "ev")
  | ((with_reducible apply ei_tup) <;> walk_at "ev")
  | rfl
  | skip))
section
variable {P : Program} {w : World} {K : PySem.W.Frag} {mg : Str → Option Value} {base : Heap}
variable {C : Addr}
/-! moved_cells -/
abbrev s31 : Stmt := topS 31
theorem sc31 : FnScope ["table", "cells_of", "found", "move", "shard", "things", "thing"] ["table", "cells_of"] (defScope s31) := ⟨rfl, rfl, rfl, by decide +kernel, rfl, by decide +kernel, by decide +kernel⟩
/-- a def that gives the cells of a thing -/
def cCO {α : Type} (c : Cd α) (toD : α → PyData) (ds : List PyData) (d : PyData) : Prop := ∃ x : α, ds = [toD x] ∧ c.ok x ∧ (c.pr x).length ≤ 1000000 ∧ d = dI (c.pr x)
abbrev dMv {α : Type} (toD : α → PyData) (t : List (Int × (Int × List α))) : List (Int × PyData) := t.map fun p => (p.1, .tuple [.int p.2.1, .tuple (p.2.2.map toD)])
def spMv {α : Type} (f : Addr) (c : Cd α) (toD : α → PyData) : Sp := fun vs H Q _ => ∃ (F : Hp) (v : V) (t : List (Int × (Int × List α))), vs = [v, .ref f] ∧ Same F H ∧ TD F H v (.dict (dK (dMv toD t))) ∧ (t.map (·.1)).Nodup ∧ (∀ p ∈ t, (mov c).ok p) ∧ (movd c t).length ≤ 800000 ∧
  ∀ v H', Same H H' → TD F H' v (dI (movd c t)) → Q v H'
theorem movd_eq {α : Type} (c : Cd α) (t : List (Int × (Int × List α))) : movd c t = nc t.length ++ (srt t).flatMap (mov c).pr := by
  show nc ((srt t).length : Int) ++ _ = _
  rw [srt_len]
theorem mov_pr {α : Type} (c : Cd α) (p : Int × (Int × List α)) : (mov c).pr p = nc p.1 ++ (nc p.2.1 ++ (nc p.2.2.length ++ p.2.2.flatMap c.pr)) := rfl
theorem g31 {α : Type} {f₁ : Addr} {c : Cd α} {toD : α → PyData} {k : Nat} (hk : 1 ≤ k) (D : Df K mg "moved_cells" s31 ["table", "cells_of"]) (N : Nm mg) (Rd : Rdr P w K mg base k f₁ (spP (cCO c toD))) (g_number_cells : Gf P w K mg base 1 "number_cells" ["number"] (spP cNC)) : Gf P w K mg base (k + 1) "moved_cells" ["table", "cells_of"] (spMv f₁ c toD) := by
  refine fn_gen D sc31 (fun vs H Q E ⟨F, v, t, e, _⟩ => by subst e; rfl) fun cdv A outer s f H vs Q E hr c0 => ?_
  obtain ⟨F, v, t, rfl, f0, td, hnd, hok, hz, q⟩ := c0
  refine ⟨_, (pss_cons (ps_set (i := 2) sc31.nd rfl (.inl rfl) (pe_g g_number_cells (hr.mono hk) (pa_cons (pe_callB call_lenD (by rfl) N.len PySem.boot_len (pa_cons (pv 0) pa_nil)) pa_nil)))
    (pss_cons (ps_for PassesOwn.never rfl (pi_list (pe_callB (call_sortedDA rfl) (by rfl) N.sorted (by decide +kernel) (pa_cons (pv 0) pa_nil))) (pg_name (i := 3) sc31.nd rfl (.inl rfl))
    (pss_cons (ps_asg (pe_dget (hu_of hr) (pv 0) (pv 3) (fun _ _ => rfl)) (pg_tup rfl (pgs_cons (pg_name (i := 4) sc31.nd rfl (.inl rfl)) (pgs_cons (pg_name (i := 5) sc31.nd rfl (.inl rfl)) pgs_nil))))
    (pss_cons (ps_set (i := 2) sc31.nd rfl (.inl rfl) (pe_op op_catA (pe_op op_catA (pe_op op_catA (pv 2) (pe_g g_number_cells (hr.mono hk) (pa_cons (pv 3) pa_nil))) (pe_g g_number_cells (hr.mono hk) (pa_cons (pv 4) pa_nil))) (pe_g g_number_cells (hr.mono hk) (pa_cons (pe_callB call_len_seq (by rfl) N.len PySem.boot_len (pa_cons (pv 5) pa_nil)) pa_nil))))
    (pss_one (ps_for PassesOwn.never rfl (pi_tup (pv 5)) (pg_name (i := 6) sc31.nd rfl (.inl rfl))
    (pss_one (ps_set (i := 2) sc31.nd rfl (.inl rfl) (pe_op op_catA (pv 2) (pe_callR (i := 1) Rd hr (pa_cons (pv 6) pa_nil))))))))))
    (pss_one (ps_ret (pv 2))))), ?_⟩
  rw [movd_eq] at hz q
  simp only [List.length_append] at hz
  have I : SS rS H F (L2.start ["table", "cells_of", "found", "move", "shard", "things", "thing"] [v, .ref f₁]) H [.dat (.dict (dK (dMv toD t))), .val (.ref f₁), .no, .no, .no, .no, .no] := by
    refine SS.start (show 2 ≤ 7 by decide) rfl f0 fun i t e n => ?_
    rcases i with _ | _ | _ | _ | _ | _ | _ | i
    · cases e; exact ⟨rfl, v, rfl, td⟩
    · cases e; exact ⟨rfl, _, rfl, rfl⟩
    all_goals (cases e; try exact absurd rfl n)
  show tSeq _ _ _ _ _
  have nd2 : ((dMv toD t).map (·.1)).Nodup := by
    rw [List.map_map]
    exact hnd
  have lt : (dMv toD t).length = t.length := List.length_map _
  have hin : ∀ p ∈ t, ((mov c).pr p).length ≤ ((srt t).flatMap (mov c).pr).length := fun p hp => flat_le (mov c).pr (mem_srt.mpr hp)
  refine sq_set I (ed_callP (ea_cons (EvS.is (ed_lenD (l := dMv toD t) (ed_var rfl)) (by rw [lt])) ea_nil) ⟨t.length, rfl, by omega, by omega, rfl⟩) fun σ H' I => ?_
  have lsrt : (srt t).length = t.length := srt_len t
  have es : ((srt (dMv toD t)).map fun p => PyData.int p.1) = (srt t).map fun p => PyData.int p.1 := by
    have e2 : srt (dMv toD t) = (srt t).map fun p => (p.1, .tuple [.int p.2.1, .tuple (p.2.2.map toD)]) := srt_map (fun q : Int × List α => PyData.tuple [.int q.1, .tuple (q.2.map toD)]) t
    rw [e2, List.map_map]
    rfl
  refine sq_for I (ei_listR (el_sortedD (ed_var rfl))) (fun i => [.dat (.dict (dK (dMv toD t))), .val (.ref f₁), .dat (dI (nc t.length ++ ((srt t).take i).flatMap (mov c).pr)), .no, .no, .no, .no]) (fun i => [.dat (.dict (dK (dMv toD t))), .val (.ref f₁), .dat (dI (nc t.length ++ ((srt t).take i).flatMap (mov c).pr)), .dat (nth ((srt (dMv toD t)).map fun p => .int p.1) i), .no, .no, .no]) ?_ (fun i hi => bg_name) ?_ ?_
  · intro H0 σ H I
    have e : nc t.length ++ ((srt t).take 0).flatMap (mov c).pr = nc t.length := by simp
    rw [e]
    exact I
  · intro H0' σ H hs i hi I
    rw [es] at hi I
    rw [List.length_map] at hi
    have hg : (srt t)[i]? = some (srt t)[i] := List.getElem?_eq_getElem hi
    have hm : (srt t)[i] ∈ srt t := List.getElem_mem hi
    generalize (srt t)[i] = x at hg hm
    have b1 := flat_le (mov c).pr hm
    have b2 := flat_take_le (mov c).pr (srt t) i
    obtain ⟨mv, sh, ths⟩ := x
    have hx := hok _ (mem_srt.mp hm)
    have ok1 : 0 ≤ mv := hx.1
    have ok2 : 0 ≤ sh := hx.2.1
    have ok3 : ∀ y ∈ ths, c.ok y := hx.2.2
    have e0 : nth ((srt t).map fun p => PyData.int p.1) i = .int mv := nth_of (by rw [List.getElem?_map, hg]; rfl)
    rw [e0] at I
    have hp2 : (mv, PyData.tuple [.int sh, .tuple (ths.map toD)]) ∈ dMv toD t := List.mem_map_of_mem (f := fun p : Int × (Int × List α) => (p.1, PyData.tuple [.int p.2.1, .tuple (p.2.2.map toD)])) (mem_srt.mp hm)
    have ea := atK_of nd2 hp2
    rw [mov_pr] at b1
    dsimp only at b1 ea
    simp only [List.length_append] at b1
    show tSeq _ _ _ _ _
    refine sq_asgG I (ed_dget (ed_var rfl) (ed_var rfl) ea) (bg_tup rfl (bgs_cons bg_name (bgs_cons bg_name bgs_nil))) fun σ H _ I => ?_
    show tSeq _ _ _ _ _
    refine sq_set I (ed_op (ed_op (ed_op (ed_var rfl) (ed_callP (by walk_at "ev") ⟨mv, rfl, ok1, by omega, rfl⟩) (od_catI (by simp only [List.length_append]; omega))) (ed_callP (by walk_at "ev") ⟨sh, rfl, ok2, by omega, rfl⟩) (od_catI (by simp only [List.length_append]; omega))) (ed_callP (ea_cons (ed_lenT (ed_var rfl)) ea_nil) ⟨ths.length, by rw [List.length_map], by omega, by omega, rfl⟩) (od_catI (by simp only [List.length_append]; omega))) fun σ H I => ?_
    refine st_for I (ei_tup (ed_var rfl)) (fun j => [.dat (.dict (dK (dMv toD t))), .val (.ref f₁), .dat (dI ((nc t.length ++ ((srt t).take i).flatMap (mov c).pr ++ nc mv ++ nc sh ++ nc ths.length) ++ (ths.take j).flatMap c.pr)), .dat (.int mv), .dat (.int sh), .dat (.tuple (ths.map toD)), .no]) (fun j => [.dat (.dict (dK (dMv toD t))), .val (.ref f₁), .dat (dI ((nc t.length ++ ((srt t).take i).flatMap (mov c).pr ++ nc mv ++ nc sh ++ nc ths.length) ++ (ths.take j).flatMap c.pr)), .dat (.int mv), .dat (.int sh), .dat (.tuple (ths.map toD)), .dat (nth (ths.map toD) j)]) ?_ (fun i hi => bg_name) ?_ ?_
    · intro H0 σ H I
      have e : (nc t.length ++ ((srt t).take i).flatMap (mov c).pr ++ nc mv ++ nc sh ++ nc ths.length) ++ (ths.take 0).flatMap c.pr = nc t.length ++ ((srt t).take i).flatMap (mov c).pr ++ nc mv ++ nc sh ++ nc ths.length := by simp
      rw [e]
      exact I
    · intro H0'' σ H hs2 j hj I
      rw [List.length_map] at hj
      have hg2 : ths[j]? = some ths[j] := List.getElem?_eq_getElem hj
      have hm2 : ths[j] ∈ ths := List.getElem_mem hj
      generalize ths[j] = y at hg2 hm2
      rw [nth_map toD hg2] at I
      have b3 := flat_le c.pr hm2
      have b4 := flat_take_le c.pr ths j
      refine st_set I (ed_op (ed_var rfl) (ed_callL (l := [toD y]) rfl (by walk_at "ev") (sd_P ⟨y, rfl, ok3 y hm2, by omega, rfl⟩)) (od_catI (by simp only [List.length_append]; omega))) fun σ H I => ?_
      have e : (nc t.length ++ ((srt t).take i).flatMap (mov c).pr ++ nc mv ++ nc sh ++ nc ths.length) ++ (ths.take (j + 1)).flatMap c.pr = (nc t.length ++ ((srt t).take i).flatMap (mov c).pr ++ nc mv ++ nc sh ++ nc ths.length) ++ (ths.take j).flatMap c.pr ++ c.pr y := by
        rw [take_flat _ hg2, ← List.append_assoc]
      show SS rS H0'' F σ H _
      rw [e]
      exact I.drop 6
    · intro σ H I
      have ev : (ths.map toD).length = ths.length := List.length_map _
      rw [ev, List.take_length] at I
      have e : nc t.length ++ ((srt t).take (i + 1)).flatMap (mov c).pr = (nc t.length ++ ((srt t).take i).flatMap (mov c).pr ++ nc mv ++ nc sh ++ nc ths.length) ++ ths.flatMap c.pr := by
        rw [take_flat _ hg, mov_pr]
        simp only [List.append_assoc]
      show SS rS H0' F σ H _
      rw [e]
      exact ((I.drop 3).drop 4).drop 5
  · intro σ H I
    rw [es, List.length_map, List.take_length] at I
    refine st_retIs _ I (ed_var rfl) fun v H' I m td => ?_
    exact q v H' I.rel.same td
end
end NN
set_option Elab.async false
set_option linter.all false
set_option maxRecDepth 100000
set_option maxHeartbeats 4000000
namespace NN
open PySem PySem.Spec PyProof.Rows L2 NM
local macro_rules | `(tactic| walk_at "ev") => `(tactic| ((fail_if_success (first | with_reducible apply gd1 | with_reducible apply gd2 | with_reducible apply gd3 | with_reducible apply gd4 | with_reducible apply gd5)); first
  | with_reducible exact ed_int | with_reducible exact ed_str | with_reducible exact ed_bl | with_reducible exact ed_non
  | ((with_reducible apply ed_var); rfl) | ((with_reducible apply er_var); rfl)
  | with_reducible exact ea_nil | ((with_reducible apply ea_cons) <;> walk_at "ev")
  | with_reducible exact od_int | with_reducible exact od_bool | exact od_intC (by decide) | exact od_intC ⟨by decide, by decide⟩ | exact od_intC (.inl ⟨by decide, by decide⟩) | with_reducible exact ud_int | with_reducible exact od_eqI | with_reducible exact od_neI | with_reducible exact od_strLt | with_reducible exact od_ip
  | ((with_reducible apply ed_op) <;> walk_at "ev")
  | ((with_reducible apply ed_un) <;> walk_at "ev")
  | ((with_reducible apply ed_tup') <;> walk_at "ev")
  | ((with_reducible apply el_lst') <;> walk_at "ev")
  | ((with_reducible apply ebd_test) <;> walk_at "ev")
  | ((with_reducible apply ebd_val) <;> walk_at "ev")
  | ((with_reducible refine ed_lenT ?_) <;> walk_at "ev")
  | ((with_reducible apply ed_lenR) <;> walk_at "ev")
  | ((with_reducible apply ed_tupleR) <;> walk_at "ev")
  | ((with_reducible apply EvL.rd) <;> walk_at "ev")
  | with_reducible exact eo_none
  | ((with_reducible apply eo_some) <;> walk_at "ev")
  | ((with_reducible apply ed_slT) <;> walk_at "ev")
  | ((with_reducible apply ebd_not) <;> walk_at "ev")
  | ((with_reducible apply ei_tup) <;> walk_at "ev")
  | rfl
  | skip))
section
variable {P : Program} {w : World} {K : PySem.W.Frag} {mg : Str → Option Value} {base : Heap}
variable {C : Addr}
theorem ed_mv {ρ : Rl} {F : Hp} {Γ : List Ty} {α : Type} {E : XK} {f : Addr} {c : Cd α} {toD : α → PyData} {ta : TE} {t : List (Int × (Int × List α))} (h1 : EvD ρ F ta Γ (.dict (dK (dMv toD t)))) (hn : (t.map (·.1)).Nodup) (ho : ∀ p ∈ t, (mov c).ok p) (hz : (movd c t).length ≤ 800000) :
    EvD ρ F (tCall (spMv f c toD) [] E (tCons ta (tCons (tC (.ref f)) tNil))) Γ (dI (movd c t)) := fun H0 σ H I Q q =>
  h1 H0 σ H I _ fun v d H1 pd I1 m1 t1 => by
    subst pd
    show spMv f c toD [v, .ref f] H1 Q E
    exact ⟨F, v, t, rfl, I1.sf, t1, hn, ho, hz, fun v' H' s t => q v' _ H' rfl (I1.same s) (m1.trans (Mv.of s)) t⟩
/-- a book that is in order -/
structure okB (b : Bk) : Prop where
  n1 : (b.st.map (·.1)).Nodup
  n2 : (b.wt.map (·.1)).Nodup
  n3 : (b.gn.map (·.1)).Nodup
  o1 : ∀ p ∈ b.st, item.ok p.2
  o2 : ∀ p ∈ b.wt, (mov item).ok p
  o3 : ∀ p ∈ b.gn, (mov Cd.num).ok p
  mkp : 0 ≤ b.mark
/-! seal_record -/
abbrev s32 : Stmt := topS 32
theorem sc32 : FnScope ["book", "many", "body"] ["book", "many"] (defScope s32) := ⟨rfl, rfl, rfl, by decide +kernel, rfl, by decide +kernel, by decide +kernel⟩
abbrev spSR (C : Addr) : Sp := spB C (fun b (_ : Unit) => okB b ∧ (sealB b).length ≤ 700000 ∧ b.st.length ≤ 100000) (fun b _ => dI (frm (sealB b))) (fun _ => [])
abbrev spSR2 (C : Addr) : Sp := spB C (fun b (n : Nat) => n = b.st.length ∧ okB b ∧ (sealB b).length ≤ 700000 ∧ b.st.length ≤ 100000) (fun b _ => dI (frm (sealB b))) (fun n => [.int (n : Int)])
theorem g32 {fi fn : Addr} (D : Df K mg "seal_record" s32 ["book", "many"]) (N : Nm mg) (Cc : Ct mg) (B : BkC K C) (m_item_cells : mg "item_cells" = some (.ref fi)) (m_number_cells : mg "number_cells" = some (.ref fn))
    (g_number_cells : Gf P w K mg base 1 "number_cells" ["number"] (spP cNC)) (g_framed : Gf P w K mg base 2 "framed" ["body"] (spP cFR)) (g_moved1 : Gf P w K mg base 4 "moved_cells" ["table", "cells_of"] (spMv fi item dItem)) (g_moved2 : Gf P w K mg base 2 "moved_cells" ["table", "cells_of"] (spMv fn Cd.num .int)) :
    Gf P w K mg base 5 "seal_record" ["book", "many"] (spSR2 C) := by
  refine fn_gen D sc32 (fun vs H Q E ⟨F, v, ws, b, x, e, _, _, t, _⟩ => by subst e; rw [List.length_cons, t.len]; rfl) fun cdv A outer s f H vs Q E hr c => ?_
  obtain ⟨F, v, ws, b, x, rfl, f0, o, td, ⟨rfl, ob, hz, hl⟩, q⟩ := c
  refine ⟨_, (pss_cons (ps_set (i := 2) sc32.nd rfl (.inl rfl) (pe_op op_catA (pe_op op_catA (pe_tup (pa_cons (pe_ci Cc.sealw) pa_nil)) (pe_g g_number_cells (hr.mono (by decide)) (pa_cons (pe_fld (pv 0) (by rfl)) pa_nil))) (pe_g g_number_cells (hr.mono (by decide)) (pa_cons (pv 1) pa_nil))))
    (pss_cons (ps_set (i := 2) sc32.nd rfl (.inl rfl) (pe_op op_catA (pv 2) (pe_g g_moved1 (hr.mono (by decide)) (pa_cons (pe_fld (pv 0) (by rfl)) (pa_cons (pe_fn m_item_cells) pa_nil)))))
    (pss_one (ps_ret (pe_g g_framed (hr.mono (by decide)) (pa_cons (pe_op op_catA (pv 2) (pe_g g_moved2 (hr.mono (by decide)) (pa_cons (pe_fld (pv 0) (by rfl)) (pa_cons (pe_fn m_number_cells) pa_nil)))) pa_nil)))))), ?_⟩
  have I := SS.startT (N := ["book", "many", "body"]) f0 o td (show 2 ≤ 3 by decide)
  show tSeq _ _ _ _ _
  have e : sealB b = [8] ++ nc b.mark ++ nc b.st.length ++ movd item b.wt ++ movd Cd.num b.gn := by
    simp only [List.append_assoc]
    rfl
  dsimp only at q
  rw [e] at hz q
  simp only [List.length_append, List.length_singleton] at hz
  refine sq_set I (ed_op (b := dI (nc b.st.length)) (ed_op (a := dI [8]) (b := dI (nc b.mark)) (ed_tup' (ea_cons ed_int ea_nil) rfl) (ed_callP (ea_cons (ed_fld rfl B.cls B.n4 rfl) ea_nil) ⟨b.mark, rfl, ob.mkp, by omega, rfl⟩) (od_catI (by simp only [List.length_singleton]; omega))) (ed_callP (by walk_at "ev") ⟨b.st.length, rfl, by omega, by omega, rfl⟩) (od_catI (by simp only [List.length_append, List.length_singleton]; omega))) fun σ H' I => ?_
  show tSeq _ _ _ _ _
  refine sq_set I (ed_op (ed_var rfl) (ed_mv (ed_fld rfl B.cls B.n2 rfl) ob.n2 ob.o2 (by omega)) (od_catI (by simp only [List.length_append, List.length_singleton]; omega))) fun σ H' I => ?_
  refine st_retIs _ I (ed_callP (ea_cons (ed_op (b := dI (movd Cd.num b.gn)) (ed_var rfl) (ed_mv (ed_fld rfl B.cls B.n3 rfl) ob.n3 ob.o3 (by omega)) (od_catI (by simp only [List.length_append, List.length_singleton]; omega))) ea_nil) ⟨_, rfl, by simp only [List.length_append, List.length_singleton]; omega, rfl⟩) fun v H' I m td => ?_
  exact q v H' I.rel.same td
theorem mem_chk {β : Type} {s : Nat} {l c : List β} {x : β} (hc : c ∈ chk s l) (hx : x ∈ c) : x ∈ l := by
  unfold chk at hc
  obtain ⟨i, _, rfl⟩ := List.mem_map.mp hc
  exact List.mem_of_mem_drop (List.mem_of_mem_take hx)
theorem chk_map {β γ : Type} (g : β → γ) (s : Nat) (l : List β) : chk s (l.map g) = (chk s l).map (List.map g) := by
  unfold chk
  rw [List.length_map, List.map_map]
  apply List.map_congr_left
  intro i _
  show ((l.map g).drop (s * i)).take s = ((l.drop (s * i)).take s).map g
  rw [List.map_take, List.map_drop]
theorem frm_ge (l : List Int) : l.length + 1 ≤ (frm l).length := by
  unfold frm
  simp only [List.length_append, List.length_singleton]
  omega
theorem snap_eq (b : Bk) : snap b = ((chk 8 ((srt b.st).map (·.2))).flatMap fun c => frm (recB c)) ++ frm (sealB b) := by
  unfold snap bodies recs
  rw [joined_append]
  unfold joined
  rw [List.flatMap_map]
  simp
/-! snapshot_cells -/
abbrev s35 : Stmt := topS 35
theorem sc35 : FnScope ["book", "found", "part"] ["book"] (defScope s35) := ⟨rfl, rfl, rfl, by decide +kernel, rfl, by decide +kernel, by decide +kernel⟩
abbrev spSC (C : Addr) : Sp := spB C (fun b (_ : Unit) => okB b ∧ (snap b).length ≤ 600000 ∧ b.st.length ≤ 100000) (fun b _ => dI (snap b)) (fun _ => [])
theorem g35 (D : Df K mg "snapshot_cells" s35 ["book"]) (N : Nm mg) (Cc : Ct mg) (B : BkC K C) (g_items_of : Gf P w K mg base 1 "items_of" ["book"] (spIO C)) (g_eights_of : Gf P w K mg base 1 "eights_of" ["items"] (spL cE8)) (g_items_record : Gf P w K mg base 4 "items_record" ["items"] (spP cIR)) (g_seal_record : Gf P w K mg base 5 "seal_record" ["book", "many"] (spSR2 C)) :
    Gf P w K mg base 6 "snapshot_cells" ["book"] (spSC C) := by
  refine fn_gen D sc35 (fun vs H Q E ⟨F, v, ws, b, x, e, _, _, t, _⟩ => by subst e; rw [List.length_cons, t.len]; rfl) fun cdv A outer s f H vs Q E hr c => ?_
  obtain ⟨F, v, ws, b, x, rfl, f0, o, td, ⟨ob, hz, hl⟩, q⟩ := c
  refine ⟨_, (pss_cons (ps_set (i := 1) sc35.nd rfl (.inl rfl) (pe_tup pa_nil))
    (pss_cons (ps_for PassesOwn.never rfl (pi_list (pe_g g_eights_of (hr.mono (by decide)) (pa_cons (pe_g g_items_of (hr.mono (by decide)) (pa_cons (pv 0) pa_nil)) pa_nil))) (pg_name (i := 2) sc35.nd rfl (.inl rfl))
    (pss_one (ps_set (i := 1) sc35.nd rfl (.inl rfl) (pe_op op_catA (pv 1) (pe_g g_items_record (hr.mono (by decide)) (pa_cons (pv 2) pa_nil))))))
    (pss_one (ps_ret (pe_op op_catA (pv 1) (pe_g g_seal_record (hr.mono (by decide)) (pa_cons (pv 0) (pa_cons (pe_callB call_lenD (by rfl) N.len PySem.boot_len (pa_cons (pe_fld (pv 0) (by rfl)) pa_nil)) pa_nil)))))))), ?_⟩
  have I := SS.startT (N := ["book", "found", "part"]) f0 o td (show 1 ≤ 3 by decide)
  show tSeq _ _ _ _ _
  dsimp only at q
  rw [snap_eq] at hz q
  simp only [List.length_append] at hz
  generalize hits : (srt b.st).map (·.2) = its at hz q
  have hok : ∀ it ∈ its, item.ok it := fun it hm => by
    rw [← hits] at hm
    obtain ⟨p, hp, rfl⟩ := List.mem_map.mp hm
    exact ob.o1 p (mem_srt.mp hp)
  have hl2 : its.length = b.st.length := by rw [← hits, List.length_map, srt_len]
  have hs := frm_ge (sealB b)
  refine sq_set I (d := dI []) (ed_tup' ea_nil rfl) fun σ H' I => ?_
  have ec : (chk 8 (its.map dItem)).map PyData.tuple = (chk 8 its).map fun c => .tuple (c.map dItem) := by
    rw [chk_map, List.map_map]
    rfl
  refine sq_for I (ei_listR (el_callL (d := (chk 8 its).map fun c => .tuple (c.map dItem)) (ea_cons (ed_callB (x := ()) rfl ea_nil ⟨ob.n1, hl⟩) ea_nil) ⟨its.map dItem, by rw [hits], by rw [List.length_map]; omega, ec.symm⟩)) (fun i => [.obj C (dBk b), .dat (dI (((chk 8 its).take i).flatMap fun c => frm (recB c))), .no]) (fun i => [.obj C (dBk b), .dat (dI (((chk 8 its).take i).flatMap fun c => frm (recB c))), .dat (nth ((chk 8 its).map fun c => .tuple (c.map dItem)) i)]) ?_ (fun i hi => bg_name) ?_ ?_
  · intro H0 σ H I
    exact I
  · intro H0' σ H hs i hi I
    rw [List.length_map] at hi
    have hg : (chk 8 its)[i]? = some (chk 8 its)[i] := List.getElem?_eq_getElem hi
    have hm : (chk 8 its)[i] ∈ chk 8 its := List.getElem_mem hi
    generalize (chk 8 its)[i] = x at hg hm
    rw [nth_map (fun c => .tuple (c.map dItem)) hg] at I
    have b1 := flat_le (fun c => frm (recB c)) hm
    have b2 := flat_take_le (fun c => frm (recB c)) (chk 8 its) i
    have b3 := frm_ge (recB x)
    refine st_set I (ed_op (ed_var rfl) (ed_callP (by walk_at "ev") ⟨x, rfl, fun it h => hok it (mem_chk hm h), by omega, rfl⟩) (od_catI (by omega))) fun σ H I => ?_
    show SS rS H0' F σ H _
    rw [take_flat _ hg]
    exact I.drop 2
  · intro σ H I
    rw [List.length_map, List.take_length] at I
    refine st_retIs _ I (ed_op (b := dI (frm (sealB b))) (ed_var rfl) (ed_callB (x := b.st.length) rfl (ea_cons (EvS.is (ed_lenD (l := dSt b.st) (ed_fld rfl B.cls B.n1 rfl)) (by unfold dSt; rw [List.length_map])) ea_nil) ⟨rfl, ob, by omega, hl⟩) (od_catI (by omega))) fun v H' I m td => ?_
    exact q v H' I.rel.same td
end
end NN
set_option Elab.async false
set_option linter.all false
set_option maxRecDepth 100000
set_option maxHeartbeats 4000000
namespace NN
open PySem PySem.Spec PyProof.Rows L2 NM
local macro_rules | `(tactic| walk_at "ev") => `(tactic| ((fail_if_success (first | with_reducible apply gd1 | with_reducible apply gd2 | with_reducible apply gd3 | with_reducible apply gd4 | with_reducible apply gd5)); first
  | with_reducible exact ed_int | with_reducible exact ed_str | with_reducible exact ed_bl | with_reducible exact ed_non
  | ((with_reducible apply ed_var); rfl) | ((with_reducible apply er_var); rfl)
  | with_reducible exact ea_nil | ((with_reducible apply ea_cons) <;> walk_at "ev")
  | with_reducible exact od_int | with_reducible exact od_bool | exact od_intC (by decide) | exact od_intC ⟨by decide, by decide⟩ | exact od_intC (.inl ⟨by decide, by decide⟩) | with_reducible exact ud_int | with_reducible exact od_eqI | with_reducible exact od_neI | with_reducible exact od_strLt | with_reducible exact od_ip
  | ((with_reducible apply ed_op) <;> walk_at "ev")
  | ((with_reducible apply ed_un) <;> walk_at "ev")
  | ((with_reducible apply ed_tup') <;> walk_at "ev")
  | ((with_reducible apply el_lst') <;> walk_at "ev")
  | ((with_reducible apply ebd_test) <;> walk_at "ev")
  | ((with_reducible apply ebd_val) <;> walk_at "ev")
  | ((with_reducible refine ed_lenT ?_) <;> walk_at "ev")
  | ((with_reducible apply ed_lenR) <;> walk_at "ev")
  | ((with_reducible apply ed_tupleR) <;> walk_at "ev")
  | ((with_reducible apply EvL.rd) <;> walk_at "ev")
  | with_reducible exact eo_none
  | ((with_reducible apply eo_some) <;> walk_at "ev")
  | ((with_reducible apply ed_slT) <;> walk_at "ev")
  | ((with_reducible apply ebd_not) <;> walk_at "ev")
  | ((with_reducible apply ei_tup) <;> walk_at "ev")
  | rfl
  | skip))
section
variable {P : Program} {w : World} {K : PySem.W.Frag} {mg : Str → Option Value} {base : Heap}
def dMove {α : Type} (toD : α → PyData) (p : Mov α) : PyData := .tuple [.int p.1, .int p.2.1, .tuple (p.2.2.map toD)]
/-- a reading, its reader at f handed on -/
def spRf {α : Type} (f : Addr) (rd : List Int → Option (α × List Int)) (toD : α → PyData) : Sp := fun vs H Q _ => ∃ (F : Hp) (v : V) (cs : List Int) (a : Nat), vs = [v, .int a, .ref f] ∧ Same F H ∧ TD F H v (dI cs) ∧ Cs cs ∧ a ≤ cs.length ∧ cs.length ≤ 100000 ∧
  ∀ v H', Same H H' → TD F H' v (resD rd toD cs a) → Q v H'
theorem ed_rf {ρ : Rl} {F : Hp} {Γ : List Ty} {ta tb : TE} {α : Type} {E : XK} {f : Addr} {rd : List Int → Option (α × List Int)} {toD : α → PyData} {cs : List Int} {a : Nat} (h1 : EvD ρ F ta Γ (dI cs)) (h2 : EvD ρ F tb Γ (.int a)) (hc : Cs cs) (ha : a ≤ cs.length) (hz : cs.length ≤ 100000) :
    EvD ρ F (tCall (spRf f rd toD) [] E (tCons ta (tCons tb (tCons (tC (.ref f)) tNil)))) Γ (resD rd toD cs a) := fun H0 σ H I Q q =>
  h1 H0 σ H I _ fun v d H1 pd I1 m1 t1 => h2 H0 σ H1 I1 _ fun v2 d2 H2 pd2 I2 m2 t2 => by
    subst pd; subst pd2
    cases t2
    show spRf f rd toD [v, .int a, .ref f] H2 Q E
    exact ⟨F, v, cs, a, rfl, I2.sf, t1.tu (m2.tu I1.inv), hc, ha, hz, fun v' H' s t => q v' _ H' rfl (I2.same s) ((m1.trans m2).trans (Mv.of s)) t⟩
/-! read_move -/
abbrev s38 : Stmt := topS 38
theorem sc38 : FnScope ["cells", "at", "reader", "told", "shard", "things"] ["cells", "at", "reader"] (defScope s38) := ⟨rfl, rfl, rfl, by decide +kernel, rfl, by decide +kernel, by decide +kernel⟩
theorem g38 {α : Type} {f₁ : Addr} {c : Cd α} {toD : α → PyData} {k : Nat} (hk : 1 ≤ k) (D : Df K mg "read_move" s38 ["cells", "at", "reader"]) (g_read_number : Gf P w K mg base 1 "read_number" ["cells", "at"] (spP (cRd rdN .int))) (g_read_many : Gf P w K mg base k "read_many" ["cells", "at", "reader"] (spMany f₁ c toD)) :
    Gf P w K mg base (k + 1) "read_move" ["cells", "at", "reader"] (spRf f₁ (mov c).rd (dMove toD)) := by
  refine fn_gen D sc38 (fun vs H Q E ⟨F, v, cs, a, e, _⟩ => by subst e; rfl) fun cdv A outer s f H vs Q E hr c0 => ?_
  obtain ⟨F, v, cs, a, rfl, f0, td, hc, ha, hz, q⟩ := c0
  refine ⟨_, (pss_cons (ps_set (i := 3) sc38.nd rfl (.inl rfl) (pe_g g_read_number (hr.mono hk) (pa_cons (pv 0) (pa_cons (pv 1) pa_nil))))
    (pss_cons (ps_set (i := 4) sc38.nd rfl (.inl rfl) (pe_ifExp (pt_cmpR op_isN (pv 3) pe_non (nomark _)) pe_non (pe_g g_read_number (hr.mono hk) (pa_cons (pv 0) (pa_cons (pe_ix ix_tup (pv 3) pe_int (fun _ _ => rfl)) pa_nil)))))
    (pss_cons (ps_set (i := 5) sc38.nd rfl (.inl rfl) (pe_ifExp (pt_cmpR op_isN (pv 4) pe_non (nomark _)) pe_non (pe_g g_read_many hr (pa_cons (pv 0) (pa_cons (pe_ix ix_tup (pv 4) pe_int (fun _ _ => rfl)) (pa_cons (pv 2) pa_nil))))))
    (pss_one (ps_ret (pe_ifExp (pt_cmpR op_isN (pv 5) pe_non (nomark _)) pe_non (pe_tup (pa_cons (pe_tup (pa_cons (pe_ix ix_tup (pv 3) pe_int (fun _ _ => rfl)) (pa_cons (pe_ix ix_tup (pv 4) pe_int (fun _ _ => rfl)) (pa_cons (pe_ix ix_tup (pv 5) pe_int (fun _ _ => rfl)) pa_nil)))) (pa_cons (pe_ix ix_tup (pv 5) pe_int (fun _ _ => rfl)) pa_nil))))))))), ?_⟩
  have I : SS rS H F (L2.start ["cells", "at", "reader", "told", "shard", "things"] [v, .int a, .ref f₁]) H [.dat (dI cs), .dat (.int a), .val (.ref f₁), .no, .no, .no] := by
    refine SS.start (show 3 ≤ 6 by decide) rfl f0 fun i t e n => ?_
    rcases i with _ | _ | _ | _ | _ | _ | i
    · cases e; exact ⟨rfl, v, rfl, td⟩
    · cases e; exact ⟨rfl, _, rfl, .int _⟩
    · cases e; exact ⟨rfl, _, rfl, rfl⟩
    all_goals (cases e; try exact absurd rfl n)
  show tSeq _ _ _ _ _
  refine sq_set I (ed_callP (by walk_at "ev") ⟨cs, a, rfl, hc, ha, hz, rfl⟩) fun σ H' I => ?_
  cases e : rdN (cs.drop a) with
  | none =>
    have el : (mov c).rd (cs.drop a) = none := pair_none1 e
    rw [e] at I
    rw [resD_none el] at q
    refine sq_set I (d := .none) (ed_if (isN rfl) (fun _ => ed_non) (fun z => nomatch z)) fun σ H' I => ?_
    refine sq_set I (d := .none) (ed_if (isN rfl) (fun _ => ed_non) (fun z => nomatch z)) fun σ H' I => ?_
    exact st_retIs _ I (ed_if (isN rfl) (fun _ => ed_non) (fun z => nomatch z)) fun v H' I m td => q v H' I.rel.same td
  | some p =>
    obtain ⟨x, r⟩ := p
    rw [e] at I
    obtain ⟨k1, k2, k3, k4⟩ := rd_end Cd.num hc ha e
    have c1 : (cs.length : Int) - r.length = ((cs.length - r.length : Nat) : Int) := by omega
    dsimp only at I
    rw [c1] at I
    refine sq_set I (ed_if (isS rfl) (fun z => nomatch z) (fun _ => ed_callP (ea_cons (ed_var rfl) (ea_cons (ed_op (ed_var rfl) ed_int (od_ixT (i := 1) rfl)) ea_nil)) ⟨cs, cs.length - r.length, rfl, hc, k2, hz, rfl⟩)) fun σ H' I => ?_
    rw [← k1] at I
    cases e2 : rdN r with
    | none =>
      have el : (mov c).rd (cs.drop a) = none := pair_none2 e (pair_none1 e2)
      rw [e2] at I
      rw [resD_none el] at q
      refine sq_set I (d := .none) (ed_if (isN rfl) (fun _ => ed_non) (fun z => nomatch z)) fun σ H' I => ?_
      exact st_retIs _ I (ed_if (isN rfl) (fun _ => ed_non) (fun z => nomatch z)) fun v H' I m td => q v H' I.rel.same td
    | some p =>
      obtain ⟨y, r2⟩ := p
      have e2' := e2
      rw [k1] at e2'
      rw [e2] at I
      obtain ⟨j1, j2, j3, j4⟩ := rd_end Cd.num hc k2 e2'
      have c2 : (cs.length : Int) - r2.length = ((cs.length - r2.length : Nat) : Int) := by omega
      dsimp only at I
      rw [c2] at I
      refine sq_set I (ed_if (isS rfl) (fun z => nomatch z) (fun _ => ed_manyL (ed_var rfl) (ed_op (ed_var rfl) ed_int (od_ixT (i := 1) rfl)) rfl hc j2 hz)) fun σ H' I => ?_
      cases e3 : c.many.rd r2 with
      | none =>
        have el : (mov c).rd (cs.drop a) = none := pair_none2 e (pair_none2 e2 e3)
        rw [j1] at e3
        rw [resD_none e3] at I
        rw [resD_none el] at q
        exact st_retIs _ I (ed_if (isN rfl) (fun _ => ed_non) (fun z => nomatch z)) fun v H' I m td => q v H' I.rel.same td
      | some p =>
        obtain ⟨z, r3⟩ := p
        have el : (mov c).rd (cs.drop a) = some ((x, (y, z)), r3) := pair_some e (pair_some e2 e3)
        rw [j1] at e3
        rw [resD_some e3] at I
        rw [resD_some el] at q
        exact st_retIs _ I (ed_if (isS rfl) (fun z => nomatch z) (fun _ => ed_tup' (ea_cons (ed_tup' (ea_cons (ed_op (ed_var rfl) ed_int (od_ixT (i := 0) rfl)) (ea_cons (ed_op (ed_var rfl) ed_int (od_ixT (i := 0) rfl)) (ea_cons (ed_op (ed_var rfl) ed_int (od_ixT (i := 0) rfl)) ea_nil))) rfl) (ea_cons (ed_op (ed_var rfl) ed_int (od_ixT (i := 1) rfl)) ea_nil)) rfl)) fun v H' I m td => q v H' I.rel.same td
/-! read_moved_item, read_moved_key -/
abbrev s36 : Stmt := topS 36
theorem sc36 : FnScope ["cells", "at"] ["cells", "at"] (defScope s36) := ⟨rfl, rfl, rfl, by decide +kernel, rfl, by decide +kernel, by decide +kernel⟩
theorem cRd_res {α : Type} (rd : List Int → Option (α × List Int)) (toD : α → PyData) (cs : List Int) (a : Nat) (hc : Cs cs) (ha : a ≤ cs.length) (hz : cs.length ≤ 100000) : cRd rd toD [dI cs, .int a] (resD rd toD cs a) := ⟨cs, a, rfl, hc, ha, hz, rfl⟩
theorem g36 {f₁ : Addr} {k : Nat} (D : Df K mg "read_moved_item" s36 ["cells", "at"]) (m_read_item : mg "read_item" = some (.ref f₁)) (g_read_move : Gf P w K mg base k "read_move" ["cells", "at", "reader"] (spRf f₁ (mov item).rd (dMove dItem))) : Gf P w K mg base (k + 1) "read_moved_item" ["cells", "at"] (spP (cRd (mov item).rd (dMove dItem))) := by
  refine fn_data D sc36 (fun ds d ⟨cs, a, e, _⟩ => by rw [e]; rfl) fun cdv A outer s f H F vs E ds d hr c => ?_
  obtain ⟨cs, a, rfl, hc, ha, hz, rfl⟩ := c
  refine ⟨_, (pss_one (ps_ret (pe_g g_read_move hr (pa_cons (pv 0) (pa_cons (pv 1) (pa_cons (pe_fn m_read_item) pa_nil)))))), ?_⟩
  intro σ I Q q
  exact st_retIs _ I (ed_rf (by walk_at "ev") (by walk_at "ev") hc ha hz) fun v H' I m td => q _ v H' (Same.refl _) I.rel td
abbrev s37 : Stmt := topS 37
theorem sc37 : FnScope ["cells", "at"] ["cells", "at"] (defScope s37) := ⟨rfl, rfl, rfl, by decide +kernel, rfl, by decide +kernel, by decide +kernel⟩
theorem g37 {f₁ : Addr} {k : Nat} (D : Df K mg "read_moved_key" s37 ["cells", "at"]) (m_read_number : mg "read_number" = some (.ref f₁)) (g_read_move : Gf P w K mg base k "read_move" ["cells", "at", "reader"] (spRf f₁ (mov Cd.num).rd (dMove .int))) : Gf P w K mg base (k + 1) "read_moved_key" ["cells", "at"] (spP (cRd (mov Cd.num).rd (dMove .int))) := by
  refine fn_data D sc37 (fun ds d ⟨cs, a, e, _⟩ => by rw [e]; rfl) fun cdv A outer s f H F vs E ds d hr c => ?_
  obtain ⟨cs, a, rfl, hc, ha, hz, rfl⟩ := c
  refine ⟨_, (pss_one (ps_ret (pe_g g_read_move hr (pa_cons (pv 0) (pa_cons (pv 1) (pa_cons (pe_fn m_read_number) pa_nil)))))), ?_⟩
  intro σ I Q q
  exact st_retIs _ I (ed_rf (by walk_at "ev") (by walk_at "ev") hc ha hz) fun v H' I m td => q _ v H' (Same.refl _) I.rel td
end
end NN
set_option Elab.async false
set_option linter.all false
set_option maxRecDepth 100000
set_option maxHeartbeats 4000000
namespace NN
open PySem PySem.Spec PyProof.Rows L2 NM
local macro_rules | `(tactic| walk_at "ev") => `(tactic| ((fail_if_success (first | with_reducible apply gd1 | with_reducible apply gd2 | with_reducible apply gd3 | with_reducible apply gd4 | with_reducible apply gd5)); first
  | with_reducible exact ed_int | with_reducible exact ed_str | with_reducible exact ed_bl | with_reducible exact ed_non
  | ((with_reducible apply ed_var); rfl) | ((with_reducible apply er_var); rfl)
  | with_reducible exact ea_nil | ((with_reducible apply ea_cons) <;> walk_at "ev")
  | with_reducible exact od_int | with_reducible exact od_bool | exact od_intC (by decide) | exact od_intC ⟨by decide, by decide⟩ | exact od_intC (.inl ⟨by decide, by decide⟩) | with_reducible exact ud_int | with_reducible exact od_eqI | with_reducible exact od_neI | with_reducible exact od_strLt | with_reducible exact od_ip
  | ((with_reducible apply ed_op) <;> walk_at "ev")
  | ((with_reducible apply ed_un) <;> walk_at "ev")
  | ((with_reducible apply ed_tup') <;> walk_at "ev")
  | ((with_reducible apply el_lst') <;> walk_at "ev")
  | ((with_reducible apply ebd_test) <;> walk_at "ev")
  | ((with_reducible apply ebd_val) <;> walk_at "ev")
  | ((with_reducible refine ed_lenT ?_) <;> walk_at "ev")
  | ((with_reducible apply ed_lenR) <;> walk_at "ev")
  | ((with_reducible apply ed_tupleR) <;> walk_at "ev")
  | ((with_reducible apply EvL.rd) <;> walk_at "ev")
  | with_reducible exact eo_none
  | ((with_reducible apply eo_some) <;> walk_at "ev")
  | ((with_reducible apply ed_slT) <;> walk_at "ev")
  | ((with_reducible apply ebd_not) <;> walk_at "ev")
  | ((with_reducible apply ei_tup) <;> walk_at "ev")
  | rfl
  | skip))
section
variable {P : Program} {w : World} {K : PySem.W.Frag} {mg : Str → Option Value} {base : Heap}
mutual
theorem TD.dp {F H : Hp} {K : PySem.W.Frag} (s : Same F H) : ∀ {v : V} {d : PyData}, TD F H v d → d.canLay0 = true → Dp K H v d
  | _, _, .non, _ => .non
  | _, _, .bl b, _ => .bl b
  | _, _, .int i, _ => .int i
  | _, _, .str x, _ => .str x
  | _, _, .tup h q, e => .tup (.of h) (TDs.dp s q (by simpa only [PyData.canLay0] using e))
  | _, _, .lst h q, e => .lst (.of (s _ _ h)) (TDs.dp s q (by simpa only [PyData.canLay0] using e))
  | _, _, .dct h q, e => by simp [PyData.canLay0] at e
theorem TDs.dp {F H : Hp} {K : PySem.W.Frag} (s : Same F H) : ∀ {v : List V} {d : List PyData}, TDs F H v d → PyData.canLayAll0 d = true → DpAll K H v d
  | _, _, .nil, _ => .nil
  | _, _, .cons h q, e => by
    simp only [PyData.canLayAll0, Bool.and_eq_true] at e
    exact .cons (TD.dp s h e.1) (TDs.dp s q e.2)
end
theorem shp_ints (ns : List Int) : PyData.canLayAll0 (ns.map .int) = true ∧ PyData.depthAll (ns.map .int) = 0 := by
  induction ns with
  | nil => exact ⟨rfl, rfl⟩
  | cons n r ih =>
    constructor
    · simp only [List.map_cons, PyData.canLayAll0, PyData.canLay0, ih.1, Bool.and_self]
    · simp only [List.map_cons, PyData.depthAll, PyData.depth, ih.2, Nat.max_self]
theorem shp_dI (ns : List Int) : SeqAt.shaped (dI ns) = true := by
  have h := shp_ints ns
  unfold SeqAt.shaped
  simp only [PyData.canLay0, PyData.depth, h.1, h.2]
  decide
theorem shp_dIs (bs : List (List Int)) : SeqAt.shaped (.tuple (bs.map dI)) = true := by
  have h : PyData.canLayAll0 (bs.map dI) = true ∧ PyData.depthAll (bs.map dI) ≤ 1 := by
    induction bs with
    | nil => exact ⟨rfl, Nat.zero_le _⟩
    | cons n r ih =>
      have h := shp_ints n
      constructor
      · simp only [List.map_cons, PyData.canLayAll0, PyData.canLay0, h.1, ih.1, Bool.and_self]
      · simp only [List.map_cons, PyData.depthAll, PyData.depth, h.2]
        omega
  unfold SeqAt.shaped
  simp only [PyData.canLay0, PyData.depth, h.1, Bool.true_and]
  exact decide_eq_true (by omega)
theorem eqv_ints : ∀ a b : List Int, PyData.eqvAll (a.map .int) (b.map .int) = decide (a = b)
  | [], [] => by simp [PyData.eqvAll]
  | [], _ :: _ => by simp [PyData.eqvAll]
  | _ :: _, [] => by simp [PyData.eqvAll]
  | x :: a, y :: b => by
    simp only [List.map_cons, PyData.eqvAll, PyData.eqv, eqv_ints a b]
    by_cases h : x = y
    · subst h
      simp
    · simp [h]
theorem eqv_dI (a b : List Int) : PyData.eqv (dI a) (dI b) = decide (a = b) := by
  show PyData.eqv (.tuple _) (.tuple _) = _
  simp only [PyData.eqv]
  exact eqv_ints a b
theorem eqv_nil (xs : List PyData) : PyData.eqv (.tuple xs) (.tuple []) = decide (xs = []) := by
  cases xs with
  | nil => simp [PyData.eqv, PyData.eqvAll]
  | cons x r => simp [PyData.eqv, PyData.eqvAll]
theorem od_eqD {F : Hp} {K : PySem.W.Frag} {a b : PyData} (ha : SeqAt.shaped a = true) (hb : SeqAt.shaped b = true) : OpD F (rEqD K) a b (· = .bool (PyData.eqv a b)) := fun H x y s ta tb Q q =>
  ⟨a, b, ta.dp s (SeqAt.canLay_of_shaped ha), tb.dp s (SeqAt.canLay_of_shaped hb), ha, hb, q _ _ H rfl (Same.refl H) (.bl _)⟩
theorem od_neD {F : Hp} {K : PySem.W.Frag} {a b : PyData} (ha : SeqAt.shaped a = true) (hb : SeqAt.shaped b = true) : OpD F (rNeD K) a b (· = .bool (!PyData.eqv a b)) := fun H x y s ta tb Q q =>
  ⟨a, b, ta.dp s (SeqAt.canLay_of_shaped ha), tb.dp s (SeqAt.canLay_of_shaped hb), ha, hb, q _ _ H rfl (Same.refl H) (.bl _)⟩
/-- t == () -/
theorem eb_nil {ρ : Rl} {F : Hp} {Γ : List Ty} {i : Nat} {xs : List PyData} (h : Γ[i]? = some (.dat (.tuple xs))) (hs : SeqAt.shaped (.tuple xs) = true) : EvB ρ F (tTest (tOp (rEqD K) (tVar i) (tTup tNil))) Γ (· = decide (xs = [])) :=
  ebd_test (EvS.is (ed_op (b := .tuple []) (ed_var h) (ed_tup' ea_nil rfl) (od_eqD hs rfl)) (by rw [eqv_nil]))
theorem bw_trip {ρ : Rl} {F : Hp} {Γ : List Ty} {i j k : Nat} {x y z : PyData} (hij : i ≠ j) (hik : i ≠ k) (hjk : j ≠ k) : BndW ρ F (gTup K 3 (gCons (gName i) (gCons (gName j) (gCons (gName k) gNil)))) [i, j, k] (.tuple [x, y, z]) Γ (((Γ.set i (.dat x)).set j (.dat y)).set k (.dat z)) := fun H0 σ H v I td Q q => by
  obtain ⟨a, xs, rfl, h1, h2⟩ := td.of_tup
  cases h2 with
  | cons t1 tn =>
    cases tn with
    | cons t2 tn =>
      cases tn with
      | cons t3 tn =>
        cases tn
        refine ⟨a, _, rfl, .of h1, rfl, _, _, rfl, _, _, rfl, _, _, rfl, rfl, q _ ?_ (((I.setD i t1).setD j t2).setD k t3)⟩
        have w : ∀ s : L2.St, L2.wipe s [i, j, k] = ((s.set k none).set j none).set i none := fun _ => rfl
        rw [w, w]
        apply List.ext_getElem?
        intro m
        by_cases e1 : m = i
        · subst e1
          simp only [List.getElem?_set, List.length_set]
          simp [Ne.symm hij, Ne.symm hik]
        · by_cases e2 : m = j
          · subst e2
            simp only [List.getElem?_set, List.length_set]
            simp [Ne.symm hjk, e1, Ne.symm e1]
          · by_cases e3 : m = k
            · subst e3
              simp only [List.getElem?_set, List.length_set]
              simp [e1, e2, Ne.symm e1, Ne.symm e2]
            · simp only [List.getElem?_set, List.length_set, if_neg (Ne.symm e1), if_neg (Ne.symm e2), if_neg (Ne.symm e3)]
theorem three_no {Γ : List Ty} {i j k : Nat} (h1 : Γ[i]? = some .no) (h2 : Γ[j]? = some .no) (h3 : Γ[k]? = some .no) : ∀ m ∈ [i, j, k], ∀ t, Γ[m]? = some t → t = .no := fun m hm t e => by
  rcases List.mem_cons.mp hm with z | hm
  · subst z
    rw [h1] at e
    exact (Option.some.inj e).symm
  · exact two_no h2 h3 m hm t e
/-! read_part -/
def whole {α : Type} : Option (α × List Int) → Option α
  | some (x, []) => some x
  | some (_, _ :: _) => none
  | none => none
def rdPart : List Int → Option (List Item)
  | [] => none
  | c :: r => if c = 7 then whole (item.many.rd r) else none
abbrev s40 : Stmt := topS 40
theorem sc40 : FnScope ["body", "told"] ["body"] (defScope s40) := ⟨rfl, rfl, rfl, by decide +kernel, rfl, by decide +kernel, by decide +kernel⟩
def dPart : Option (List Item) → PyData
  | none => .none
  | some its => .tuple (its.map dItem)
def cPA (ds : List PyData) (d : PyData) : Prop := ∃ b : List Int, ds = [dI b] ∧ Cs b ∧ b.length ≤ 100000 ∧ d = dPart (rdPart b)
theorem g40 {f₁ : Addr} {k : Nat} (hk : 1 ≤ k) (D : Df K mg "read_part" s40 ["body"]) (N : Nm mg) (Cc : Ct mg) (m_read_item : mg "read_item" = some (.ref f₁)) (g_read_many : Gf P w K mg base k "read_many" ["cells", "at", "reader"] (spMany f₁ item dItem)) : Gf P w K mg base (k + 1) "read_part" ["body"] (spP cPA) := by
  refine fn_data D sc40 (fun ds d ⟨b, e, _⟩ => by rw [e]; rfl) fun cdv A outer s f H F vs E ds d hr c => ?_
  obtain ⟨b, rfl, hc, hz, rfl⟩ := c
  refine ⟨_, (pss_cons (ps_if (PW.pt (pw_or (pt_cmpR (op_eqD hr.units) (pv 0) (pe_tup pa_nil) (nomark _)) (pw_or1 (pt_cmpR op_ne (pe_ix ix_tup (pv 0) pe_int (fun _ _ => rfl)) (pe_ci Cc.items) (nomark _)))))
    (pss_one (ps_ret pe_non))
    pss_nil)
    (pss_cons (ps_set (i := 1) sc40.nd rfl (.inl rfl) (pe_g g_read_many hr (pa_cons (pv 0) (pa_cons pe_int (pa_cons (pe_fn m_read_item) pa_nil)))))
    (pss_one (ps_ret (pe_ifExp (PW.pt (pw_or (pt_cmpR op_isN (pv 1) pe_non (nomark _)) (pw_or1 (pt_cmpR op_ne (pe_ix ix_tup (pv 1) pe_int (fun _ _ => rfl)) (pe_callB call_len_seq (by rfl) N.len PySem.boot_len (pa_cons (pv 0) pa_nil)) (nomark _))))) pe_non (pe_ix ix_tup (pv 1) pe_int (fun _ _ => rfl))))))), ?_⟩
  intro σ I Q q
  show tSeq _ _ _ _ _
  cases b with
  | nil =>
    refine sq_ifT I (EvB.is (ebd_or (y := true) (eb_nil rfl (shp_dI [])) (fun z => by simp at z)) rfl) fun H' I _ => ?_
    exact st_retIs _ I ed_non fun v H' I m td => q _ v H' (Same.refl _) I.rel td
  | cons c r =>
    have e0 : decide ((c :: r).map PyData.int = []) = false := decide_eq_false (by simp)
    have eat : atI ((c :: r).map PyData.int) 0 = some (.int c) := ints_at (i := 0) rfl rfl
    by_cases h7 : c = 7
    · subst h7
      refine sq_ifF I (EvB.is (ebd_or (eb_nil rfl (shp_dI (7 :: r))) (fun _ => ebd_test (ed_op (ed_op (ed_var rfl) ed_int (od_ixT (K := K) eat)) ed_int od_neI))) (by rw [e0, decide_eq_true rfl]; rfl)) fun H' I _ => ?_
      have er : rdPart (7 :: r) = whole (item.many.rd r) := by simp [rdPart]
      rw [er] at q
      refine sq_set I (ed_many (a := 1) (ed_var rfl) (by exact ed_int) hc (by simp) hz) fun σ H' I => ?_
      have e1 : (7 :: r).drop 1 = r := rfl
      cases e2 : item.many.rd r with
      | none =>
        rw [resD_none (by rw [e1]; exact e2)] at I
        rw [e2] at q
        exact st_retIs _ I (ed_if (EvB.is (ebd_or (y := true) (isN rfl) (fun z => nomatch z)) rfl) (fun _ => ed_non) (fun z => nomatch z)) fun v H' I m td => q _ v H' (Same.refl _) I.rel td
      | some p =>
        obtain ⟨its, r2⟩ := p
        rw [resD_some (by rw [e1]; exact e2)] at I
        rw [e2] at q
        have test : EvB rS F (tOr (tTest (tOp (fun x y H Q => y = .non ∧ Q (.bl (decide (x = .non))) H) (tVar 1) (tC .non))) (tTest (tOp rNe (tOp (rIxT K) (tVar 1) (tC (.int 1))) (tCB (rLen K) (tCons (tVar 0) tNil))))) [.dat (dI (7 :: r)), .dat (.tuple [.tuple (its.map dItem), .int (((7 :: r).length : Int) - r2.length)])] (· = !decide (r2.length = 0)) :=
          EvB.is (ebd_or (isS rfl) (fun _ => ebd_test (ed_op (ed_op (ed_var rfl) ed_int (od_ixT (K := K) rfl)) (ed_lenTI (ed_var rfl)) od_neI))) (by
            rw [Bool.false_or]
            congr 1
            exact decide_eq_decide.mpr ⟨fun z => by omega, fun z => by omega⟩)
        cases r2 with
        | nil => exact st_retIs _ I (ed_if test (fun z => nomatch z) (fun _ => ed_op (ed_var rfl) ed_int (od_ixT (i := 0) rfl))) fun v H' I m td => q _ v H' (Same.refl _) I.rel td
        | cons z r3 => exact st_retIs _ I (ed_if test (fun _ => ed_non) (fun z => nomatch z)) fun v H' I m td => q _ v H' (Same.refl _) I.rel td
    · have er : rdPart (c :: r) = none := if_neg h7
      rw [er] at q
      refine sq_ifT I (EvB.is (ebd_or (eb_nil rfl (shp_dI (c :: r))) (fun _ => ebd_test (ed_op (ed_op (ed_var rfl) ed_int (od_ixT (K := K) eat)) ed_int od_neI))) (by rw [e0, decide_eq_false h7]; rfl)) fun H' I _ => ?_
      exact st_retIs _ I ed_non fun v H' I m td => q _ v H' (Same.refl _) I.rel td
end
end NN
set_option Elab.async false
set_option linter.all false
set_option maxRecDepth 100000
set_option maxHeartbeats 4000000
namespace NN
open PySem PySem.Spec PyProof.Rows L2 NM
local macro_rules | `(tactic| walk_at "ev") => `(tactic| ((fail_if_success (first | with_reducible apply gd1 | with_reducible apply gd2 | with_reducible apply gd3 | with_reducible apply gd4 | with_reducible apply gd5)); first
  | with_reducible exact ed_int | with_reducible exact ed_str | with_reducible exact ed_bl | with_reducible exact ed_non
  | ((with_reducible apply ed_var); rfl) | ((with_reducible apply er_var); rfl)
  | with_reducible exact ea_nil | ((with_reducible apply ea_cons) <;> walk_at "ev")
  | with_reducible exact od_int | with_reducible exact od_bool | exact od_intC (by decide) | exact od_intC ⟨by decide, by decide⟩ | exact od_intC (.inl ⟨by decide, by decide⟩) | with_reducible exact ud_int | with_reducible exact od_eqI | with_reducible exact od_neI | with_reducible exact od_strLt | with_reducible exact od_ip
  | ((with_reducible apply ed_op) <;> walk_at "ev")
  | ((with_reducible apply ed_un) <;> walk_at "ev")
  | ((with_reducible apply ed_tup') <;> walk_at "ev")
  | ((with_reducible apply el_lst') <;> walk_at "ev")
  | ((with_reducible apply ebd_test) <;> walk_at "ev")
  | ((with_reducible apply ebd_val) <;> walk_at "ev")
  | ((with_reducible refine ed_lenT ?_) <;> walk_at "ev")
  | ((with_reducible apply ed_lenR) <;> walk_at "ev")
  | ((with_reducible apply ed_tupleR) <;> walk_at "ev")
  | ((with_reducible apply EvL.rd) <;> walk_at "ev")
  | with_reducible exact eo_none
  | ((with_reducible apply eo_some) <;> walk_at "ev")
  | ((with_reducible apply ed_slT) <;> walk_at "ev")
  | ((with_reducible apply ebd_not) <;> walk_at "ev")
  | ((with_reducible apply ei_tup) <;> walk_at "ev")
  | rfl
  | skip))
section
variable {P : Program} {w : World} {K : PySem.W.Frag} {mg : Str → Option Value} {base : Heap}
/-- name = {k: v for ..}, the name a local -/
theorem ps_setDc {X : Cx} {i : Nat} {y : Str} {py : Pos} {kx vx tg iter : Expr} {ifs : List Expr} {scope : Scope} {own : List (Str × Nat)} {pos spos : Pos} {wi : TI} {g : TG} {tt : TT} {tk tv : TE} (hc : X.calm = true) (hN : X.N.Nodup) (hy : X.N[i]? = some y) (hyl : X.env.scope.names.lookup y = some .local)
    (hsw : swapsWith (.DictComp kx vx [⟨tg, iter, ifs, 0⟩] scope pos) (some (.Name y py)) spos.line X.env = pure true) (hi : PI X tg iter wi) (ok : BlkOk X.N X.env.scope scope own)
    (hg : ∀ (s : Shared) (H : Hp) (C : Addr) (cl : List (Str × Addr)) (fp : List Addr), PG (X.blk s H scope (compEnvC scope cl C X.env) fp) tg g) (ht : ∀ (s : Shared) (H : Hp) (C : Addr) (cl : List (Str × Addr)) (fp : List Addr), PTs (X.blk s H scope (compEnvC scope cl C X.env) fp) ifs tt)
    (hk : ∀ (s : Shared) (H : Hp) (C : Addr) (cl : List (Str × Addr)) (fp : List Addr), PE (X.blk s H scope (compEnvC scope cl C X.env) fp) kx tk)
    (he : ∀ (s : Shared) (H : Hp) (C : Addr) (cl : List (Str × Addr)) (fp : List Addr), PE (X.blk s H scope (compEnvC scope cl C X.env) fp) vx tv) (hs : ∀ x, foldedSetIterable iter X.env x = pure x := by intro _; rfl) :
    PS X (.Assign [.Name y py] (.DictComp kx vx [⟨tg, iter, ifs, 0⟩] scope pos) spos) (tAsg (tDc wi g tt tk tv (own.map (·.2))) (gName i)) := by
  refine ⟨fun pins s σ H D I h => ?_⟩
  rw [exec_Assign_Name_used _ _ _ _ hsw]
  refine wpAny_bind (wpAny_standAt (wpAny_bind ?_))
  show wpAny _ X.A (do let _ ← comprehension (.DictComp kx vx [⟨tg, iter, ifs, 0⟩] scope pos) scope X.env (firstIterPos [⟨tg, iter, ifs, 0⟩] pos) newDict false (eval iter X.env) (some (assign (.Name y py) X.env))) _ _ s
  have h : tDc wi g tt tk tv (own.map (·.2)) σ H (fun x H1 => gName i x σ H1 D.nx) := h
  refine wpAny_bind (thn (dc_core (Qf := fun _ s' => SP X pins D .next s') hc hN I hi ok hg ht hk he hs h fun L C s' m H' I' q hn f => ?_) fun _ s' hq => wpAny_pure (wpAny_pure hq))
  show wpAny _ _ (assign (.Name y py) X.env (.ref L)) _ _ _
  refine wpAny_assign_Name (store_ok2 (v := V.ref L) I' hN hy (.inl hyl) rfl (fun s2 I2 ⟨a, sb, ha⟩ => ?_) (.inr hyl))
  obtain ⟨f0, f1, f2, f3, f4, f5⟩ := f
  have haC : C ≠ a := by
    rcases ha with z | z
    · rw [z]; exact f1
    · exact fun e => f4 y a z e.symm
  exact ⟨m, hn.sameBut sb haC, fun h3 sb3 => ⟨_, H', I2.turned (t' := s2.toks) (fun b o hb e => (sb3.2 b hb).trans e) f0 f1 f3 f4 f5, q⟩⟩
variable {C : Addr}
/-- Book is made -/
def MkB (P : Program) (w : World) (K : PySem.W.Frag) (mg : Str → Option Value) (base : Heap) (C : Addr) : Prop :=
  ∃ (fi : Addr) (fd : FuncData), Mk K C fi ∧ FnOk P w K mg base CX0 1 fi fd ["self", "state", "waiting", "given_away", "mark"] (spInit C) ∧ mg "Book" = some (.ref C) ∧ Binds K fd ["self", "state", "waiting", "given_away", "mark"] []
theorem pe_book {X : Cx} {e : Expr} {es : List Expr} {t : TA} {p pos : Pos} (M : MkB X.prog X.w X.K X.mg X.base C) (hr : Room 2 X.A) (ha : PA X (e :: es) t) (hg : Gl X "Book" := by rfl)
    (he : starEach (e :: es) X.env = (false, eval e X.env) :: starEach es X.env := by rfl) (hpl : (backTo pos (starEach es X.env)).any (·.1) = false := by rfl) : PE X (.Call (.Name "Book" p) (e :: es) [] pos) (tMake C (spInit C) [] E0 t) := by
  obtain ⟨fi, fd, m, f, g, b⟩ := M
  exact pe_make m f hr hg g b .nil pass0 ha (by decide) he hpl
/-- a mutable list that will not change any more -/
theorem SS.freeze {ρ : Rl} {F H0 H : Hp} {σ : L2.St} {Γ : List Ty} {i : Nat} {ds : List PyData} (I : SS ρ H0 F σ H Γ) (hi : Γ[i]? = some (.lst ds)) : ∃ p vs, H0 p = none ∧ H p = some (.lst vs) ∧ SS ρ H0 (upd F p (.lst vs)) σ H (Γ.set i (.dat (.list ds))) := by
  obtain ⟨p, vs, e, hp, td⟩ := I.lst hi
  obtain ⟨f0, f1, f2⟩ := I.fresh i _ p hi rfl e
  refine ⟨p, vs, f0, hp, ?_⟩
  have I2 : SS ρ H0 (upd F p (.lst vs)) σ H (Γ.set i .no) := (I.drop i).frz hp f1 (fun j t hj m ej => by
    rcases get_set hj with ⟨rfl, rfl, _⟩ | ⟨ne, hj⟩
    · cases m
    · exact ne (I.apart i j _ t p hi hj rfl m e ej)) f2
  have I3 := I2.setD i (v := .ref p) (d := .list ds) (.lst upd_same (td.mono (same_new f2) (Tu.refl H)))
  have es : σ.set i (some (.ref p)) = σ := by
    apply List.ext_getElem?
    intro j
    by_cases c : i = j
    · subst c
      rw [List.getElem?_set_self (List.getElem?_eq_some_iff.mp e).1, e]
    · rw [List.getElem?_set_ne c]
  rw [es, List.set_set] at I3
  exact I3
abbrev sealC : Cd (Int × (Int × (List (Mov Item) × List (Mov Int)))) := Cd.num.pair (Cd.num.pair ((mov item).many.pair (mov Cd.num).many))
def mkBk (its : List Item) (mk : Int) (wt : List (Mov Item)) (gn : List (Mov Int)) : Bk := ⟨mkI (its.map fun it => (it.1, it)), mkI wt, mkI gn, mk⟩
def sealIs (its : List Item) : Option (Int × (Int × (List (Mov Item) × List (Mov Int)))) → Option Bk
  | some (mk, (n, (wt, gn))) => if n = its.length then some (mkBk its mk wt gn) else none
  | none => none
def rdSeal (its : List Item) : List Int → Option Bk
  | [] => none
  | c :: r => if c = 8 then sealIs its (whole (sealC.rd r)) else none
theorem dc_is {α : Type} [Inhabited α] (l : List (Mov α)) (toD : α → PyData) : mkI ((List.range l.length).map fun i => ((l.getD i default).1, PyData.tuple [.int (l.getD i default).2.1, .tuple ((l.getD i default).2.2.map toD)])) = (mkI l).map fun p => (p.1, .tuple [.int p.2.1, .tuple (p.2.2.map toD)]) := by
  rw [mkI_map (fun q : Int × List α => PyData.tuple [.int q.1, .tuple (q.2.map toD)]) l]
  congr 1
  exact range_getD l default (fun p => (p.1, PyData.tuple [.int p.2.1, .tuple (p.2.2.map toD)]))
theorem many_rlen {α : Type} (c : Cd α) {l r : List Int} {xs : List α} (hc : Cs l) (h : c.many.rd l = some (xs, r)) : xs.length ≤ l.length := by
  have e := (c.many.bwd _ _ _ hc h).1
  have pos : ∀ ys : List α, ys.length ≤ (ys.flatMap c.pr).length := fun ys => by
    induction ys with
    | nil => simp
    | cons y ys ih =>
      rw [List.flatMap_cons, List.length_append, List.length_cons]
      have := List.length_pos_iff.mpr (c.pos y)
      omega
  have := pos xs
  rw [e, many_pr, List.length_append, List.length_append]
  omega
theorem EvK.is {ρ : Rl} {F : Hp} {t : TE} {Γ : List Ty} {a b : List (Int × PyData)} (h : EvK ρ F t Γ (· = a)) (e : a = b) : EvK ρ F t Γ (· = b) := e ▸ h
/-! read_seal -/
abbrev s39 : Stmt := topS 39
theorem sc39 : FnScope ["body", "items", "mark", "many", "waiting", "gone", "coming", "move", "shard", "things", "given_away", "item"] ["body", "items"] (defScope s39) := ⟨rfl, rfl, rfl, by decide +kernel, rfl, by decide +kernel, by decide +kernel⟩
def spRS (C : Addr) : Sp := fun vs H Q _ => ∃ (F : Hp) (b : List Int) (its : List Item), Same F H ∧ TDs F H vs [dI b, .list (its.map dItem)] ∧ Cs b ∧ b.length ≤ 100000 ∧ its.length ≤ 100000 ∧
  (rdSeal its b = none → ∀ H', Same H H' → Q .non H') ∧ (∀ bk, rdSeal its b = some bk → ∀ v H', Same H H' → ObjD (fz F H H') H' C v (dBk bk) → Q v H')
theorem g39 {fi fk : Addr} {k : Nat} (hk : 2 ≤ k) (D : Df K mg "read_seal" s39 ["body", "items"]) (N : Nm mg) (Cc : Ct mg) (M : MkB P w K mg base C) (m1 : mg "read_moved_item" = some (.ref fi)) (m2 : mg "read_moved_key" = some (.ref fk))
    (g_read_number : Gf P w K mg base 1 "read_number" ["cells", "at"] (spP (cRd rdN .int))) (g_many1 : Gf P w K mg base k "read_many" ["cells", "at", "reader"] (spMany fi (mov item) (dMove dItem))) (g_many2 : Gf P w K mg base k "read_many" ["cells", "at", "reader"] (spMany fk (mov Cd.num) (dMove .int))) :
    Gf P w K mg base (k + 1) "read_seal" ["body", "items"] (spRS C) := by
  refine fn_gen D sc39 (fun vs H Q E ⟨F, b, its, _, t, _⟩ => t.len) fun cdv A outer s f H vs Q E hr c0 => ?_
  obtain ⟨F, b, its, f0, td, hc, hz, hi, qn, qs⟩ := c0
  refine ⟨_, (pss_cons (ps_if (PW.pt (pw_or (pt_cmpR (op_eqD hr.units) (pv 0) (pe_tup pa_nil) (nomark _)) (pw_or1 (pt_cmpR op_ne (pe_ix ix_tup (pv 0) pe_int (fun _ _ => rfl)) (pe_ci Cc.sealw) (nomark _)))))
    (pss_one (ps_ret pe_non))
    pss_nil)
    (pss_cons (ps_set (i := 2) sc39.nd rfl (.inl rfl) (pe_g g_read_number (hr.mono (by omega)) (pa_cons (pv 0) (pa_cons pe_int pa_nil))))
    (pss_cons (ps_set (i := 3) sc39.nd rfl (.inl rfl) (pe_ifExp (pt_cmpR op_isN (pv 2) pe_non (nomark _)) pe_non (pe_g g_read_number (hr.mono (by omega)) (pa_cons (pv 0) (pa_cons (pe_ix ix_tup (pv 2) pe_int (fun _ _ => rfl)) pa_nil)))))
    (pss_cons (ps_set (i := 4) sc39.nd rfl (.inl rfl) (pe_ifExp (pt_cmpR op_isN (pv 3) pe_non (nomark _)) pe_non (pe_g g_many1 hr (pa_cons (pv 0) (pa_cons (pe_ix ix_tup (pv 3) pe_int (fun _ _ => rfl)) (pa_cons (pe_fn m1) pa_nil))))))
    (pss_cons (ps_set (i := 5) sc39.nd rfl (.inl rfl) (pe_ifExp (pt_cmpR op_isN (pv 4) pe_non (nomark _)) pe_non (pe_g g_many2 hr (pa_cons (pv 0) (pa_cons (pe_ix ix_tup (pv 4) pe_int (fun _ _ => rfl)) (pa_cons (pe_fn m2) pa_nil))))))
    (pss_cons (ps_if (PW.pt (pw_or (pt_cmpR op_isN (pv 5) pe_non (nomark _)) (pw_or (pt_cmpR op_ne (pe_ix ix_tup (pv 5) pe_int (fun _ _ => rfl)) (pe_callB call_len_seq (by rfl) N.len PySem.boot_len (pa_cons (pv 0) pa_nil)) (nomark _)) (pw_or1 (pt_cmpR op_ne (pe_ix ix_tup (pv 3) pe_int (fun _ _ => rfl)) (pe_callB call_len_seq (by rfl) N.len PySem.boot_len (pa_cons (pv 1) pa_nil)) (nomark _))))))
    (pss_one (ps_ret pe_non))
    pss_nil)
    (pss_cons (ps_setDc (i := 6) rfl sc39.nd rfl rfl rfl (own := [("move", 7), ("shard", 8), ("things", 9)]) (g := gTup K 3 (gCons (gName 7) (gCons (gName 8) (gCons (gName 9) gNil)))) (tt := tYes) (pi_tup (pe_ix ix_tup (pv 4) pe_int (fun _ _ => rfl))) (blkOk_by (own := [("move", 7), ("shard", 8), ("things", 9)]) (N := ["body", "items", "mark", "many", "waiting", "gone", "coming", "move", "shard", "things", "given_away", "item"]) (sc := defScope s39) (by decide +kernel)) (fun _ _ _ _ _ => (pg_tup rfl (pgs_cons (pg_name (i := 7) sc39.nd rfl (.inl rfl)) (pgs_cons (pg_name (i := 8) sc39.nd rfl (.inl rfl)) (pgs_cons (pg_name (i := 9) sc39.nd rfl (.inl rfl)) pgs_nil))))) (fun _ _ _ _ _ => pts_nil) (fun _ _ _ _ _ => (pv 7)) (fun _ _ _ _ _ => (pe_tup (pa_cons (pv 8) (pa_cons (pv 9) pa_nil)))))
    (pss_cons (ps_setDc (i := 10) rfl sc39.nd rfl rfl rfl (own := [("move", 7), ("shard", 8), ("things", 9)]) (g := gTup K 3 (gCons (gName 7) (gCons (gName 8) (gCons (gName 9) gNil)))) (tt := tYes) (pi_tup (pe_ix ix_tup (pv 5) pe_int (fun _ _ => rfl))) (blkOk_by (own := [("move", 7), ("shard", 8), ("things", 9)]) (N := ["body", "items", "mark", "many", "waiting", "gone", "coming", "move", "shard", "things", "given_away", "item"]) (sc := defScope s39) (by decide +kernel)) (fun _ _ _ _ _ => (pg_tup rfl (pgs_cons (pg_name (i := 7) sc39.nd rfl (.inl rfl)) (pgs_cons (pg_name (i := 8) sc39.nd rfl (.inl rfl)) (pgs_cons (pg_name (i := 9) sc39.nd rfl (.inl rfl)) pgs_nil))))) (fun _ _ _ _ _ => pts_nil) (fun _ _ _ _ _ => (pv 7)) (fun _ _ _ _ _ => (pe_tup (pa_cons (pv 8) (pa_cons (pv 9) pa_nil)))))
    (pss_one (ps_ret (pe_book M (hr.mono hk) (pa_cons (pe_dc (own := [("item", 11)]) (g := gName 11) (tt := tYes) (tk := tOp (rIxT K) _ _) rfl sc39.nd (pi_list (pv 1)) (blkOk_by (own := [("item", 11)]) (N := ["body", "items", "mark", "many", "waiting", "gone", "coming", "move", "shard", "things", "given_away", "item"]) (sc := defScope s39) (by decide +kernel)) (fun _ _ _ _ _ => (pg_name (i := 11) sc39.nd rfl (.inl rfl))) (fun _ _ _ _ _ => pts_nil) (fun _ _ _ _ _ => (pe_ix ix_tup (pv 11) pe_int (fun _ _ => rfl))) (fun _ _ _ _ _ => (pv 11))) (pa_cons (pv 6) (pa_cons (pv 10) (pa_cons (pe_ix ix_tup (pv 2) pe_int (fun _ _ => rfl)) pa_nil))))))))))))))), ?_⟩
  have I := SS.startD (N := ["body", "items", "mark", "many", "waiting", "gone", "coming", "move", "shard", "things", "given_away", "item"]) f0 td (show 2 ≤ 12 by decide)
  show tSeq _ _ _ _ _
  have none0 : rdSeal its b = none → ∀ (v : V) (H' : Hp), Mv rS H H' → TD F H' v .none → Q v H' := fun e v H' m t => by
    cases t
    exact qn e H' m.same
  cases b with
  | nil =>
    refine sq_ifT I (EvB.is (ebd_or (y := true) (eb_nil rfl (shp_dI [])) (fun z => by simp at z)) rfl) fun H' I _ => ?_
    exact st_retIs _ I ed_non fun v H' I m td => none0 rfl v H' I.rel td
  | cons c r =>
  have e0 : decide ((c :: r).map PyData.int = []) = false := decide_eq_false (by simp)
  have eat : atI ((c :: r).map PyData.int) 0 = some (.int c) := ints_at (i := 0) rfl rfl
  by_cases h8 : c = 8
  case neg =>
    refine sq_ifT I (EvB.is (ebd_or (eb_nil rfl (shp_dI (c :: r))) (fun _ => ebd_test (ed_op (ed_op (ed_var rfl) ed_int (od_ixT (K := K) eat)) ed_int od_neI))) (by rw [e0, decide_eq_false h8]; rfl)) fun H' I _ => ?_
    exact st_retIs _ I ed_non fun v H' I m td => none0 (by simp [rdSeal, h8]) v H' I.rel td
  subst h8
  refine sq_ifF I (EvB.is (ebd_or (eb_nil rfl (shp_dI (8 :: r))) (fun _ => ebd_test (ed_op (ed_op (ed_var rfl) ed_int (od_ixT (K := K) eat)) ed_int od_neI))) (by rw [e0, decide_eq_true rfl]; rfl)) fun H' I _ => ?_
  have eR : rdSeal its (8 :: r) = sealIs its (whole (sealC.rd r)) := by simp [rdSeal]
  generalize hcs : (8 :: r : List Int) = cs at *
  have ed1 : cs.drop 1 = r := by rw [← hcs]; rfl
  have l1 : 1 ≤ cs.length := by rw [← hcs]; simp
  refine sq_set I (ed_callP (l := [dI cs, .int ((1 : Nat) : Int)]) (ea_cons (ed_var rfl) (ea_cons (by exact ed_int) ea_nil)) ⟨cs, 1, rfl, hc, l1, hz, rfl⟩) fun σ H' I => ?_
  have bad : ∀ {σ : L2.St} {H' : Hp} {D : Ends} {u : TS} {Γ : List Ty} {ts : TS} {tu : TT}, Γ[5]? = some (.dat .none) → SS rS H F σ H' Γ → (∀ H'', SS rS H F σ H'' Γ → ts { D with nx := u D } σ H'') → tSeq (tIfS (tOr (tTest (tOp (fun x y H Q => y = .non ∧ Q (.bl (decide (x = .non))) H) (tVar 5) (tC .non))) tu) ts tNext) u D σ H' := fun hg I h => sq_ifT I (EvB.is (ebd_or (y := true) (isN hg) (fun z => nomatch z)) rfl) fun H'' I _ => h H'' I
  cases e : rdN (cs.drop 1) with
  | none =>
    have el : sealC.rd r = none := pair_none1 (by rw [← ed1]; exact e)
    rw [el] at eR
    rw [e] at I
    refine sq_set I (d := .none) (ed_if (isN rfl) (fun _ => ed_non) (fun z => nomatch z)) fun σ H' I => ?_
    refine sq_set I (d := .none) (ed_if (isN rfl) (fun _ => ed_non) (fun z => nomatch z)) fun σ H' I => ?_
    refine sq_set I (d := .none) (ed_if (isN rfl) (fun _ => ed_non) (fun z => nomatch z)) fun σ H' I => ?_
    refine bad rfl I fun H' I => ?_
    exact st_retIs _ I ed_non fun v H' I m td => none0 eR v H' I.rel td
  | some p =>
  obtain ⟨mk, r1⟩ := p
  rw [e] at I
  obtain ⟨k1, k2, k3, k4⟩ := rd_end Cd.num hc l1 e
  have c1 : (cs.length : Int) - r1.length = ((cs.length - r1.length : Nat) : Int) := by omega
  dsimp only at I
  rw [c1] at I
  refine sq_set I (ed_if (isS rfl) (fun z => nomatch z) (fun _ => ed_callP (ea_cons (ed_var rfl) (ea_cons (ed_op (ed_var rfl) ed_int (od_ixT (i := 1) rfl)) ea_nil)) ⟨cs, cs.length - r1.length, rfl, hc, k2, hz, rfl⟩)) fun σ H' I => ?_
  rw [← k1] at I
  cases e2 : rdN r1 with
  | none =>
    have el : sealC.rd r = none := pair_none2 (by rw [← ed1]; exact e) (pair_none1 e2)
    rw [el] at eR
    rw [e2] at I
    refine sq_set I (d := .none) (ed_if (isN rfl) (fun _ => ed_non) (fun z => nomatch z)) fun σ H' I => ?_
    refine sq_set I (d := .none) (ed_if (isN rfl) (fun _ => ed_non) (fun z => nomatch z)) fun σ H' I => ?_
    refine bad rfl I fun H' I => ?_
    exact st_retIs _ I ed_non fun v H' I m td => none0 eR v H' I.rel td
  | some p =>
  obtain ⟨n, r2⟩ := p
  have e2' := e2
  rw [k1] at e2'
  rw [e2] at I
  obtain ⟨j1, j2, j3, j4⟩ := rd_end Cd.num hc k2 e2'
  have c2 : (cs.length : Int) - r2.length = ((cs.length - r2.length : Nat) : Int) := by omega
  dsimp only at I
  rw [c2] at I
  refine sq_set I (ed_if (isS rfl) (fun z => nomatch z) (fun _ => ed_many (ed_var rfl) (ed_op (ed_var rfl) ed_int (od_ixT (i := 1) rfl)) hc j2 hz)) fun σ H' I => ?_
  cases e3 : (mov item).many.rd r2 with
  | none =>
    have el : sealC.rd r = none := pair_none2 (by rw [← ed1]; exact e) (pair_none2 e2 (pair_none1 e3))
    rw [el] at eR
    rw [j1] at e3
    rw [resD_none e3] at I
    refine sq_set I (d := .none) (ed_if (isN rfl) (fun _ => ed_non) (fun z => nomatch z)) fun σ H' I => ?_
    refine bad rfl I fun H' I => ?_
    exact st_retIs _ I ed_non fun v H' I m td => none0 eR v H' I.rel td
  | some p =>
  obtain ⟨wt, r3⟩ := p
  have e3' := e3
  rw [j1] at e3'
  rw [resD_some e3'] at I
  obtain ⟨i1, i2, i3, i4⟩ := rd_end (mov item).many hc j2 e3'
  have c3 : (cs.length : Int) - r3.length = ((cs.length - r3.length : Nat) : Int) := by omega
  rw [c3] at I
  refine sq_set I (ed_if (isS rfl) (fun z => nomatch z) (fun _ => ed_many (ed_var rfl) (ed_op (ed_var rfl) ed_int (od_ixT (i := 1) rfl)) hc i2 hz)) fun σ H' I => ?_
  cases e4 : (mov Cd.num).many.rd r3 with
  | none =>
    have el : sealC.rd r = none := pair_none2 (by rw [← ed1]; exact e) (pair_none2 e2 (pair_none2 e3 e4))
    rw [el] at eR
    rw [i1] at e4
    rw [resD_none e4] at I
    refine bad rfl I fun H' I => ?_
    exact st_retIs _ I ed_non fun v H' I m td => none0 eR v H' I.rel td
  | some p =>
  obtain ⟨gn, r4⟩ := p
  have el : sealC.rd r = some ((mk, (n, (wt, gn))), r4) := pair_some (by rw [← ed1]; exact e) (pair_some e2 (pair_some e3 e4))
  rw [el] at eR
  have e4' := e4
  rw [i1] at e4'
  rw [resD_some e4'] at I
  obtain ⟨h1, h2, h3, h4⟩ := rd_end (mov Cd.num).many hc i2 e4'
  have test : ∀ Γ : List Ty, Γ[0]? = some (.dat (dI cs)) → Γ[1]? = some (.dat (.list (its.map dItem))) → Γ[5]? = some (.dat (.tuple [.tuple (gn.map (dMove .int)), .int ((cs.length : Int) - r4.length)])) → Γ[3]? = some (.dat (.tuple [.int n, .int ((cs.length - r2.length : Nat) : Int)])) →
      EvB rS F (tOr (tTest (tOp (fun x y H Q => y = .non ∧ Q (.bl (decide (x = .non))) H) (tVar 5) (tC .non))) (tOr (tTest (tOp rNe (tOp (rIxT K) (tVar 5) (tC (.int 1))) (tCB (rLen K) (tCons (tVar 0) tNil)))) (tTest (tOp rNe (tOp (rIxT K) (tVar 3) (tC (.int 0))) (tCB (rLen K) (tCons (tVar 1) tNil)))))) Γ (· = (!decide (r4.length = 0) || !decide (n = (its.length : Int)))) := fun Γ g0 g1 g5 g3 =>
    EvB.is (ebd_or (isS g5) (fun _ => ebd_or (ebd_test (ed_op (ed_op (ed_var g5) ed_int (od_ixT (K := K) (i := 1) rfl)) (ed_lenTI (ed_var g0)) od_neI)) (fun _ => ebd_test (ed_op (ed_op (ed_var g3) ed_int (od_ixT (K := K) (i := 0) rfl)) (ed_lenR (er_frz (ed_var g1))) od_neI)))) (by
      rw [Bool.false_or, List.length_map]
      congr 2
      exact decide_eq_decide.mpr ⟨fun z => by omega, fun z => by omega⟩)
  by_cases hbad : r4.length = 0 ∧ n = (its.length : Int)
  case neg =>
    have eN : rdSeal its cs = none := by
      rw [eR]
      cases r4 with
      | nil =>
        have : n ≠ (its.length : Int) := fun z => hbad ⟨rfl, z⟩
        simp [whole, sealIs, this]
      | cons _ _ => rfl
    refine sq_ifT I (EvB.is (test _ rfl rfl rfl rfl) ?_) fun H' I _ => ?_
    · by_cases q1 : r4.length = 0
      · have q2 : ¬ n = (its.length : Int) := fun z => hbad ⟨q1, z⟩
        rw [decide_eq_false q2, Bool.not_false, Bool.or_true]
      · rw [decide_eq_false q1]; rfl
    · exact st_retIs _ I ed_non fun v H' I m td => none0 eN v H' I.rel td
  obtain ⟨q1, q2⟩ := hbad
  have eS : rdSeal its cs = some (mkBk its mk wt gn) := by
    rw [eR]
    cases r4 with
    | nil => simp [whole, sealIs, q2]
    | cons _ _ => simp at q1
  refine sq_ifF I (EvB.is (test _ rfl rfl rfl rfl) (by rw [decide_eq_true q1, decide_eq_true q2]; rfl)) fun H' I _ => ?_
  have lw : wt.length ≤ 100000 := by
    have := many_rlen (mov item) (hc.drop _) e3'
    rw [List.length_drop] at this
    omega
  have lg : gn.length ≤ 100000 := by
    have := many_rlen (mov Cd.num) (hc.drop _) e4'
    rw [List.length_drop] at this
    omega
  show tSeq _ _ _ _ _
  refine sq_setN I (EvK.new (l := dWt (mkI wt)) (EvK.is (ek_dc (n := (wt.map (dMove dItem)).length) (f := nth (wt.map (dMove dItem))) (kf := fun i => (wt.getD i default).1) (vf := fun i => .tuple [.int (wt.getD i default).2.1, .tuple ((wt.getD i default).2.2.map dItem)]) (ei_tup (ed_op (ed_var rfl) ed_int (od_ixT (i := 0) rfl))) (three_no rfl rfl rfl) (fun i hi => ?_) (sz (by rw [List.length_map]; omega))) ?_)) fun σ H2 m2 s2 I2 => ?_
  · rw [List.length_map] at hi
    rw [nth_map (dMove dItem) (x := wt.getD i default) (by rw [List.getD_eq_getElem?_getD, List.getElem?_eq_getElem hi]; rfl)]
    exact ⟨_, bw_trip (by decide) (by decide) (by decide), ed_var rfl, ed_tup' (ea_cons (ed_var rfl) (ea_cons (ed_var rfl) ea_nil)) rfl⟩
  · rw [List.length_map]
    exact dc_is wt dItem
  show tSeq _ _ _ _ _
  refine sq_setN I2 (EvK.new (l := dGn (mkI gn)) (EvK.is (ek_dc (n := (gn.map (dMove .int)).length) (f := nth (gn.map (dMove .int))) (kf := fun i => (gn.getD i default).1) (vf := fun i => .tuple [.int (gn.getD i default).2.1, .tuple ((gn.getD i default).2.2.map .int)]) (ei_tup (ed_op (ed_var rfl) ed_int (od_ixT (i := 0) rfl))) (three_no rfl rfl rfl) (fun i hi => ?_) (sz (by rw [List.length_map]; omega))) ?_)) fun σ H3 m3 s3 I3 => ?_
  · rw [List.length_map] at hi
    rw [nth_map (dMove .int) (x := gn.getD i default) (by rw [List.getD_eq_getElem?_getD, List.getElem?_eq_getElem hi]; rfl)]
    exact ⟨_, bw_trip (by decide) (by decide) (by decide), ed_var rfl, ed_tup' (ea_cons (ed_var rfl) (ea_cons (ed_var rfl) ea_nil)) rfl⟩
  · rw [List.length_map]
    exact dc_is gn .int
  have g2 : Grw F H (fz F H' H2) := (Grw.refl F H).frz I.rel.same
  have g3 : Grw F H (fz (fz F H' H2) H2 H3) := g2.frz I2.rel.same
  refine eo_book (st := dSt (mkI (its.map fun it => (it.1, it)))) (wt := dWt (mkI wt)) (gn := dGn (mkI gn)) (m := .int mk) (EvK.new (EvK.is (ek_dc (n := (its.map dItem).length) (f := nth (its.map dItem)) (kf := fun i => (its.getD i default).1) (vf := fun i => dItem (its.getD i default)) (ei_listF (ed_var rfl)) (one_no rfl) (fun i hi => ?_) (sz (by rw [List.length_map]; omega))) ?_)) (EvN.of (ed_var rfl)) (EvN.of (ed_var rfl)) (ed_op (ed_var rfl) ed_int (od_ixT (i := 0) rfl)) _ _ _ I3 _ fun v fs H4 e I4 m4 ob => ?_
  · rw [List.length_map] at hi
    rw [nth_map dItem (x := its.getD i default) (by rw [List.getD_eq_getElem?_getD, List.getElem?_eq_getElem hi]; rfl)]
    exact ⟨_, bw_name, ed_op (a := dItem (its.getD i default)) (ed_var rfl) ed_int (od_ixT (i := 0) rfl), ed_var rfl⟩
  · rw [List.length_map]
    have e5 : dSt (mkI (its.map fun it => (it.1, it))) = mkI ((its.map fun it => (it.1, it)).map fun p => (p.1, dItem p.2)) := mkI_map dItem _
    rw [e5, List.map_map]
    congr 1
    exact range_getD its default (fun it => (it.1, dItem it))
  · subst e
    refine qs _ eS v H4 I4.rel.same ?_
    refine ob.mono ?_ (Tu.refl H4)
    exact (g3.frz I3.rel.same).into f0 (I3.frzA I4).sf
end
end NN
set_option Elab.async false
set_option linter.all false
set_option maxRecDepth 100000
set_option maxHeartbeats 4000000
/-! What the reading of a snapshot gives. -/
namespace NN
open PySem PySem.Spec PyProof.Rows L2 NM
/-! ### tables that were built -/
section
variable {α : Type}
theorem mem_putI {a : List (Int × α)} {k : Int} {d : α} {p : Int × α} (h : p ∈ putI a k d) : p ∈ a ∨ p = (k, d) := by
  unfold putI at h
  split at h
  · obtain ⟨q, hq, e⟩ := List.mem_map.mp h
    by_cases c : q.1 = k
    · rw [if_pos c] at e
      exact .inr (by rw [← e, c])
    · rw [if_neg c] at e
      exact .inl (e ▸ hq)
  · rcases List.mem_append.mp h with h | h
    · exact .inl h
    · exact .inr (List.mem_singleton.mp h)
theorem nodup_putI {a : List (Int × α)} {k : Int} {d : α} (h : (a.map (·.1)).Nodup) : ((putI a k d).map (·.1)).Nodup := by
  unfold putI
  split
  · have e : (a.map fun p => if p.1 = k then (p.1, d) else p).map (·.1) = a.map (·.1) := by
      rw [List.map_map]
      apply List.map_congr_left
      intro p _
      show (if p.1 = k then (p.1, d) else p).1 = p.1
      split <;> rfl
    rw [e]
    exact h
  · rename_i hn
    rw [List.map_append]
    refine List.nodup_append.mpr ⟨h, by simp, fun x hx y hy => ?_⟩
    have : y = k := by simpa using hy
    subst this
    intro z
    subst z
    obtain ⟨p, hp, e⟩ := List.mem_map.mp hx
    exact hn (List.any_eq_true.mpr ⟨p, hp, decide_eq_true e⟩)
theorem fold_props : ∀ (l a : List (Int × α)), (a.map (·.1)).Nodup → ((l.foldl (fun a p => putI a p.1 p.2) a).map (·.1)).Nodup ∧ ∀ p ∈ l.foldl (fun a p => putI a p.1 p.2) a, p ∈ a ∨ p ∈ l
  | [], a, h => ⟨h, fun p hp => .inl hp⟩
  | q :: r, a, h => by
    obtain ⟨h1, h2⟩ := fold_props r (putI a q.1 q.2) (nodup_putI h)
    refine ⟨h1, fun p hp => ?_⟩
    rcases h2 p hp with k | k
    · rcases mem_putI k with k | k
      · exact .inl k
      · exact .inr (by rw [k]; exact List.mem_cons_self)
    · exact .inr (List.mem_cons_of_mem _ k)
theorem nodup_mkI (l : List (Int × α)) : ((mkI l).map (·.1)).Nodup := (fold_props l [] List.nodup_nil).1
theorem mem_mkI {l : List (Int × α)} {p : Int × α} (h : p ∈ mkI l) : p ∈ l := ((fold_props l [] List.nodup_nil).2 p h).resolve_left (by simp)
theorem sum_repl (w : Int × α → Nat) (k : Int) (d : α) : ∀ a : List (Int × α), (a.map (·.1)).Nodup → ((a.map fun p => if p.1 = k then (p.1, d) else p).map w).sum ≤ (a.map w).sum + w (k, d)
  | [], _ => Nat.zero_le _
  | p :: r, h => by
    rw [List.map_cons, List.nodup_cons] at h
    have ih := sum_repl w k d r h.2
    rw [List.map_cons, List.map_cons, List.sum_cons, List.map_cons, List.sum_cons]
    by_cases c : p.1 = k
    · have e : (r.map fun p => if p.1 = k then (p.1, d) else p) = r := by
        conv => rhs; rw [← List.map_id r]
        apply List.map_congr_left
        intro q hq
        have : q.1 ≠ k := fun z => h.1 (by rw [c, ← z]; exact List.mem_map_of_mem hq)
        rw [if_neg this]
        rfl
      rw [e, if_pos c, c]
      omega
    · rw [if_neg c]
      omega
theorem sum_putI (w : Int × α → Nat) {a : List (Int × α)} {k : Int} {d : α} (h : (a.map (·.1)).Nodup) : ((putI a k d).map w).sum ≤ (a.map w).sum + w (k, d) := by
  unfold putI
  split
  · exact sum_repl w k d a h
  · rw [List.map_append, List.sum_append]
    simp
theorem sum_fold (w : Int × α → Nat) : ∀ (l a : List (Int × α)), (a.map (·.1)).Nodup → ((l.foldl (fun a p => putI a p.1 p.2) a).map w).sum ≤ (a.map w).sum + (l.map w).sum
  | [], a, h => by simp
  | q :: r, a, h => by
    have h1 := sum_fold w r (putI a q.1 q.2) (nodup_putI h)
    have h2 := sum_putI w (k := q.1) (d := q.2) h
    rw [List.foldl_cons, List.map_cons, List.sum_cons]
    have e : w (q.1, q.2) = w q := rfl
    omega
theorem sum_mkI (w : Int × α → Nat) (l : List (Int × α)) : ((mkI l).map w).sum ≤ (l.map w).sum := by
  have := sum_fold w l [] List.nodup_nil
  rw [List.map_nil, List.sum_nil, Nat.zero_add] at this
  exact this
theorem flat_len {β : Type} (g : β → List Int) (l : List β) : (l.flatMap g).length = (l.map fun x => (g x).length).sum := List.length_flatMap
theorem srt_sum (w : Int × α → Nat) (l : List (Int × α)) : ((srt l).map w).sum = (l.map w).sum := ((List.mergeSort_perm l _).map w).sum_nat
end
/-! ### reading -/
def rdParts : List (List Int) → Option (List Item)
  | [] => some []
  | b :: bs => match rdPart b with
    | none => none
    | some its => (rdParts bs).map fun r => its ++ r
def rdBook (cs : List Int) : Option Bk := match frs cs with
  | none => none
  | some (bs, r) => if bs = [] ∨ r ≠ [] then none else match rdParts bs.dropLast with
    | none => none
    | some its => rdSeal its (bs.getLastD [])
def rdSnap (cs : List Int) : Option Bk := match rdBook cs with
  | none => none
  | some b => if snap b = cs then some b else none
theorem whole_is {α : Type} {o : Option (α × List Int)} {x : α} (h : whole o = some x) : o = some (x, []) := by
  cases o with
  | none => cases h
  | some p =>
    obtain ⟨y, r⟩ := p
    cases r with
    | nil =>
      cases h
      rfl
    | cons _ _ => cases h
theorem rdPart_back {b : List Int} {its : List Item} (hc : Cs b) (h : rdPart b = some its) : b = recB its ∧ ∀ it ∈ its, item.ok it := by
  cases b with
  | nil => cases h
  | cons c r =>
    replace h : (if c = 7 then whole (item.many.rd r) else none) = some its := h
    by_cases e : c = 7
    · rw [if_pos e] at h
      subst e
      obtain ⟨h1, h2⟩ := item.many.bwd _ _ _ (fun x hx => hc x (List.mem_cons_of_mem _ hx)) (whole_is h)
      rw [List.append_nil] at h1
      exact ⟨by rw [h1]; rfl, h2⟩
    · rw [if_neg e] at h
      cases h
theorem rdSeal_back {b : List Int} {its : List Item} {bk : Bk} (hc : Cs b) (h : rdSeal its b = some bk) : ∃ mk wt gn, b = 8 :: sealC.pr (mk, ((its.length : Int), (wt, gn))) ∧ sealC.ok (mk, ((its.length : Int), (wt, gn))) ∧ bk = mkBk its mk wt gn := by
  cases b with
  | nil => cases h
  | cons c r =>
    replace h : (if c = 8 then sealIs its (whole (sealC.rd r)) else none) = some bk := h
    by_cases e : c = 8
    · rw [if_pos e] at h
      subst e
      cases q : whole (sealC.rd r) with
      | none => rw [q] at h; cases h
      | some x =>
        obtain ⟨mk, n, wt, gn⟩ := x
        rw [q] at h
        replace h : (if n = (its.length : Int) then some (mkBk its mk wt gn) else none) = some bk := h
        by_cases e : n = (its.length : Int)
        · rw [if_pos e] at h
          subst e
          obtain ⟨h1, h2⟩ := sealC.bwd _ _ _ (fun x hx => hc x (List.mem_cons_of_mem _ hx)) (whole_is q)
          rw [List.append_nil] at h1
          exact ⟨mk, wt, gn, by rw [← h1], h2, (Option.some.inj h).symm⟩
        · rw [if_neg e] at h
          cases h
    · rw [if_neg e] at h
      cases h
theorem nxt_back {l b r : List Int} (hc : Cs l) (h : nxt l = some (some (b, r))) : l = frm b ++ r := by
  unfold nxt at h
  cases q : rdN l with
  | none =>
    rw [q] at h
    simp only at h
    split at h <;> cases h
  | some p =>
    obtain ⟨n, r1⟩ := p
    rw [q] at h
    obtain ⟨h1, h2⟩ := Cd.num.bwd _ _ _ hc q
    have h2' : 0 ≤ n := h2
    simp only at h
    split at h
    · cases h
    · rename_i hn
      split at h
      · rename_i he
        injection h with h
        injection h with h
        injection h with e1 e2
        subst e1; subst e2
        obtain ⟨hlt, hg⟩ := List.getElem?_eq_some_iff.mp he
        have el : ((r1.take n.toNat).length : Int) = n := by
          rw [List.length_take]
          omega
        have hd : r1.drop n.toNat = endc (r1.take n.toNat) :: r1.drop (n.toNat + 1) := by
          rw [List.drop_eq_getElem_cons hlt, hg]
        unfold frm
        rw [el, List.append_assoc, List.append_assoc, List.singleton_append, ← hd, List.take_append_drop]
        exact h1
      · cases h
theorem frs_back : ∀ (n : Nat) {l : List Int} {bs : List (List Int)} {r : List Int}, l.length ≤ n → Cs l → frs l = some (bs, r) → l = joined bs ++ r
  | n, l, bs, r, hn, hc, h => by
    cases e : nxt l with
    | none => rw [frs_none e] at h; cases h
    | some o =>
      cases o with
      | none =>
        rw [frs_end e] at h
        cases h
        rfl
      | some q =>
        obtain ⟨b, r1⟩ := q
        have sh := nxt_sh e
        have e1 := nxt_back hc e
        rw [frs_go e] at h
        cases e2 : frs r1 with
        | none => rw [e2] at h; cases h
        | some q =>
          obtain ⟨bs', r'⟩ := q
          rw [e2] at h
          cases h
          cases n with
          | zero => omega
          | succ n =>
            have ih := frs_back n (by omega) (show Cs r1 from fun x hx => hc x (by rw [e1]; exact List.mem_append_right _ hx)) e2
            rw [e1, ih]
            show _ = frm b ++ joined bs' ++ _
            rw [List.append_assoc]
theorem parts_back : ∀ {bs : List (List Int)} {its : List Item}, (∀ b ∈ bs, Cs b) → rdParts bs = some its → (∀ it ∈ its, item.ok it) ∧ (its.map fun it => (item.pr it).length).sum ≤ (bs.map List.length).sum
  | [], its, _, h => by
    cases h
    exact ⟨by simp, by simp⟩
  | b :: bs, its, hc, h => by
    unfold rdParts at h
    cases e : rdPart b with
    | none => rw [e] at h; cases h
    | some x =>
      rw [e] at h
      cases e2 : rdParts bs with
      | none => rw [e2] at h; cases h
      | some y =>
        rw [e2] at h
        cases h
        obtain ⟨h1, h2⟩ := rdPart_back (hc b List.mem_cons_self) e
        obtain ⟨h3, h4⟩ := parts_back (fun b hb => hc b (List.mem_cons_of_mem _ hb)) e2
        refine ⟨fun it hm => (List.mem_append.mp hm).elim (h2 it) (h3 it), ?_⟩
        have l1 : b.length = 1 + ((nc (x.length : Int)).length + (x.flatMap item.pr).length) := by
          rw [h1, recB_eq]
          simp only [List.length_append, List.length_singleton]
        rw [flat_len] at l1
        rw [List.map_append, List.sum_append, List.map_cons, List.sum_cons]
        omega
end NN
set_option Elab.async false
set_option linter.all false
set_option maxRecDepth 100000
set_option maxHeartbeats 4000000
/-! How large a read book's snapshot is. -/
namespace NN
open PySem PySem.Spec PyProof.Rows L2 NM
section
variable {β : Type}
theorem chk_nil {s : Nat} (hs : 1 ≤ s) : chk s ([] : List β) = [] := by
  unfold chk
  rw [List.length_nil, Nat.zero_add, Nat.div_eq_of_lt (by omega)]
  rfl
theorem chk_cons {s : Nat} (hs : 1 ≤ s) {l : List β} (hl : l ≠ []) : chk s l = l.take s :: chk s (l.drop s) := by
  have h1 := List.length_pos_iff.mpr hl
  have e1 : (l.length + s - 1) / s = (l.length - 1) / s + 1 := by
    rw [show l.length + s - 1 = l.length - 1 + s by omega, Nat.add_div_right _ (by omega)]
  have e2 : ((l.drop s).length + s - 1) / s = (l.length - 1) / s := by
    rw [List.length_drop]
    by_cases c : s < l.length
    · rw [show l.length - s + s - 1 = l.length - 1 by omega]
    · rw [show l.length - s = 0 by omega, Nat.zero_add, Nat.div_eq_of_lt (by omega), Nat.div_eq_of_lt (by omega)]
  unfold chk
  rw [e1, e2, List.range_succ_eq_map, List.map_cons, List.map_map]
  congr 1
  · apply List.map_congr_left
    intro i _
    show (l.drop (s * (i + 1))).take s = ((l.drop s).drop (s * i)).take s
    rw [List.drop_drop, Nat.mul_succ, Nat.add_comm]
theorem chk_flat {s : Nat} (hs : 1 ≤ s) : ∀ (n : Nat) (l : List β), l.length ≤ n → (chk s l).flatten = l
  | n, [], _ => by rw [chk_nil hs]; rfl
  | 0, _ :: _, h => by simp at h
  | n + 1, x :: r, h => by
    rw [chk_cons hs (by simp), List.flatten_cons, chk_flat hs n _ (by rw [List.length_drop]; simp at h ⊢; omega), List.take_append_drop]
theorem chk_sum {s : Nat} (hs : 1 ≤ s) (w : β → Nat) (l : List β) : ((chk s l).map fun c => (c.map w).sum).sum = (l.map w).sum := by
  have h : ∀ L : List (List β), (L.map fun c => (c.map w).sum).sum = (L.flatten.map w).sum := fun L => by
    induction L with
    | nil => rfl
    | cons c r ih => rw [List.map_cons, List.sum_cons, ih, List.flatten_cons, List.map_append, List.sum_append]
  rw [h, chk_flat hs _ l (Nat.le_refl _)]
theorem chk_len {s : Nat} (hs : 1 ≤ s) (l : List β) : (chk s l).length ≤ l.length := by
  unfold chk
  rw [List.length_map, List.length_range]
  cases l with
  | nil => rw [List.length_nil, Nat.zero_add, Nat.div_eq_of_lt (by omega)]; exact Nat.le_refl _
  | cons x r =>
    rw [List.length_cons, show r.length + 1 + s - 1 = r.length + s by omega, Nat.add_div_right _ (by omega)]
    have := Nat.div_le_self r.length s
    omega
theorem len_le_sum (w : β → Nat) (hw : ∀ x, 1 ≤ w x) : ∀ l : List β, l.length ≤ (l.map w).sum
  | [] => Nat.zero_le _
  | x :: r => by
    have := len_le_sum w hw r
    have := hw x
    rw [List.length_cons, List.map_cons, List.sum_cons]
    omega
theorem sum_bound (f g : β → Nat) (a b : Nat) (h : ∀ x, f x ≤ a + b * g x) : ∀ l : List β, (l.map f).sum ≤ a * l.length + b * (l.map g).sum
  | [] => Nat.zero_le _
  | x :: r => by
    have h1 := sum_bound f g a b h r
    have h2 := h x
    rw [List.map_cons, List.map_cons, List.sum_cons, List.sum_cons, List.length_cons, Nat.mul_add, Nat.mul_add]
    omega
end
theorem frm_le (l : List Int) : (frm l).length ≤ 2 * l.length + 2 := by
  have := nc_lenN l.length
  unfold frm
  simp only [List.length_append, List.length_singleton]
  omega
abbrev wI (it : Item) : Nat := (item.pr it).length
theorem wI_pos (it : Item) : 1 ≤ wI it := List.length_pos_iff.mpr (item.pos it)
theorem recB_len (c : List Item) : (recB c).length ≤ 2 + 2 * (c.map wI).sum := by
  have h1 := nc_lenN c.length
  have h2 := len_le_sum wI wI_pos c
  rw [recB_eq]
  simp only [List.length_append, List.length_singleton]
  rw [flat_len]
  have e : (c.map fun x => (item.pr x).length).sum = (c.map wI).sum := rfl
  omega
theorem movd_len {α : Type} (c : Cd α) (t : List (Mov α)) : (movd c (mkI t)).length ≤ 1 + 2 * (t.map fun p => ((mov c).pr p).length).sum := by
  have h1 := nc_lenN (mkI t).length
  have h2 := mkI_len t
  have h3 := len_le_sum (fun p => ((mov c).pr p).length) (fun p => List.length_pos_iff.mpr ((mov c).pos p)) t
  have h4 : ((mkI t).map fun p : Mov α => ((mov c).pr p).length).sum ≤ (t.map fun p : Mov α => ((mov c).pr p).length).sum := sum_mkI (fun p : Mov α => ((mov c).pr p).length) t
  have g : (movd c (mkI t)).length = (nc ((mkI t).length : Int)).length + ((mkI t).map fun p : Mov α => ((mov c).pr p).length).sum := by
    rw [movd_eq, List.length_append, flat_len]
    exact congrArg _ (srt_sum (fun p : Mov α => ((mov c).pr p).length) (mkI t))
  rw [g]
  omega
theorem mkBk_len (its : List Item) (mk : Int) (wt : List (Mov Item)) (gn : List (Mov Int)) : (snap (mkBk its mk wt gn)).length ≤ 12 * (its.map wI).sum + 10 * (8 :: sealC.pr (mk, ((its.length : Int), (wt, gn)))).length + 10 ∧ (mkBk its mk wt gn).st.length ≤ (its.map wI).sum := by
  have T := len_le_sum wI wI_pos its
  have s1 := mkI_len (its.map fun it => (it.1, it))
  rw [List.length_map] at s1
  have hst : (mkBk its mk wt gn).st.length ≤ its.length := s1
  refine ⟨?_, by omega⟩
  rw [snap_eq, List.length_append, flat_len]
  have hsum : (((srt (mkBk its mk wt gn).st).map (·.2)).map wI).sum ≤ (its.map wI).sum := by
    rw [List.map_map]
    have e := srt_sum (fun p : Int × Item => wI p.2) (mkBk its mk wt gn).st
    have h := sum_mkI (fun p : Int × Item => wI p.2) (its.map fun it => (it.1, it))
    rw [List.map_map] at h
    calc _ = _ := e
      _ ≤ _ := h
  generalize hl : (srt (mkBk its mk wt gn).st).map (·.2) = l at hsum
  have hll : l.length ≤ its.length := by rw [← hl, List.length_map, srt_len]; exact hst
  have c1 := sum_bound (fun c => (frm (recB c)).length) (fun c : List Item => (c.map wI).sum) 6 4 (fun c => by
    have := frm_le (recB c)
    have := recB_len c
    omega) (chk 8 l)
  rw [chk_sum (by decide) wI l] at c1
  have c2 := chk_len (s := 8) (by decide) l
  have f1 := frm_le (sealB (mkBk its mk wt gn))
  have e : (sealB (mkBk its mk wt gn)).length = 1 + ((nc mk).length + ((nc ((mkBk its mk wt gn).st.length : Int)).length + ((movd item (mkI wt)).length + (movd Cd.num (mkI gn)).length))) := by
    show (8 :: (nc mk ++ (nc _ ++ (movd item (mkI wt) ++ movd Cd.num (mkI gn))))).length = _
    simp only [List.length_cons, List.length_append]
    omega
  have n1 := nc_lenN (mkBk its mk wt gn).st.length
  have m1 := movd_len item wt
  have m2 := movd_len Cd.num gn
  have el : (8 :: sealC.pr (mk, ((its.length : Int), (wt, gn)))).length = 1 + ((nc mk).length + ((nc (its.length : Int)).length + (((nc (wt.length : Int)).length + (wt.map fun p => ((mov item).pr p).length).sum) + ((nc (gn.length : Int)).length + (gn.map fun p => ((mov Cd.num).pr p).length).sum)))) := by
    show (8 :: (nc mk ++ (nc (its.length : Int) ++ ((nc (wt.length : Int) ++ wt.flatMap (mov item).pr) ++ (nc (gn.length : Int) ++ gn.flatMap (mov Cd.num).pr))))).length = _
    simp only [List.length_cons, List.length_append, flat_len]
    omega
  rw [el]
  omega
theorem frs_sum {cs : List Int} {bs : List (List Int)} (h : cs = joined bs) : (bs.map List.length).sum ≤ cs.length := by
  show (bs.map fun b => b.length).sum ≤ _
  rw [h]
  unfold joined
  rw [flat_len]
  have := sum_bound (fun b : List Int => b.length) (fun b => (frm b).length) 0 1 (fun b => by have := frm_ge b; omega) bs
  omega
theorem body_cs {cs : List Int} {bs : List (List Int)} (hc : Cs cs) (h : cs = joined bs) : ∀ b ∈ bs, Cs b := fun b hb x hx => hc x (by
  rw [h]
  refine List.mem_flatMap.mpr ⟨b, hb, ?_⟩
  unfold frm
  exact List.mem_append_right _ (List.mem_append_left _ hx))
theorem rdBook_ok {cs : List Int} {b : Bk} (hc : Cs cs) (h : rdBook cs = some b) : okB b ∧ (snap b).length ≤ 12 * cs.length + 10 ∧ b.st.length ≤ cs.length := by
  unfold rdBook at h
  cases e : frs cs with
  | none => rw [e] at h; cases h
  | some p =>
    obtain ⟨bs, r⟩ := p
    rw [e] at h
    replace h : (if bs = [] ∨ r ≠ [] then none else match rdParts bs.dropLast with
      | none => none
      | some its => rdSeal its (bs.getLastD [])) = some b := h
    by_cases c : bs = [] ∨ r ≠ []
    · rw [if_pos c] at h; cases h
    · rw [if_neg c] at h
      have hb : bs ≠ [] := fun z => c (.inl z)
      have hr : r = [] := Classical.byContradiction fun z => c (.inr z)
      subst hr
      have ej := frs_back _ (Nat.le_refl _) hc e
      rw [List.append_nil] at ej
      have hcs := body_cs hc ej
      have hsum := frs_sum ej
      have el : bs = bs.dropLast ++ [bs.getLast hb] := (List.dropLast_concat_getLast hb).symm
      have eg : bs.getLastD [] = bs.getLast hb := List.getLastD_eq_getLast? ▸ by rw [List.getLast?_eq_getLast hb]; rfl
      cases e2 : rdParts bs.dropLast with
      | none => rw [e2] at h; cases h
      | some its =>
        rw [e2] at h
        replace h : rdSeal its (bs.getLastD []) = some b := h
        rw [eg] at h
        obtain ⟨h1, h2⟩ := parts_back (fun x hx => hcs x (List.dropLast_subset _ hx)) e2
        obtain ⟨mk, wt, gn, h3, h4, h5⟩ := rdSeal_back (hcs _ (List.getLast_mem hb)) h
        obtain ⟨k1, k2⟩ := mkBk_len its mk wt gn
        rw [el, List.map_append, List.sum_append] at hsum
        simp only [List.map_cons, List.map_nil, List.sum_cons, List.sum_nil, Nat.add_zero] at hsum
        rw [← h3] at k1
        subst h5
        have h2 : (its.map wI).sum ≤ (bs.dropLast.map List.length).sum := h2
        have o1 : 0 ≤ mk := h4.1
        have o2 : ∀ p ∈ wt, (mov item).ok p := h4.2.2.1
        have o3 : ∀ p ∈ gn, (mov Cd.num).ok p := h4.2.2.2
        refine ⟨⟨nodup_mkI _, nodup_mkI _, nodup_mkI _, fun p hp => ?_, fun p hp => o2 p (mem_mkI hp), fun p hp => o3 p (mem_mkI hp), o1⟩, by omega, by omega⟩
        obtain ⟨it, hit, e⟩ := List.mem_map.mp (mem_mkI hp)
        rw [← e]
        exact h1 it hit
end NN
set_option Elab.async false
set_option linter.all false
set_option maxRecDepth 100000
set_option maxHeartbeats 4000000
namespace NN
open PySem PySem.Spec PyProof.Rows L2 NM
local macro_rules | `(tactic| walk_at "ev") => `(tactic| ((fail_if_success (first | with_reducible apply gd1 | with_reducible apply gd2 | with_reducible apply gd3 | with_reducible apply gd4 | with_reducible apply gd5)); first
  | with_reducible exact ed_int | with_reducible exact ed_str | with_reducible exact ed_bl | with_reducible exact ed_non
  | ((with_reducible apply ed_var); rfl) | ((with_reducible apply er_var); rfl)
  | with_reducible exact ea_nil | ((with_reducible apply ea_cons) <;> walk_at "ev")
  | with_reducible exact od_int | with_reducible exact od_bool | exact od_intC (by decide) | exact od_intC ⟨by decide, by decide⟩ | exact od_intC (.inl ⟨by decide, by decide⟩) | with_reducible exact ud_int | with_reducible exact od_eqI | with_reducible exact od_neI | with_reducible exact od_strLt | with_reducible exact od_ip
  | ((with_reducible apply ed_op) <;> walk_at "ev")
  | ((with_reducible apply ed_un) <;> walk_at "ev")
  | ((with_reducible apply ed_tup') <;> walk_at "ev")
  | ((with_reducible apply el_lst') <;> walk_at "ev")
  | ((with_reducible apply ebd_test) <;> walk_at "ev")
  | ((with_reducible apply ebd_val) <;> walk_at "ev")
  | ((with_reducible refine ed_lenT ?_) <;> walk_at "ev")
  | ((with_reducible apply ed_lenR) <;> walk_at "ev")
  | ((with_reducible apply ed_tupleR) <;> walk_at "ev")
  | ((with_reducible apply EvL.rd) <;> walk_at "ev")
  | with_reducible exact eo_none
  | ((with_reducible apply eo_some) <;> walk_at "ev")
  | ((with_reducible apply ed_slT) <;> walk_at "ev")
  | ((with_reducible apply ebd_not) <;> walk_at "ev")
  | ((with_reducible apply ei_tup) <;> walk_at "ev")
  | rfl
  | skip))
section
variable {P : Program} {w : World} {K : PySem.W.Frag} {mg : Str → Option Value} {base : Heap}
variable {C Cb fI : Addr}
theorem rdParts_append : ∀ a b : List (List Int), rdParts (a ++ b) = (rdParts a).bind fun x => (rdParts b).map fun y => x ++ y
  | [], b => by
    show rdParts b = (rdParts b).map fun y => [] ++ y
    cases rdParts b <;> rfl
  | c :: a, b => by
    show (match rdPart c with
      | none => none
      | some its => (rdParts (a ++ b)).map fun r => its ++ r) = (match rdPart c with
      | none => none
      | some its => (rdParts a).map fun r => its ++ r).bind _
    rw [rdParts_append a b]
    cases rdPart c with
    | none => rfl
    | some its =>
      cases rdParts a with
      | none => rfl
      | some x =>
        cases rdParts b with
        | none => rfl
        | some y =>
          show some (its ++ (x ++ y)) = some (its ++ x ++ y)
          rw [List.append_assoc]
theorem rdParts_more {l : List (List Int)} {i : Nat} {c : List Int} {x its : List Item} (h : rdParts (l.take i) = some x) (hc : l[i]? = some c) (hp : rdPart c = some its) : rdParts (l.take (i + 1)) = some (x ++ its) := by
  rw [List.take_add_one, hc, rdParts_append, h]
  show (rdParts [c]).map _ = _
  have e : rdParts [c] = some its := by
    show (match rdPart c with
      | none => none
      | some its => (some []).map fun r => its ++ r) = _
    rw [hp]
    show some (its ++ []) = _
    rw [List.append_nil]
  rw [e]
  rfl
theorem rdParts_stop {l : List (List Int)} {i : Nat} {c : List Int} {x : List Item} (h : rdParts (l.take i) = some x) (hc : l[i]? = some c) (hp : rdPart c = none) : rdParts l = none := by
  have e : l = l.take i ++ c :: l.drop (i + 1) := by
    obtain ⟨h1, h2⟩ := List.getElem?_eq_some_iff.mp hc
    rw [← h2, ← List.drop_eq_getElem_cons h1, List.take_append_drop]
  rw [e, rdParts_append, h]
  have e2 : rdParts (c :: l.drop (i + 1)) = none := by
    show (match rdPart c with
      | none => none
      | some its => (rdParts (l.drop (i + 1))).map fun r => its ++ r) = none
    rw [hp]
  rw [e2]
  rfl
theorem ed_rsN {ρ : Rl} {F : Hp} {Γ : List Ty} {E : XK} {tr : TA} {b : List Int} {its : List Item} (h : EvA ρ F tr Γ (· = [dI b, .list (its.map dItem)])) (hc : Cs b) (hb : b.length ≤ 100000) (hi : its.length ≤ 100000) (e : rdSeal its b = none) : EvD ρ F (tCall (spRS C) [] E tr) Γ .none := fun H0 σ H I Q q =>
  h H0 σ H I _ fun vs ds H1 pd I1 m1 t1 => by
    subst pd
    show spRS C (vs ++ []) H1 Q E
    rw [List.append_nil]
    exact ⟨F, b, its, I1.sf, t1, hc, hb, hi, fun _ H' s => q .non _ H' rfl (I1.same s) (m1.trans (Mv.of s)) .non, fun bk e2 => by rw [e] at e2; cases e2⟩
theorem eo_rsS {ρ : Rl} {F : Hp} {Γ : List Ty} {E : XK} {tr : TA} {b : List Int} {its : List Item} {bk : Bk} (h : EvA ρ F tr Γ (· = [dI b, .list (its.map dItem)])) (hc : Cs b) (hb : b.length ≤ 100000) (hi : its.length ≤ 100000) (e : rdSeal its b = some bk) : EvOb ρ F C (tCall (spRS C) [] E tr) Γ (· = dBk bk) := fun H0 σ H I Q q =>
  h H0 σ H I _ fun vs ds H1 pd I1 m1 t1 => by
    subst pd
    show spRS C (vs ++ []) H1 Q E
    rw [List.append_nil]
    refine ⟨F, b, its, I1.sf, t1, hc, hb, hi, (fun e2 => by rw [e] at e2; cases e2), fun bk2 e2 v H' s o => ?_⟩
    rw [e] at e2
    cases e2
    refine q v _ H' rfl (I1.same s) (m1.trans (Mv.of s)) (o.mono (fun a x hx => ?_) (Tu.refl H'))
    cases z : H1 a with
    | none =>
      rw [fz_new z] at hx
      have zh : H a = none := m1.free (I1.newown z) z
      rw [fz_new zh]
      exact hx
    | some y =>
      rw [fz_old z] at hx
      rw [fz_old (I.sf a x hx)]
      exact hx
theorem eb_objS {ρ : Rl} {F : Hp} {Γ : List Ty} {i : Nat} {fs : List (Str × PyData)} (h : Γ[i]? = some (.obj C fs)) : EvB ρ F (tTest (tOp (fun x y H Q => y = .non ∧ Q (.bl (!decide (x = .non))) H) (tVar i) (tC .non))) Γ (· = true) := fun H0 σ H I Q q => by
  obtain ⟨v, e, b, dx, vs, rfl, h1, h2⟩ := I.has i _ h (fun z => by cases z)
  have e2 : (!decide (V.ref b = V.non)) = true := by simp
  exact ⟨_, e, rfl, _, rfl, by rw [e2]; exact q true H rfl I (Mv.refl ρ H)⟩
theorem le_sum : ∀ {l : List Nat} {x : Nat}, x ∈ l → x ≤ l.sum
  | [], _, h => by cases h
  | y :: r, x, h => by
    rw [List.sum_cons]
    rcases List.mem_cons.mp h with e | h
    · omega
    · have := le_sum h
      omega
theorem cutD_init {α : Type} (xs : List α) : cutD xs none (some (-1)) = xs.dropLast := by
  unfold cutD
  rw [HT.sIx_none, List.drop_zero, Nat.sub_zero, List.dropLast_eq_take]
  congr 1
  have e : HT.sIx xs.length xs.length (some (-1)) = (-1 + (xs.length : Int)).toNat := by simp [HT.sIx]
  rw [e]
  omega
/-! read_snapshot -/
abbrev s41 : Stmt := topS 41
theorem sc41 : FnScope ["cells", "bodies", "many", "items", "body", "part", "book"] ["cells"] (defScope s41) := ⟨rfl, rfl, rfl, by decide +kernel, rfl, by decide +kernel, by decide +kernel⟩
def spSN (C : Addr) : Sp := fun vs H Q _ => ∃ (F : Hp) (cs : List Int), Same F H ∧ TDs F H vs [dI cs] ∧ Cs cs ∧ cs.length ≤ 30000 ∧
  (rdSnap cs = none → ∀ H', Same H H' → Q .non H') ∧ (∀ bk, rdSnap cs = some bk → ∀ v H', Same H H' → ObjD (fz F H H') H' C v (dBk bk) → Q v H')
theorem g41 {k : Nat} (hk : 6 ≤ k) (D : Df K mg "read_snapshot" s41 ["cells"]) (N : Nm mg) (B : BkC K C) (T : PySem.Brk.Txt P K mg Cb fI) (g_read_frames : GfX P w K mg base 4 "read_frames" ["cells"] (spX Cb cFRS)) (g_read_part : Gf P w K mg base k "read_part" ["body"] (spP cPA))
    (g_read_seal : Gf P w K mg base k "read_seal" ["body", "items"] (spRS C)) (g_snapshot_cells : Gf P w K mg base 6 "snapshot_cells" ["book"] (spSC C)) : Gf P w K mg base (k + 1) "read_snapshot" ["cells"] (spSN C) := by
  refine fn_gen D sc41 (fun vs H Q E ⟨F, cs, _, t, _⟩ => t.len) fun cdv A outer s f H vs Q E hr c0 => ?_
  obtain ⟨F, cs, f0, td, hc, hz, qn, qs⟩ := c0
  refine ⟨_, (pss_cons (ps_try_only (tb := fun W => tAsg (tCallS (spX Cb cFRS) (WE W) (tCons (tVar 0) tNil)) (gTup K 2 (gCons (gName 1) (gCons (gName 2) gNil)))) (ts := fun _ _ _ => tRet (tC .non)) (Wout := fun _ _ _ _ => False) (c := .ref Cb) rfl rfl ⟨rfl, by decide, .inl T.gC⟩ takes0
      (fun W pn xe tk _ => pss_one (ps_asg (pe_gX g_read_frames (hr.mono (by omega)) tk (pa_cons (pv 0) pa_nil)) (pg_tup rfl (pgs_cons (pg_name (i := 1) sc41.nd rfl (.inl rfl)) (pgs_cons (pg_name (i := 2) sc41.nd rfl (.inl rfl)) pgs_nil)))))
      (fun a oe cls d pn hz hf => pss_one (ps_ret pe_non)))
    (pss_cons (ps_if (PW.pt (pw_or (pt_cmpR (op_eqD hr.units) (pv 1) (pe_tup pa_nil) (nomark _)) (pw_or1 (pt_cmpR op_lt (pv 2) (pe_callB call_len_seq (by rfl) N.len PySem.boot_len (pa_cons (pv 0) pa_nil)) (nomark _)))))
    (pss_one (ps_ret pe_non))
    pss_nil)
    (pss_cons (ps_set (i := 3) sc41.nd rfl (.inl rfl) (pe_lst pa_nil))
    (pss_cons (ps_for PassesOwn.never rfl (pi_tup (pe_slice sl_tupA (pv 1) po_none (po_some (pe_un un_neg pe_int)))) (pg_name (i := 4) sc41.nd rfl (.inl rfl))
    (pss_cons (ps_set (i := 5) sc41.nd rfl (.inl rfl) (pe_g g_read_part hr (pa_cons (pv 4) pa_nil)))
    (pss_cons (ps_if (pt_cmpR op_isN (pv 5) pe_non (nomark _))
    (pss_one (ps_ret pe_non))
    pss_nil)
    (pss_one (ps_expr (pe_bm PySem.F.plainAttrs_list PySem.F.slot_list_extend PySem.F.type_list_extend mt_extend (pv 3) (pa_cons (pe_callTy call_list_of (by rfl) N.list (by decide +kernel) (pa_cons (pv 5) pa_nil)) pa_nil)))))))
    (pss_cons (ps_set (i := 6) sc41.nd rfl (.inl rfl) (pe_g g_read_seal hr (pa_cons (pe_ix ix_tup (pv 1) (pe_un un_neg pe_int) (fun _ _ => rfl)) (pa_cons (pv 3) pa_nil))))
    (pss_one (ps_ret (pe_ifExp (PW.pt (pw_and (pt_cmpR op_notN (pv 6) pe_non (nomark _)) (pw_and1 (pt_cmpR (op_eqD hr.units) (pe_g g_snapshot_cells (hr.mono hk) (pa_cons (pv 6) pa_nil)) (pv 0) (nomark _))))) (pv 6) pe_non)))))))), ?_⟩
  have I := SS.startD (N := ["cells", "bodies", "many", "items", "body", "part", "book"]) f0 td (show 1 ≤ 7 by decide)
  have none0 : rdSnap cs = none → ∀ (v : V) (H' : Hp), Mv rS H H' → TD F H' v .none → Q v H' := fun e v H' m t => by
    cases t
    exact qn e H' m.same
  show tSeq _ _ _ _ _
  cases e : frs cs with
  | none =>
    have eb : rdSnap cs = none := by
      unfold rdSnap rdBook
      rw [e]
    have ed : dFr cs = none := by
      unfold dFr
      rw [e]
    refine xq_set (C := Cb) (W := wOnly _ _ _ _ _) I (ex_callX (R := cFRS) (l := [dI cs]) (ea_cons (ed_var rfl) ea_nil) ⟨cs, rfl, hc, by omega, ed.symm⟩) fun a H' I _ => ?_
    exact ⟨true, T.te, fun _ a' _ => qn eb H' I.rel.same, fun z => nomatch z⟩
  | some p =>
  obtain ⟨bs, r⟩ := p
  have ed : dFr cs = some (.tuple [.tuple (bs.map dI), .int ((cs.length : Int) - r.length)]) := by
    unfold dFr
    rw [e]
  refine sq_asgG I (ed_callX (R := cFRS) (l := [dI cs]) (ea_cons (ed_var rfl) ea_nil) ⟨cs, rfl, hc, by omega, ed.symm⟩) (bg_tup rfl (bgs_cons bg_name (bgs_cons bg_name bgs_nil))) fun σ H' _ I => ?_
  have rle : r.length ≤ cs.length := by
    have := frs_back _ (Nat.le_refl _) hc e
    rw [this, List.length_append]
    omega
  have test : EvB rS F (tOr (tTest (tOp (rEqD K) (tVar 1) (tTup tNil))) (tTest (tOp (rI0 fun i j => .bl (decide (i < j))) (tVar 2) (tCB (rLen K) (tCons (tVar 0) tNil))))) [.dat (dI cs), .dat (.tuple (bs.map dI)), .dat (.int ((cs.length : Int) - r.length)), .no, .no, .no, .no] (· = (decide (bs = []) || !decide (r = []))) :=
    EvB.is (ebd_or (eb_nil rfl (shp_dIs bs)) (fun _ => ebd_test (ed_op (ed_var rfl) (ed_lenTI (ed_var rfl)) (od_bool (f := fun i j => decide (i < j)))))) (by
      congr 1
      · exact decide_eq_decide.mpr ⟨fun z => List.map_eq_nil_iff.mp z, fun z => by rw [z]; rfl⟩
      · cases r with
        | nil => simp
        | cons x r =>
          rw [decide_eq_true (by rw [List.length_cons]; omega)]
          simp)
  by_cases hbad : bs = [] ∨ r ≠ []
  · have eb : rdSnap cs = none := by
      unfold rdSnap rdBook
      rw [e]
      simp only [if_pos hbad]
    refine sq_ifT I (EvB.is test ?_) fun H' I _ => ?_
    · rcases hbad with z | z
      · rw [decide_eq_true z]; rfl
      · rw [decide_eq_false z, Bool.not_false, Bool.or_true]
    · exact st_retIs _ I ed_non fun v H' I m td => none0 eb v H' I.rel td
  have hb : bs ≠ [] := fun z => hbad (.inl z)
  have hr0 : r = [] := Classical.byContradiction fun z => hbad (.inr z)
  have eBn : rdParts bs.dropLast = none → rdBook cs = none := fun z => by
    unfold rdBook
    rw [e]
    simp only [if_neg hbad, z]
  have eBs : ∀ its, rdParts bs.dropLast = some its → rdBook cs = rdSeal its (bs.getLastD []) := fun its z => by
    unfold rdBook
    rw [e]
    simp only [if_neg hbad, z]
  refine sq_ifF I (EvB.is test (by rw [decide_eq_false hb, decide_eq_true hr0]; rfl)) fun H' I _ => ?_
  subst hr0
  have ej := frs_back _ (Nat.le_refl _) hc e
  rw [List.append_nil] at ej
  have hcs := body_cs hc ej
  have hsum := frs_sum ej
  have hlen : ∀ b ∈ bs, b.length ≤ cs.length := fun b hbm => by
    have : b.length ≤ (bs.map List.length).sum := le_sum (List.mem_map_of_mem (f := List.length) hbm)
    omega
  have el : bs = bs.dropLast ++ [bs.getLast hb] := (List.dropLast_concat_getLast hb).symm
  have eg : bs.getLastD [] = bs.getLast hb := List.getLastD_eq_getLast? ▸ by rw [List.getLast?_eq_getLast hb]; rfl
  refine sq_setL (PL := (· = [])) I (by walk_at "ev") fun ds σ H' pd I => ?_
  subst pd
  have ecut : cutD (bs.map dI) none (some (-1)) = bs.dropLast.map dI := by
    rw [cutD_init, List.map_dropLast]
  refine sq_forA (α := List Item) [] (fun i its => rdParts (bs.dropLast.take i) = some its) I (ei_tup (EvS.is (ed_slT (ed_var rfl) eo_none (eo_some (ed_un ed_int ud_int))) (by rw [ecut])))
    (fun i its => [.dat (dI cs), .dat (.tuple (bs.map dI)), .dat (.int ((cs.length : Int) - ([] : List Int).length)), .lst (its.map dItem), .no, .no, .no]) (fun i its => [.dat (dI cs), .dat (.tuple (bs.map dI)), .dat (.int ((cs.length : Int) - ([] : List Int).length)), .lst (its.map dItem), .dat (nth (bs.dropLast.map dI) i), .no, .no]) rfl (fun H0 σ H I => I) (fun i x hi => bg_name) ?_ ?_
  · intro H0' σ H2 hs i its hi hp I
    rw [List.length_map] at hi
    have hg : bs.dropLast[i]? = some bs.dropLast[i] := List.getElem?_eq_getElem hi
    have hm : bs.dropLast[i] ∈ bs := List.dropLast_subset _ (List.getElem_mem hi)
    generalize bs.dropLast[i] = b at hg hm
    rw [nth_map dI hg] at I
    show tSeq _ _ _ _ _
    refine sq_set I (ed_callP (by walk_at "ev") ⟨b, rfl, hcs b hm, by have := hlen b hm; omega, rfl⟩) fun σ H2 I => ?_
    show tSeq _ _ _ _ _
    cases e2 : rdPart b with
    | none =>
      rw [e2] at I
      have eb : rdSnap cs = none := by
        unfold rdSnap
        rw [eBn (rdParts_stop hp hg e2)]
      refine sq_ifT I (isN rfl) fun H2 I _ => ?_
      refine st_retIs _ I ed_non fun v H2 I m td => ?_
      exact none0 eb v H2 ((Mv.of hs).trans I.rel) td
    | some more =>
      rw [e2] at I
      refine sq_ifF I (isS rfl) fun H2 I _ => ?_
      have hp2 := rdParts_more hp hg e2
      have hsz : (its ++ more).length ≤ 100000 := by
        have h1 := (parts_back (fun b hb => hcs b (List.dropLast_subset _ (List.mem_of_mem_take hb))) hp2).2
        have h2 := len_le_sum wI wI_pos (its ++ more)
        have h3 : ((bs.dropLast.take (i + 1)).map List.length).sum ≤ (bs.map List.length).sum := by
          have e1 : bs = bs.dropLast.take (i + 1) ++ (bs.dropLast.drop (i + 1) ++ [bs.getLast hb]) := by
            rw [← List.append_assoc, List.take_append_drop]
            exact el
          conv => rhs; rw [e1]
          rw [List.map_append, List.sum_append]
          exact Nat.le_add_right _ _
        have h4 : ((its ++ more).map wI).sum ≤ ((bs.dropLast.take (i + 1)).map List.length).sum := h1
        omega
      refine st_extend (es := more.map dItem) I rfl (EvL.rd (el_cb (PA := (· = [.tuple (more.map dItem)])) (ea_cons (ed_var rfl) ea_nil) (fun l e => by subst e; exact cl_listT))) (sz (by rw [List.length_map, List.length_map]; rw [List.length_append] at hsz; omega)) fun H2 I => ?_
      refine ⟨its ++ more, hp2, ?_⟩
      show SS rS H0' F σ H2 [.dat (dI cs), .dat (.tuple (bs.map dI)), .dat (.int ((cs.length : Int) - ([] : List Int).length)), .lst ((its ++ more).map dItem), .no, .no, .no]
      rw [List.map_append]
      exact (I.drop 4).drop 5
  · intro σ H2 its hp I
    rw [List.length_map, List.take_length] at hp
    have eB := eBs its hp
    rw [eg] at eB
    have hlast := List.getLast_mem hb
    have eat : atI (bs.map dI) (-1) = some (dI (bs.getLast hb)) := by
      conv => lhs; rw [el]
      rw [List.map_append]
      exact atI_last _ _
    have hl1 := hcs _ hlast
    have hl2 := hlen _ hlast
    generalize bs.getLast hb = lb at eB hl1 hl2 eat
    have hsz : its.length ≤ 100000 := by
      have h1 := (parts_back (fun b hb => hcs b (List.dropLast_subset _ hb)) hp).2
      have h2 := len_le_sum wI wI_pos its
      have h3 : (bs.dropLast.map List.length).sum ≤ (bs.map List.length).sum := by
        conv => rhs; rw [el]
        rw [List.map_append, List.sum_append]
        exact Nat.le_add_right _ _
      have h4 : (its.map wI).sum ≤ (bs.dropLast.map List.length).sum := h1
      omega
    obtain ⟨p, vs2, p0, hp1, I⟩ := I.freeze (i := 3) rfl
    have g1 : Grw F H (upd F p (.lst vs2)) := fun a o h => by
      by_cases c : a = p
      · subst c; exact .inr p0
      · rw [upd_ne c] at h; exact .inl h
    cases e3 : rdSeal its lb with
    | none =>
      rw [e3] at eB
      have eb : rdSnap cs = none := by
        unfold rdSnap
        rw [eB]
      refine sq_set (d := .none) I (ed_rsN (ea_cons (ed_op (ed_var rfl) (ed_un ed_int ud_int) (od_ixT (K := K) eat)) (ea_cons (ed_var rfl) ea_nil)) hl1 (by omega) hsz e3) fun σ H3 I => ?_
      refine st_retIs .none I (ed_if (EvB.is (ebd_and (y := false) (isN2 rfl) (fun z => nomatch z)) rfl) (fun z => nomatch z) (fun _ => ed_non)) fun v H3 I m td => ?_
      cases td
      exact qn eb H3 I.rel.same
    | some bk =>
      rw [e3] at eB
      obtain ⟨ob, bl, bl2⟩ := rdBook_ok hc eB
      refine sq_setO I (eo_rsS (ea_cons (ed_op (ed_var rfl) (ed_un ed_int ud_int) (od_ixT (K := K) eat)) (ea_cons (ed_var rfl) ea_nil)) hl1 (by omega) hsz e3) fun σ H3 m3 s3 I3 => ?_
      have g2 := g1.frz (Ha := H2) (Hb := H3) I.rel.same
      have test2 := ebd_and (y := decide (snap bk = cs)) (eb_objS (i := 6) (C := C) (fs := dBk bk) (Γ := [.dat (dI cs), .dat (.tuple (bs.map dI)), .dat (.int ((cs.length : Int) - ([] : List Int).length)), .dat (.list (its.map dItem)), .no, .no, .obj C (dBk bk)]) (ρ := rS) (F := fz (upd F p (.lst vs2)) H2 H3) rfl) (fun _ => ebd_test (EvS.is (ed_op (b := dI cs) (ed_callB (i := 6) (C := C) (E := E0) (x := ()) (ok := fun b (_ : Unit) => okB b ∧ (snap b).length ≤ 600000 ∧ b.st.length ≤ 100000) (R := fun b _ => dI (snap b)) (g := fun _ => []) rfl ea_nil ⟨ob, by omega, by omega⟩) (ed_var (i := 0) rfl) (od_eqD (K := K) (shp_dI _) (shp_dI _))) (by rw [eqv_dI])))
      refine test2 _ _ _ I3 _ fun k H4 ek I4 m4 => ?_
      subst ek
      rw [Bool.true_and]
      by_cases hk2 : snap bk = cs
      · have eb : rdSnap cs = some bk := by
          unfold rdSnap
          rw [eB]
          exact if_pos hk2
        rw [decide_eq_true hk2, if_pos rfl]
        obtain ⟨v, ev, o⟩ := I4.has 6 (.obj C (dBk bk)) rfl (fun z => by cases z)
        exact ⟨v, ev, qs bk eb v H4 I4.rel.same (o.mono (g2.into f0 I4.sf) (Tu.refl H4))⟩
      · have eb : rdSnap cs = none := by
          unfold rdSnap
          rw [eB]
          exact if_neg hk2
        rw [decide_eq_false hk2, if_neg (by simp)]
        exact qn eb H4 I4.rel.same
end
end NN
set_option Elab.async false
set_option linter.all false
set_option maxRecDepth 100000
set_option maxHeartbeats 4000000
namespace NN
open PySem PySem.Spec PyProof.Rows L2 NM
local macro_rules | `(tactic| walk_at "ev") => `(tactic| ((fail_if_success (first | with_reducible apply gd1 | with_reducible apply gd2 | with_reducible apply gd3 | with_reducible apply gd4 | with_reducible apply gd5)); first
  | with_reducible exact ed_int | with_reducible exact ed_str | with_reducible exact ed_bl | with_reducible exact ed_non
  | ((with_reducible apply ed_var); rfl) | ((with_reducible apply er_var); rfl)
  | with_reducible exact ea_nil | ((with_reducible apply ea_cons) <;> walk_at "ev")
  | with_reducible exact od_int | with_reducible exact od_bool | exact od_intC (by decide) | exact od_intC ⟨by decide, by decide⟩ | exact od_intC (.inl ⟨by decide, by decide⟩) | with_reducible exact ud_int | with_reducible exact od_eqI | with_reducible exact od_neI | with_reducible exact od_strLt | with_reducible exact od_ip
  | ((with_reducible apply ed_op) <;> walk_at "ev")
  | ((with_reducible apply ed_un) <;> walk_at "ev")
  | ((with_reducible apply ed_tup') <;> walk_at "ev")
  | ((with_reducible apply el_lst') <;> walk_at "ev")
  | ((with_reducible apply ebd_test) <;> walk_at "ev")
  | ((with_reducible apply ebd_val) <;> walk_at "ev")
  | ((with_reducible refine ed_lenT ?_) <;> walk_at "ev")
  | ((with_reducible apply ed_lenR) <;> walk_at "ev")
  | ((with_reducible apply ed_tupleR) <;> walk_at "ev")
  | ((with_reducible apply EvL.rd) <;> walk_at "ev")
  | with_reducible exact eo_none
  | ((with_reducible apply eo_some) <;> walk_at "ev")
  | ((with_reducible apply ed_slT) <;> walk_at "ev")
  | ((with_reducible apply ebd_not) <;> walk_at "ev")
  | ((with_reducible apply ei_tup) <;> walk_at "ev")
  | rfl
  | skip))
section
variable {P : Program} {w : World} {K : PySem.W.Frag} {mg : Str → Option Value} {base : Heap}
abbrev rInt1 : List V → Hp → VK → Prop := fun xs H Q => (∃ i, xs = [.int i] ∧ Q (.int i) H) ∨ ∃ k, xs = [.bl k] ∧ Q (.int (if k then 1 else 0)) H
theorem ed_int1 {ρ : Rl} {F : Hp} {Γ : List Ty} {ta : TE} {i : Int} (h : EvD ρ F ta Γ (.int i)) : EvD ρ F (tCB rInt1 (tCons ta tNil)) Γ (.int i) :=
  ed_cb (l := [.int i]) (ea_cons h ea_nil) fun H x s t Q q => by
    cases t with
    | cons a b =>
      cases b
      cases a
      exact .inl ⟨i, rfl, q _ _ H rfl (Same.refl H) (.int i)⟩
theorem es_int1 {ρ : Rl} {F : Hp} {Γ : List Ty} {ta : TE} {p : Int → Prop} (h : EvS ρ F ta Γ (fun d => ∃ i, d = .int i ∧ p i)) : EvS ρ F (tCB rInt1 (tCons ta tNil)) Γ (fun d => ∃ i, d = .int i ∧ p i) := fun H0 σ H I Q q =>
  h H0 σ H I _ fun v d H1 pd I1 m1 t1 => by
    obtain ⟨i, rfl, pi⟩ := pd
    cases t1
    exact .inl ⟨i, rfl, q _ _ H1 ⟨i, rfl, pi⟩ I1 m1 (.int i)⟩
theorem ed_int1b {ρ : Rl} {F : Hp} {Γ : List Ty} {ta : TE} {k : Bool} (h : EvD ρ F ta Γ (.bool k)) : EvD ρ F (tCB rInt1 (tCons ta tNil)) Γ (.int (if k then 1 else 0)) :=
  ed_cb (l := [.bool k]) (ea_cons h ea_nil) fun H x s t Q q => by
    cases t with
    | cons a b =>
      cases b
      cases a
      exact .inr ⟨k, rfl, q _ _ H rfl (Same.refl H) (.int _)⟩
/-! _law_number_cells -/
abbrev s46 : Stmt := topS 46
theorem sc46 : FnScope ["_law_number", "_law_found"] ["_law_number"] (defScope s46) := ⟨rfl, rfl, rfl, by decide +kernel, rfl, by decide +kernel, by decide +kernel⟩
theorem g46 (D : Df K mg "_law_number_cells" s46 ["_law_number"]) (N : Nm mg) : Gf P w K mg base 1 "_law_number_cells" ["_law_number"] (spP cNC) := by
  refine fn_data D sc46 (fun ds d ⟨n, e, _⟩ => by rw [e]; rfl) fun cdv A outer s f H F vs E ds d hr c => ?_
  obtain ⟨n, rfl, hn, hz, rfl⟩ := c
  refine ⟨_, (pss_cons (ps_set (i := 1) sc46.nd rfl (.inl rfl) (pe_lst pa_nil))
    (pss_cons (ps_while PassesOwn.never (pt_cmpR op_gt (pv 0) pe_int (nomark _))
    (pss_cons (ps_expr (pe_bm PySem.F.plainAttrs_list PySem.F.slot_list_append PySem.F.type_list_append mt_append (pv 1) (pa_cons (pe_op op_add pe_int (pe_op op_mod (pe_callTy call_int1 (by rfl) N.int (by decide +kernel) (pa_cons (pv 0) pa_nil)) pe_int)) pa_nil)))
    (pss_one (ps_set (i := 0) sc46.nd rfl (.inl rfl) (pe_op op_fdiv (pv 0) pe_int)))))
    (pss_one (ps_ret (pe_callTy call_tuple_of (by rfl) N.tuple (by decide +kernel) (pa_cons (pe_op op_cat (pv 1) (pe_lst (pa_cons (pv 0) pa_nil))) pa_nil)))))), ?_⟩
  intro σ I Q q
  show tSeq _ _ _ _ _
  refine sq_setL I (by walk_at "ev") fun ds σ H e I => ?_
  subst e
  refine sq_while (α := Int × List Int) (n, []) (fun x => 0 ≤ x.1 ∧ x.2 ++ nc x.1 = nc n) (fun x => [.dat (.int x.1), .lst (x.2.map .int)]) (fun x => x.1.toNat) I ⟨hn, rfl⟩ fun x hx => ?_
  obtain ⟨m, acc⟩ := x
  obtain ⟨hm, ha⟩ := hx
  have hm : 0 ≤ m := hm
  have ha : acc ++ nc m = nc n := ha
  refine ⟨decide (127 < m), by walk_at "ev", fun hb σ H I => ?_, fun hb σ H I => ?_⟩
  · have hb := of_decide_eq_true hb
    have e := nc_big hb
    rw [e] at ha
    have hl := congrArg List.length ha
    rw [List.length_append, List.length_cons] at hl
    refine sq_appendD I rfl (ed_op ed_int (ed_op (ed_int1 (ed_var rfl)) ed_int (od_intC (by decide))) od_int) (sz' (by rw [List.length_map]; show acc.length < _; omega)) fun H I => ?_
    refine st_set I (by walk_at "ev") fun σ H I => ?_
    refine ⟨(m / 128, acc ++ [128 + m % 128]), ?_, ⟨?_, ?_⟩, ?_⟩
    · show (m / 128).toNat < m.toNat
      omega
    · show 0 ≤ m / 128
      omega
    · show acc ++ [128 + m % 128] ++ nc (m / 128) = nc n
      rw [List.append_assoc]
      exact ha
    · rw [List.map_append]
      exact I
  · have hb := of_decide_eq_false hb
    rw [nc_small hb] at ha
    have hl := congrArg List.length ha
    rw [List.length_append, List.length_singleton] at hl
    refine st_ret I (ed_tupleR (EvL.rd (eld_cat (by walk_at "ev") (by walk_at "ev") (sz (by rw [List.length_map, List.length_singleton]; show acc.length + 1 ≤ _; omega))))) fun v d H' pd I m td => ?_
    subst pd
    refine q _ v H' (Same.refl _) I.rel ?_
    rw [← ha]
    show TD F H' v (.tuple ((acc ++ [_]).map .int))
    rw [List.map_append]
    exact td
/-! _law_framed -/
abbrev s48 : Stmt := topS 48
theorem sc48 : FnScope ["_law_body", "_law_at"] ["_law_body"] (defScope s48) := ⟨rfl, rfl, rfl, by decide +kernel, rfl, by decide +kernel, by decide +kernel⟩
theorem g48 (D : Df K mg "_law_framed" s48 ["_law_body"]) (N : Nm mg) (g_n : Gf P w K mg base 1 "_law_number_cells" ["_law_number"] (spP cNC)) : Gf P w K mg base 2 "_law_framed" ["_law_body"] (spP cFR) := by
  refine fn_data D sc48 (fun ds d ⟨n, e, _⟩ => by rw [e]; rfl) fun cdv A outer s f H F vs E ds d hr c => ?_
  obtain ⟨ns, rfl, hz, rfl⟩ := c
  refine ⟨_, (pss_one (ps_ret (pe_op op_catA (pe_op op_catA (pe_g g_n (hr.mono (by decide)) (pa_cons (pe_callB call_len_seq (by rfl) N.len PySem.boot_len (pa_cons (pv 0) pa_nil)) pa_nil)) (pv 0)) (pe_tup (pa_cons (pe_op op_mod (pe_callTy call_int1 (by rfl) N.int (by decide +kernel) (pa_cons (pe_callB (cr_sum rfl) (by rfl) N.sum (by decide +kernel) (pa_cons (pe_lc (own := [("_law_at", 1)]) (g := gName 1) (tt := tYes) (te := tOp _ _ (tOp (rIxT K) _ _)) rfl sc48.nd (pi_range1 rfl N.range (pa_cons (pe_callB call_len_seq (by rfl) N.len PySem.boot_len (pa_cons (pv 0) pa_nil)) pa_nil)) (blkOk_by (own := [("_law_at", 1)]) (N := ["_law_body", "_law_at"]) (sc := defScope s48) (by decide +kernel)) (fun _ _ _ _ _ => (pg_name (i := 1) sc48.nd rfl (.inl rfl))) (fun _ _ _ _ _ => pts_nil) (fun _ _ _ _ _ => (pe_op op_mul (pe_op op_add (pv 1) pe_int) (pe_ix ix_tup (pv 0) (pv 1) (fun _ _ => rfl))))) pa_nil)) pa_nil)) pe_int) pa_nil))))), ?_⟩
  intro σ I Q q
  show tRet _ _ _ _
  have hn := nc_lenN ns.length
  refine st_retIs (dI (nc ns.length ++ ns ++ [endc ns])) I (ed_op (b := dI [endc ns]) (ed_op (ed_callP (ea_cons (ed_lenTI (ed_var rfl)) ea_nil) ⟨ns.length, rfl, by omega, by omega, rfl⟩) (ed_var rfl) (od_catI (by omega))) (ed_tup' (ea_cons (EvS.is (a := .int ((((List.range ns.length).map fun k : Nat => ((k : Int) + 1) * ns.getD k 0).sum) % 251)) (ed_op (ed_int1 (ed_sum (ns := (List.range ns.length).map fun k : Nat => ((k : Int) + 1) * ns.getD k 0) (EvL.rd (EvL.is (el_lcR (n := ns.length) (h := fun k => .int (((k : Int) + 1) * ns.getD k 0)) (ea_cons (ed_lenTI (ed_var rfl)) ea_nil) rfl rfl (fun k hk => ?_) (by omega)) (by rw [List.map_map]; rfl))))) ed_int (od_intC (by decide))) ?_) ea_nil) rfl) (od_catI (by rw [List.length_append, List.length_singleton]; omega))) fun v H' I m td => ?_
  · have hg : ns[k]? = some (ns.getD k 0) := by rw [List.getD_eq_getElem?_getD, List.getElem?_eq_getElem hk]; rfl
    exact ed_op (ed_op (ed_var rfl) ed_int od_int) (ed_op (ed_var rfl) (ed_var rfl) (od_ixT (K := K) (ints_at rfl hg))) (od_intC (.inl ⟨by omega, by omega⟩))
  · have e := wsum_eq ns 0
    simp only [Nat.zero_add] at e
    rw [e]
    rfl
  · refine q _ v H' (Same.refl _) I.rel ?_
    rw [List.append_assoc] at td
    exact td
end
end NN
set_option Elab.async false
set_option linter.all false
set_option maxRecDepth 100000
set_option maxHeartbeats 4000000
namespace NN
open PySem PySem.Spec PyProof.Rows L2 NM
local macro_rules | `(tactic| walk_at "ev") => `(tactic| ((fail_if_success (first | with_reducible apply gd1 | with_reducible apply gd2 | with_reducible apply gd3 | with_reducible apply gd4 | with_reducible apply gd5)); first
  | with_reducible exact ed_int | with_reducible exact ed_str | with_reducible exact ed_bl | with_reducible exact ed_non
  | ((with_reducible apply ed_var); rfl) | ((with_reducible apply er_var); rfl)
  | with_reducible exact ea_nil | ((with_reducible apply ea_cons) <;> walk_at "ev")
  | with_reducible exact od_int | with_reducible exact od_bool | exact od_intC (by decide) | exact od_intC ⟨by decide, by decide⟩ | exact od_intC (.inl ⟨by decide, by decide⟩) | with_reducible exact ud_int | with_reducible exact od_eqI | with_reducible exact od_neI | with_reducible exact od_strLt | with_reducible exact od_ip
  | ((with_reducible apply ed_op) <;> walk_at "ev")
  | ((with_reducible apply ed_un) <;> walk_at "ev")
  | ((with_reducible apply ed_tup') <;> walk_at "ev")
  | ((with_reducible apply el_lst') <;> walk_at "ev")
  | ((with_reducible apply ebd_test) <;> walk_at "ev")
  | ((with_reducible apply ebd_val) <;> walk_at "ev")
  | ((with_reducible refine ed_lenT ?_) <;> walk_at "ev")
  | ((with_reducible apply ed_lenR) <;> walk_at "ev")
  | ((with_reducible apply ed_tupleR) <;> walk_at "ev")
  | ((with_reducible apply EvL.rd) <;> walk_at "ev")
  | with_reducible exact eo_none
  | ((with_reducible apply eo_some) <;> walk_at "ev")
  | ((with_reducible apply ed_slT) <;> walk_at "ev")
  | ((with_reducible apply ebd_not) <;> walk_at "ev")
  | ((with_reducible apply ei_tup) <;> walk_at "ev")
  | rfl
  | skip))
section
variable {P : Program} {w : World} {K : PySem.W.Frag} {mg : Str → Option Value} {base : Heap}
/-! _law_item_cells -/
abbrev s47 : Stmt := topS 47
theorem sc47 : FnScope ["_law_item_here", "_law_found", "_law_part", "_law_name", "_law_value", "_law_sign"] ["_law_item_here"] (defScope s47) := ⟨rfl, rfl, rfl, by decide +kernel, rfl, by decide +kernel, by decide +kernel⟩
def cLI (ds : List PyData) (d : PyData) : Prop := ∃ it : Item, ds = [dItem it] ∧ item.ok it ∧ (item.pr it).length ≤ 1000000 ∧ it.2.1.length ≤ 127 ∧ it.2.2.length ≤ 127 ∧ d = dI (item.pr it)
theorem nc_one {n : Nat} (h : n ≤ 127) : nc (n : Int) = [(n : Int)] := nc_small (by omega)
theorem g47 (D : Df K mg "_law_item_cells" s47 ["_law_item_here"]) (N : Nm mg) (g_n : Gf P w K mg base 1 "_law_number_cells" ["_law_number"] (spP cNC)) : Gf P w K mg base 2 "_law_item_cells" ["_law_item_here"] (spP cLI) := by
  refine fn_data D sc47 (fun ds d ⟨n, e, _⟩ => by rw [e]; rfl) fun cdv A outer s f H F vs E ds d hr c => ?_
  obtain ⟨⟨key, vec, ls⟩, rfl, hok, hz, hv, hls, rfl⟩ := c
  refine ⟨_, (pss_cons (ps_set (i := 1) sc47.nd rfl (.inl rfl) (pe_op op_catA (pe_g g_n (hr.mono (by decide)) (pa_cons (pe_ix ix_tup (pv 0) pe_int (fun _ _ => rfl)) pa_nil)) (pe_tup (pa_cons (pe_callB call_len_seq (by rfl) N.len PySem.boot_len (pa_cons (pe_ix ix_tup (pv 0) pe_int (fun _ _ => rfl)) pa_nil)) pa_nil))))
    (pss_cons (ps_for PassesOwn.never rfl (pi_tup (pe_ix ix_tup (pv 0) pe_int (fun _ _ => rfl))) (pg_name (i := 2) sc47.nd rfl (.inl rfl))
    (pss_one (ps_set (i := 1) sc47.nd rfl (.inl rfl) (pe_op op_catA (pv 1) (pe_g g_n (hr.mono (by decide)) (pa_cons (pe_ifExp (pt_cmpR op_ge (pv 2) pe_int (nomark _)) (pe_op op_mul pe_int (pv 2)) (pe_op op_sub (pe_op op_sub pe_int (pe_op op_mul pe_int (pv 2))) pe_int)) pa_nil))))))
    (pss_cons (ps_set (i := 1) sc47.nd rfl (.inl rfl) (pe_op op_catA (pv 1) (pe_tup (pa_cons (pe_callB call_len_seq (by rfl) N.len PySem.boot_len (pa_cons (pe_ix ix_tup (pv 0) pe_int (fun _ _ => rfl)) pa_nil)) pa_nil))))
    (pss_cons (ps_for PassesOwn.never rfl (pi_tup (pe_ix ix_tup (pv 0) pe_int (fun _ _ => rfl))) (pg_tup rfl (pgs_cons (pg_name (i := 3) sc47.nd rfl (.inl rfl)) (pgs_cons (pg_name (i := 4) sc47.nd rfl (.inl rfl)) pgs_nil)))
    (pss_cons (ps_set (i := 1) sc47.nd rfl (.inl rfl) (pe_op op_catA (pe_op op_catA (pv 1) (pe_tup (pa_cons (pe_callB call_len_str (by rfl) N.len PySem.boot_len (pa_cons (pv 3) pa_nil)) pa_nil))) (pe_callTy call_tuple_of (by rfl) N.tuple (by decide +kernel) (pa_cons (pe_lc (own := [("_law_sign", 5)]) (g := gName 5) (tt := tYes) (te := tBM K "str" rSI (tC (.str letters)) (tCons (tVar 5) tNil)) rfl sc47.nd (pi_str (pv 3)) (blkOk_by (own := [("_law_sign", 5)]) (N := ["_law_item_here", "_law_found", "_law_part", "_law_name", "_law_value", "_law_sign"]) (sc := defScope s47) (by decide +kernel)) (fun _ _ _ _ _ => (pg_name (i := 5) sc47.nd rfl (.inl rfl))) (fun _ _ _ _ _ => pts_nil) (fun _ _ _ _ _ => (pe_index pe_str (pa_cons (pv 5) pa_nil)))) pa_nil))))
    (pss_one (ps_set (i := 1) sc47.nd rfl (.inl rfl) (pe_op op_catA (pv 1) (pe_g g_n (hr.mono (by decide)) (pa_cons (pe_ifExp (pt_cmpR op_ge (pv 4) pe_int (nomark _)) (pe_op op_mul pe_int (pv 4)) (pe_op op_sub (pe_op op_sub pe_int (pe_op op_mul pe_int (pv 4))) pe_int)) pa_nil)))))))
    (pss_one (ps_ret (pv 1))))))), ?_⟩
  intro σ I Q q
  show tSeq _ _ _ _ _
  have hk : 0 ≤ key := hok.1
  have hnm : ∀ p ∈ ls, okName p.1 := fun p hp => (hok.2.2.1 p hp).1
  dsimp only at hv hls
  rw [item_pr] at hz q
  dsimp only at hz q
  rw [nc_one hv, nc_one hls] at hz q
  simp only [List.length_append, List.length_singleton] at hz
  have e1 : atI [PyData.int key, dI vec, PyData.tuple (ls.map dLab)] 0 = some (.int key) := rfl
  have e2 : atI [PyData.int key, dI vec, PyData.tuple (ls.map dLab)] 1 = some (dI vec) := rfl
  have e3 : atI [PyData.int key, dI vec, PyData.tuple (ls.map dLab)] 2 = some (.tuple (ls.map dLab)) := rfl
  have S0 : ∀ {Γ : List Ty}, Γ[0]? = some (.dat (dItem (key, vec, ls))) → EvD rS F (tOp (rIxT K) (tVar 0) (tC (.int 0))) Γ (.int key) := fun h => ed_op (ed_var (d := .tuple [PyData.int key, dI vec, PyData.tuple (ls.map dLab)]) h) ed_int (od_ixT e1)
  have S1 : ∀ {Γ : List Ty}, Γ[0]? = some (.dat (dItem (key, vec, ls))) → EvD rS F (tOp (rIxT K) (tVar 0) (tC (.int 1))) Γ (dI vec) := fun h => ed_op (ed_var (d := .tuple [PyData.int key, dI vec, PyData.tuple (ls.map dLab)]) h) ed_int (od_ixT e2)
  have S2 : ∀ {Γ : List Ty}, Γ[0]? = some (.dat (dItem (key, vec, ls))) → EvD rS F (tOp (rIxT K) (tVar 0) (tC (.int 2))) Γ (.tuple (ls.map dLab)) := fun h => ed_op (ed_var (d := .tuple [PyData.int key, dI vec, PyData.tuple (ls.map dLab)]) h) ed_int (od_ixT e3)
  refine sq_set I (ed_op (b := dI [(vec.length : Int)]) (ed_callP (ea_cons (S0 rfl) ea_nil) ⟨key, rfl, hk, by omega, rfl⟩) (ed_tup' (ea_cons (ed_lenTI (S1 rfl)) ea_nil) rfl) (od_catI (by simp only [List.length_singleton]; omega))) fun σ H I => ?_
  refine sq_for I (ei_tup (S1 rfl)) (fun i => [.dat (dItem (key, vec, ls)), .dat (dI ((nc key ++ [(vec.length : Int)]) ++ (vec.take i).flatMap NM.int.pr)), .no, .no, .no, .no]) (fun i => [.dat (dItem (key, vec, ls)), .dat (dI ((nc key ++ [(vec.length : Int)]) ++ (vec.take i).flatMap NM.int.pr)), .dat (nth (vec.map .int) i), .no, .no, .no]) ?_ (fun i hi => bg_name) ?_ ?_
  · intro H0 σ H I
    have e : (nc key ++ [(vec.length : Int)]) ++ (vec.take 0).flatMap NM.int.pr = nc key ++ [(vec.length : Int)] := by simp
    rw [e]
    exact I
  · intro H0' σ H hs i hi I
    rw [List.length_map] at hi
    have hg : vec[i]? = some vec[i] := List.getElem?_eq_getElem hi
    have hm : vec[i] ∈ vec := List.getElem_mem hi
    generalize vec[i] = x at hg hm
    rw [nth_map PyData.int hg] at I
    have b1 := flat_le NM.int.pr hm
    have b2 := flat_take_le NM.int.pr vec i
    have b3 : (nc (zig x)).length = (NM.int.pr x).length := rfl
    refine st_set I (ed_op (b := dI (nc (zig x))) (ed_var rfl) (ed_callP (ea_cons (EvS.is (b := .int (zig x)) (ed_ifc (c := 0 ≤ x) (by walk_at "ev") (fun _ => by walk_at "ev") (fun _ => by walk_at "ev")) ?_) ea_nil) ⟨zig x, rfl, zig_nn x, by omega, rfl⟩) (od_catI (by simp only [List.length_append, List.length_singleton]; omega))) fun σ H I => ?_
    · unfold zig
      split
      · rfl
      · congr 1
        omega
    · have e : (nc key ++ [(vec.length : Int)]) ++ (vec.take (i + 1)).flatMap NM.int.pr = (nc key ++ [(vec.length : Int)]) ++ (vec.take i).flatMap NM.int.pr ++ nc (zig x) := by
        rw [take_flat _ hg, ← List.append_assoc]
        rfl
      show SS rS H0' F σ H _
      rw [e]
      exact I.drop 2
  · intro σ H I
    have ev : (vec.map PyData.int).length = vec.length := List.length_map _
    rw [ev, List.take_length] at I
    refine sq_set I (ed_op (b := dI [(ls.length : Int)]) (ed_var rfl) (ed_tup' (ea_cons (EvS.is (ed_lenT (S2 rfl)) (by rw [List.length_map])) ea_nil) rfl) (od_catI (by simp only [List.length_append, List.length_singleton]; omega))) fun σ H I => ?_
    refine sq_for I (ei_tup (S2 rfl)) (fun i => [.dat (dItem (key, vec, ls)), .dat (dI ((nc key ++ [(vec.length : Int)] ++ vec.flatMap NM.int.pr ++ [(ls.length : Int)]) ++ (ls.take i).flatMap lab.pr)), .no, .no, .no, .no]) (fun i => [.dat (dItem (key, vec, ls)), .dat (dI ((nc key ++ [(vec.length : Int)] ++ vec.flatMap NM.int.pr ++ [(ls.length : Int)]) ++ (ls.take i).flatMap lab.pr)), .no, .dat (.str (ls.getD i ("", 0)).1), .dat (.int (ls.getD i ("", 0)).2), .no]) ?_ ?_ ?_ ?_
    · intro H0 σ H I
      have e : (nc key ++ [(vec.length : Int)] ++ vec.flatMap NM.int.pr ++ [(ls.length : Int)]) ++ (ls.take 0).flatMap lab.pr = nc key ++ [(vec.length : Int)] ++ vec.flatMap NM.int.pr ++ [(ls.length : Int)] := by simp
      rw [e]
      exact I
    · intro i hi
      rw [List.length_map] at hi
      have hg : ls[i]? = some (ls.getD i ("", 0)) := by rw [List.getD_eq_getElem?_getD, List.getElem?_eq_getElem hi]; rfl
      rw [nth_map dLab hg]
      exact bg_tup rfl (bgs_cons bg_name (bgs_cons bg_name bgs_nil))
    · intro H0' σ H hs i hi I
      rw [List.length_map] at hi
      have hg : ls[i]? = some (ls.getD i ("", 0)) := by rw [List.getD_eq_getElem?_getD, List.getElem?_eq_getElem hi]; rfl
      have hm : ls.getD i ("", 0) ∈ ls := getD_mem _ hi
      generalize ls.getD i ("", 0) = x at hg hm I
      have b1 := flat_le lab.pr hm
      have b2 := flat_take_le lab.pr ls i
      have b3 : lab.pr x = nmc x.1 ++ nc (zig x.2) := rfl
      rw [b3, List.length_append] at b1
      have hzn := hnm x hm
      have hl : x.1.cps.toList.length = x.1.length := Array.length_toList
      have hz1 := hzn.1.1
      have hz2 := hzn.1.2
      have enm : nmc x.1 = [(x.1.length : Int)] ++ x.1.cps.toList.map fun c : Nat => ((c - 97 : Nat) : Int) := by
        unfold nmc
        rw [List.singleton_append]
        congr 1
        apply List.map_congr_left
        intro c hc
        have hb := hzn.2 c hc
        omega
      have lnm : (nmc x.1).length = 1 + x.1.length := by
        rw [enm, List.length_append, List.length_map, hl, List.length_singleton]
      show tSeq _ _ _ _ _
      refine sq_set I (ed_op (b := dI (x.1.cps.toList.map fun c : Nat => ((c - 97 : Nat) : Int))) (ed_op (b := dI [(x.1.length : Int)]) (ed_var rfl) (ed_tup' (ea_cons (ed_lenS (ed_var rfl) (sz (by omega))) ea_nil) rfl) (od_catI (by simp only [List.length_append, List.length_singleton]; omega))) (EvS.is (ed_tupleR (EvL.rd (el_lcS (g := fun c => .int ((c - 97 : Nat) : Int)) (ed_var rfl) rfl (fun c hc => ?_) (by omega)))) ?_) (od_catI (by simp only [List.length_append, List.length_singleton, List.length_map]; omega))) fun σ H I => ?_
      · have hb := hzn.2 c hc
        refine ed_letter ed_str (by omega) (EvS.is (ed_var rfl) ?_)
        rw [letter_is hb]
      · show PyData.tuple _ = PyData.tuple ((x.1.cps.toList.map _).map _)
        rw [List.map_map]
        rfl
      · refine st_set I (ed_op (b := dI (nc (zig x.2))) (ed_var rfl) (ed_callP (ea_cons (EvS.is (b := .int (zig x.2)) (ed_ifc (c := 0 ≤ x.2) (by walk_at "ev") (fun _ => by walk_at "ev") (fun _ => by walk_at "ev")) ?_) ea_nil) ⟨zig x.2, rfl, zig_nn x.2, by omega, rfl⟩) (od_catI (by simp only [List.length_append, List.length_singleton, List.length_map]; omega))) fun σ H I => ?_
        · unfold zig
          split
          · rfl
          · congr 1
            omega
        · have e : (nc key ++ [(vec.length : Int)] ++ vec.flatMap NM.int.pr ++ [(ls.length : Int)]) ++ (ls.take (i + 1)).flatMap lab.pr = (nc key ++ [(vec.length : Int)] ++ vec.flatMap NM.int.pr ++ [(ls.length : Int)]) ++ (ls.take i).flatMap lab.pr ++ [(x.1.length : Int)] ++ (x.1.cps.toList.map fun c : Nat => ((c - 97 : Nat) : Int)) ++ nc (zig x.2) := by
            rw [take_flat _ hg, b3, enm]
            simp only [List.append_assoc]
          show SS rS H0' F σ H _
          rw [e]
          exact (I.drop 3).drop 4
    · intro σ H I
      have ev : (ls.map dLab).length = ls.length := List.length_map _
      rw [ev, List.take_length] at I
      refine st_retIs _ I (ed_var rfl) fun v H' I m td => ?_
      refine q _ v H' (Same.refl _) I.rel ?_
      have e : nc key ++ (([(vec.length : Int)] ++ vec.flatMap NM.int.pr) ++ ([(ls.length : Int)] ++ ls.flatMap lab.pr)) = nc key ++ [(vec.length : Int)] ++ vec.flatMap NM.int.pr ++ [(ls.length : Int)] ++ ls.flatMap lab.pr := by simp only [List.append_assoc]
      rw [e]
      exact td
end
end NN
set_option Elab.async false
set_option linter.all false
set_option maxRecDepth 100000
set_option maxHeartbeats 4000000
namespace NN
open PySem PySem.Spec PyProof.Rows L2 NM
local macro_rules | `(tactic| walk_at "ev") => `(tactic| ((fail_if_success (first | with_reducible apply gd1 | with_reducible apply gd2 | with_reducible apply gd3 | with_reducible apply gd4 | with_reducible apply gd5)); first
  | with_reducible exact ed_int | with_reducible exact ed_str | with_reducible exact ed_bl | with_reducible exact ed_non
  | ((with_reducible apply ed_var); rfl) | ((with_reducible apply er_var); rfl)
  | with_reducible exact ea_nil | ((with_reducible apply ea_cons) <;> walk_at "ev")
  | with_reducible exact od_int | with_reducible exact od_bool | exact od_intC (by decide) | exact od_intC ⟨by decide, by decide⟩ | exact od_intC (.inl ⟨by decide, by decide⟩) | with_reducible exact ud_int | with_reducible exact od_eqI | with_reducible exact od_neI | with_reducible exact od_strLt | with_reducible exact od_ip
  | ((with_reducible apply ed_op) <;> walk_at "ev")
  | ((with_reducible apply ed_un) <;> walk_at "ev")
  | ((with_reducible apply ed_tup') <;> walk_at "ev")
  | ((with_reducible apply el_lst') <;> walk_at "ev")
  | ((with_reducible apply ebd_test) <;> walk_at "ev")
  | ((with_reducible apply ebd_val) <;> walk_at "ev")
  | ((with_reducible refine ed_lenT ?_) <;> walk_at "ev")
  | ((with_reducible apply ed_lenR) <;> walk_at "ev")
  | ((with_reducible apply ed_tupleR) <;> walk_at "ev")
  | ((with_reducible apply EvL.rd) <;> walk_at "ev")
  | with_reducible exact eo_none
  | ((with_reducible apply eo_some) <;> walk_at "ev")
  | ((with_reducible apply ed_slT) <;> walk_at "ev")
  | ((with_reducible apply ebd_not) <;> walk_at "ev")
  | ((with_reducible apply ei_tup) <;> walk_at "ev")
  | rfl
  | skip))
section
variable {P : Program} {w : World} {K : PySem.W.Frag} {mg : Str → Option Value} {base : Heap}
abbrev rListD : List V → Hp → VK → Prop := fun xs H Q => ∃ (a : Addr) (kvs : List (Key × V)), xs = [.ref a] ∧ Rd H a (.dK kvs) ∧ ∀ p, H p = none → Q (.ref p) (upd H p (.lst (kvs.map fun kv => kV kv.1)))
theorem el_sortedLD {ρ : Rl} {F : Hp} {Γ : List Ty} {ta : TE} {l : List (Int × PyData)} (h1 : EvD ρ F ta Γ (.dict (dK l))) : EvL ρ F (tCB (rSortedI K) (tCons (tCB rListD (tCons ta tNil)) tNil)) Γ (· = (srt l).map fun p => .int p.1) := fun H0 σ H I Q q => by
    show (tCB rListD (tCons ta tNil)) σ H (fun v H1 => rSortedI K [v] H1 Q)
    refine el_listD h1 H0 σ H I _ fun p vs ds H1 pd I1 m1 n e td => ?_
    subst pd
    have e2 : (l.map fun p => PyData.int p.1) = (l.map (·.1)).map PyData.int := by rw [List.map_map]; rfl
    rw [e2] at td
    have ev := td.of_ints
    subst ev
    refine ⟨p, l.map (·.1), rfl, .of e, fun ys p2 hp hs hn => ?_⟩
    have ey := srt_keys hp hs
    subst ey
    have e3 : ((srt l).map fun p => PyData.int p.1) = ((srt l).map (·.1)).map PyData.int := by rw [List.map_map]; rfl
    refine q p2 _ _ _ rfl (I1.new hn) (m1.trans (Mv.of (same_new hn))) (m1.free (I1.newown hn) hn) upd_same ?_
    rw [e3]
    exact TDs.ints _
/-! _law_moved -/
abbrev s52 : Stmt := topS 52
theorem sc52 : FnScope ["_law_table", "_law_items", "_law_found", "_law_move", "_law_thing"] ["_law_table", "_law_items"] (defScope s52) := ⟨rfl, rfl, rfl, by decide +kernel, rfl, by decide +kernel, by decide +kernel⟩
def cLM {α : Type} (c : Cd α) (toD : α → PyData) (flag : Bool) (small : α → Prop) (ds : List PyData) (d : PyData) : Prop := ∃ t : List (Int × (Int × List α)), ds = [.dict (dK (dMv toD t)), .bool flag] ∧ (t.map (·.1)).Nodup ∧ (∀ p ∈ t, (mov c).ok p ∧ ∀ y ∈ p.2.2, small y) ∧ (movd c t).length ≤ 800000 ∧ d = dI (movd c t)
theorem g52 {α : Type} {c : Cd α} {toD : α → PyData} {flag : Bool} {small : α → Prop} (D : Df K mg "_law_moved" s52 ["_law_table", "_law_items"]) (N : Nm mg) (g_n : Gf P w K mg base 1 "_law_number_cells" ["_law_number"] (spP cNC)) (g_i : Gf P w K mg base 2 "_law_item_cells" ["_law_item_here"] (spP cLI))
    (hE : ∀ {F : Hp} {Γ : List Ty} {y : α}, Γ[1]? = some (.dat (.bool flag)) → Γ[4]? = some (.dat (toD y)) → c.ok y → small y → (c.pr y).length ≤ 800000 → EvD rS F (tIf (tB (tVar 1)) (tCall (spP cLI) [] E0 (tCons (tVar 4) tNil)) (tCall (spP cNC) [] E0 (tCons (tVar 4) tNil))) Γ (dI (c.pr y))) :
    Gf P w K mg base 3 "_law_moved" ["_law_table", "_law_items"] (spP (cLM c toD flag small)) := by
  refine fn_data D sc52 (fun ds d ⟨t, e, _⟩ => by rw [e]; rfl) fun cdv A outer s f H F vs E ds d hr c0 => ?_
  obtain ⟨t, rfl, hnd, hok, hz, rfl⟩ := c0
  refine ⟨_, (pss_cons (ps_set (i := 2) sc52.nd rfl (.inl rfl) (pe_g g_n (hr.mono (by decide)) (pa_cons (pe_callB call_lenD (by rfl) N.len PySem.boot_len (pa_cons (pv 0) pa_nil)) pa_nil)))
    (pss_cons (ps_for PassesOwn.never rfl (pi_list (pe_callB cr_sortedI (by rfl) N.sorted (by decide +kernel) (pa_cons (pe_callTy (call_listD rfl) (by rfl) N.list (by decide +kernel) (pa_cons (pv 0) pa_nil)) pa_nil))) (pg_name (i := 3) sc52.nd rfl (.inl rfl))
    (pss_cons (ps_set (i := 2) sc52.nd rfl (.inl rfl) (pe_op op_catA (pe_op op_catA (pe_op op_catA (pv 2) (pe_g g_n (hr.mono (by decide)) (pa_cons (pv 3) pa_nil))) (pe_g g_n (hr.mono (by decide)) (pa_cons (pe_ix ix_tup (pe_dget (hu_of hr) (pv 0) (pv 3) (fun _ _ => rfl)) pe_int (fun _ _ => rfl)) pa_nil))) (pe_g g_n (hr.mono (by decide)) (pa_cons (pe_callB call_len_seq (by rfl) N.len PySem.boot_len (pa_cons (pe_ix ix_tup (pe_dget (hu_of hr) (pv 0) (pv 3) (fun _ _ => rfl)) pe_int (fun _ _ => rfl)) pa_nil)) pa_nil))))
    (pss_one (ps_for PassesOwn.never rfl (pi_tup (pe_ix ix_tup (pe_dget (hu_of hr) (pv 0) (pv 3) (fun _ _ => rfl)) pe_int (fun _ _ => rfl))) (pg_name (i := 4) sc52.nd rfl (.inl rfl))
    (pss_one (ps_set (i := 2) sc52.nd rfl (.inl rfl) (pe_op op_catA (pv 2) (pe_ifExp (pt_val (pv 1)) (pe_g g_i (hr.mono (by decide)) (pa_cons (pv 4) pa_nil)) (pe_g g_n (hr.mono (by decide)) (pa_cons (pv 4) pa_nil))))))))))
    (pss_one (ps_ret (pv 2))))), ?_⟩
  intro σ I Q q
  show tSeq _ _ _ _ _
  rw [movd_eq] at hz q
  simp only [List.length_append] at hz
  have nd2 : ((dMv toD t).map (·.1)).Nodup := by
    rw [List.map_map]
    exact hnd
  have lt : (dMv toD t).length = t.length := List.length_map _
  refine sq_set I (ed_callP (ea_cons (EvS.is (ed_lenD (l := dMv toD t) (ed_var rfl)) (by rw [lt])) ea_nil) ⟨t.length, rfl, by omega, by omega, rfl⟩) fun σ H' I => ?_
  have lsrt : (srt t).length = t.length := srt_len t
  have es : ((srt (dMv toD t)).map fun p => PyData.int p.1) = (srt t).map fun p => PyData.int p.1 := by
    have e2 : srt (dMv toD t) = (srt t).map fun p => (p.1, .tuple [.int p.2.1, .tuple (p.2.2.map toD)]) := srt_map (fun q : Int × List α => PyData.tuple [.int q.1, .tuple (q.2.map toD)]) t
    rw [e2, List.map_map]
    rfl
  refine sq_for I (ei_listR (el_sortedLD (ed_var rfl))) (fun i => [.dat (.dict (dK (dMv toD t))), .dat (.bool flag), .dat (dI (nc t.length ++ ((srt t).take i).flatMap (mov c).pr)), .no, .no]) (fun i => [.dat (.dict (dK (dMv toD t))), .dat (.bool flag), .dat (dI (nc t.length ++ ((srt t).take i).flatMap (mov c).pr)), .dat (nth ((srt (dMv toD t)).map fun p => .int p.1) i), .no]) ?_ (fun i hi => bg_name) ?_ ?_
  · intro H0 σ H I
    have e : nc t.length ++ ((srt t).take 0).flatMap (mov c).pr = nc t.length := by simp
    rw [e]
    exact I
  · intro H0' σ H hs i hi I
    rw [es] at hi I
    rw [List.length_map] at hi
    have hg : (srt t)[i]? = some (srt t)[i] := List.getElem?_eq_getElem hi
    have hm : (srt t)[i] ∈ srt t := List.getElem_mem hi
    generalize (srt t)[i] = x at hg hm
    have b1 := flat_le (mov c).pr hm
    have b2 := flat_take_le (mov c).pr (srt t) i
    obtain ⟨mv, sh, ths⟩ := x
    obtain ⟨hx, hsm⟩ := hok _ (mem_srt.mp hm)
    have ok1 : 0 ≤ mv := hx.1
    have ok2 : 0 ≤ sh := hx.2.1
    have ok3 : ∀ y ∈ ths, c.ok y := hx.2.2
    have e0 : nth ((srt t).map fun p => PyData.int p.1) i = .int mv := nth_of (by rw [List.getElem?_map, hg]; rfl)
    rw [e0] at I
    have hp2 : (mv, PyData.tuple [.int sh, .tuple (ths.map toD)]) ∈ dMv toD t := List.mem_map_of_mem (f := fun p : Int × (Int × List α) => (p.1, PyData.tuple [.int p.2.1, .tuple (p.2.2.map toD)])) (mem_srt.mp hm)
    have ea := atK_of nd2 hp2
    rw [mov_pr] at b1
    dsimp only at b1 ea hsm
    simp only [List.length_append] at b1
    show tSeq _ _ _ _ _
    refine sq_set I (ed_op (ed_op (ed_op (ed_var rfl) (ed_callP (by walk_at "ev") ⟨mv, rfl, ok1, by omega, rfl⟩) (od_catI (by simp only [List.length_append]; omega))) (ed_callP (ea_cons (ed_op (ed_dget (ed_var rfl) (ed_var rfl) ea) ed_int (od_ixT (i := 0) rfl)) ea_nil) ⟨sh, rfl, ok2, by omega, rfl⟩) (od_catI (by simp only [List.length_append]; omega))) (ed_callP (ea_cons (ed_lenT (ed_op (ed_dget (ed_var rfl) (ed_var rfl) ea) ed_int (od_ixT (i := 1) rfl))) ea_nil) ⟨ths.length, by rw [List.length_map], by omega, by omega, rfl⟩) (od_catI (by simp only [List.length_append]; omega))) fun σ H I => ?_
    refine st_for I (ei_tup (ed_op (ed_dget (ed_var rfl) (ed_var rfl) ea) ed_int (od_ixT (i := 1) rfl))) (fun j => [.dat (.dict (dK (dMv toD t))), .dat (.bool flag), .dat (dI ((nc t.length ++ ((srt t).take i).flatMap (mov c).pr ++ nc mv ++ nc sh ++ nc ths.length) ++ (ths.take j).flatMap c.pr)), .dat (.int mv), .no]) (fun j => [.dat (.dict (dK (dMv toD t))), .dat (.bool flag), .dat (dI ((nc t.length ++ ((srt t).take i).flatMap (mov c).pr ++ nc mv ++ nc sh ++ nc ths.length) ++ (ths.take j).flatMap c.pr)), .dat (.int mv), .dat (nth (ths.map toD) j)]) ?_ (fun i hi => bg_name) ?_ ?_
    · intro H0 σ H I
      have e : (nc t.length ++ ((srt t).take i).flatMap (mov c).pr ++ nc mv ++ nc sh ++ nc ths.length) ++ (ths.take 0).flatMap c.pr = nc t.length ++ ((srt t).take i).flatMap (mov c).pr ++ nc mv ++ nc sh ++ nc ths.length := by simp
      rw [e]
      exact I
    · intro H0'' σ H hs2 j hj I
      rw [List.length_map] at hj
      have hg2 : ths[j]? = some ths[j] := List.getElem?_eq_getElem hj
      have hm2 : ths[j] ∈ ths := List.getElem_mem hj
      generalize ths[j] = y at hg2 hm2
      rw [nth_map toD hg2] at I
      have b3 := flat_le c.pr hm2
      have b4 := flat_take_le c.pr ths j
      refine st_set I (ed_op (ed_var rfl) (hE rfl rfl (ok3 y hm2) (hsm y hm2) (by omega)) (od_catI (by simp only [List.length_append]; omega))) fun σ H I => ?_
      have e : (nc t.length ++ ((srt t).take i).flatMap (mov c).pr ++ nc mv ++ nc sh ++ nc ths.length) ++ (ths.take (j + 1)).flatMap c.pr = (nc t.length ++ ((srt t).take i).flatMap (mov c).pr ++ nc mv ++ nc sh ++ nc ths.length) ++ (ths.take j).flatMap c.pr ++ c.pr y := by
        rw [take_flat _ hg2, ← List.append_assoc]
      show SS rS H0'' F σ H _
      rw [e]
      exact I.drop 4
    · intro σ H I
      have ev : (ths.map toD).length = ths.length := List.length_map _
      rw [ev, List.take_length] at I
      have e : nc t.length ++ ((srt t).take (i + 1)).flatMap (mov c).pr = (nc t.length ++ ((srt t).take i).flatMap (mov c).pr ++ nc mv ++ nc sh ++ nc ths.length) ++ ths.flatMap c.pr := by
        rw [take_flat _ hg, mov_pr]
        simp only [List.append_assoc]
      show SS rS H0' F σ H _
      rw [e]
      exact I.drop 3
  · intro σ H I
    rw [es, List.length_map, List.take_length] at I
    refine st_retIs _ I (ed_var rfl) fun v H' I m td => ?_
    exact q _ v H' (Same.refl _) I.rel td
abbrev smI (it : Item) : Prop := it.2.1.length ≤ 127 ∧ it.2.2.length ≤ 127
abbrev cLM1 := cLM item dItem true smI
abbrev cLM2 := cLM Cd.num PyData.int false (fun _ => True)
theorem g52a (D : Df K mg "_law_moved" s52 ["_law_table", "_law_items"]) (N : Nm mg) (g_n : Gf P w K mg base 1 "_law_number_cells" ["_law_number"] (spP cNC)) (g_i : Gf P w K mg base 2 "_law_item_cells" ["_law_item_here"] (spP cLI)) :
    Gf P w K mg base 3 "_law_moved" ["_law_table", "_law_items"] (spP cLM1) := g52 D N g_n g_i fun {F Γ y} h1 h4 ok sm hl => ed_if (ebd_val (k := true) (ed_var h1)) (fun _ => ed_callP (ea_cons (ed_var h4) ea_nil) ⟨y, rfl, ok, by omega, sm.1, sm.2, rfl⟩) (fun z => nomatch z)
theorem g52b (D : Df K mg "_law_moved" s52 ["_law_table", "_law_items"]) (N : Nm mg) (g_n : Gf P w K mg base 1 "_law_number_cells" ["_law_number"] (spP cNC)) (g_i : Gf P w K mg base 2 "_law_item_cells" ["_law_item_here"] (spP cLI)) :
    Gf P w K mg base 3 "_law_moved" ["_law_table", "_law_items"] (spP cLM2) := g52 D N g_n g_i fun {F Γ y} h1 h4 ok sm hl => ed_if (ebd_val (k := false) (ed_var h1)) (fun z => nomatch z) (fun _ => ed_callP (ea_cons (ed_var h4) ea_nil) ⟨y, rfl, ok, (by have : (nc y).length ≤ 800000 := hl; omega), rfl⟩)
end
end NN
set_option Elab.async false
set_option linter.all false
set_option maxRecDepth 100000
set_option maxHeartbeats 4000000
namespace NN
open PySem PySem.Spec PyProof.Rows L2 NM
local macro_rules | `(tactic| walk_at "ev") => `(tactic| ((fail_if_success (first | with_reducible apply gd1 | with_reducible apply gd2 | with_reducible apply gd3 | with_reducible apply gd4 | with_reducible apply gd5)); first
  | with_reducible exact ed_int | with_reducible exact ed_str | with_reducible exact ed_bl | with_reducible exact ed_non
  | ((with_reducible apply ed_var); rfl) | ((with_reducible apply er_var); rfl)
  | with_reducible exact ea_nil | ((with_reducible apply ea_cons) <;> walk_at "ev")
  | with_reducible exact od_int | with_reducible exact od_bool | exact od_intC (by decide) | exact od_intC ⟨by decide, by decide⟩ | exact od_intC (.inl ⟨by decide, by decide⟩) | with_reducible exact ud_int | with_reducible exact od_eqI | with_reducible exact od_neI | with_reducible exact od_strLt | with_reducible exact od_ip
  | ((with_reducible apply ed_op) <;> walk_at "ev")
  | ((with_reducible apply ed_un) <;> walk_at "ev")
  | ((with_reducible apply ed_tup') <;> walk_at "ev")
  | ((with_reducible apply el_lst') <;> walk_at "ev")
  | ((with_reducible apply ebd_test) <;> walk_at "ev")
  | ((with_reducible apply ebd_val) <;> walk_at "ev")
  | ((with_reducible refine ed_lenT ?_) <;> walk_at "ev")
  | ((with_reducible apply ed_lenR) <;> walk_at "ev")
  | ((with_reducible apply ed_tupleR) <;> walk_at "ev")
  | ((with_reducible apply EvL.rd) <;> walk_at "ev")
  | with_reducible exact eo_none
  | ((with_reducible apply eo_some) <;> walk_at "ev")
  | ((with_reducible apply ed_slT) <;> walk_at "ev")
  | ((with_reducible apply ebd_not) <;> walk_at "ev")
  | ((with_reducible apply ei_tup) <;> walk_at "ev")
  | rfl
  | skip))
section
variable {P : Program} {w : World} {K : PySem.W.Frag} {mg : Str → Option Value} {base : Heap}
/-- l, l' = two new lists -/
theorem sq_parLL {ρ : Rl} {F H0 H : Hp} {σ : L2.St} {Γ : List Ty} {ta tb : TE} {i j : Nat} {ds es : List PyData} {D : Ends} {u : TS} (I : SS ρ H0 F σ H Γ) (hij : i ≠ j) (h : EvL ρ F ta Γ (· = ds)) (hb : EvL ρ F tb Γ (· = es)) (k : ∀ σ' H', SS ρ H0 F σ' H' ((Γ.set i (.lst ds)).set j (.lst es)) → u D σ' H') : tSeq (tPar i j (tCons ta (tCons tb tNil))) u D σ H :=
  h H0 σ H I _ fun l vs d H1 pd I1 m1 n e td => hb H0 σ H1 I1 _ fun l2 vs2 d2 H2 pd2 I2 m2 n2 e2 td2 => by
    subst pd; subst pd2
    have el := m2 l _ (I.newown n) e
    have IA : SS ρ H0 F (σ.set i (some (.ref l))) H2 (Γ.set i (.lst d)) := I.setN (t := .lst d) I2 i n ⟨l, vs, rfl, el, td.mono (Same.refl F) (m2.tu I1.inv)⟩
    have IB : SS ρ H0 F (σ.set i (some (.ref l))) H1 (Γ.set i (.lst d)) := I.setN (t := .lst d) I1 i n ⟨l, vs, rfl, e, td⟩
    exact ⟨_, _, rfl, k _ H2 (IB.setN (t := .lst d2) IA j n2 ⟨l2, vs2, rfl, e2, td2⟩)⟩
/-! _law_joined -/
abbrev s54 : Stmt := topS 54
theorem sc54 : FnScope ["_law_bodies_here", "_law_found", "_law_body"] ["_law_bodies_here"] (defScope s54) := ⟨rfl, rfl, rfl, by decide +kernel, rfl, by decide +kernel, by decide +kernel⟩
def cLJ (ds : List PyData) (d : PyData) : Prop := ∃ bs : List (List Int), ds = [.list (bs.map dI)] ∧ (joined bs).length ≤ 600000 ∧ d = dI (joined bs)
theorem g54 (D : Df K mg "_law_joined" s54 ["_law_bodies_here"]) (g_f : Gf P w K mg base 2 "_law_framed" ["_law_body"] (spP cFR)) : Gf P w K mg base 3 "_law_joined" ["_law_bodies_here"] (spP cLJ) := by
  refine fn_data D sc54 (fun ds d ⟨t, e, _⟩ => by rw [e]; rfl) fun cdv A outer s f H F vs E ds d hr c0 => ?_
  obtain ⟨bs, rfl, hz, rfl⟩ := c0
  refine ⟨_, (pss_cons (ps_set (i := 1) sc54.nd rfl (.inl rfl) (pe_tup pa_nil))
    (pss_cons (ps_for PassesOwn.never rfl (pi_list (pv 0)) (pg_name (i := 2) sc54.nd rfl (.inl rfl))
    (pss_one (ps_set (i := 1) sc54.nd rfl (.inl rfl) (pe_op op_catA (pv 1) (pe_g g_f (hr.mono (by decide)) (pa_cons (pv 2) pa_nil))))))
    (pss_one (ps_ret (pv 1))))), ?_⟩
  intro σ I Q q
  show tSeq _ _ _ _ _
  refine sq_set (d := dI []) I (ed_tup' ea_nil rfl) fun σ H' I => ?_
  refine sq_for I (ei_listF (ed_var rfl)) (fun i => [.dat (.list (bs.map dI)), .dat (dI ((bs.take i).flatMap frm)), .no]) (fun i => [.dat (.list (bs.map dI)), .dat (dI ((bs.take i).flatMap frm)), .dat (nth (bs.map dI) i)]) (fun H0 σ H I => I) (fun i hi => bg_name) ?_ ?_
  · intro H0' σ H hs i hi I
    rw [List.length_map] at hi
    have hg : bs[i]? = some bs[i] := List.getElem?_eq_getElem hi
    have hm : bs[i] ∈ bs := List.getElem_mem hi
    generalize bs[i] = x at hg hm
    rw [nth_map dI hg] at I
    have b1 := flat_le frm hm
    have b2 := flat_take_le frm bs i
    have b3 := frm_ge x
    have hz : (bs.flatMap frm).length ≤ 600000 := hz
    refine st_set I (ed_op (ed_var rfl) (ed_callP (by walk_at "ev") ⟨x, rfl, by omega, rfl⟩) (od_catI (by omega))) fun σ H I => ?_
    show SS rS H0' F σ H _
    rw [take_flat _ hg]
    exact I.drop 2
  · intro σ H I
    rw [List.length_map, List.take_length] at I
    exact st_retIs _ I (ed_var rfl) fun v H' I m td => q _ v H' (Same.refl _) I.rel td
/-! _law_only -/
abbrev s55 : Stmt := topS 55
theorem sc55 : FnScope ["_law_table", "_law_move", "_law_found"] ["_law_table", "_law_move"] (defScope s55) := ⟨rfl, rfl, rfl, by decide +kernel, rfl, by decide +kernel, by decide +kernel⟩
/-- a promise: a new dict, frozen -/
def spN (R : List PyData → PyData → Prop) : Sp := fun vs H Q _ => ∃ (F : Hp) (ds : List PyData) (d : PyData), Same F H ∧ TDs F H vs ds ∧ R ds d ∧ ∀ v H', Same H H' → TD (fz F H H') H' v d → Q v H'
theorem en_callN {ρ : Rl} {F : Hp} {Γ : List Ty} {R : List PyData → PyData → Prop} {E : XK} {tr : TA} {l : List PyData} {d : PyData} (h : EvA ρ F tr Γ (· = l)) (c : R l d) : EvN ρ F (tCall (spN R) [] E tr) Γ (· = d) := fun H0 σ H I Q q =>
  h H0 σ H I _ fun vs ds H1 pd I1 m1 t1 => by
    subst pd
    show spN R (vs ++ []) H1 Q E
    rw [List.append_nil]
    refine ⟨F, _, d, I1.sf, t1, c, fun v H' s o => q v d H' rfl (I1.same s) (m1.trans (Mv.of s)) (o.mono (fun a x hx => ?_) (Tu.refl H'))⟩
    cases z : H1 a with
    | none =>
      rw [fz_new z] at hx
      rw [fz_new (m1.free (I1.newown z) z)]
      exact hx
    | some y =>
      rw [fz_old z] at hx
      rw [fz_old (I.sf a x hx)]
      exact hx
def cON (ds : List PyData) (d : PyData) : Prop := ∃ (l : List (Int × PyData)) (k : Int) (x : PyData), ds = [.dict (dK l), .int k] ∧ atK l k = some x ∧ d = .dict (dK [(k, x)])
theorem g55 (D : Df K mg "_law_only" s55 ["_law_table", "_law_move"]) : Gf P w K mg base 1 "_law_only" ["_law_table", "_law_move"] (spN cON) := by
  refine fn_gen D sc55 (fun vs H Q E ⟨F, ds, d, _, t, ⟨l, k, x, e, _⟩, _⟩ => by subst e; exact t.len) fun cdv A outer s f H vs Q E hr c0 => ?_
  obtain ⟨F, ds, d, f0, td, ⟨l, k, x, rfl, ha, rfl⟩, q⟩ := c0
  refine ⟨_, (pss_cons (ps_set (i := 2) sc55.nd rfl (.inl rfl) pe_dnewK)
    (pss_cons (ps_dput (hu_of hr) (pv 2) (pv 1) (pe_dget (hu_of hr) (pv 0) (pv 1) (fun _ _ => rfl)) rfl)
    (pss_one (ps_ret (pv 2))))), ?_⟩
  have I := SS.startD (N := ["_law_table", "_law_move", "_law_found"]) f0 td (show 2 ≤ 3 by decide)
  show tSeq _ _ _ _ _
  refine sq_setK I ek_new fun σ H' I => ?_
  refine sq_dput (l := []) I rfl (ed_var rfl) (ed_dget (ed_var rfl) (ed_var rfl) ha) (by decide) fun H' I => ?_
  obtain ⟨p, ks, e, hl, hk⟩ := I.dct (i := 2) (ds := dK (putI [] k x)) rfl
  refine ⟨_, e, q _ H' I.rel.same (.dct ?_ (hk.mono (fz_same f0) (Tu.refl H')))⟩
  rw [fz_new (I.fresh 2 _ p rfl rfl e).1]
  exact hl
end
end NN
set_option Elab.async false
set_option linter.all false
set_option maxRecDepth 100000
set_option maxHeartbeats 4000000
namespace NN
open PySem PySem.Spec PyProof.Rows L2 NM
local macro_rules | `(tactic| walk_at "ev") => `(tactic| ((fail_if_success (first | with_reducible apply gd1 | with_reducible apply gd2 | with_reducible apply gd3 | with_reducible apply gd4 | with_reducible apply gd5)); first
  | with_reducible exact ed_int | with_reducible exact ed_str | with_reducible exact ed_bl | with_reducible exact ed_non
  | ((with_reducible apply ed_var); rfl) | ((with_reducible apply er_var); rfl)
  | with_reducible exact ea_nil | ((with_reducible apply ea_cons) <;> walk_at "ev")
  | with_reducible exact od_int | with_reducible exact od_bool | exact od_intC (by decide) | exact od_intC ⟨by decide, by decide⟩ | exact od_intC (.inl ⟨by decide, by decide⟩) | with_reducible exact ud_int | with_reducible exact od_eqI | with_reducible exact od_neI | with_reducible exact od_strLt | with_reducible exact od_ip
  | ((with_reducible apply ed_op) <;> walk_at "ev")
  | ((with_reducible apply ed_un) <;> walk_at "ev")
  | ((with_reducible apply ed_tup') <;> walk_at "ev")
  | ((with_reducible apply el_lst') <;> walk_at "ev")
  | ((with_reducible apply ebd_test) <;> walk_at "ev")
  | ((with_reducible apply ebd_val) <;> walk_at "ev")
  | ((with_reducible refine ed_lenT ?_) <;> walk_at "ev")
  | ((with_reducible apply ed_lenR) <;> walk_at "ev")
  | ((with_reducible apply ed_tupleR) <;> walk_at "ev")
  | ((with_reducible apply EvL.rd) <;> walk_at "ev")
  | with_reducible exact eo_none
  | ((with_reducible apply eo_some) <;> walk_at "ev")
  | ((with_reducible apply ed_slT) <;> walk_at "ev")
  | ((with_reducible apply ebd_not) <;> walk_at "ev")
  | ((with_reducible apply ei_tup) <;> walk_at "ev")
  | rfl
  | skip))
section
variable {P : Program} {w : World} {K : PySem.W.Frag} {mg : Str → Option Value} {base : Heap}
theorem eld_sl {ρ : Rl} {F : Hp} {Γ : List Ty} {ta : TE} {tl th : TO} {ds : List PyData} {lo hi : Option Int} (ha : EvR ρ F ta Γ (· = ds)) (hl : EvO ρ F tl Γ (· = lo)) (hh : EvO ρ F th Γ (· = hi)) : EvL ρ F (tSl (rSlL K) ta tl th) Γ (· = cutD ds lo hi) := el_slL ha hl hh fun _ _ _ e1 e2 e3 => by subst e1; subst e2; subst e3; rfl
/-! _law_bodies -/
abbrev s53 : Stmt := topS 53
theorem sc53 : FnScope ["_law_state", "_law_waiting", "_law_gone", "_law_mark", "_law_size", "_law_items", "_law_found", "_law_key", "_law_at", "_law_body", "_law_item_here"] ["_law_state", "_law_waiting", "_law_gone", "_law_mark", "_law_size"] (defScope s53) := ⟨rfl, rfl, rfl, by decide +kernel, rfl, by decide +kernel, by decide +kernel⟩
structure smB (b : Bk) : Prop where
  ok : okB b
  s1 : ∀ p ∈ b.st, smI p.2
  s2 : ∀ p ∈ b.wt, ∀ y ∈ p.2.2, smI y
def cLB (ds : List PyData) (d : List PyData) : Prop := ∃ (b : Bk) (s : Nat), ds = [.dict (dK (dSt b.st)), .dict (dK (dWt b.wt)), .dict (dK (dGn b.gn)), .int b.mark, .int (s : Int)] ∧ 1 ≤ s ∧ s ≤ 1000 ∧ smB b ∧ b.st.length ≤ 90000 ∧ (∀ x ∈ bodies s b, x.length ≤ 700000) ∧ d = (bodies s b).map dI
theorem g53 (D : Df K mg "_law_bodies" s53 ["_law_state", "_law_waiting", "_law_gone", "_law_mark", "_law_size"]) (N : Nm mg) (g_n : Gf P w K mg base 1 "_law_number_cells" ["_law_number"] (spP cNC)) (g_i : Gf P w K mg base 2 "_law_item_cells" ["_law_item_here"] (spP cLI))
    (g_m1 : Gf P w K mg base 3 "_law_moved" ["_law_table", "_law_items"] (spP cLM1)) (g_m2 : Gf P w K mg base 3 "_law_moved" ["_law_table", "_law_items"] (spP cLM2)) : Gf P w K mg base 4 "_law_bodies" ["_law_state", "_law_waiting", "_law_gone", "_law_mark", "_law_size"] (spL cLB) := by
  refine fn_gen D sc53 (fun vs H Q E ⟨F, ds, d, _, t, ⟨b, s, e, _⟩, _⟩ => by subst e; exact t.len) fun cdv A outer s0 f H vs Q E hr c0 => ?_
  obtain ⟨F, ds, d, f0, td, ⟨b, s, rfl, hs1, hs2, sm, hl, hb, rfl⟩, q⟩ := c0
  refine ⟨_, (pss_cons (ps_par (i := 5) (j := 6) rfl sc53.nd rfl rfl (by decide) rfl rfl (pa_cons (pe_lc (own := [("_law_key", 7)]) (g := gName 7) (tt := tYes) rfl sc53.nd (pi_list (pe_callB cr_sortedI (by rfl) N.sorted (by decide +kernel) (pa_cons (pe_callTy (call_listD rfl) (by rfl) N.list (by decide +kernel) (pa_cons (pv 0) pa_nil)) pa_nil))) (blkOk_by (own := [("_law_key", 7)]) (N := ["_law_state", "_law_waiting", "_law_gone", "_law_mark", "_law_size", "_law_items", "_law_found", "_law_key", "_law_at", "_law_body", "_law_item_here"]) (sc := defScope s53) (by decide +kernel)) (fun _ _ _ _ _ => (pg_name (i := 7) sc53.nd rfl (.inl rfl))) (fun _ _ _ _ _ => pts_nil) (fun _ _ _ _ _ => (pe_dget (hu_of hr) (pv 0) (pv 7) (fun _ _ => rfl)))) (pa_cons (pe_lst pa_nil) pa_nil)) (by rfl))
    (pss_cons (ps_for PassesOwn.never rfl (pi_range3 rfl N.range (pa_cons pe_int (pa_cons (pe_callB call_len_seq (by rfl) N.len PySem.boot_len (pa_cons (pv 5) pa_nil)) (pa_cons (pv 4) pa_nil)))) (pg_name (i := 8) sc53.nd rfl (.inl rfl))
    (pss_cons (ps_set (i := 9) sc53.nd rfl (.inl rfl) (pe_op op_catA (pe_tup (pa_cons pe_int pa_nil)) (pe_g g_n (hr.mono (by decide)) (pa_cons (pe_callB call_len_seq (by rfl) N.len PySem.boot_len (pa_cons (pe_slice sl_list (pv 5) (po_some (pv 8)) (po_some (pe_op op_add (pv 8) (pv 4)))) pa_nil)) pa_nil))))
    (pss_cons (ps_for PassesOwn.never rfl (pi_list (pe_slice sl_list (pv 5) (po_some (pv 8)) (po_some (pe_op op_add (pv 8) (pv 4))))) (pg_name (i := 10) sc53.nd rfl (.inl rfl))
    (pss_one (ps_set (i := 9) sc53.nd rfl (.inl rfl) (pe_op op_catA (pv 9) (pe_g g_i (hr.mono (by decide)) (pa_cons (pv 10) pa_nil))))))
    (pss_one (ps_expr (pe_bm PySem.F.plainAttrs_list PySem.F.slot_list_append PySem.F.type_list_append mt_append (pv 6) (pa_cons (pv 9) pa_nil)))))))
    (pss_one (ps_ret (pe_op op_cat (pv 6) (pe_lst (pa_cons (pe_op op_catA (pe_op op_catA (pe_op op_catA (pe_op op_catA (pe_tup (pa_cons pe_int pa_nil)) (pe_g g_n (hr.mono (by decide)) (pa_cons (pv 3) pa_nil))) (pe_g g_n (hr.mono (by decide)) (pa_cons (pe_callB call_len_seq (by rfl) N.len PySem.boot_len (pa_cons (pv 5) pa_nil)) pa_nil))) (pe_g g_m1 (hr.mono (by decide)) (pa_cons (pv 1) (pa_cons pe_bl pa_nil)))) (pe_g g_m2 (hr.mono (by decide)) (pa_cons (pv 2) (pa_cons pe_bl pa_nil)))) pa_nil))))))), ?_⟩
  have I := SS.startD (N := ["_law_state", "_law_waiting", "_law_gone", "_law_mark", "_law_size", "_law_items", "_law_found", "_law_key", "_law_at", "_law_body", "_law_item_here"]) f0 td (show 5 ≤ 11 by decide)
  show tSeq _ _ _ _ _
  have ob := sm.ok
  generalize hits : (srt b.st).map (·.2) = its
  have hin : ∀ it ∈ its, item.ok it ∧ smI it := fun it hm => by
    rw [← hits] at hm
    obtain ⟨p, hp, rfl⟩ := List.mem_map.mp hm
    exact ⟨ob.o1 p (mem_srt.mp hp), sm.s1 p (mem_srt.mp hp)⟩
  have hlen : its.length = b.st.length := by rw [← hits, List.length_map, srt_len]
  have nd2 : ((dSt b.st).map (·.1)).Nodup := by
    unfold dSt
    rw [List.map_map]
    exact ob.n1
  have eits : ((srt (dSt b.st)).map fun p => PyData.int p.1).map (fun d => match d with | .int k => (atK (dSt b.st) k).getD .none | _ => .none) = its.map dItem := by
    have e2 : srt (dSt b.st) = (srt b.st).map fun p => (p.1, dItem p.2) := srt_map dItem b.st
    rw [e2, List.map_map, List.map_map, ← hits, List.map_map]
    apply List.map_congr_left
    intro p hp
    have hp2 : (p.1, dItem p.2) ∈ dSt b.st := List.mem_map_of_mem (f := fun p : Int × Item => (p.1, dItem p.2)) (mem_srt.mp hp)
    have e := atK_of nd2 hp2
    show (atK (dSt b.st) p.1).getD .none = dItem p.2
    rw [e]
    rfl
  refine sq_parLL (ds := its.map dItem) (es := []) I (by decide) (EvL.is (el_lcN (g := fun d => match d with | .int k => (atK (dSt b.st) k).getD .none | _ => .none) (el_sortedLD (l := dSt b.st) (ed_var rfl)) rfl (fun d hd => ?_) (sz (by rw [List.length_map, srt_len]; unfold dSt; rw [List.length_map]; omega))) eits) (by walk_at "ev") fun σ H' I => ?_
  · obtain ⟨p, hp, rfl⟩ := List.mem_map.mp hd
    have e := atK_of nd2 (mem_srt.mp hp)
    refine ed_dget (ed_var rfl) (ed_var rfl) ?_
    simp only [e]
    rfl
  have hrec : ∀ i < (its.length + s - 1) / s, recB ((its.drop (s * i)).take s) ∈ bodies s b := fun i hi => by
    unfold bodies recs chk
    rw [hits, List.map_map]
    exact List.mem_append_left _ (List.mem_map.mpr ⟨i, List.mem_range.mpr hi, rfl⟩)
  have eseal : sealB b = [8] ++ nc b.mark ++ nc b.st.length ++ movd item b.wt ++ movd Cd.num b.gn := by
    simp only [List.append_assoc]
    rfl
  have hseal := hb (sealB b) (List.mem_append_right _ List.mem_cons_self)
  refine sq_for I (ei_rng3 (ea_cons ed_int (ea_cons (EvS.is (ed_lenR (er_var rfl)) (by rw [List.length_map])) (ea_cons (ed_var rfl) ea_nil))) (rgc_chunk (s := s) (n := its.length) hs1 hs2 (by omega))) (fun i => [.dat (.dict (dK (dSt b.st))), .dat (.dict (dK (dWt b.wt))), .dat (.dict (dK (dGn b.gn))), .dat (.int b.mark), .dat (.int (s : Int)), .lst (its.map dItem), .lst (((List.range i).map fun i => dI (recB ((its.drop (s * i)).take s)))), .no, .no, .no, .no]) (fun i => [.dat (.dict (dK (dSt b.st))), .dat (.dict (dK (dWt b.wt))), .dat (.dict (dK (dGn b.gn))), .dat (.int b.mark), .dat (.int (s : Int)), .lst (its.map dItem), .lst (((List.range i).map fun i => dI (recB ((its.drop (s * i)).take s)))), .no, .dat (.int (0 + (i : Nat) * (s : Int))), .no, .no]) (fun H0 σ H I => I) (fun i hi => bg_name) ?_ ?_
  · intro H0' σ H hss i hi I
    have hlo : s * i ≤ its.length := by
      have : i * s ≤ its.length + s - 1 - s := by
        have h1 : (i + 1) * s ≤ its.length + s - 1 := Nat.le_trans (Nat.mul_le_mul_right s hi) (Nat.div_mul_le_self _ _)
        rw [Nat.add_mul, Nat.one_mul] at h1
        omega
      rw [Nat.mul_comm]
      omega
    have hx := hb _ (hrec i hi)
    generalize hc : (its.drop (s * i)).take s = c at hx
    have ecut : cutD (its.map dItem) (some (0 + (i : Nat) * (s : Int))) (some (0 + (i : Nat) * (s : Int) + s)) = c.map dItem := by
      have e1 : (0 + (i : Nat) * (s : Int)) = ((s * i : Nat) : Int) := by rw [Int.natCast_mul, Int.mul_comm]; omega
      rw [e1, cutD_nat (lo := s * i) (hi := s * i + s) rfl (by omega) (by rw [List.length_map]; exact hlo) (by omega), show s * i + s - s * i = s by omega, ← List.map_drop, ← List.map_take, hc]
    have hcin : ∀ it ∈ c, item.ok it ∧ smI it := fun it hm => hin it (List.mem_of_mem_drop (List.mem_of_mem_take (hc ▸ hm)))
    have part : ∀ {Γ : List Ty}, Γ[5]? = some (.lst (its.map dItem)) → Γ[8]? = some (.dat (.int (0 + (i : Nat) * (s : Int)))) → Γ[4]? = some (.dat (.int (s : Int))) → EvL rS F (tSl (rSlL K) (tVar 5) (tPart (tVar 8)) (tPart (tOp (rI0 fun i j => .int (i + j)) (tVar 8) (tVar 4)))) Γ (· = c.map dItem) := fun h5 h8 h4 => EvL.is (eld_sl (er_var h5) (eo_some (ed_var h8)) (eo_some (ed_op (ed_var h8) (ed_var h4) od_int))) ecut
    rw [recB_eq] at hx
    simp only [List.length_append, List.length_singleton] at hx
    show tSeq _ _ _ _ _
    refine sq_set I (ed_op (b := dI (nc c.length)) e_itemsw (ed_callP (ea_cons (EvS.is (ed_lenR (EvL.rd (part rfl rfl rfl))) (by rw [List.length_map])) ea_nil) ⟨c.length, rfl, by omega, by omega, rfl⟩) (od_catI (by simp only [List.length_singleton]; omega))) fun σ H I => ?_
    show tSeq _ _ _ _ _
    refine sq_for I (ei_listR (part rfl rfl rfl)) (fun j => [.dat (.dict (dK (dSt b.st))), .dat (.dict (dK (dWt b.wt))), .dat (.dict (dK (dGn b.gn))), .dat (.int b.mark), .dat (.int (s : Int)), .lst (its.map dItem), .lst (((List.range i).map fun i => dI (recB ((its.drop (s * i)).take s)))), .no, .dat (.int (0 + (i : Nat) * (s : Int))), .dat (dI (([7] ++ nc c.length) ++ (c.take j).flatMap item.pr)), .no]) (fun j => [.dat (.dict (dK (dSt b.st))), .dat (.dict (dK (dWt b.wt))), .dat (.dict (dK (dGn b.gn))), .dat (.int b.mark), .dat (.int (s : Int)), .lst (its.map dItem), .lst (((List.range i).map fun i => dI (recB ((its.drop (s * i)).take s)))), .no, .dat (.int (0 + (i : Nat) * (s : Int))), .dat (dI (([7] ++ nc c.length) ++ (c.take j).flatMap item.pr)), .dat (nth (c.map dItem) j)]) ?_ (fun i hi => bg_name) ?_ ?_
    · intro H0 σ H I
      have e : ([7] ++ nc c.length) ++ (c.take 0).flatMap item.pr = [7] ++ nc c.length := by simp
      rw [e]
      exact I
    · intro H0'' σ H hs2 j hj I
      rw [List.length_map] at hj
      have hg : c[j]? = some c[j] := List.getElem?_eq_getElem hj
      have hm : c[j] ∈ c := List.getElem_mem hj
      generalize c[j] = x at hg hm
      rw [nth_map dItem hg] at I
      obtain ⟨k1, k2⟩ := hcin x hm
      have b1 := flat_le item.pr hm
      have b2 := flat_take_le item.pr c j
      refine st_set I (ed_op (ed_var rfl) (ed_callP (ea_cons (ed_var rfl) ea_nil) ⟨x, rfl, k1, by omega, k2.1, k2.2, rfl⟩) (od_catI (by simp only [List.length_append, List.length_singleton]; omega))) fun σ H I => ?_
      have e : ([7] ++ nc c.length) ++ (c.take (j + 1)).flatMap item.pr = ([7] ++ nc c.length) ++ (c.take j).flatMap item.pr ++ item.pr x := by
        rw [take_flat _ hg, ← List.append_assoc]
      show SS rS H0'' F σ H _
      rw [e]
      exact I.drop 10
    · intro σ H I
      rw [List.length_map, List.take_length] at I
      refine st_appendD I rfl (ed_var rfl) (sz' (by rw [List.length_map, List.length_range]; have := Nat.div_le_self (its.length + s - 1) s; omega)) fun H I => ?_
      have e : ((List.range (i + 1)).map fun i => dI (recB ((its.drop (s * i)).take s))) = ((List.range i).map fun i => dI (recB ((its.drop (s * i)).take s))) ++ [dI (([7] ++ nc c.length) ++ c.flatMap item.pr)] := by
        rw [List.range_succ, List.map_append, List.map_cons, List.map_nil, hc, recB_eq, List.append_assoc]
      show SS rS H0' F σ H _
      rw [e]
      exact (I.drop 8).drop 9
  · intro σ H2 I
    rw [eseal] at hseal
    simp only [List.length_append, List.length_singleton] at hseal
    have hdl := Nat.div_le_self (its.length + s - 1) s
    refine st_retL (ds := (bodies s b).map dI) I (EvL.is (eld_cat (b := [dI (sealB b)]) (er_var rfl) (EvL.rd (el_lst' (l := [dI (sealB b)]) (ea_cons (EvS.is (ed_op (b := dI (movd Cd.num b.gn)) (ed_op (b := dI (movd item b.wt)) (ed_op (b := dI (nc b.st.length)) (ed_op (a := dI [8]) (b := dI (nc b.mark)) (ed_tup' (ea_cons ed_int ea_nil) rfl) (ed_callP (ea_cons (ed_var rfl) ea_nil) ⟨b.mark, rfl, ob.mkp, by omega, rfl⟩) (od_catI (by simp only [List.length_singleton]; omega))) (ed_callP (ea_cons (EvS.is (ed_lenR (er_var rfl)) (by rw [List.length_map, hlen])) ea_nil) ⟨b.st.length, rfl, by omega, by omega, rfl⟩) (od_catI (by simp only [List.length_append, List.length_singleton]; omega))) (ed_callP (ea_cons (ed_var rfl) (ea_cons ed_bl ea_nil)) ⟨b.wt, rfl, ob.n2, fun p hp => ⟨ob.o2 p hp, sm.s2 p hp⟩, by omega, rfl⟩) (od_catI (by simp only [List.length_append, List.length_singleton]; omega))) (ed_callP (ea_cons (ed_var rfl) (ea_cons ed_bl ea_nil)) ⟨b.gn, rfl, ob.n3, fun p hp => ⟨ob.o3 p hp, fun _ _ => trivial⟩, by omega, rfl⟩) (od_catI (by simp only [List.length_append, List.length_singleton]; omega))) (by rw [eseal])) ea_nil) rfl)) (sz (by rw [List.length_map, List.length_range, List.length_singleton]; omega))) ?_) fun l vs2 H3 I3 m3 n3 e3 t3 => q l vs2 H3 I3.sameS (I.base0 n3) e3 t3
    unfold bodies recs chk
    rw [hits, List.map_append, List.map_map, List.map_map]
    rfl
end
end NN
set_option Elab.async false
set_option linter.all false
set_option maxRecDepth 100000
set_option maxHeartbeats 4000000
namespace NN
open PySem PySem.Spec PyProof.Rows L2 NM
local macro_rules | `(tactic| walk_at "ev") => `(tactic| ((fail_if_success (first | with_reducible apply gd1 | with_reducible apply gd2 | with_reducible apply gd3 | with_reducible apply gd4 | with_reducible apply gd5)); first
  | with_reducible exact ed_int | with_reducible exact ed_str | with_reducible exact ed_bl | with_reducible exact ed_non
  | ((with_reducible apply ed_var); rfl) | ((with_reducible apply er_var); rfl)
  | with_reducible exact ea_nil | ((with_reducible apply ea_cons) <;> walk_at "ev")
  | with_reducible exact od_int | with_reducible exact od_bool | exact od_intC (by decide) | exact od_intC ⟨by decide, by decide⟩ | exact od_intC (.inl ⟨by decide, by decide⟩) | with_reducible exact ud_int | with_reducible exact od_eqI | with_reducible exact od_neI | with_reducible exact od_strLt | with_reducible exact od_ip
  | ((with_reducible apply ed_op) <;> walk_at "ev")
  | ((with_reducible apply ed_un) <;> walk_at "ev")
  | ((with_reducible apply ed_tup') <;> walk_at "ev")
  | ((with_reducible apply el_lst') <;> walk_at "ev")
  | ((with_reducible apply ebd_test) <;> walk_at "ev")
  | ((with_reducible apply ebd_val) <;> walk_at "ev")
  | ((with_reducible refine ed_lenT ?_) <;> walk_at "ev")
  | ((with_reducible apply ed_lenR) <;> walk_at "ev")
  | ((with_reducible apply ed_tupleR) <;> walk_at "ev")
  | ((with_reducible apply EvL.rd) <;> walk_at "ev")
  | with_reducible exact eo_none
  | ((with_reducible apply eo_some) <;> walk_at "ev")
  | ((with_reducible apply ed_slT) <;> walk_at "ev")
  | ((with_reducible apply ebd_not) <;> walk_at "ev")
  | ((with_reducible apply ei_tup) <;> walk_at "ev")
  | rfl
  | skip))
section
variable {P : Program} {w : World} {K : PySem.W.Frag} {mg : Str → Option Value} {base : Heap}
/-! the source of draws: [the numbers that are left, a state] -/
def At (hp l0 : Addr) (ns : List Int) (st : Int) (H : Hp) : Prop := H hp = some (.lst [.ref l0, .int st]) ∧ H l0 = some (.lst (ns.map V.int))
def inD (hp l0 : Addr) (H : Hp) : Prop := hp ≠ l0 ∧ ∃ (ns : List Int) (st : Int), At hp l0 ns st H ∧ 0 ≤ st ∧ st < 2147483647 ∧ ns.length ≤ 1000
def rD (hp l0 : Addr) : Rl where
  own := fun b => b = hp ∨ b = l0
  inv := inD hp l0
  stay := fun H H' ⟨n, ns, st, ⟨a1, a2⟩, b⟩ h => ⟨n, ns, st, ⟨by rw [h hp (.inl rfl)]; exact a1, by rw [h l0 (.inr rfl)]; exact a2⟩, b⟩
  held := fun H b ⟨_, ns, st, ⟨a1, a2⟩, _⟩ h => by
    rcases h with rfl | rfl
    · rw [a1]; simp
    · rw [a2]; simp
  notup := fun H b xs ⟨_, ns, st, ⟨a1, a2⟩, _⟩ h => by
    rcases h with rfl | rfl
    · rw [a1]; simp
    · rw [a2]; simp
def spDraw : Sp := fun vs H Q _ => ∃ (hp l0 : Addr) (m : Int), vs = [.ref hp, .int m] ∧ 0 < m ∧ m < 1073741824 ∧ inD hp l0 H ∧ ∀ r H', 0 ≤ r → r < m → inD hp l0 H' → Mv (rD hp l0) H H' → Q (.int r) H'
theorem dp_ints {H : Hp} : ∀ ns : List Int, DpAll K H (ns.map V.int) (ns.map PyData.int)
  | [] => .nil
  | n :: r => .cons (.int n) (dp_ints r)
theorem shp_lI (ns : List Int) : SeqAt.shaped (.list (ns.map .int)) = true := by
  have h := shp_ints ns
  unfold SeqAt.shaped
  simp only [PyData.canLay0, PyData.depth, h.1, h.2]
  decide
theorem eqv_lnil (xs : List PyData) : PyData.eqv (.list xs) (.list []) = decide (xs = []) := by
  cases xs with
  | nil => simp [PyData.eqv, PyData.eqvAll]
  | cons x r => simp [PyData.eqv, PyData.eqvAll]
abbrev N0 : Hp := fun _ => none
theorem n0 {H : Hp} : Same N0 H := fun _ _ h => by cases h
section
variable {σ : L2.St} {H : Hp} {hp l0 : Addr} {ns : List Int} {st : Int}
theorem rd0 {Q : VK} (e : σ[0]? = some (some (.ref hp))) (h : At hp l0 ns st H) (q : Q (.ref l0) H) : tOp (rIxL K) (tVar 0) (tC (.int 0)) σ H Q := ⟨_, e, hp, _, 0, .ref l0, rfl, rfl, .of h.1, atI_nat (j := 0) rfl, q⟩
theorem rd1 {Q : VK} (e : σ[0]? = some (some (.ref hp))) (h : At hp l0 ns st H) (q : Q (.int st) H) : tOp (rIxL K) (tVar 0) (tC (.int 1)) σ H Q := ⟨_, e, hp, _, 1, .int st, rfl, rfl, .of h.1, atI_nat (j := 1) rfl, q⟩
theorem At.new (h : At hp l0 ns st H) {p : Addr} {o : HO} (hn : H p = none) : At hp l0 ns st (upd H p o) := ⟨by rw [upd_ne (ne_of_none h.1 hn)]; exact h.1, by rw [upd_ne (ne_of_none h.2 hn)]; exact h.2⟩
/-- heap[0] != [] -/
theorem rdNe {Q : Bool → Hp → Prop} (e : σ[0]? = some (some (.ref hp))) (h : At hp l0 ns st H) (q : ∀ H', Same H H' → At hp l0 ns st H' → Q (!decide (ns = [])) H') : tTest (tOp (rNeD K) (tOp (rIxL K) (tVar 0) (tC (.int 0))) (tLst tNil)) σ H Q := by
  show tOp (rIxL K) (tVar 0) (tC (.int 0)) σ H _
  refine rd0 e h ⟨by decide, fun p hn => ?_⟩
  have h2 := h.new (o := .lst []) hn
  refine ⟨.list (ns.map .int), .list [], .lst (.of h2.2) (dp_ints ns), .lst (.of upd_same) .nil, shp_lI ns, shp_lI [], _, rfl, ?_⟩
  rw [eqv_lnil]
  have e2 : decide (ns.map PyData.int = []) = decide (ns = []) := decide_eq_decide.mpr ⟨fun z => List.map_eq_nil_iff.mp z, fun z => by rw [z]; rfl⟩
  rw [e2]
  exact q _ (same_new hn) h2
end
theorem lastI {ns : List Int} (h : ns ≠ []) : atI (ns.map V.int) (-1) = some (.int (ns.getLast h)) := by
  conv => lhs; rw [← List.dropLast_concat_getLast h]
  rw [List.map_append]
  exact atI_last _ _
theorem rdTest {σ : L2.St} {H : Hp} {hp l0 : Addr} {ns : List Int} {st : Int} {Q : Bool → Hp → Prop} (e : σ[0]? = some (some (.ref hp))) (h : At hp l0 ns st H) (q : ∀ b H', Same H H' → At hp l0 ns st H' → (b = true → ns ≠ []) → Q b H') :
    tAnd (tTest (tOp (rNeD K) (tOp (rIxL K) (tVar 0) (tC (.int 0))) (tLst tNil))) (tTest (tOp rEq (tOp (rIxL K) (tOp (rIxL K) (tVar 0) (tC (.int 0))) (tUn (rU fun i => .int (-i)) (tC (.int 1)))) (tC (.int 0)))) σ H Q := by
  refine rdNe e h fun H1 s1 h1 => ?_
  by_cases c : ns = []
  · rw [decide_eq_true c]
    exact q false H1 s1 h1 (fun z => nomatch z)
  · rw [decide_eq_false c]
    show tOp (rIxL K) (tVar 0) (tC (.int 0)) σ H1 _
    refine rd0 e h1 ?_
    refine ⟨1, rfl, ?_⟩
    refine ⟨l0, _, -1, _, rfl, rfl, .of h1.2, lastI c, ?_⟩
    show rEq (.int (ns.getLast c)) (.int 0) H1 (fun x H' => ∃ k, x = V.bl k ∧ Q k H')
    refine od_eqI (F := N0) H1 _ _ n0 (.int (ns.getLast c)) (.int 0) _ fun v d H2 ed s2 td => ?_
    subst ed
    cases td
    exact ⟨_, rfl, q _ H2 (fun b o e => s2 b o (s1 b o e)) ⟨s2 _ _ h1.1, s2 _ _ h1.2⟩ fun _ => c⟩
theorem Mv.ofAt {hp l0 : Addr} {H H' : Hp} (h : ∀ b o, b ≠ hp → b ≠ l0 → H b = some o → H' b = some o) : Mv (rD hp l0) H H' := fun b o n e => h b o (fun z => n (.inl z)) (fun z => n (.inr z)) e
/-! _law_draw -/
abbrev s44 : Stmt := topS 44
theorem sc44 : FnScope ["_law_heap_here", "_law_many", "_law_rest"] ["_law_heap_here", "_law_many"] (defScope s44) := ⟨rfl, rfl, rfl, by decide +kernel, rfl, by decide +kernel, by decide +kernel⟩
theorem g44 (D : Df K mg "_law_draw" s44 ["_law_heap_here", "_law_many"]) (N : Nm mg) : Gf P w K mg base 1 "_law_draw" ["_law_heap_here", "_law_many"] spDraw := by
  refine fn_gen D sc44 (fun vs H Q E ⟨hp, l0, m, e, _⟩ => by subst e; rfl) fun cdv A outer s f H vs Q E hr c0 => ?_
  obtain ⟨hp, l0, m, rfl, hm, hm2, ⟨hne, ns, st, hat, st0, st1, hl⟩, q⟩ := c0
  refine ⟨_, (pss_cons (ps_while PassesOwn.never (PW.pt (pw_and (pt_cmpR (op_neD hr.units) (pe_ix ix_list (pv 0) pe_int (fun _ _ => rfl)) (pe_lst pa_nil) (nomark _)) (pw_and1 (pt_cmpR op_eq (pe_ix ix_list (pe_ix ix_list (pv 0) pe_int (fun _ _ => rfl)) (pe_un un_neg pe_int) (fun _ _ => rfl)) pe_int (nomark _)))))
    (pss_one (ps_expr (pe_bm0 PySem.F.plainAttrs_list PySem.F.slot_list_pop PySem.F.type_list_pop mt_pop (pe_ix ix_list (pv 0) pe_int (fun _ _ => rfl))))))
    (pss_cons (ps_if (pt_cmpR (op_neD hr.units) (pe_ix ix_list (pv 0) pe_int (fun _ _ => rfl)) (pe_lst pa_nil) (nomark _))
    (pss_cons (ps_set (i := 2) sc44.nd rfl (.inl rfl) (pe_bm0 PySem.F.plainAttrs_list PySem.F.slot_list_pop PySem.F.type_list_pop mt_pop (pe_ix ix_list (pv 0) pe_int (fun _ _ => rfl))))
    (pss_cons (ps_expr (pe_bm PySem.F.plainAttrs_list PySem.F.slot_list_append PySem.F.type_list_append mt_append (pe_ix ix_list (pv 0) pe_int (fun _ _ => rfl)) (pa_cons (pe_op op_fdiv (pv 2) (pv 1)) pa_nil)))
    (pss_one (ps_ret (pe_op op_mod (pe_callTy call_int1 (by rfl) N.int (by decide +kernel) (pa_cons (pv 2) pa_nil)) (pv 1))))))
    pss_nil)
    (pss_cons (ps_asg (pe_op op_mod (pe_callTy call_int1 (by rfl) N.int (by decide +kernel) (pa_cons (pe_op op_add (pe_op op_mul (pe_ix ix_list (pv 0) pe_int (fun _ _ => rfl)) pe_int) pe_int) pa_nil)) pe_int) (pg_sub (pv 0) pe_int set_list (fun _ => rfl)))
    (pss_one (ps_ret (pe_op op_mod (pe_callTy call_int1 (by rfl) N.int (by decide +kernel) (pa_cons (pe_op op_fdiv (pe_ix ix_list (pv 0) pe_int (fun _ _ => rfl)) pe_int) pa_nil)) (pv 1))))))), ?_⟩
  show tSeq _ _ _ _ _
  refine ⟨fun n σ' H' => ∃ ns', n = ns'.length ∧ ns'.length ≤ 1000 ∧ σ' = L2.start ["_law_heap_here", "_law_many", "_law_rest"] [.ref hp, .int m] ∧ At hp l0 ns' st H' ∧ Mv (rD hp l0) H H', ⟨_, ns, rfl, hl, rfl, hat, Mv.refl _ _⟩, ?_⟩
  rintro n σ H1 ⟨ns1, rfl, hl1, rfl, hat1, m1⟩
  refine rdTest rfl hat1 fun b H2 s2 h2 hb => ?_
  have m2 : Mv (rD hp l0) H H2 := m1.trans (Mv.of s2)
  cases b with
  | true =>
    have hn := hb rfl
    have hpos := List.length_pos_iff.mpr hn
    refine ⟨fun σ' H' => σ' = L2.start ["_law_heap_here", "_law_many", "_law_rest"] [.ref hp, .int m] ∧ At hp l0 ns1.dropLast st H' ∧ Mv (rD hp l0) H H', fun σ' H' ⟨e1, e2, e3⟩ => ⟨ns1.dropLast.length, by rw [List.length_dropLast]; omega, ns1.dropLast, rfl, by rw [List.length_dropLast]; omega, e1, e2, e3⟩, ?_⟩
    show tOp (rIxL K) (tVar 0) (tC (.int 0)) _ H2 _
    refine rd0 rfl h2 ⟨.inl ⟨rfl, _, .of h2.2⟩, l0, _, .int (ns1.getLast hn), rfl, rfl, h2.2, ?_, rfl, ⟨?_, ?_⟩, ?_⟩
    · rw [List.length_map, List.getElem?_map]
      have : ns1[ns1.length - 1]? = some (ns1.getLast hn) := by
        rw [← List.getLast?_eq_getElem?, List.getLast?_eq_getLast hn]
      rw [this]
      rfl
    · rw [upd_ne hne]
      exact h2.1
    · rw [upd_same, List.map_dropLast]
    · exact m2.trans (Mv.ofAt fun b o n1 n2 e => by rw [upd_ne n2]; exact e)
  | false =>
    rw [if_neg Bool.false_ne_true]
    dsimp only
    refine rdNe rfl h2 fun H3 s3 h3 => ?_
    have m3 : Mv (rD hp l0) H H3 := m2.trans (Mv.of s3)
    by_cases hn : ns1 = []
    · rw [decide_eq_true hn, if_neg (by decide)]
      dsimp only [tNext, tSeq, tAsg, tDrop, tRet, gName, gSub]
      have v1 : 0 ≤ (st * 48271 + 13) % 2147483647 ∧ (st * 48271 + 13) % 2147483647 < 2147483647 := by omega
      refine rd1 rfl h3 ⟨st, 48271, rfl, rfl, .inr ⟨by decide, by decide⟩, st * 48271, 13, rfl, rfl, .inl ⟨st * 48271 + 13, rfl, st * 48271 + 13, 2147483647, rfl, rfl, (show (0 : Int) < 2147483647 by decide), _, rfl, hp, _, 1, 1, rfl, rfl, h3.1, rfl, ?_⟩⟩
      have h4 : At hp l0 ns1 ((st * 48271 + 13) % 2147483647) (upd H3 hp (.lst ([V.ref l0, V.int st].set 1 (.int ((st * 48271 + 13) % 2147483647))))) := ⟨upd_same, by rw [upd_ne (Ne.symm hne)]; exact h3.2⟩
      have m4 : Mv (rD hp l0) H (upd H3 hp (.lst ([V.ref l0, V.int st].set 1 (.int ((st * 48271 + 13) % 2147483647))))) := m3.trans (Mv.ofAt fun b o n1 n2 e => by rw [upd_ne n1]; exact e)
      generalize upd H3 hp (.lst ([V.ref l0, V.int st].set 1 (.int ((st * 48271 + 13) % 2147483647)))) = H4 at h4 m4
      refine rd1 rfl h4 ⟨_, 64, rfl, rfl, ⟨by decide, by decide⟩, .inl ⟨_, rfl, _, rfl, _, m, rfl, rfl, hm, ?_⟩⟩
      exact q _ _ (Int.emod_nonneg _ (by omega)) (Int.emod_lt_of_pos _ hm) ⟨hne, _, _, h4, v1.1, v1.2, hl1⟩ m4
    · rw [decide_eq_false hn, if_pos (by decide)]
      have hpos := List.length_pos_iff.mpr hn
      dsimp only [tNext, tSeq, tAsg, tDrop, tRet, gName, gSub]
      refine rd0 rfl h3 ⟨.inl ⟨rfl, _, .of h3.2⟩, l0, _, .int (ns1.getLast hn), rfl, rfl, h3.2, ?_, ?_⟩
      · rw [List.length_map, List.getElem?_map]
        have : ns1[ns1.length - 1]? = some (ns1.getLast hn) := by
          rw [← List.getLast?_eq_getElem?, List.getLast?_eq_getLast hn]
        rw [this]
        rfl
      generalize ns1.getLast hn = z
      have h4 : At hp l0 ns1.dropLast st (upd H3 l0 (.lst (ns1.map V.int).dropLast)) := ⟨by rw [upd_ne hne]; exact h3.1, by rw [upd_same, List.map_dropLast]⟩
      have m4 : Mv (rD hp l0) H (upd H3 l0 (.lst (ns1.map V.int).dropLast)) := m3.trans (Mv.ofAt fun b o n1 n2 e => by rw [upd_ne n2]; exact e)
      generalize upd H3 l0 (.lst (ns1.map V.int).dropLast) = H4 at h4 m4
      refine rd0 rfl h4 ⟨.inl ⟨rfl, _, .of h4.2⟩, ?_⟩
      refine ⟨_, rfl, _, rfl, z, m, rfl, rfl, ⟨hm, hm2⟩, l0, _, .int (z / m), rfl, rfl, h4.2, ?_, ?_⟩
      · rw [List.length_map, List.length_dropLast]
        exact sz' (by omega)
      have h5 : At hp l0 (ns1.dropLast ++ [z / m]) st (upd H4 l0 (.lst (ns1.dropLast.map V.int ++ [.int (z / m)]))) := ⟨by rw [upd_ne hne]; exact h4.1, by rw [upd_same, List.map_append]; rfl⟩
      have m5 : Mv (rD hp l0) H (upd H4 l0 (.lst (ns1.dropLast.map V.int ++ [.int (z / m)]))) := m4.trans (Mv.ofAt fun b o n1 n2 e => by rw [upd_ne n2]; exact e)
      refine ⟨_, rfl, .inl ⟨z, rfl, _, rfl, z, m, rfl, rfl, hm, ?_⟩⟩
      exact q (z % m) _ (Int.emod_nonneg _ (by omega)) (Int.emod_lt_of_pos _ hm) ⟨hne, _, st, h5, st0, st1, by rw [List.length_append, List.length_dropLast, List.length_singleton]; omega⟩ m5
end
end NN
set_option Elab.async false
set_option linter.all false
set_option maxRecDepth 100000
set_option maxHeartbeats 4000000
namespace NN
open PySem PySem.Spec PyProof.Rows L2 NM
local macro_rules | `(tactic| walk_at "ev") => `(tactic| ((fail_if_success (first | with_reducible apply gd1 | with_reducible apply gd2 | with_reducible apply gd3 | with_reducible apply gd4 | with_reducible apply gd5)); first
  | with_reducible exact ed_int | with_reducible exact ed_str | with_reducible exact ed_bl | with_reducible exact ed_non
  | ((with_reducible apply ed_var); rfl) | ((with_reducible apply er_var); rfl)
  | with_reducible exact ea_nil | ((with_reducible apply ea_cons) <;> walk_at "ev")
  | with_reducible exact od_int | with_reducible exact od_bool | exact od_intC (by decide) | exact od_intC ⟨by decide, by decide⟩ | exact od_intC (.inl ⟨by decide, by decide⟩) | with_reducible exact ud_int | with_reducible exact od_eqI | with_reducible exact od_neI | with_reducible exact od_strLt | with_reducible exact od_ip
  | ((with_reducible apply ed_op) <;> walk_at "ev")
  | ((with_reducible apply ed_un) <;> walk_at "ev")
  | ((with_reducible apply ed_tup') <;> walk_at "ev")
  | ((with_reducible apply el_lst') <;> walk_at "ev")
  | ((with_reducible apply ebd_test) <;> walk_at "ev")
  | ((with_reducible apply ebd_val) <;> walk_at "ev")
  | ((with_reducible refine ed_lenT ?_) <;> walk_at "ev")
  | ((with_reducible apply ed_lenR) <;> walk_at "ev")
  | ((with_reducible apply ed_tupleR) <;> walk_at "ev")
  | ((with_reducible apply EvL.rd) <;> walk_at "ev")
  | with_reducible exact eo_none
  | ((with_reducible apply eo_some) <;> walk_at "ev")
  | ((with_reducible apply ed_slT) <;> walk_at "ev")
  | ((with_reducible apply ebd_not) <;> walk_at "ev")
  | ((with_reducible apply ei_tup) <;> walk_at "ev")
  | rfl
  | skip))
section
variable {P : Program} {w : World} {K : PySem.W.Frag} {mg : Str → Option Value} {base : Heap}
structure HIn (ρ : Rl) (hp l0 : Addr) : Prop where
  o1 : ρ.own hp
  o2 : ρ.own l0
  inv : ∀ H, ρ.inv H → inD hp l0 H
  back : ∀ H H', ρ.inv H → Mv (rD hp l0) H H' → inD hp l0 H' → ρ.inv H'
theorem HIn.self (hp l0 : Addr) : HIn (rD hp l0) hp l0 := ⟨.inl rfl, .inr rfl, fun _ h => h, fun _ _ _ _ h => h⟩
theorem HIn.mv {ρ : Rl} {hp l0 : Addr} (h : HIn ρ hp l0) {H H' : Hp} (m : Mv (rD hp l0) H H') : Mv ρ H H' := fun b o n e => m b o (fun z => n (z.elim (fun z => z ▸ h.o1) (fun z => z ▸ h.o2))) e
section
variable {ρ : Rl} {F H0 H H' : Hp} {σ : L2.St} {Γ : List Ty} {hp l0 : Addr} {i : Nat} {tm te : TE} {E : XK}
theorem es_draw (h : HIn ρ hp l0) (hi : Γ[i]? = some (.val (.ref hp))) {m : Int} (hm : EvD ρ F tm Γ (.int m)) (h0 : 0 < m) (h1 : m < 1073741824) : EvS ρ F (tCall spDraw [] E (tCons (tVar i) (tCons tm tNil))) Γ (fun d => ∃ r, d = .int r ∧ 0 ≤ r ∧ r < m) := fun H0 σ H I Q q => by
  refine ⟨_, I.val hi, hm H0 σ H I _ fun v d H1 e I1 m1 t1 => ?_⟩
  subst e
  cases t1
  show spDraw [.ref hp, .int m] H1 Q E
  exact ⟨hp, l0, m, rfl, h0, h1, h.inv _ I1.inv, fun r H' r0 r1 iv mv => q _ _ H' ⟨r, rfl, r0, r1⟩ (I1.on (h.back _ _ I1.inv mv iv) (h.mv mv)) (m1.trans (h.mv mv)) (.int r)⟩
end
def spPick : Sp := fun vs H Q _ => ∃ (F : Hp) (hp l0 l : Addr) (ws : List V) (ds : List PyData), vs = [.ref hp, .ref l] ∧ l ≠ hp ∧ l ≠ l0 ∧ inD hp l0 H ∧ H l = some (.lst ws) ∧ TDs F H ws ds ∧ 0 < ds.length ∧ ds.length < 10000 ∧
  ∀ v d H', d ∈ ds → TD F H' v d → inD hp l0 H' → Mv (rD hp l0) H H' → Q v H'
/-! _law_pick -/
abbrev s45 : Stmt := topS 45
theorem sc45 : FnScope ["_law_heap_here", "_law_some"] ["_law_heap_here", "_law_some"] (defScope s45) := ⟨rfl, rfl, rfl, by decide +kernel, rfl, by decide +kernel, by decide +kernel⟩
theorem g45 (D : Df K mg "_law_pick" s45 ["_law_heap_here", "_law_some"]) (N : Nm mg) (g_d : Gf P w K mg base 1 "_law_draw" ["_law_heap_here", "_law_many"] spDraw) : Gf P w K mg base 2 "_law_pick" ["_law_heap_here", "_law_some"] spPick := by
  refine fn_gen D sc45 (fun vs H Q E ⟨F, hp, l0, l, ws, ds, e, _⟩ => by subst e; rfl) fun cdv A outer s f H vs Q E hr c0 => ?_
  obtain ⟨F, hp, l0, l, ws, ds, rfl, n1, n2, iv, hl, td, p1, p2, q⟩ := c0
  refine ⟨_, (pss_one (ps_ret (pe_ix ix_list (pv 1) (pe_g g_d (hr.mono (by decide)) (pa_cons (pv 0) (pa_cons (pe_callB call_len_seq (by rfl) N.len PySem.boot_len (pa_cons (pv 1) pa_nil)) pa_nil))) (fun _ _ => rfl)))), ?_⟩
  have lw := td.len
  refine ⟨_, rfl, _, rfl, _, rfl, l, ws, rfl, .inl (.of hl), hp, l0, (ws.length : Int), rfl, by omega, by omega, iv, fun r H' r0 r1 iv' mv => ?_⟩
  have hl' : H' l = some (.lst ws) := mv l _ (fun z => z.elim n1 n2) hl
  obtain ⟨k, rfl⟩ : ∃ k : Nat, r = k := ⟨r.toNat, by omega⟩
  have hk : k < ws.length := by omega
  obtain ⟨d, e1, t1⟩ := td.get' (List.getElem?_eq_getElem hk)
  exact ⟨l, ws, k, ws[k], rfl, rfl, .of hl', atI_nat (List.getElem?_eq_getElem hk), q _ d H' (List.mem_of_getElem? e1) (t1.tu (mv.tu iv)) iv' mv⟩
section
variable {ρ : Rl} {F H0 H H' : Hp} {σ : L2.St} {Γ : List Ty} {hp l0 : Addr} {i : Nat} {tm te : TE} {E : XK}
theorem es_pick (h : HIn ρ hp l0) (hi : Γ[i]? = some (.val (.ref hp))) {ds : List PyData} (hl : EvL ρ F te Γ (· = ds)) (h0 : 0 < ds.length) (h1 : ds.length < 10000) : EvS ρ F (tCall spPick [] E (tCons (tVar i) (tCons te tNil))) Γ (· ∈ ds) := fun H0 σ H I Q q => by
  refine ⟨_, I.val hi, hl H0 σ H I _ fun l ws d H1 e I1 m1 n el td => ?_⟩
  subst e
  show spPick [.ref hp, .ref l] H1 Q E
  have no := I.newown n
  exact ⟨F, hp, l0, l, ws, d, rfl, fun z => no (z ▸ h.o1), fun z => no (z ▸ h.o2), h.inv _ I1.inv, el, td, h0, h1, fun v d H' hd t iv mv => q v d H' hd (I1.on (h.back _ _ I1.inv mv iv) (h.mv mv)) (m1.trans (h.mv mv)) t⟩
end
end
end NN
set_option Elab.async false
set_option linter.all false
set_option maxRecDepth 100000
set_option maxHeartbeats 4000000
namespace NN
open PySem PySem.Spec PyProof.Rows L2 NM
local macro_rules | `(tactic| walk_at "ev") => `(tactic| ((fail_if_success (first | with_reducible apply gd1 | with_reducible apply gd2 | with_reducible apply gd3 | with_reducible apply gd4 | with_reducible apply gd5)); first
  | with_reducible exact ed_int | with_reducible exact ed_str | with_reducible exact ed_bl | with_reducible exact ed_non
  | ((with_reducible apply ed_var); rfl) | ((with_reducible apply er_var); rfl)
  | with_reducible exact ea_nil | ((with_reducible apply ea_cons) <;> walk_at "ev")
  | with_reducible exact od_int | with_reducible exact od_bool | exact od_intC (by decide) | exact od_intC ⟨by decide, by decide⟩ | exact od_intC (.inl ⟨by decide, by decide⟩) | with_reducible exact ud_int | with_reducible exact od_eqI | with_reducible exact od_neI | with_reducible exact od_strLt | with_reducible exact od_ip
  | ((with_reducible apply ed_op) <;> walk_at "ev")
  | ((with_reducible apply ed_un) <;> walk_at "ev")
  | ((with_reducible apply ed_tup') <;> walk_at "ev")
  | ((with_reducible apply el_lst') <;> walk_at "ev")
  | ((with_reducible apply ebd_test) <;> walk_at "ev")
  | ((with_reducible apply ebd_val) <;> walk_at "ev")
  | ((with_reducible refine ed_lenT ?_) <;> walk_at "ev")
  | ((with_reducible apply ed_lenR) <;> walk_at "ev")
  | ((with_reducible apply ed_tupleR) <;> walk_at "ev")
  | ((with_reducible apply EvL.rd) <;> walk_at "ev")
  | with_reducible exact eo_none
  | ((with_reducible apply eo_some) <;> walk_at "ev")
  | ((with_reducible apply ed_slT) <;> walk_at "ev")
  | ((with_reducible apply ebd_not) <;> walk_at "ev")
  | ((with_reducible apply ei_tup) <;> walk_at "ev")
  | rfl
  | skip))
section
variable {P : Program} {w : World} {K : PySem.W.Frag} {mg : Str → Option Value} {base : Heap}
/-! names -/
def NM2 (ys : List Str) : Prop := ys.length ≤ 2 ∧ (∀ y ∈ ys, okName y) ∧ ∀ a b, ys = [a, b] → a.cps.toList < b.cps.toList
theorem perm_two {α : Type} {a b : α} {ys : List α} (h : ys.Perm [a, b]) : ys = [a, b] ∨ ys = [b, a] := by
  have hl := h.length_eq
  match ys, hl with
  | [c, d], _ =>
    have hc : c ∈ [a, b] := h.mem_iff.mp List.mem_cons_self
    rcases List.mem_cons.mp hc with e | e
    · subst e
      have := List.perm_singleton.mp ((List.perm_cons c).mp h)
      exact .inl (by rw [this])
    · have e := List.mem_singleton.mp e
      subst e
      have h2 : [c, d].Perm [c, a] := h.trans (List.Perm.swap c a [])
      have := List.perm_singleton.mp ((List.perm_cons c).mp h2)
      exact .inr (by rw [this])
def nmBase : List Str := ["a", "red", "zz", "abcdefgh"]
theorem nm0 {ys : List Str} (h : ys.Perm []) : NM2 ys := by
  rw [h.eq_nil]
  exact ⟨by decide, by simp, fun a b e => by cases e⟩
theorem nm1 {ys : List Str} {a : Str} (ha : okName a) (h : ys.Perm [a]) : NM2 ys := by
  rw [List.perm_singleton.mp h]
  exact ⟨(show 1 ≤ 2 by decide), fun y hy => by rw [List.mem_singleton.mp hy]; exact ha, fun a b e => by cases e⟩
theorem nm2 {ys : List Str} {a b : Str} (ha : okName a) (hb : okName b) (h : ys.Perm [a, b]) (hs : PyProof.Rows.sortedS ys = true) (h1 : PyProof.Rows.sortedS [a, b] = true → a.cps.toList < b.cps.toList) (h2 : PyProof.Rows.sortedS [b, a] = true → b.cps.toList < a.cps.toList) : NM2 ys := by
  have two : ∀ c d : Str, okName c → okName d → c.cps.toList < d.cps.toList → NM2 [c, d] := fun c d hc hd hl =>
    ⟨(show 2 ≤ 2 by decide), fun y hy => by
      rcases List.mem_cons.mp hy with e | e
      · rw [e]; exact hc
      · rw [List.mem_singleton.mp e]; exact hd, fun x y e => by cases e; exact hl⟩
  rcases perm_two h with e | e
  · subst e
    exact two a b ha hb (h1 hs)
  · subst e
    exact two b a hb ha (h2 hs)
theorem ok_a : okName "a" := by unfold okName; decide +kernel
theorem ok_red : okName "red" := by unfold okName; decide +kernel
theorem ok_zz : okName "zz" := by unfold okName; decide +kernel
theorem ok_abc : okName "abcdefgh" := by unfold okName; decide +kernel
theorem names_ok {i j : Nat} (hi : i < 3) (hj : j < 3) {ys : List Str} (h : ys.Perm ((nmBase.drop i).take j)) (hs : PyProof.Rows.sortedS ys = true) : NM2 ys := by
  match i, j, hi, hj with
  | 0, 0, _, _ => exact nm0 h
  | 1, 0, _, _ => exact nm0 h
  | 2, 0, _, _ => exact nm0 h
  | 0, 1, _, _ => exact nm1 ok_a h
  | 1, 1, _, _ => exact nm1 ok_red h
  | 2, 1, _, _ => exact nm1 ok_zz h
  | 0, 2, _, _ => exact nm2 ok_a ok_red h hs (fun _ => by decide +kernel) (fun z => absurd z (by decide +kernel))
  | 1, 2, _, _ => exact nm2 ok_red ok_zz h hs (fun _ => by decide +kernel) (fun z => absurd z (by decide +kernel))
  | 2, 2, _, _ => exact nm2 ok_zz ok_abc h hs (fun z => absurd z (by decide +kernel)) (fun _ => by decide +kernel)
  | i + 3, _, h, _ => exact absurd h (by omega)
  | _, j + 3, _, h => exact absurd h (by omega)
end
end NN
set_option Elab.async false
set_option linter.all false
set_option maxRecDepth 100000
set_option maxHeartbeats 4000000
namespace NN
open PySem PySem.Spec PyProof.Rows L2 NM
local macro_rules | `(tactic| walk_at "ev") => `(tactic| ((fail_if_success (first | with_reducible apply gd1 | with_reducible apply gd2 | with_reducible apply gd3 | with_reducible apply gd4 | with_reducible apply gd5)); first
  | with_reducible exact ed_int | with_reducible exact ed_str | with_reducible exact ed_bl | with_reducible exact ed_non
  | ((with_reducible apply ed_var); rfl) | ((with_reducible apply er_var); rfl)
  | with_reducible exact ea_nil | ((with_reducible apply ea_cons) <;> walk_at "ev")
  | with_reducible exact od_int | with_reducible exact od_bool | exact od_intC (by decide) | exact od_intC ⟨by decide, by decide⟩ | exact od_intC (.inl ⟨by decide, by decide⟩) | with_reducible exact ud_int | with_reducible exact od_eqI | with_reducible exact od_neI | with_reducible exact od_strLt | with_reducible exact od_ip
  | ((with_reducible apply ed_op) <;> walk_at "ev")
  | ((with_reducible apply ed_un) <;> walk_at "ev")
  | ((with_reducible apply ed_tup') <;> walk_at "ev")
  | ((with_reducible apply el_lst') <;> walk_at "ev")
  | ((with_reducible apply ebd_test) <;> walk_at "ev")
  | ((with_reducible apply ebd_val) <;> walk_at "ev")
  | ((with_reducible refine ed_lenT ?_) <;> walk_at "ev")
  | ((with_reducible apply ed_lenR) <;> walk_at "ev")
  | ((with_reducible apply ed_tupleR) <;> walk_at "ev")
  | ((with_reducible apply EvL.rd) <;> walk_at "ev")
  | with_reducible exact eo_none
  | ((with_reducible apply eo_some) <;> walk_at "ev")
  | ((with_reducible apply ed_slT) <;> walk_at "ev")
  | ((with_reducible apply ebd_not) <;> walk_at "ev")
  | ((with_reducible apply ei_tup) <;> walk_at "ev")
  | rfl
  | skip))
section
variable {P : Program} {w : World} {K : PySem.W.Frag} {mg : Str → Option Value} {base : Heap}
theorem SS.toR {ρ : Rl} {F H : Hp} {σ : L2.St} {Γ : List Ty} (I : SS rS H F σ H Γ) (iv : ρ.inv H) (hf : ∀ a o, F a = some o → ¬ ρ.own a) (nm : ∀ (i : Nat) (t : Ty), Γ[i]? = some t → t.mut = false) : SS ρ H F σ H Γ where
  inv := iv
  rel := Mv.refl ρ H
  len := I.len
  has := I.has
  fresh := fun i t a h m e => by rw [nm i t h] at m; cases m
  apart := I.apart
  fr := fun a o h => ⟨(I.fr a o h).1, hf a o h⟩
/-- an item of the law's -/
structure gI (key : Int) (p : Nat) (it : Item) : Prop where
  k : it.1 = key
  ok : item.ok it
  l1 : it.2.1.length = p
  l2 : it.2.2.length ≤ 2
  v1 : ∀ x ∈ it.2.1, -10000 ≤ x ∧ x ≤ 10000
  v2 : ∀ y ∈ it.2.2, -1000000000 ≤ y.2 ∧ y.2 ≤ 1000000000
def spItem : Sp := fun vs H Q _ => ∃ (hp l0 : Addr) (key : Int) (p : Nat), vs = [.ref hp, .int key, .int (p : Int)] ∧ 0 ≤ key ∧ p ≤ 1000 ∧ inD hp l0 H ∧ ∀ v it H', gI key p it → TD N0 H' v (dItem it) → inD hp l0 H' → Mv (rD hp l0) H H' → Q v H'
theorem some_ints {p : Int → Prop} : ∀ {es : List PyData}, (∀ e ∈ es, ∃ x, e = .int x ∧ p x) → ∃ ns : List Int, es = ns.map .int ∧ ∀ x ∈ ns, p x
  | [], _ => ⟨[], rfl, fun _ h => by cases h⟩
  | e :: es, h => by
    obtain ⟨x, e1, e2⟩ := h e List.mem_cons_self
    obtain ⟨ns, h1, h2⟩ := some_ints (fun y hy => h y (List.mem_cons_of_mem _ hy))
    exact ⟨x :: ns, by rw [e1, h1]; rfl, fun y hy => (List.mem_cons.mp hy).elim (fun z => z ▸ e2) (h2 y)⟩
theorem some_labs {p : Int → Prop} : ∀ {ys : List Str} {es : List PyData}, es.length = ys.length → (∀ (i : Nat) e, es[i]? = some e → ∃ v, e = .tuple [.str (ys.getD i ""), .int v] ∧ p v) → ∃ vs : List Int, vs.length = ys.length ∧ es = (ys.zip vs).map dLab ∧ ∀ v ∈ vs, p v
  | [], [], _, _ => ⟨[], rfl, rfl, fun _ h => by cases h⟩
  | y :: ys, e :: es, hl, h => by
    obtain ⟨v, e1, e2⟩ := h 0 e rfl
    obtain ⟨vs, h1, h2, h3⟩ := some_labs (ys := ys) (es := es) (by simpa using hl) (fun i e he => h (i + 1) e (by simpa using he))
    exact ⟨v :: vs, by simp [h1], by rw [e1, h2]; rfl, fun x hx => (List.mem_cons.mp hx).elim (fun z => z ▸ e2) (h3 x)⟩
  | [], _ :: _, hl, _ => by simp at hl
  | _ :: _, [], hl, _ => by simp at hl
theorem labs_ok : ∀ {ys : List Str} {vs : List Int}, NM2 ys → vs.length = ys.length → labs.ok (ys.zip vs) := fun {ys vs} ⟨h1, h2, h3⟩ hl => by
  refine ⟨fun p hp => ⟨h2 _ (List.of_mem_zip hp).1, trivial⟩, ?_⟩
  match ys, vs, hl, h1, h3 with
  | [], _, _, _, _ => rfl
  | [a], [x], _, _, _ => rfl
  | [a, b], [x, y], _, _, h3 =>
    have := h3 a b rfl
    show (decide (a.cps.toList < b.cps.toList) && true) = true
    rw [decide_eq_true this]
    rfl
  | _ :: _ :: _ :: _, _, _, h1, _ => simp at h1
theorem el_sortS {ρ : Rl} {F : Hp} {Γ : List Ty} {ta : TE} {xs : List Str} (h : EvR ρ F ta Γ (· = xs.map PyData.str)) (hz : xs.length < 64) : EvL ρ F (tCB (rSortedS K) (tCons ta tNil)) Γ (fun ds => ∃ ys : List Str, ds = ys.map PyData.str ∧ ys.Perm xs ∧ PyProof.Rows.sortedS ys = true) :=
  el_cbR h fun l vs ds H pd e t s Q q => by
    subst pd
    have ev := t.of_strs
    subst ev
    exact ⟨l, xs, rfl, .of e, hz, fun ys p h1 h2 hn => q p _ _ _ ⟨ys, rfl, h1, h2⟩ hn (same_new hn) upd_same (TDs.map (fun x => .str x) ys)⟩
def gLs (ls : List Lab) : Prop := labs.ok ls ∧ ls.length ≤ 2 ∧ ∀ y ∈ ls, -1000000000 ≤ y.2 ∧ y.2 ≤ 1000000000
/-! _law_item -/
abbrev s49 : Stmt := topS 49
theorem sc49 : FnScope ["_law_heap_here", "_law_key", "_law_places", "_law_vector", "_law_turn", "_law_names", "_law_name"] ["_law_heap_here", "_law_key", "_law_places"] (defScope s49) := ⟨rfl, rfl, rfl, by decide +kernel, rfl, by decide +kernel, by decide +kernel⟩
theorem g49 (D : Df K mg "_law_item" s49 ["_law_heap_here", "_law_key", "_law_places"]) (N : Nm mg) (g_d : Gf P w K mg base 1 "_law_draw" ["_law_heap_here", "_law_many"] spDraw) (g_p : Gf P w K mg base 2 "_law_pick" ["_law_heap_here", "_law_some"] spPick) : Gf P w K mg base 3 "_law_item" ["_law_heap_here", "_law_key", "_law_places"] spItem := by
  refine fn_gen D sc49 (fun vs H Q E ⟨hp, l0, key, p, e, _⟩ => by subst e; rfl) fun cdv A outer s f H vs Q E hr c0 => ?_
  obtain ⟨hp, l0, key, p, rfl, hk, hp2, iv, q⟩ := c0
  refine ⟨_, (pss_cons (ps_set (i := 3) sc49.nd rfl (.inl rfl) (pe_callTy call_tuple_of (by rfl) N.tuple (by decide +kernel) (pa_cons (pe_lc (own := [("_law_turn", 4)]) (g := gName 4) (tt := tYes) rfl sc49.nd (pi_range1 rfl N.range (pa_cons (pv 2) pa_nil)) (blkOk_by (own := [("_law_turn", 4)]) (N := ["_law_heap_here", "_law_key", "_law_places", "_law_vector", "_law_turn", "_law_names", "_law_name"]) (sc := defScope s49) (by decide +kernel)) (fun _ _ _ _ _ => (pg_name (i := 4) sc49.nd rfl (.inl rfl))) (fun _ _ _ _ _ => pts_nil) (fun _ _ _ _ _ => (pe_g g_p (hr.mono (by decide)) (pa_cons (pv 0) (pa_cons (pe_lst (pa_cons pe_int (pa_cons pe_int (pa_cons (pe_op op_sub pe_int pe_int) (pa_cons pe_int (pa_cons (pe_op op_sub pe_int pe_int) (pa_cons pe_int (pa_cons (pe_op op_pow pe_int pe_int) (pa_cons (pe_op op_sub pe_int (pe_op op_pow pe_int pe_int)) pa_nil))))))))) pa_nil))))) pa_nil)))
    (pss_cons (ps_set (i := 5) sc49.nd rfl (.inl rfl) (pe_slice sl_list (pe_slice sl_list (pe_lst (pa_cons pe_str (pa_cons pe_str (pa_cons pe_str (pa_cons pe_str pa_nil))))) (po_some (pe_g g_d (hr.mono (by decide)) (pa_cons (pv 0) (pa_cons pe_int pa_nil)))) po_none) po_none (po_some (pe_g g_d (hr.mono (by decide)) (pa_cons (pv 0) (pa_cons pe_int pa_nil))))))
    (pss_one (ps_ret (pe_tup (pa_cons (pv 1) (pa_cons (pv 3) (pa_cons (pe_callTy call_tuple_of (by rfl) N.tuple (by decide +kernel) (pa_cons (pe_lc (own := [("_law_name", 6)]) (g := gName 6) (tt := tYes) rfl sc49.nd (pi_list (pe_callB cr_sortedS (by rfl) N.sorted (by decide +kernel) (pa_cons (pv 5) pa_nil))) (blkOk_by (own := [("_law_name", 6)]) (N := ["_law_heap_here", "_law_key", "_law_places", "_law_vector", "_law_turn", "_law_names", "_law_name"]) (sc := defScope s49) (by decide +kernel)) (fun _ _ _ _ _ => (pg_name (i := 6) sc49.nd rfl (.inl rfl))) (fun _ _ _ _ _ => pts_nil) (fun _ _ _ _ _ => (pe_tup (pa_cons (pv 6) (pa_cons (pe_g g_p (hr.mono (by decide)) (pa_cons (pv 0) (pa_cons (pe_lst (pa_cons pe_int (pa_cons (pe_op op_sub pe_int pe_int) (pa_cons (pe_op op_pow pe_int pe_int) (pa_cons (pe_op op_sub pe_int (pe_op op_pow pe_int pe_int)) (pa_cons pe_int pa_nil)))))) pa_nil))) pa_nil))))) pa_nil)) pa_nil)))))))), ?_⟩
  have I : SS (rD hp l0) H N0 (L2.start ["_law_heap_here", "_law_key", "_law_places", "_law_vector", "_law_turn", "_law_names", "_law_name"] [.ref hp, .int key, .int (p : Int)]) H [.val (.ref hp), .dat (.int key), .dat (.int (p : Int)), .no, .no, .no, .no] := by
    refine SS.toR (SS.start (show 3 ≤ 7 by decide) rfl n0 fun i t e n => ?_) iv (fun a o h => by cases h) (fun i t e => ?_)
    · rcases i with _ | _ | _ | _ | _ | _ | _ | i
      · cases e; exact ⟨rfl, _, rfl, rfl⟩
      · cases e; exact ⟨rfl, _, rfl, .int _⟩
      · cases e; exact ⟨rfl, _, rfl, .int _⟩
      all_goals (cases e; try exact absurd rfl n)
    · rcases i with _ | _ | _ | _ | _ | _ | _ | i <;> (cases e; try rfl)
  have HI := HIn.self hp l0
  show tSeq _ _ _ _ _
  refine sq_asg (P := fun d => ∃ ns : List Int, d = dI ns ∧ ns.length = p ∧ ∀ x ∈ ns, -10000 ≤ x ∧ x ≤ 10000) I ((es_tupleR (PA := fun es => es.length = p ∧ ∀ e ∈ es, ∃ x, e = PyData.int x ∧ -10000 ≤ x ∧ x ≤ 10000) (EvL.rd (el_lcP (PI := fun n f => n = ((p : Nat) : Int).toNat ∧ f = fun i => .int i) (ei_rng1 (ea_cons (ed_var rfl) ea_nil) (by omega)) (one_no rfl) (fun _ _ _ _ d => ∃ x, d = PyData.int x ∧ -10000 ≤ x ∧ x ≤ 10000) (fun n f pi i hi => ⟨_, bw_name, ?_⟩) (fun n f pi => by rw [pi.1]; exact sz (by omega)) (fun n f pi es hl he => ⟨by rw [hl, pi.1]; omega, fun e hm => ?_⟩)))).imp fun d hd => ?_) fun v d H2 pd m2 I => ?_
  · refine (es_pick (ds := [.int 0, .int 1, .int (0 - 1), .int 64, .int (0 - 64), .int 63, .int (10 ^ (4 : Int).toNat), .int (0 - 10 ^ (4 : Int).toNat)]) HI rfl (by walk_at "ev") (by decide) (by decide)).imp fun d hd => ?_
    simp only [List.mem_cons, List.not_mem_nil, or_false] at hd
    rcases hd with h | h | h | h | h | h | h | h <;> exact ⟨_, h, by decide, by decide⟩
  · obtain ⟨i, hi⟩ := List.mem_iff_getElem?.mp hm
    exact he i e hi
  · obtain ⟨es, ⟨h1, h2⟩, rfl⟩ := hd
    obtain ⟨ns, rfl, h3⟩ := some_ints h2
    exact ⟨ns, rfl, by rw [← h1, List.length_map], h3⟩
  obtain ⟨vec, rfl, hv1, hv2⟩ := pd
  show tSeq _ _ _ _ _
  have three : ∀ {ρ : Rl} {Γ : List Ty} {ta : TE} , EvS ρ N0 ta Γ (fun d => ∃ r, d = .int r ∧ 0 ≤ r ∧ r < 3) → EvO ρ N0 (tPart ta) Γ (fun o => ∃ i : Nat, i < 3 ∧ o = some (i : Int)) := fun h => eos_some (h.imp fun d ⟨r, e, r0, r1⟩ => ⟨r, e, r.toNat, by omega, by congr 1; omega⟩)
  refine sq_setL (PL := fun ds => ∃ i j : Nat, i < 3 ∧ j < 3 ∧ ds = ((nmBase.drop i).take j).map PyData.str) I (el_slL (PA := fun ds => ∃ i : Nat, i < 3 ∧ ds = (nmBase.drop i).map PyData.str) (EvL.rd (el_slL (PA := (· = nmBase.map PyData.str)) (EvL.rd (el_lst' (l := nmBase.map PyData.str) (ea_cons ed_str (ea_cons ed_str (ea_cons ed_str (ea_cons ed_str ea_nil)))) rfl)) (three (es_draw HI rfl ed_int (by decide) (by decide))) eo_none (fun ds lo hi e1 ⟨i, hi3, e2⟩ e3 => ⟨i, hi3, ?_⟩))) eo_none (three (es_draw HI rfl ed_int (by decide) (by decide))) (fun ds lo hi ⟨i, hi3, e1⟩ e2 ⟨j, hj3, e3⟩ => ⟨i, j, hi3, hj3, ?_⟩)) fun ds σ H3 pd I => ?_
  · subst e1; subst e2; subst e3
    rw [cutD_from (lo := i) rfl (by rw [List.length_map]; show i ≤ 4; omega), List.map_drop]
  · subst e1; subst e2; subst e3
    rw [cutD_to (hi := j) rfl, List.map_take]
  obtain ⟨i, j, hi3, hj3, rfl⟩ := pd
  have hlen : ((nmBase.drop i).take j).length ≤ 2 := by rw [List.length_take]; omega
  refine st_ret (P := fun d => ∃ it, gI key p it ∧ d = dItem it) I (es_tup (PA := fun l => ∃ ls : List Lab, l = [.int key, dI vec, .tuple (ls.map dLab)] ∧ gLs ls) (eas_cons (Pa := (· = .int key)) (PB := fun l => ∃ ls : List Lab, l = [dI vec, .tuple (ls.map dLab)] ∧ gLs ls) (ed_var rfl) (eas_cons (Pa := (· = dI vec)) (PB := fun l => ∃ ls : List Lab, l = [.tuple (ls.map dLab)] ∧ gLs ls) (ed_var rfl) (eas_cons (Pa := fun d => ∃ ls : List Lab, d = .tuple (ls.map dLab) ∧ gLs ls) (PB := (· = [])) ((es_tupleR (PA := fun es => ∃ ls : List Lab, es = ls.map dLab ∧ gLs ls) (EvL.rd ?_)).imp fun d ⟨es, ⟨ls, h1, h2⟩, e⟩ => ⟨ls, by rw [e, h1], h2⟩) ea_nil (fun a l h1 h2 => ?_)) (fun a l h1 h2 => ?_)) (fun a l h1 h2 => ?_)) (fun l ⟨ls, e, o1, o2, o3⟩ => ?_)) fun v d H4 pd I m td => ?_
  · refine el_lcP (PI := fun n f => ∃ ds, (∃ ys : List Str, ds = ys.map PyData.str ∧ NM2 ys) ∧ n = ds.length ∧ f = nth ds) (eis_listR ((el_sortS (xs := (nmBase.drop i).take j) (er_var rfl) (by omega)).imp fun ds ⟨ys, e, hpm, hst⟩ => ⟨ys, e, names_ok hi3 hj3 hpm hst⟩)) (one_no rfl) (fun n f _ k d => ∃ v, d = PyData.tuple [f k, .int v] ∧ -1000000000 ≤ v ∧ v ≤ 1000000000) (fun n f pi k hk => ⟨_, bw_name, ?_⟩) (fun n f ⟨ds, ⟨ys, e, nm⟩, e2, _⟩ => by rw [e2, e, List.length_map]; exact sz (by have := nm.1; omega)) (fun n f pi es hl he => ?_)
    · refine es_tup (PA := fun l => ∃ v, l = [f k, PyData.int v] ∧ -1000000000 ≤ v ∧ v ≤ 1000000000) (eas_cons (Pa := (· = f k)) (ed_var rfl) (eas_cons (Pa := fun d => ∃ v, d = PyData.int v ∧ -1000000000 ≤ v ∧ v ≤ 1000000000) (PB := (· = [])) (PA := fun l => ∃ v, l = [PyData.int v] ∧ -1000000000 ≤ v ∧ v ≤ 1000000000) ?_ ea_nil (fun a l ⟨v, e1, e2⟩ e3 => ⟨v, by rw [e1, e3], e2⟩)) (fun a l e1 ⟨v, e2, e3⟩ => ⟨v, by rw [e1, e2], e3⟩)) (fun l ⟨v, e1, e2⟩ => ⟨by rw [e1]; exact (show 2 ≤ 16777216 by decide), v, by rw [e1], e2⟩)
      refine (es_pick (ds := [.int 0, .int (0 - 1), .int (10 ^ (9 : Int).toNat), .int (0 - 10 ^ (9 : Int).toNat), .int 64]) HI rfl (by walk_at "ev") (by decide) (by decide)).imp fun d hd => ?_
      simp only [List.mem_cons, List.not_mem_nil, or_false] at hd
      rcases hd with h | h | h | h | h <;> exact ⟨_, h, by decide, by decide⟩
    · obtain ⟨ds, ⟨ys, rfl, nm⟩, rfl, rfl⟩ := pi
      rw [List.length_map] at hl
      obtain ⟨vs, k1, k2, k3⟩ := some_labs (p := fun v => -1000000000 ≤ v ∧ v ≤ 1000000000) hl (fun k e hke => by
        obtain ⟨v, e1, e2⟩ := he k e hke
        have hk : k < ys.length := by
          have := (List.getElem?_eq_some_iff.mp hke).1
          omega
        rw [nth_map PyData.str (x := ys.getD k "") (by rw [List.getD_eq_getElem?_getD, List.getElem?_eq_getElem hk]; rfl)] at e1
        exact ⟨v, e1, e2⟩)
      refine ⟨ys.zip vs, k2, labs_ok nm k1, ?_, fun y hy => k3 _ (List.of_mem_zip hy).2⟩
      rw [List.length_zip]
      have := nm.1
      omega
  · obtain ⟨ls, e, r⟩ := h1
    subst h2
    exact ⟨ls, by rw [e], r⟩
  · exact h2.elim fun ls ⟨e, r⟩ => ⟨ls, by rw [h1, e], r⟩
  · exact h2.elim fun ls ⟨e, r⟩ => ⟨ls, by rw [h1, e], r⟩
  · refine ⟨by rw [e]; exact (show 3 ≤ 16777216 by decide), (key, vec, ls), ⟨rfl, ⟨hk, fun _ _ => trivial, o1⟩, hv1, o2, hv2, o3⟩, by rw [e]; rfl⟩
  · obtain ⟨it, g, rfl⟩ := pd
    exact q v it H4 g td I.inv I.rel
end
end NN
set_option Elab.async false
set_option linter.all false
set_option maxRecDepth 100000
set_option maxHeartbeats 4000000
namespace NN
open PySem PySem.Spec PyProof.Rows L2 NM
local macro_rules | `(tactic| walk_at "ev") => `(tactic| ((fail_if_success (first | with_reducible apply gd1 | with_reducible apply gd2 | with_reducible apply gd3 | with_reducible apply gd4 | with_reducible apply gd5)); first
  | with_reducible exact ed_int | with_reducible exact ed_str | with_reducible exact ed_bl | with_reducible exact ed_non
  | ((with_reducible apply ed_var); rfl) | ((with_reducible apply er_var); rfl)
  | with_reducible exact ea_nil | ((with_reducible apply ea_cons) <;> walk_at "ev")
  | with_reducible exact od_int | with_reducible exact od_bool | exact od_intC (by decide) | exact od_intC ⟨by decide, by decide⟩ | exact od_intC (.inl ⟨by decide, by decide⟩) | with_reducible exact ud_int | with_reducible exact od_eqI | with_reducible exact od_neI | with_reducible exact od_strLt | with_reducible exact od_ip
  | ((with_reducible apply ed_op) <;> walk_at "ev")
  | ((with_reducible apply ed_un) <;> walk_at "ev")
  | ((with_reducible apply ed_tup') <;> walk_at "ev")
  | ((with_reducible apply el_lst') <;> walk_at "ev")
  | ((with_reducible apply ebd_test) <;> walk_at "ev")
  | ((with_reducible apply ebd_val) <;> walk_at "ev")
  | ((with_reducible refine ed_lenT ?_) <;> walk_at "ev")
  | ((with_reducible apply ed_lenR) <;> walk_at "ev")
  | ((with_reducible apply ed_tupleR) <;> walk_at "ev")
  | ((with_reducible apply EvL.rd) <;> walk_at "ev")
  | with_reducible exact eo_none
  | ((with_reducible apply eo_some) <;> walk_at "ev")
  | ((with_reducible apply ed_slT) <;> walk_at "ev")
  | ((with_reducible apply ebd_not) <;> walk_at "ev")
  | ((with_reducible apply ei_tup) <;> walk_at "ev")
  | rfl
  | skip))
section
variable {P : Program} {w : World} {K : PySem.W.Frag} {mg : Str → Option Value} {base : Heap}
/-- l, b = new list, data of a kind -/
theorem sq_parLs {ρ : Rl} {F H0 H : Hp} {σ : L2.St} {Γ : List Ty} {ta tb : TE} {i j : Nat} {ds : List PyData} {P : PyData → Prop} {D : Ends} {u : TS} (I : SS ρ H0 F σ H Γ) (h : EvL ρ F ta Γ (· = ds)) (hb : EvS ρ F tb Γ P) (k : ∀ y σ' H', P y → SS ρ H0 F σ' H' ((Γ.set i (.lst ds)).set j (.dat y)) → u D σ' H') : tSeq (tPar i j (tCons ta (tCons tb tNil))) u D σ H :=
  h H0 σ H I _ fun l vs d H1 pd I1 m1 n e td => hb H0 σ H1 I1 _ fun v d2 H2 pd2 I2 m2 t2 => by
    subst pd
    have e2 := m2 l _ (I.newown n) e
    exact ⟨_, _, rfl, k d2 _ H2 pd2 ((I.setN (t := .lst d) I2 i n ⟨l, vs, rfl, e2, td.mono (Same.refl F) (m2.tu I1.inv)⟩).setD j t2)⟩
/-! _law_keys -/
abbrev s50 : Stmt := topS 50
theorem sc50 : FnScope ["_law_heap_here", "_law_many", "_law_found", "_law_key", "_law_turn"] ["_law_heap_here", "_law_many"] (defScope s50) := ⟨rfl, rfl, rfl, by decide +kernel, rfl, by decide +kernel, by decide +kernel⟩
def spKeys : Sp := fun vs H Q _ => ∃ (hp l0 : Addr) (n : Nat), vs = [.ref hp, .int (n : Int)] ∧ n ≤ 100 ∧ inD hp l0 H ∧ ∀ (l : Addr) (ks : List Int) H', ks.length = n → (∀ k ∈ ks, 0 ≤ k ∧ k ≤ 20000000) → H l = none → H' l = some (.lst (ks.map V.int)) → inD hp l0 H' → Mv (rD hp l0) H H' → Q (.ref l) H'
theorem g50 (D : Df K mg "_law_keys" s50 ["_law_heap_here", "_law_many"]) (N : Nm mg) (g_p : Gf P w K mg base 2 "_law_pick" ["_law_heap_here", "_law_some"] spPick) : Gf P w K mg base 3 "_law_keys" ["_law_heap_here", "_law_many"] spKeys := by
  refine fn_gen D sc50 (fun vs H Q E ⟨hp, l0, n, e, _⟩ => by subst e; rfl) fun cdv A outer s f H vs Q E hr c0 => ?_
  obtain ⟨hp, l0, n, rfl, hn, iv, q⟩ := c0
  refine ⟨_, (pss_cons (ps_par (i := 2) (j := 3) rfl sc50.nd rfl rfl (by decide) rfl rfl (pa_cons (pe_lst pa_nil) (pa_cons (pe_g g_p (hr.mono (by decide)) (pa_cons (pv 0) (pa_cons (pe_lst (pa_cons pe_int (pa_cons pe_int (pa_cons pe_int (pa_cons (pe_op op_pow pe_int pe_int) pa_nil))))) pa_nil))) pa_nil)) (by rfl))
    (pss_cons (ps_for PassesOwn.never rfl (pi_range1 rfl N.range (pa_cons (pv 1) pa_nil)) (pg_name (i := 4) sc50.nd rfl (.inl rfl))
    (pss_cons (ps_expr (pe_bm PySem.F.plainAttrs_list PySem.F.slot_list_append PySem.F.type_list_append mt_append (pv 2) (pa_cons (pv 3) pa_nil)))
    (pss_one (ps_set (i := 3) sc50.nd rfl (.inl rfl) (pe_op op_add (pe_op op_add (pv 3) pe_int) (pe_g g_p (hr.mono (by decide)) (pa_cons (pv 0) (pa_cons (pe_lst (pa_cons pe_int (pa_cons pe_int (pa_cons pe_int (pa_cons pe_int (pa_cons (pe_op op_pow pe_int pe_int) pa_nil)))))) pa_nil))))))))
    (pss_one (ps_ret (pv 2))))), ?_⟩
  have I : SS (rD hp l0) H N0 (L2.start ["_law_heap_here", "_law_many", "_law_found", "_law_key", "_law_turn"] [.ref hp, .int (n : Int)]) H [.val (.ref hp), .dat (.int (n : Int)), .no, .no, .no] := by
    refine SS.toR (SS.start (show 2 ≤ 5 by decide) rfl n0 fun i t e n => ?_) iv (fun a o h => by cases h) (fun i t e => ?_)
    · rcases i with _ | _ | _ | _ | _ | i
      · cases e; exact ⟨rfl, _, rfl, rfl⟩
      · cases e; exact ⟨rfl, _, rfl, .int _⟩
      all_goals (cases e; try exact absurd rfl n)
    · rcases i with _ | _ | _ | _ | _ | i <;> (cases e; try rfl)
  have HI := HIn.self hp l0
  show tSeq _ _ _ _ _
  refine sq_parLs (P := fun d => ∃ x, d = PyData.int x ∧ 0 ≤ x ∧ x ≤ 1000000) (ds := []) I (by walk_at "ev") ((es_pick (ds := [.int 0, .int 1, .int 120, .int (10 ^ (6 : Int).toNat)]) HI rfl (by walk_at "ev") (by decide) (by decide)).imp fun d hd => ?_) fun y σ H2 py I => ?_
  · simp only [List.mem_cons, List.not_mem_nil, or_false] at hd
    rcases hd with h | h | h | h <;> exact ⟨_, h, by decide, by decide⟩
  obtain ⟨k0, rfl, k1, k2⟩ := py
  refine sq_forA (α := List Int × Int) ([], k0) (fun i x => x.1.length = i ∧ (∀ k ∈ x.1, 0 ≤ k ∧ k ≤ 20000000) ∧ 0 ≤ x.2 ∧ x.2 ≤ 1000000 + i * 100001) I (ei_rng1 (ea_cons (ed_var rfl) ea_nil) (by omega)) (fun i x => [.val (.ref hp), .dat (.int (n : Int)), .lst (x.1.map .int), .dat (.int x.2), .no]) (fun i x => [.val (.ref hp), .dat (.int (n : Int)), .lst (x.1.map .int), .dat (.int x.2), .dat (.int (i : Nat))]) ⟨rfl, by simp, k1, by simpa using k2⟩ (fun H0 σ H I => I) (fun i x hi => bg_name) ?_ ?_
  · rintro H0' σ H3 hs i ⟨ks, k⟩ hi ⟨p1, p2, p3, p4⟩ I
    dsimp only at p1 p2 p3 p4
    show tSeq _ _ _ _ _
    refine sq_appendD I rfl (ed_var rfl) (sz' (by rw [List.length_map]; show ks.length < _; omega)) fun H4 I => ?_
    refine st_asg (P := fun d => ∃ x, d = PyData.int x ∧ k + 1 ≤ x ∧ x ≤ k + 100001) I (es_op (Pa := (· = .int (k + 1))) (Pb := fun d => ∃ x, d = PyData.int x ∧ 0 ≤ x ∧ x ≤ 100000) (ed_op (ed_var rfl) ed_int od_int) ((es_pick (ds := [.int 0, .int 0, .int 1, .int 126, .int (10 ^ (5 : Int).toNat)]) HI rfl (by walk_at "ev") (by decide) (by decide)).imp fun d hd => ?_) (fun a b e1 ⟨x, e2, x1, x2⟩ => ?_)) fun v d H5 pd m5 I => ?_
    · simp only [List.mem_cons, List.not_mem_nil, or_false] at hd
      rcases hd with h | h | h | h | h <;> exact ⟨_, h, by decide, by decide⟩
    · subst e1; subst e2
      exact fun H a b s ha hb Q q => od_int H a b s ha hb Q fun v d H' e => q v d H' ⟨k + 1 + x, e, by omega, by omega⟩
    · obtain ⟨x, rfl, x1, x2⟩ := pd
      refine ⟨(ks ++ [k], x), ⟨by simp [p1], fun z hz => ?_, by omega, by show x ≤ _; push_cast; omega⟩, ?_⟩
      · rcases List.mem_append.mp hz with h | h
        · exact p2 z h
        · rw [List.mem_singleton.mp h]
          omega
      · show SS (rD hp l0) H0' N0 _ H5 [.val (.ref hp), .dat (.int (n : Int)), .lst ((ks ++ [k]).map .int), .dat (.int x), .no]
        rw [List.map_append]
        exact I.drop 4
  · rintro σ H3 ⟨ks, k⟩ ⟨p1, p2, _⟩ I
    dsimp only at p1 p2
    obtain ⟨l, ws, e, hl, td⟩ := I.lst (i := 2) (ds := ks.map .int) rfl
    rw [td.of_ints] at hl
    exact ⟨_, e, q l ks H3 (by rw [p1]; omega) p2 (I.fresh 2 _ l rfl rfl e).1 hl I.inv I.rel⟩
end
end NN
set_option Elab.async false
set_option linter.all false
set_option maxRecDepth 100000
set_option maxHeartbeats 4000000
namespace NN
open PySem PySem.Spec PyProof.Rows L2 NM
local macro_rules | `(tactic| walk_at "ev") => `(tactic| ((fail_if_success (first | with_reducible apply gd1 | with_reducible apply gd2 | with_reducible apply gd3 | with_reducible apply gd4 | with_reducible apply gd5)); first
  | with_reducible exact ed_int | with_reducible exact ed_str | with_reducible exact ed_bl | with_reducible exact ed_non
  | ((with_reducible apply ed_var); rfl) | ((with_reducible apply er_var); rfl)
  | with_reducible exact ea_nil | ((with_reducible apply ea_cons) <;> walk_at "ev")
  | with_reducible exact od_int | with_reducible exact od_bool | exact od_intC (by decide) | exact od_intC ⟨by decide, by decide⟩ | exact od_intC (.inl ⟨by decide, by decide⟩) | with_reducible exact ud_int | with_reducible exact od_eqI | with_reducible exact od_neI | with_reducible exact od_strLt | with_reducible exact od_ip
  | ((with_reducible apply ed_op) <;> walk_at "ev")
  | ((with_reducible apply ed_un) <;> walk_at "ev")
  | ((with_reducible apply ed_tup') <;> walk_at "ev")
  | ((with_reducible apply el_lst') <;> walk_at "ev")
  | ((with_reducible apply ebd_test) <;> walk_at "ev")
  | ((with_reducible apply ebd_val) <;> walk_at "ev")
  | ((with_reducible refine ed_lenT ?_) <;> walk_at "ev")
  | ((with_reducible apply ed_lenR) <;> walk_at "ev")
  | ((with_reducible apply ed_tupleR) <;> walk_at "ev")
  | ((with_reducible apply EvL.rd) <;> walk_at "ev")
  | with_reducible exact eo_none
  | ((with_reducible apply eo_some) <;> walk_at "ev")
  | ((with_reducible apply ed_slT) <;> walk_at "ev")
  | ((with_reducible apply ebd_not) <;> walk_at "ev")
  | ((with_reducible apply ei_tup) <;> walk_at "ev")
  | rfl
  | skip))
section
variable {P : Program} {w : World} {K : PySem.W.Frag} {mg : Str → Option Value} {base : Heap}
theorem Mv.own {ρ ρ' : Rl} {H H' : Hp} (m : Mv ρ H H') (h : ∀ b, ρ.own b → ρ'.own b) : Mv ρ' H H' := fun b o n e => m b o (fun z => n (h b z)) e
theorem SS.onR {ρ ρ' : Rl} {H0 F H H' : Hp} {σ : L2.St} {Γ : List Ty} (I : SS ρ H0 F σ H Γ) (ho : ∀ b, ρ'.own b ↔ ρ.own b) (i : ρ'.inv H') (m : Mv ρ H H') : SS ρ' H0 F σ H' Γ where
  inv := i
  rel := (I.rel.trans m).own fun b => (ho b).mpr
  len := I.len
  has := fun i t h n => by
    obtain ⟨v, e, q⟩ := I.has i t h n
    refine ⟨v, e, ?_⟩
    have tu := m.tu I.inv
    cases t with
    | no => trivial
    | dat d => exact TD.tu tu q
    | val u => exact q
    | obj C fs => exact ObjD.mono (Same.refl F) tu q
    | lst ds =>
      obtain ⟨l, vs, rfl, hl, hd⟩ := q
      exact ⟨l, vs, rfl, m l _ (I.fresh i _ l h rfl e).2.1 hl, hd.tu tu⟩
    | dct ds =>
      obtain ⟨l, vs, rfl, hl, hd⟩ := q
      exact ⟨l, vs, rfl, m l _ (I.fresh i _ l h rfl e).2.1 hl, hd.tu tu⟩
  fresh := fun i t a h m e => by
    obtain ⟨a1, a2, a3⟩ := I.fresh i t a h m e
    exact ⟨a1, fun z => a2 ((ho a).mp z), a3⟩
  apart := I.apart
  fr := fun a o h => ⟨m a o (I.fr a o h).2 (I.fr a o h).1, fun z => (I.fr a o h).2 ((ho a).mp z)⟩
/-- a comprehension whose elements change what is own -/
theorem el_lcρ {ρs : Nat → Rl} {F : Hp} {Γ : List Ty} {te : TE} (ho : ∀ i b, (ρs i).own b ↔ (ρs 0).own b) {wi : TI} {g : TG} {vs : List Nat} {PI : Nat → (Nat → PyData) → Prop} {PL : Nat → List PyData → Prop} (hi : EvI (ρs 0) F wi Γ PI) (hw : ∀ i ∈ vs, ∀ t, Γ[i]? = some t → t = .no) (P : (n : Nat) → (f : Nat → PyData) → PI n f → Nat → PyData → Prop)
    (he : ∀ n f p i, i < n → ∃ Γ', BndW (ρs i) F g vs (f i) Γ Γ' ∧ ∀ H0 σ H, SS (ρs i) H0 F σ H Γ' → ∀ Q : VK, (∀ v d H', P n f p i d → (ρs (i + 1)).inv H' → Mv (ρs 0) H H' → TD F H' v d → Q v H') → te σ H Q) (hn : ∀ n f, PI n f → n ≤ sizeLine) (hd : ∀ n f p es, es.length = n → (∀ (i : Nat) e, es[i]? = some e → P n f p i e) → PL n es)
    (H0 : Hp) (σ : L2.St) (H : Hp) (I : SS (ρs 0) H0 F σ H Γ) (Q : VK) (q : ∀ l vs ds n H', PL n ds → SS (ρs n) H0 F σ H' Γ → Mv (ρs 0) H H' → H l = none → H' l = some (.lst vs) → TDs F H' vs ds → Q (.ref l) H') : tLc wi g tYes te vs σ H Q :=
  hi H0 σ H I _ fun J p n f H1 pi I1 m1 hp po wk => by
    intro D hD
    have Dn : H D = none := m1.free (I1.newown hD) hD
    have nown := I1.newown hD
    have fD : F D = none := I1.frz0 hD
    have offD : ∀ i, Off (ρs i) F σ Γ D := fun i => ⟨fun z => nown ((ho i D).mp z), fun i t hi m => I1.notslot hD hi m⟩
    have pD : ∀ a o, p = some (a, o) → a ≠ D := fun a o ep z => by
      subst ep
      subst z
      have hp' : H1 a = some o := hp
      rw [hD] at hp'
      cases hp'
    have zD : flr H0 H1 p D = none := by
      unfold flr
      rw [I1.base0 hD]
      simp only [hD]
      cases p with
      | none => rfl
      | some ao =>
        obtain ⟨a, o⟩ := ao
        simp only
        rw [if_neg (fun z => pD a o rfl z.symm)]
    have I2 : SS (ρs 0) (flr H0 H1 p) F σ (upd H1 D (.lst [])) Γ := (I1.up p hp po).new hD
    refine ⟨fun i m H2 => m = n - i ∧ i ≤ n ∧ SS (ρs i) (flr H0 H1 p) F σ H2 Γ ∧ Mv (ρs 0) H1 H2 ∧ ∃ acc es, H2 D = some (.lst acc) ∧ TDs F H2 acc es ∧ es.length = i ∧ ∀ (k : Nat) e, es[k]? = some e → P n f pi k e, ⟨n, by omega, Nat.zero_le _, I2, Mv.of (same_new hD), [], [], upd_same, .nil, rfl, fun k e z => by simp at z⟩, ?_⟩
    rintro i m H2 ⟨rfl, hin, I2, m2, acc, es, hA, tA, lA, pA⟩
    have tu : Tu H1 H2 := m2.tu I1.inv
    have pin : Pin p H2 := by
      cases p with
      | none => trivial
      | some ao =>
        obtain ⟨a, o⟩ := ao
        exact m2 a o po.1 hp
    by_cases hlt : i < n
    · refine .inr ⟨wk.go i H2 hlt tu pin, fun H' => i + 1 ≤ n ∧ SS (ρs (i + 1)) (flr H0 H1 p) F σ H' Γ ∧ Mv (ρs 0) H1 H' ∧ ∃ acc es, H' D = some (.lst acc) ∧ TDs F H' acc es ∧ es.length = i + 1 ∧ ∀ (k : Nat) e, es[k]? = some e → P n f pi k e, fun H' h => ⟨n - (i + 1), by omega, rfl, h⟩, fun x H3 hy => ?_⟩
      obtain ⟨s, td⟩ := wk.yld i x H2 H3 hlt tu pin hy
      have I3 := I2.same s
      obtain ⟨Γ', bw, ee⟩ := he n f pi i hlt
      refine bw _ σ H3 x (I3.wipe hw) td _ fun σ' ew I4 => ⟨ew, ?_⟩
      show te σ' H3 _
      refine ee _ σ' H3 I4 _ fun y e H4 pe iv5 m5 t5 => ?_
      have hA4 : H4 D = some (.lst acc) := m5 D _ nown (s D _ hA)
      have la := tA.len
      refine ⟨acc, hA4, Nat.lt_of_lt_of_le (by omega) (hn n f pi), hlt, ?_⟩
      have nt : ∀ xs, H4 D ≠ some (.tup xs) := fun xs z => by
        rw [hA4] at z
        cases z
      have m34 : Mv (ρs 0) H2 H4 := (Mv.of s).trans m5
      have m34i : Mv (ρs i) H2 H4 := m34.own fun b => (ho i b).mpr
      have I6 : SS (ρs (i + 1)) (flr H0 H1 p) F σ H4 Γ := I2.onR (fun b => (ho (i + 1) b).trans (ho i b).symm) iv5 m34i
      have tu4 : Tu H4 (upd H4 D (.lst (acc ++ [y]))) := fun a xs z => by
        have na : a ≠ D := fun w => by
          subst w
          exact nt xs z
        rw [upd_ne na]
        exact z
      refine ⟨I6.off (offD _) fD zD nt, fun b o nb z => ?_, acc ++ [y], es ++ [e], upd_same, ((tA.tu (m34i.tu I2.inv)).snoc t5).tu tu4, by rw [List.length_append, lA]; rfl, fun k e' z => ?_⟩
      · have nb' : b ≠ D := ne_of_none z hD
        rw [upd_ne nb']
        exact m34 b o nb (m2 b o nb z)
      · by_cases hk : k < es.length
        · rw [List.getElem?_append_left hk] at z
          exact pA k e' z
        · have hk' : k = es.length := by
            have := (List.getElem?_eq_some_iff.mp z).1
            rw [List.length_append] at this
            simp at this
            omega
          subst hk'
          rw [List.getElem?_append_right (Nat.le_refl _), Nat.sub_self] at z
          have ez := Option.some.inj z
          subst ez
          rw [lA]
          exact pe
    · have e : i = n := by omega
      subst e
      exact .inl ⟨wk.stop i H2 (Nat.le_refl _) tu pin, q D acc es _ H2 (hd i f pi es lA pA) (I2.low flr_same) (m1.trans m2) Dn hA tA⟩
/-- for, over things of a kind, with what is carried -/
theorem sq_forAP {ρ : Rl} {F H0 H : Hp} {σ : L2.St} {Γ : List Ty} {D : Ends} {u ts : TS} {α : Type} {wi : TI} {g : TG} {PI : Nat → (Nat → PyData) → Prop} (x0 : α) (p : Nat → α → Prop) (I : SS ρ H0 F σ H Γ) (hi : EvI ρ F wi Γ PI) (G : Nat → α → List Ty) (Γb : (Nat → PyData) → Nat → α → List Ty) (hp : p 0 x0) (h0 : ∀ H0 σ H, SS ρ H0 F σ H Γ → SS ρ H0 F σ H (G 0 x0)) (hg : ∀ n f, PI n f → ∀ i x, i < n → BndG ρ F g (f i) (G i x) (Γb f i x))
    (hs : ∀ n f, PI n f → ∀ H0' σ H, Same H0 H0' → ∀ i x, i < n → p i x → SS ρ H0' F σ H (Γb f i x) → ts { D with nx := fun σ' H' => ∃ y, p (i + 1) y ∧ SS ρ H0' F σ' H' (G (i + 1) y), ct := fun σ' H' => ∃ y, p (i + 1) y ∧ SS ρ H0' F σ' H' (G (i + 1) y), bk := u D } σ H)
    (hd : ∀ n f, PI n f → ∀ σ H x, p n x → SS ρ H0 F σ H (G n x) → u D σ H) : tSeq (tFor wi g ts) u D σ H :=
  hi H0 σ H I _ fun J q m h H1 pi I1 m1 hq po wk => by
    refine ⟨fun i k σ H => k = m - i ∧ i ≤ m ∧ ∃ x, p i x ∧ SS ρ (flr H0 H1 q) F σ H (G i x), ⟨m, by omega, Nat.zero_le _, x0, hp, h0 _ _ _ (I1.up q hq po)⟩, ?_⟩
    rintro i k σ2 H2 ⟨rfl, hin, x, px, I2⟩
    have tu : Tu H1 H2 := fun a xs h => I2.rel a _ (fun z => ρ.notup H1 a xs I1.inv z h) (flr_tup I1.rel I1.inv h)
    have pin : Pin q H2 := by
      cases q with
      | none => trivial
      | some ao =>
        obtain ⟨a, o⟩ := ao
        exact I2.rel a o po.1 (flr_pin I1.rel po.1 hq)
    by_cases hlt : i < m
    · refine .inr ⟨wk.go i H2 hlt tu pin, fun σ' H' => ∃ y, p (i + 1) y ∧ SS ρ (flr H0 H1 q) F σ' H' (G (i + 1) y), fun σ' H' ⟨y, py, h⟩ => ⟨m - (i + 1), by omega, rfl, hlt, y, py, h⟩, fun z H3 hy => ?_⟩
      obtain ⟨s, td⟩ := wk.yld i z H2 H3 hlt tu pin hy
      exact hg m h pi i x hlt _ σ2 H3 z (I2.same s) td _ fun σ' I3 => hs m h pi _ σ' H3 flr_same i x hlt px I3
    · have e : i = m := by omega
      subst e
      exact .inl ⟨wk.stop i H2 (Nat.le_refl _) tu pin, hd i h pi σ2 H2 x px (I2.low flr_same)⟩
end
end NN
set_option Elab.async false
set_option linter.all false
set_option maxRecDepth 100000
set_option maxHeartbeats 4000000
namespace NN
open PySem PySem.Spec PyProof.Rows L2 NM
local macro_rules | `(tactic| walk_at "ev") => `(tactic| ((fail_if_success (first | with_reducible apply gd1 | with_reducible apply gd2 | with_reducible apply gd3 | with_reducible apply gd4 | with_reducible apply gd5)); first
  | with_reducible exact ed_int | with_reducible exact ed_str | with_reducible exact ed_bl | with_reducible exact ed_non
  | ((with_reducible apply ed_var); rfl) | ((with_reducible apply er_var); rfl)
  | with_reducible exact ea_nil | ((with_reducible apply ea_cons) <;> walk_at "ev")
  | with_reducible exact od_int | with_reducible exact od_bool | exact od_intC (by decide) | exact od_intC ⟨by decide, by decide⟩ | exact od_intC (.inl ⟨by decide, by decide⟩) | with_reducible exact ud_int | with_reducible exact od_eqI | with_reducible exact od_neI | with_reducible exact od_strLt | with_reducible exact od_ip
  | ((with_reducible apply ed_op) <;> walk_at "ev")
  | ((with_reducible apply ed_un) <;> walk_at "ev")
  | ((with_reducible apply ed_tup') <;> walk_at "ev")
  | ((with_reducible apply el_lst') <;> walk_at "ev")
  | ((with_reducible apply ebd_test) <;> walk_at "ev")
  | ((with_reducible apply ebd_val) <;> walk_at "ev")
  | ((with_reducible refine ed_lenT ?_) <;> walk_at "ev")
  | ((with_reducible apply ed_lenR) <;> walk_at "ev")
  | ((with_reducible apply ed_tupleR) <;> walk_at "ev")
  | ((with_reducible apply EvL.rd) <;> walk_at "ev")
  | with_reducible exact eo_none
  | ((with_reducible apply eo_some) <;> walk_at "ev")
  | ((with_reducible apply ed_slT) <;> walk_at "ev")
  | ((with_reducible apply ebd_not) <;> walk_at "ev")
  | ((with_reducible apply ei_tup) <;> walk_at "ev")
  | rfl
  | skip))
section
variable {P : Program} {w : World} {K : PySem.W.Frag} {mg : Str → Option Value} {base : Heap}
section
variable {ρ : Rl} {F H0 H H' : Hp} {σ : L2.St} {Γ : List Ty} {hp l0 : Addr} {i : Nat} {tm te tk tv ta : TE} {E : XK} {D : Ends} {u : TS}
theorem el_keys (h : HIn ρ hp l0) (hi : Γ[i]? = some (.val (.ref hp))) {lo up : Nat} (hm : EvS ρ F tm Γ (fun d => ∃ n : Nat, d = .int (n : Int) ∧ lo ≤ n ∧ n ≤ up)) (hu : up ≤ 100) :
    EvL ρ F (tCall spKeys [] E (tCons (tVar i) (tCons tm tNil))) Γ (fun ds => ∃ ks : List Int, ds = ks.map .int ∧ lo ≤ ks.length ∧ ks.length ≤ up ∧ ∀ k ∈ ks, 0 ≤ k ∧ k ≤ 20000000) := fun H0 σ H I Q q => by
  refine ⟨_, I.val hi, hm H0 σ H I _ fun v d H1 e I1 m1 t1 => ?_⟩
  obtain ⟨n, rfl, n1, n2⟩ := e
  cases t1
  show spKeys [.ref hp, .int (n : Int)] H1 Q E
  refine ⟨hp, l0, n, rfl, by omega, h.inv _ I1.inv, fun l ks H' e1 e2 hn hl iv mv => ?_⟩
  exact q l _ _ H' ⟨ks, rfl, by omega, by omega, e2⟩ (I1.on (h.back _ _ I1.inv mv iv) (h.mv mv)) (m1.trans (h.mv mv)) (m1.free (I1.newown hn) hn) hl (TDs.ints ks)
theorem es_item (h : HIn ρ hp l0) (hi : Γ[i]? = some (.val (.ref hp))) {key : Int} {p : Nat} (hk : EvD ρ F tk Γ (.int key)) (hpl : EvD ρ F tv Γ (.int (p : Int))) (k0 : 0 ≤ key) (hp2 : p ≤ 1000) :
    EvS ρ F (tCall spItem [] E (tCons (tVar i) (tCons tk (tCons tv tNil)))) Γ (fun d => ∃ it, gI key p it ∧ d = dItem it) := fun H0 σ H I Q q => by
  refine ⟨_, I.val hi, hk H0 σ H I _ fun v d H1 e I1 m1 t1 => hpl H0 σ H1 I1 _ fun v2 d2 H2 e2 I2 m2 t2 => ?_⟩
  subst e; subst e2
  cases t1
  cases t2
  show spItem [.ref hp, .int key, .int (p : Int)] H2 Q E
  exact ⟨hp, l0, key, p, rfl, k0, hp2, h.inv _ I2.inv, fun v it H' g t iv mv => q v _ H' ⟨it, g, rfl⟩ (I2.on (h.back _ _ I2.inv mv iv) (h.mv mv)) ((m1.trans m2).trans (h.mv mv)) (t.mono (fun _ _ z => by cases z) (Tu.refl H'))⟩
/-- d[k] = v, v of a kind -/
theorem st_dputs {l : List (Int × PyData)} {k : Int} {P : PyData → Prop} (I : SS ρ H0 F σ H Γ) (hi : Γ[i]? = some (.dct (dK l))) (hk : EvD ρ F tk Γ (.int k)) (hv : EvS ρ F tv Γ P) (hz : l.length < sizeLine) (q : ∀ d H', P d → SS ρ H0 F σ H' (Γ.set i (.dct (dK (putI l k d)))) → D.nx σ H') : sDPut (tVar i) tk tv D σ H :=
  hv H0 σ H I _ fun v vd H1 e1 I1 m1 t1 => by
    obtain ⟨p, ks, e, hl, hks⟩ := I1.dct hi
    refine ⟨_, e, hk H0 σ H1 I1 _ fun y yd H2 e2 I2 m2 t2 => ?_⟩
    subst e2
    cases t2
    have hl2 : H2 p = some (.dK ks) := m2 p _ (I1.fresh i _ p hi rfl e).2.1 hl
    have nt : ∀ xs, H2 p ≠ some (.tup xs) := fun xs z => by rw [hl2] at z; cases z
    refine ⟨p, _, rfl, .inl ⟨ks, Sum.inl k, hl2, rfl, by rw [hks.len]; exact hz, rfl⟩, q vd _ e1 (I2.write hi rfl rfl e nt ?_)⟩
    refine ⟨p, _, rfl, upd_same, ?_⟩
    have tu : Tu H2 (upd H2 p (.dK (putK ks (Sum.inl k) v))) := fun a xs z => by
      rw [upd_ne (fun w => by subst w; exact nt xs z)]
      exact z
    exact ((hks.tu (m2.tu I1.inv)).put (t1.tu (m2.tu I1.inv))).tu tu
/-- xs[::-1] -/
theorem el_rev {PA PL : List PyData → Prop} (h : EvR ρ F ta Γ PA) (f : ∀ ds, PA ds → PL ds.reverse) : EvL ρ F (tRevL K ta) Γ PL := fun H0 σ H I Q q =>
  h H0 σ H I _ fun l vs ds H1 pd I1 m1 n e t1 => ⟨l, vs, rfl, .of e, fun p hp => q p _ _ _ (f ds pd) (I1.new hp) (m1.trans (Mv.of (same_new hp))) (m1.free (I1.newown hp) hp) upd_same (t1.rev.tu (Tu.of (same_new hp)))⟩
end
/-! the source and a list of keys -/
def inK (hp l0 k : Addr) (n : Nat) (H : Hp) : Prop := inD hp l0 H ∧ k ≠ hp ∧ k ≠ l0 ∧ ∃ ks : List Int, H k = some (.lst (ks.map V.int)) ∧ ks.length = n ∧ ∀ x ∈ ks, 0 ≤ x ∧ x ≤ 20000000
def rK (hp l0 k : Addr) (n : Nat) : Rl where
  own := fun b => (b = hp ∨ b = l0) ∨ b = k
  inv := inK hp l0 k n
  stay := fun H H' ⟨a, b, c, ks, d, e⟩ h => ⟨(rD hp l0).stay H H' a fun b hb => h b (.inl hb), b, c, ks, by rw [h k (.inr rfl)]; exact d, e⟩
  held := fun H b ⟨a, _, _, ks, d, _⟩ h => by
    rcases h with h | rfl
    · exact (rD hp l0).held H b a h
    · rw [d]; simp
  notup := fun H b xs ⟨a, _, _, ks, d, _⟩ h => by
    rcases h with h | rfl
    · exact (rD hp l0).notup H b xs a h
    · rw [d]; simp
theorem rK_in (hp l0 k : Addr) (n : Nat) : HIn (rK hp l0 k n) hp l0 := ⟨.inl (.inl rfl), .inl (.inr rfl), fun _ h => h.1, fun H H' ⟨_, b, c, ks, d, e⟩ m iv => ⟨iv, b, c, ks, m k _ (fun z => z.elim b c) d, e⟩⟩
theorem SS.toK {F H0 H : Hp} {σ : L2.St} {Γ : List Ty} {hp l0 : Addr} {i : Nat} {ks : List Int} (I : SS (rD hp l0) H0 F σ H Γ) (hi : Γ[i]? = some (.lst (ks.map .int))) (hb : ∀ x ∈ ks, 0 ≤ x ∧ x ≤ 20000000) : ∃ k, H0 k = none ∧ F k = none ∧ SS (rK hp l0 k ks.length) H0 F σ H (Γ.set i (.val (.ref k))) := by
  obtain ⟨k, vs, e, hk, td⟩ := I.lst hi
  obtain ⟨f0, f1, f2⟩ := I.fresh i _ k hi rfl e
  have ev := td.of_ints
  subst ev
  refine ⟨k, f0, f2, ⟨⟨I.inv, fun z => f1 (.inl z), fun z => f1 (.inr z), ks, hk, rfl, hb⟩, I.rel.own fun b hb => .inl hb, by rw [List.length_set]; exact I.len, fun j t hj n => ?_, fun j t a hj m ej => ?_, fun j m t t' a h1 h2 m1 m2 e1 e2 => ?_, fun a o h => ⟨(I.fr a o h).1, fun z => z.elim (I.fr a o h).2 fun z => ?_⟩⟩⟩
  · rcases get_set hj with ⟨rfl, rfl, _⟩ | ⟨ne, hj⟩
    · exact ⟨_, e, rfl⟩
    · exact I.has j t hj n
  · rcases get_set hj with ⟨rfl, rfl, _⟩ | ⟨ne, hj⟩
    · cases m
    · obtain ⟨a1, a2, a3⟩ := I.fresh j t a hj m ej
      exact ⟨a1, fun z => z.elim a2 fun z => ne (I.apart i j _ t k hi hj rfl m e (by rw [z] at ej; exact ej)), a3⟩
  · rcases get_set h1 with ⟨rfl, rfl, _⟩ | ⟨ne, h1⟩
    · cases m1
    · rcases get_set h2 with ⟨rfl, rfl, _⟩ | ⟨ne2, h2⟩
      · cases m2
      · exact I.apart j m t t' a h1 h2 m1 m2 e1 e2
  · subst z
    rw [f2] at h
    cases h
theorem SS.ofK {F H0 H : Hp} {σ : L2.St} {Γ : List Ty} {hp l0 k : Addr} {i n : Nat} (I : SS (rK hp l0 k n) H0 F σ H Γ) (hi : Γ[i]? = some (.val (.ref k))) (f0 : H0 k = none) (f2 : F k = none) : ∃ ks : List Int, ks.length = n ∧ (∀ x ∈ ks, 0 ≤ x ∧ x ≤ 20000000) ∧ SS (rD hp l0) H0 F σ H (Γ.set i (.lst (ks.map .int))) := by
  obtain ⟨iv, n1, n2, ks, hk, hl, hb⟩ := I.inv
  have e := I.val hi
  have notk : ∀ (j : Nat) (t : Ty) (a : Addr), Γ[j]? = some t → t.mut = true → σ[j]? = some (some (.ref a)) → a ≠ k := fun j t a hj m ej z => (I.fresh j t a hj m ej).2.1 (.inr z)
  refine ⟨ks, hl, hb, ⟨iv, fun b o nb h => ?_, by rw [List.length_set]; exact I.len, fun j t hj n => ?_, fun j t a hj m ej => ?_, fun j m t t' a h1 h2 m1 m2 e1 e2 => ?_, fun a o h => ⟨(I.fr a o h).1, fun z => (I.fr a o h).2 (.inl z)⟩⟩⟩
  · by_cases c : b = k
    · subst c
      rw [f0] at h
      cases h
    · exact I.rel b o (fun z => z.elim nb c) h
  · rcases get_set hj with ⟨rfl, rfl, _⟩ | ⟨ne, hj⟩
    · exact ⟨_, e, k, _, rfl, hk, TDs.ints ks⟩
    · exact I.has j t hj n
  · rcases get_set hj with ⟨rfl, rfl, _⟩ | ⟨ne, hj⟩
    · rw [e] at ej
      cases ej
      exact ⟨f0, fun z => z.elim n1 n2, f2⟩
    · obtain ⟨a1, a2, a3⟩ := I.fresh j t a hj m ej
      exact ⟨a1, fun z => a2 (.inl z), a3⟩
  · rcases get_set h1 with ⟨rfl, rfl, _⟩ | ⟨ne, h1⟩
    · rcases get_set h2 with ⟨rfl, rfl, _⟩ | ⟨ne2, h2⟩
      · rfl
      · rw [e] at e1
        cases e1
        exact absurd rfl (notk m t' _ h2 m2 e2)
    · rcases get_set h2 with ⟨rfl, rfl, _⟩ | ⟨ne2, h2⟩
      · rw [e] at e2
        cases e2
        exact absurd rfl (notk j t _ h1 m1 e1)
      · exact I.apart j m t t' a h1 h2 m1 m2 e1 e2
end
end NN
set_option Elab.async false
set_option linter.all false
set_option maxRecDepth 100000
set_option maxHeartbeats 4000000
namespace NN
open PySem PySem.Spec PyProof.Rows L2 NM
local macro_rules | `(tactic| walk_at "ev") => `(tactic| ((fail_if_success (first | with_reducible apply gd1 | with_reducible apply gd2 | with_reducible apply gd3 | with_reducible apply gd4 | with_reducible apply gd5)); first
  | with_reducible exact ed_int | with_reducible exact ed_str | with_reducible exact ed_bl | with_reducible exact ed_non
  | ((with_reducible apply ed_var); rfl) | ((with_reducible apply er_var); rfl)
  | with_reducible exact ea_nil | ((with_reducible apply ea_cons) <;> walk_at "ev")
  | with_reducible exact od_int | with_reducible exact od_bool | exact od_intC (by decide) | exact od_intC ⟨by decide, by decide⟩ | exact od_intC (.inl ⟨by decide, by decide⟩) | with_reducible exact ud_int | with_reducible exact od_eqI | with_reducible exact od_neI | with_reducible exact od_strLt | with_reducible exact od_ip
  | ((with_reducible apply ed_op) <;> walk_at "ev")
  | ((with_reducible apply ed_un) <;> walk_at "ev")
  | ((with_reducible apply ed_tup') <;> walk_at "ev")
  | ((with_reducible apply el_lst') <;> walk_at "ev")
  | ((with_reducible apply ebd_test) <;> walk_at "ev")
  | ((with_reducible apply ebd_val) <;> walk_at "ev")
  | ((with_reducible refine ed_lenT ?_) <;> walk_at "ev")
  | ((with_reducible apply ed_lenR) <;> walk_at "ev")
  | ((with_reducible apply ed_tupleR) <;> walk_at "ev")
  | ((with_reducible apply EvL.rd) <;> walk_at "ev")
  | with_reducible exact eo_none
  | ((with_reducible apply eo_some) <;> walk_at "ev")
  | ((with_reducible apply ed_slT) <;> walk_at "ev")
  | ((with_reducible apply ebd_not) <;> walk_at "ev")
  | ((with_reducible apply ei_tup) <;> walk_at "ev")
  | rfl
  | skip))
section
variable {P : Program} {w : World} {K : PySem.W.Frag} {mg : Str → Option Value} {base : Heap}
/-- an item of some key -/
def gJ (it : Item) : Prop := ∃ (key : Int) (p : Nat), 0 ≤ key ∧ key ≤ 20000000 ∧ p ≤ 8 ∧ gI key p it
def gW (m : Mov Item) : Prop := (0 ≤ m.2.1 ∧ m.2.1 ≤ 200) ∧ (1 ≤ m.2.2.length ∧ m.2.2.length ≤ 2) ∧ ∀ it ∈ m.2.2, gJ it
def gG (m : Mov Int) : Prop := (0 ≤ m.2.1 ∧ m.2.1 ≤ 200) ∧ (1 ≤ m.2.2.length ∧ m.2.2.length ≤ 3) ∧ ∀ k ∈ m.2.2, 0 ≤ k ∧ k ≤ 20000000
structure gB (b : Bk) : Prop where
  n1 : (b.st.map (·.1)).Nodup
  n2 : (b.wt.map (·.1)).Nodup
  n3 : (b.gn.map (·.1)).Nodup
  st : ∀ p ∈ b.st, p.2.1 = p.1 ∧ gJ p.2
  wt : ∀ p ∈ b.wt, (0 ≤ p.1 ∧ p.1 ≤ 1000) ∧ gW p
  gn : ∀ p ∈ b.gn, (0 ≤ p.1 ∧ p.1 ≤ 1000) ∧ gG p
  l1 : b.st.length ≤ 21
  l2 : b.wt.length ≤ 2
  l3 : b.gn.length ≤ 3
  mk0 : 0 ≤ b.mark ∧ b.mark ≤ 200000000
def spBook : Sp := fun vs H Q _ => ∃ (hp l0 : Addr), vs = [.ref hp] ∧ inD hp l0 H ∧ ∀ v b H', gB b → TD (fz N0 H H') H' v (.tuple [.dict (dK (dSt b.st)), .dict (dK (dWt b.wt)), .dict (dK (dGn b.gn)), .int b.mark]) → inD hp l0 H' → Mv (rD hp l0) H H' → Q v H'
theorem putI_new {α : Type} {l : List (Int × α)} {k : Int} {d : α} (h : ∀ p ∈ l, p.1 < k) : putI l k d = l ++ [(k, d)] := by
  unfold putI
  rw [if_neg]
  intro z
  obtain ⟨p, hp, e⟩ := List.any_eq_true.mp z
  have := h p hp
  have := of_decide_eq_true e
  omega
/-! _law_book -/
abbrev s51 : Stmt := topS 51
theorem sc51 : FnScope ["_law_heap_here", "_law_keys_here", "_law_waiting", "_law_gone", "_law_move", "_law_places", "_law_turn", "_law_items", "_law_again", "_law_state", "_law_key"] ["_law_heap_here"] (defScope s51) := ⟨rfl, rfl, rfl, by decide +kernel, rfl, by decide +kernel, by decide +kernel⟩
structure bkI (i : Nat) (x : List Int × List (Mov Item) × List (Mov Int) × Int) : Prop where
  kb : ∀ k ∈ x.1, 0 ≤ k ∧ k ≤ 20000000
  kl : 4 ≤ x.1.length + 2 * x.2.1.length
  ku : x.1.length ≤ 21
  wn : (x.2.1.map (·.1)).Nodup
  gn : (x.2.2.1.map (·.1)).Nodup
  wg : ∀ p ∈ x.2.1, (0 ≤ p.1 ∧ p.1 < x.2.2.2) ∧ gW p
  gg : ∀ p ∈ x.2.2.1, (0 ≤ p.1 ∧ p.1 < x.2.2.2) ∧ gG p
  wl : x.2.1.length ≤ 2
  gl : x.2.2.1.length ≤ i
  m0 : 0 ≤ x.2.2.2
  m1 : x.2.2.2 ≤ 2 + i * 301
theorem g51 (D : Df K mg "_law_book" s51 ["_law_heap_here"]) (N : Nm mg) (g_d : Gf P w K mg base 1 "_law_draw" ["_law_heap_here", "_law_many"] spDraw) (g_p : Gf P w K mg base 2 "_law_pick" ["_law_heap_here", "_law_some"] spPick) (g_i : Gf P w K mg base 3 "_law_item" ["_law_heap_here", "_law_key", "_law_places"] spItem) (g_k : Gf P w K mg base 3 "_law_keys" ["_law_heap_here", "_law_many"] spKeys) : Gf P w K mg base 4 "_law_book" ["_law_heap_here"] spBook := by
  refine fn_gen D sc51 (fun vs H Q E ⟨hp, l0, e, _⟩ => by subst e; rfl) fun cdv A outer s f H vs Q E hr c0 => ?_
  obtain ⟨hp, l0, rfl, iv, q⟩ := c0
  refine ⟨_, (pss_cons (ps_set (i := 1) sc51.nd rfl (.inr rfl) (pe_g g_k (hr.mono (by decide)) (pa_cons (pv 0) (pa_cons (pe_op op_add (pe_g g_p (hr.mono (by decide)) (pa_cons (pv 0) (pa_cons (pe_lst (pa_cons pe_int (pa_cons pe_int (pa_cons pe_int (pa_cons pe_int (pa_cons pe_int (pa_cons pe_int (pa_cons pe_int (pa_cons pe_int pa_nil))))))))) pa_nil))) pe_int) pa_nil))))
    (pss_cons (ps_asg (pe_tup (pa_cons pe_dnewK (pa_cons pe_dnewK (pa_cons (pe_g g_d (hr.mono (by decide)) (pa_cons (pv 0) (pa_cons pe_int pa_nil))) (pa_cons (pe_g g_p (hr.mono (by decide)) (pa_cons (pv 0) (pa_cons (pe_lst (pa_cons pe_int (pa_cons pe_int (pa_cons pe_int (pa_cons pe_int pa_nil))))) pa_nil))) pa_nil))))) (pg_tup rfl (pgs_cons (pg_name (i := 2) sc51.nd rfl (.inl rfl)) (pgs_cons (pg_name (i := 3) sc51.nd rfl (.inl rfl)) (pgs_cons (pg_name (i := 4) sc51.nd rfl (.inl rfl)) (pgs_cons (pg_name (i := 5) sc51.nd rfl (.inr rfl)) pgs_nil))))))
    (pss_cons (ps_for PassesOwn.never rfl (pi_range1 rfl N.range (pa_cons (pe_g g_d (hr.mono (by decide)) (pa_cons (pv 0) (pa_cons pe_int pa_nil))) pa_nil)) (pg_name (i := 6) sc51.nd rfl (.inl rfl))
    (pss_cons (ps_if (PW.pt (pw_and (pt_cmpR op_eq (pe_g g_d (hr.mono (by decide)) (pa_cons (pv 0) (pa_cons pe_int pa_nil))) pe_int (nomark _)) (pw_and1 (pt_cmpR op_lt (pe_callB call_lenD (by rfl) N.len PySem.boot_len (pa_cons (pv 2) pa_nil)) pe_int (nomark _)))))
    (pss_cons (ps_set (i := 7) sc51.nd rfl (.inl rfl) (pe_callTy call_tuple_of (by rfl) N.tuple (by decide +kernel) (pa_cons (pe_revL (pe_lc (own := [("_law_again", 8)]) (g := gName 8) (tt := tYes) (te := tCall spItem [] E0 (tCons (tVar 0) (tCons (tBM0 K "list" rPop (tVar 1)) (tCons (tVar 5) tNil)))) rfl sc51.nd (pi_range1 rfl N.range (pa_cons (pe_op op_add pe_int (pe_g g_d (hr.mono (by decide)) (pa_cons (pv 0) (pa_cons pe_int pa_nil)))) pa_nil)) (blkOk_by (own := [("_law_again", 8)]) (N := ["_law_heap_here", "_law_keys_here", "_law_waiting", "_law_gone", "_law_move", "_law_places", "_law_turn", "_law_items", "_law_again", "_law_state", "_law_key"]) (sc := defScope s51) (by decide +kernel)) (fun _ _ _ _ _ => (pg_name (i := 8) sc51.nd rfl (.inl rfl))) (fun _ _ _ _ _ => pts_nil) (fun _ _ _ _ _ => (pe_g g_i (hr.mono (by decide)) (pa_cons (pv 0) (pa_cons (pe_bm0 PySem.F.plainAttrs_list PySem.F.slot_list_pop PySem.F.type_list_pop mt_pop (pv 1)) (pa_cons (pv 5) pa_nil))))))) pa_nil)))
    (pss_one (ps_dput (hu_of hr) (pv 2) (pv 4) (pe_tup (pa_cons (pe_g g_p (hr.mono (by decide)) (pa_cons (pv 0) (pa_cons (pe_lst (pa_cons pe_int (pa_cons pe_int (pa_cons pe_int pa_nil)))) pa_nil))) (pa_cons (pv 7) pa_nil))) rfl)))
    (pss_one (ps_dput (hu_of hr) (pv 3) (pv 4) (pe_tup (pa_cons (pe_g g_d (hr.mono (by decide)) (pa_cons (pv 0) (pa_cons pe_int pa_nil))) (pa_cons (pe_callTy call_tuple_of (by rfl) N.tuple (by decide +kernel) (pa_cons (pe_g g_k (hr.mono (by decide)) (pa_cons (pv 0) (pa_cons (pe_op op_add pe_int (pe_g g_d (hr.mono (by decide)) (pa_cons (pv 0) (pa_cons pe_int pa_nil)))) pa_nil))) pa_nil)) pa_nil))) rfl)))
    (pss_one (ps_set (i := 4) sc51.nd rfl (.inl rfl) (pe_op op_add (pe_op op_add (pv 4) pe_int) (pe_g g_p (hr.mono (by decide)) (pa_cons (pv 0) (pa_cons (pe_lst (pa_cons pe_int (pa_cons pe_int (pa_cons pe_int pa_nil)))) pa_nil))))))))
    (pss_cons (ps_set (i := 9) sc51.nd rfl (.inl rfl) pe_dnewK)
    (pss_cons (ps_for PassesOwn.never rfl (pi_list (pe_slice sl_list (pv 1) po_none (po_some (pe_op op_sub (pe_callB call_len_seq (by rfl) N.len PySem.boot_len (pa_cons (pv 1) pa_nil)) (pe_op op_mul pe_int (pe_g g_d (hr.mono (by decide)) (pa_cons (pv 0) (pa_cons pe_int pa_nil)))))))) (pg_name (i := 10) sc51.nd rfl (.inl rfl))
    (pss_one (ps_dput (hu_of hr) (pv 9) (pv 10) (pe_g g_i (hr.mono (by decide)) (pa_cons (pv 0) (pa_cons (pv 10) (pa_cons (pv 5) pa_nil)))) rfl)))
    (pss_one (ps_ret (pe_tup (pa_cons (pv 9) (pa_cons (pv 2) (pa_cons (pv 3) (pa_cons (pe_op op_add (pv 4) (pe_g g_p (hr.mono (by decide)) (pa_cons (pv 0) (pa_cons (pe_lst (pa_cons pe_int (pa_cons pe_int (pa_cons (pe_op op_pow pe_int pe_int) pa_nil)))) pa_nil)))) pa_nil)))))))))))), ?_⟩
  have I : SS (rD hp l0) H N0 (L2.start ["_law_heap_here", "_law_keys_here", "_law_waiting", "_law_gone", "_law_move", "_law_places", "_law_turn", "_law_items", "_law_again", "_law_state", "_law_key"] [.ref hp]) H [.val (.ref hp), .no, .no, .no, .no, .no, .no, .no, .no, .no, .no] := by
    refine SS.toR (SS.start (show 1 ≤ 11 by decide) rfl n0 fun i t e n => ?_) iv (fun a o h => by cases h) (fun i t e => ?_)
    · rcases i with _ | _ | _ | _ | _ | _ | _ | _ | _ | _ | _ | i
      · cases e; exact ⟨rfl, _, rfl, rfl⟩
      all_goals (cases e; try exact absurd rfl n)
    · rcases i with _ | _ | _ | _ | _ | _ | _ | _ | _ | _ | _ | i <;> (cases e; try rfl)
  have HI := HIn.self hp l0
  show tSeq _ _ _ _ _
  -- the keys
  refine sq_setL I (el_keys HI rfl (lo := 4) (up := 21) (es_op (Pa := fun d => ∃ n : Nat, d = .int (n : Int) ∧ n ≤ 17) (Pb := (· = .int 4)) ((es_pick (ds := [.int 2, .int 1, .int 8, .int 9, .int 0, .int 17, .int 3, .int 16]) HI rfl (by walk_at "ev") (by decide) (by decide)).imp fun d hd => ?_) ed_int (fun a b ⟨n, e1, n1⟩ e2 => ?_)) (by decide)) fun ds σ H1 pd I => ?_
  · simp only [List.mem_cons, List.not_mem_nil, or_false] at hd
    rcases hd with h | h | h | h | h | h | h | h
    · exact ⟨2, h, by decide⟩
    · exact ⟨1, h, by decide⟩
    · exact ⟨8, h, by decide⟩
    · exact ⟨9, h, by decide⟩
    · exact ⟨0, h, by decide⟩
    · exact ⟨17, h, by decide⟩
    · exact ⟨3, h, by decide⟩
    · exact ⟨16, h, by decide⟩
  · subst e1; subst e2
    exact fun H a b s ha hb Q q => od_int H a b s ha hb Q fun v d H' e => q v d H' ⟨n + 4, by rw [e]; rfl, by omega, by omega⟩
  obtain ⟨ks, rfl, kl1, kl2, kb⟩ := pd
  -- four names
  have step2 : ∀ (u : TS) (D : Ends), (∀ σ' H' (m : Int) (p : Nat), 0 ≤ m → m ≤ 2 → p ≤ 8 → SS (rD hp l0) H N0 σ' H' [.val (.ref hp), .lst (ks.map .int), .dct (dK []), .dct (dK []), .dat (.int m), .dat (.int (p : Int)), .no, .no, .no, .no, .no] → u D σ' H') → tSeq (tAsg (tTup (tCons tDNewK (tCons tDNewK (tCons (tCall spDraw [] E0 (tCons (tVar 0) (tCons (tC (.int 3)) tNil))) (tCons (tCall spPick [] E0 (tCons (tVar 0) (tCons (tLst (tCons (tC (.int 2)) (tCons (tC (.int 1)) (tCons (tC (.int 3)) (tCons (tC (.int 8)) tNil)))) ) tNil))) tNil))))) (gTup K 4 (gCons (gName 2) (gCons (gName 3) (gCons (gName 4) (gCons (gName 5) gNil)))))) u D σ H1 := fun u D k => by
    intro p1 hp1 p2 hp2
    have I2 := I.new (o := .dK []) hp1
    have I3 := I2.new (o := .dK []) hp2
    refine es_draw HI rfl ed_int (by decide) (by decide) _ _ _ I3 _ fun v3 d3 H4 ⟨m, e3, m0, m1⟩ I4 m4 t3 => ?_
    subst e3
    cases t3
    refine es_pick (ds := [.int 2, .int 1, .int 3, .int 8]) HI rfl (by walk_at "ev") (by decide) (by decide) _ _ _ I4 _ fun v4 d4 H5 hd I5 m5 t4 => ?_
    have h4 : ∃ p : Nat, d4 = .int (p : Int) ∧ p ≤ 8 := by
      simp only [List.mem_cons, List.not_mem_nil, or_false] at hd
      rcases hd with h | h | h | h
      · exact ⟨2, h, by decide⟩
      · exact ⟨1, h, by decide⟩
      · exact ⟨3, h, by decide⟩
      · exact ⟨8, h, by decide⟩
    obtain ⟨p, rfl, hp8⟩ := h4
    cases t4
    refine ⟨(show 4 ≤ 16777216 by decide), fun q hq => ⟨q, _, rfl, .of upd_same, rfl, _, _, rfl, _, _, rfl, _, _, rfl, _, _, rfl, rfl, ?_⟩⟩
    have I6 := I5.new (o := .tup [.ref p1, .ref p2, .int m, .int (p : Int)]) hq
    have np1 := I.newown hp1
    have np2 := I2.newown hp2
    have hp12 : upd H1 p1 (.dK []) p1 = some (.dK []) := upd_same
    have hA : ∀ (o : HO), upd (upd H1 p1 (.dK [])) p2 o p1 = some (.dK []) := fun o => by rw [upd_ne (ne_of_none hp12 hp2)]; exact hp12
    have a1 : upd H5 q (.tup [.ref p1, .ref p2, .int m, .int (p : Int)]) p1 = some (.dK []) := by
      have := m5 p1 _ np1 (m4 p1 _ np1 (hA _))
      rw [upd_ne (ne_of_none this hq)]
      exact this
    have a2 : upd H5 q (.tup [.ref p1, .ref p2, .int m, .int (p : Int)]) p2 = some (.dK []) := by
      have := m5 p2 _ np2 (m4 p2 _ np2 upd_same)
      rw [upd_ne (ne_of_none this hq)]
      exact this
    have J1 := I.setN (t := .dct (dK [])) I6 2 hp1 ⟨p1, [], rfl, a1, .nil⟩
    have J0 := I.setN (t := .dct (dK [])) I2 2 hp1 ⟨p1, [], rfl, hp12, .nil⟩
    have J2 := J0.setN (t := .dct (dK [])) J1 3 hp2 ⟨p2, [], rfl, a2, .nil⟩
    have J3 := (J2.setD 4 (v := .int m) (.int m)).setD 5 (v := .int (p : Int)) (.int (p : Int))
    exact k _ _ m p m0 (by omega) hp8 J3
  refine step2 _ _ fun σ H2 mv p mv0 mv1 hp8 I => ?_
  -- the moves
  have rng : ∀ {ρ : Rl} {Γ : List Ty} {ta : TE} {m : Int}, m < 1000 → EvS ρ N0 ta Γ (fun d => ∃ r, d = .int r ∧ 0 ≤ r ∧ r < m) → EvI ρ N0 (iRng1 (tCons ta tNil)) Γ (fun n f => (n : Int) < m ∧ f = fun i => .int i) := fun hm h H0 σ H I R q => eis_rng1 (PA := fun j => 0 ≤ j ∧ j < _) (eas_cons (PB := (· = [])) h ea_nil (fun a l ⟨r, e, r0, r1⟩ e2 => ⟨r, by rw [e, e2], r0, r1⟩)) (fun j hj => by omega) H0 σ H I R fun J p n f H' ⟨j, ⟨j0, j1⟩, e1, e2⟩ => q J p n f H' ⟨by omega, e2⟩
  refine sq_forAP (α := List Int × List (Mov Item) × List (Mov Int) × Int) (PI := fun n f => (n : Int) < 4 ∧ f = fun i => .int i) (ks, [], [], mv) bkI I (rng (by decide) (es_draw HI rfl ed_int (by decide) (by decide)))
    (fun i x => [.val (.ref hp), .lst (x.1.map .int), .dct (dK (dWt x.2.1)), .dct (dK (dGn x.2.2.1)), .dat (.int x.2.2.2), .dat (.int (p : Int)), .no, .no, .no, .no, .no]) (fun f i x => [.val (.ref hp), .lst (x.1.map .int), .dct (dK (dWt x.2.1)), .dct (dK (dGn x.2.2.1)), .dat (.int x.2.2.2), .dat (.int (p : Int)), .dat (f i), .no, .no, .no, .no])
    ⟨kb, by show 4 ≤ ks.length + 2 * 0; omega, kl2, List.nodup_nil, List.nodup_nil, by simp, by simp, by simp, by simp, mv0, by simpa using mv1⟩ (fun H0 σ H I => I) (fun n f pi i x hi => bg_name) ?_ ?_
  · rintro n f ⟨hn, _⟩ H0' σ H3 hs i ⟨ks, wt, gn, mv⟩ hi px I
    dsimp only at I
    have hi4 : i < 3 := by omega
    -- what follows: move = move + 1 + pick
    have fin : ∀ (D : Ends), (∀ σ' H', (∃ y, bkI (i + 1) y ∧ SS (rD hp l0) H0' N0 σ' H' [.val (.ref hp), .lst (y.1.map .int), .dct (dK (dWt y.2.1)), .dct (dK (dGn y.2.2.1)), .dat (.int y.2.2.2), .dat (.int (p : Int)), .no, .no, .no, .no, .no]) → D.nx σ' H') → ∀ σ H (ks' : List Int) (wt' : List (Mov Item)) (gn' : List (Mov Int)) (t6 t7 : Ty), (∀ mv', mv + 1 ≤ mv' → mv' ≤ mv + 301 → bkI (i + 1) (ks', wt', gn', mv')) → SS (rD hp l0) H0' N0 σ H [.val (.ref hp), .lst (ks'.map .int), .dct (dK (dWt wt')), .dct (dK (dGn gn')), .dat (.int mv), .dat (.int (p : Int)), t6, t7, .no, .no, .no] →
        tAsg (tOp (rI0 fun i j => .int (i + j)) (tOp (rI0 fun i j => .int (i + j)) (tVar 4) (tC (.int 1))) (tCall spPick [] E0 (tCons (tVar 0) (tCons (tLst (tCons (tC (.int 0)) (tCons (tC (.int 1)) (tCons (tC (.int 300)) tNil)))) tNil)))) (gName 4) D σ H := fun D hD σ H ks' wt' gn' t6 t7 hb I => by
      refine st_asg (P := fun d => ∃ x, d = PyData.int x ∧ mv + 1 ≤ x ∧ x ≤ mv + 301) I (es_op (Pa := (· = .int (mv + 1))) (Pb := fun d => ∃ x, d = PyData.int x ∧ 0 ≤ x ∧ x ≤ 300) (ed_op (ed_var rfl) ed_int od_int) ((es_pick (ds := [.int 0, .int 1, .int 300]) HI rfl (by walk_at "ev") (by decide) (by decide)).imp fun d hd => ?_) (fun a b e1 ⟨x, e2, x1, x2⟩ => ?_)) fun v d H5 pd m5 I => ?_
      · simp only [List.mem_cons, List.not_mem_nil, or_false] at hd
        rcases hd with h | h | h <;> exact ⟨_, h, by decide, by decide⟩
      · subst e1; subst e2
        exact fun H a b s ha hb Q q => od_int H a b s ha hb Q fun v d H' e => q v d H' ⟨mv + 1 + x, e, by omega, by omega⟩
      · obtain ⟨x, rfl, x1, x2⟩ := pd
        exact hD _ _ ⟨(ks', wt', gn', x), hb x x1 x2, (I.drop 6).drop 7⟩
    obtain ⟨q1, q2, q3, q4, q5, q6, q7, q8, q9, q10, q11⟩ := px
    dsimp only at q1 q2 q3 q4 q5 q6 q7 q8 q9 q10 q11
    have bound : mv ≤ 1000 := by
      have : (i : Int) * 301 ≤ 2 * 301 := by
        have : (i : Int) ≤ 2 := by omega
        omega
      omega
    show tSeq _ _ _ _ _
    refine sq_if (p := fun b => b = true → wt.length < 2) I (eb_and (p := fun _ => True) (eb_test (es_op (Pa := fun d => ∃ r, d = .int r ∧ 0 ≤ r ∧ r < 2) (Pb := (· = .int 0)) (P := fun d => ∃ k, d = PyData.bool k ∧ True) (es_draw HI rfl ed_int (by decide) (by decide)) ed_int (fun a b ⟨r, e1, _⟩ e2 => ?_))) (fun _ => (ebd_test (k := decide ((wt.length : Int) < 2)) (ed_op (EvS.is (ed_lenK (l := dWt wt) rfl) (by unfold dWt; rw [List.length_map])) ed_int (od_bool (f := fun i j => decide (i < j))))).imp fun b e h => ?_) (fun _ z => nomatch z)) ?_ ?_
    · subst e1; subst e2
      exact fun H a b s ha hb Q q => od_eqI H a b s ha hb Q fun v d H' e => q v d H' ⟨_, e, trivial⟩
    · subst e
      have := of_decide_eq_true h
      omega
    · -- waiting
      intro hw H4 I _
      have hw2 := hw rfl
      obtain ⟨k, k0, k2, IK⟩ := I.toK (i := 1) (ks := ks) rfl q1
      have HK : ∀ n, HIn (rK hp l0 k n) hp l0 := rK_in hp l0 k
      dsimp only [tSeq, tAsg, tCB, tCons, tRevL, tNil]
      refine el_lcρ (ρs := fun i => rK hp l0 k (ks.length - i)) (te := tCall spItem [] E0 (tCons (tVar 0) (tCons (tBM0 K "list" rPop (tVar 1)) (tCons (tVar 5) tNil)))) (fun _ _ => Iff.rfl) (PI := fun n f => (1 ≤ n ∧ n ≤ 2) ∧ f = fun i => .int i) (PL := fun n ds => (1 ≤ n ∧ n ≤ 2) ∧ ∃ its : List Item, ds = its.map dItem ∧ its.length = n ∧ ∀ it ∈ its, gJ it) (fun H0 σ H I R q => eis_rng1 (PA := fun j => 1 ≤ j ∧ j ≤ 2) (eas_cons (PB := (· = [])) (es_op (Pa := (· = .int 1)) (Pb := fun d => ∃ r, d = .int r ∧ 0 ≤ r ∧ r < 2) (P := fun d => ∃ r, d = .int r ∧ 1 ≤ r ∧ r ≤ 2) ed_int (es_draw (HK _) rfl ed_int (by decide) (by decide)) (fun a b e1 ⟨r, e2, r0, r1⟩ => by
          subst e1; subst e2
          exact fun H a b s ha hb Q q => od_int H a b s ha hb Q fun v d H' e => q v d H' ⟨1 + r, e, by omega, by omega⟩)) ea_nil (fun a l ⟨r, e, r0, r1⟩ e2 => ⟨r, by rw [e, e2], r0, r1⟩)) (fun j hj => by omega) H0 σ H I R fun J p n f H' ⟨j, ⟨j0, j1⟩, e1, e2⟩ => q J p n f H' ⟨by omega, e2⟩)
        (one_no rfl) (fun _ _ _ _ d => ∃ it, gJ it ∧ d = dItem it) (fun n f pi j hj => ⟨_, bw_name, fun H0 σ H I Q q => ?_⟩) (fun n f pi => sz (by omega)) (fun n f pi es hl he => ⟨pi.1, ?_⟩) _ _ _ IK _ (fun l vs ds n H5 pl I5 m5 hn hl td => ?_)
      · -- an item
        obtain ⟨ivD, nk1, nk2, ks2, hk, hkl, hkb⟩ := I.inv
        have hpos : ks2.length - 1 < ks2.length := by omega
        have hget : ks2[ks2.length - 1]? = some ks2[ks2.length - 1] := List.getElem?_eq_getElem hpos
        have hzb := hkb _ (List.getElem_mem hpos)
        generalize ks2[ks2.length - 1] = z at hget hzb
        refine ⟨_, I.val (i := 0) rfl, _, I.val (i := 1) rfl, .inl ⟨rfl, _, .of hk⟩, k, _, .int z, rfl, rfl, hk, ?_, ?_⟩
        · rw [List.length_map, List.getElem?_map, hget]
          rfl
        have mk : Mv (rK hp l0 k ks.length) H (upd H k (.lst (ks2.map V.int).dropLast)) := fun b o nb e => by
          rw [upd_ne (fun w => nb (.inr w))]
          exact e
        obtain ⟨v5, e5, t5⟩ := I.dat (i := 5) (d := .int (p : Int)) rfl
        cases t5
        refine ⟨_, e5, ?_⟩
        show spItem [.ref hp, .int z, .int (p : Int)] _ Q E0
        have ivD2 : inD hp l0 (upd H k (.lst (ks2.map V.int).dropLast)) := (rD hp l0).stay H _ ivD fun b hb => upd_ne (fun w => hb.elim (fun c => nk1 (by rw [← c, w])) (fun c => nk2 (by rw [← c, w])))
        refine ⟨hp, l0, z, p, rfl, hzb.1, by omega, ivD2, fun v it H6 g t iv6 m6 => q v _ H6 ⟨it, ⟨z, p, hzb.1, hzb.2, hp8, g⟩, rfl⟩ ?_ ?_ (t.mono (fun _ _ z => by cases z) (Tu.refl H6))⟩
        · refine ⟨iv6, nk1, nk2, ks2.dropLast, ?_, by rw [List.length_dropLast, hkl]; omega, fun x hx => hkb x (List.dropLast_subset _ hx)⟩
          rw [List.map_dropLast]
          exact m6 k _ (fun c => c.elim nk1 nk2) upd_same
        · exact mk.trans (m6.own fun b hb => .inl hb)
      · rename_i pi2
        have hall : ∀ e ∈ es, ∃ it, gJ it ∧ e = dItem it := fun e hm => by
          obtain ⟨i, hi⟩ := List.mem_iff_getElem?.mp hm
          exact he i e hi
        clear he
        have key : ∀ es : List PyData, (∀ e ∈ es, ∃ it, gJ it ∧ e = dItem it) → ∃ its : List Item, es = its.map dItem ∧ its.length = es.length ∧ ∀ it ∈ its, gJ it := fun es => by
          induction es with
          | nil => exact fun _ => ⟨[], rfl, rfl, by simp⟩
          | cons e es ih =>
            intro h
            obtain ⟨it, g, e1⟩ := h e List.mem_cons_self
            obtain ⟨its, e2, e3, e4⟩ := ih fun y hy => h y (List.mem_cons_of_mem _ hy)
            exact ⟨it :: its, by rw [e1, e2]; rfl, by simp [e3], fun y hy => (List.mem_cons.mp hy).elim (fun z => z ▸ g) (e4 y)⟩
        obtain ⟨its, e1, e2, e3⟩ := key es hall
        exact ⟨its, e1, by rw [e2, hl], e3⟩
      · obtain ⟨⟨n1, n2⟩, its, rfl, hil, hig⟩ := pl
        refine ⟨l, vs, rfl, .of hl, fun p1 hp1 => ⟨p1, _, rfl, .inl ⟨.of upd_same, fun p2 hp2 => ?_⟩⟩⟩
        have J5 := (I5.new (o := .lst vs.reverse) hp1).new (o := .tup vs.reverse) hp2
        have tdr : TDs N0 (upd (upd H5 p1 (.lst vs.reverse)) p2 (.tup vs.reverse)) vs.reverse (its.reverse.map dItem) := by
          rw [List.map_reverse]
          exact (td.rev.tu (Tu.of (same_new hp1))).tu (Tu.of (same_new hp2))
        obtain ⟨ks3, k3l, k3b, J6⟩ := J5.ofK (i := 1) rfl k0 k2
        have J7 := J6.setD 7 (v := .ref p2) (d := .tuple (its.reverse.map dItem)) (.tup upd_same tdr)
        refine st_dputs (P := fun d => ∃ sh : Int, d = .tuple [.int sh, .tuple (its.reverse.map dItem)] ∧ 0 ≤ sh ∧ sh ≤ 200) (l := dWt wt) J7 rfl (ed_var rfl) ?_ (sz' (by unfold dWt; rw [List.length_map]; omega)) fun d H7 pd I => ?_
        · refine es_tup (PA := fun l => ∃ sh : Int, l = [.int sh, .tuple (its.reverse.map dItem)] ∧ 0 ≤ sh ∧ sh ≤ 200) (eas_cons (Pa := fun d => ∃ r, d = .int r ∧ 0 ≤ r ∧ r ≤ 200) (PB := (· = [PyData.tuple (its.reverse.map dItem)])) ((es_pick (ds := [.int 0, .int 1, .int 200]) HI rfl (by walk_at "ev") (by decide) (by decide)).imp fun d hd => ?_) (ea_cons (ed_var rfl) ea_nil) (fun a l ⟨r, e1, r0, r1⟩ e2 => ⟨r, by rw [e1, e2], r0, r1⟩)) (fun l ⟨sh, e, g⟩ => ⟨by rw [e]; exact (show 2 ≤ 16777216 by decide), sh, by rw [e], g⟩)
          simp only [List.mem_cons, List.not_mem_nil, or_false] at hd
          rcases hd with h | h | h <;> exact ⟨_, h, by decide, by decide⟩
        · obtain ⟨sh, rfl, g1, g2⟩ := pd
          have e : putI (dWt wt) mv (.tuple [.int sh, .tuple (its.reverse.map dItem)]) = dWt (wt ++ [(mv, (sh, its.reverse))]) := by
            rw [putI_new (fun p hp => by
              obtain ⟨z, hz, rfl⟩ := List.mem_map.mp hp
              exact (q6 z hz).1.2)]
            unfold dWt
            rw [List.map_append]
            rfl
          rw [e] at I
          refine fin _ (fun _ _ z => z) _ H7 ks3 (wt ++ [(mv, (sh, its.reverse))]) gn _ _ (fun mv' h1 h2 => ⟨k3b, ?_, by show ks3.length ≤ 21; omega, ?_, q5, fun p hp => ?_, fun p hp => ⟨⟨(q7 p hp).1.1, by have := (q7 p hp).1.2; show p.1 < mv'; omega⟩, (q7 p hp).2⟩, ?_, by show gn.length ≤ _; omega, by show 0 ≤ mv'; omega, by show mv' ≤ _; push_cast; omega⟩) I
          · show 4 ≤ ks3.length + 2 * (wt ++ [_]).length
            rw [List.length_append, List.length_singleton]
            omega
          · show ((wt ++ [(mv, (sh, its.reverse))]).map (·.1)).Nodup
            rw [List.map_append]
            refine List.nodup_append.mpr ⟨q4, by simp, fun x hx y hy => ?_⟩
            have : y = mv := by simpa using hy
            obtain ⟨z, hz, e⟩ := List.mem_map.mp hx
            have := (q6 z hz).1.2
            omega
          · rcases List.mem_append.mp hp with h | h
            · exact ⟨⟨(q6 p h).1.1, by have := (q6 p h).1.2; show p.1 < mv'; omega⟩, (q6 p h).2⟩
            · rw [List.mem_singleton.mp h]
              exact ⟨⟨q10, by show mv < mv'; omega⟩, ⟨g1, g2⟩, ⟨by show 1 ≤ its.reverse.length; rw [List.length_reverse]; omega, by show its.reverse.length ≤ 2; rw [List.length_reverse]; omega⟩, fun it hit => hig it (List.mem_reverse.mp hit)⟩
          · show (wt ++ [_]).length ≤ 2
            rw [List.length_append, List.length_singleton]
            omega
    · -- given away
      intro _ H4 I _
      refine st_dputs (P := fun d => ∃ (sh : Int) (gs : List Int), d = .tuple [.int sh, dI gs] ∧ (0 ≤ sh ∧ sh ≤ 200) ∧ (1 ≤ gs.length ∧ gs.length ≤ 3) ∧ ∀ k ∈ gs, 0 ≤ k ∧ k ≤ 20000000) (l := dGn gn) I rfl (ed_var rfl) ?_ (sz' (by unfold dGn; rw [List.length_map]; omega)) fun d H5 pd I => ?_
      · refine es_tup (PA := fun l => ∃ (sh : Int) (gs : List Int), l = [.int sh, dI gs] ∧ (0 ≤ sh ∧ sh ≤ 200) ∧ (1 ≤ gs.length ∧ gs.length ≤ 3) ∧ ∀ k ∈ gs, 0 ≤ k ∧ k ≤ 20000000) (eas_cons (Pa := fun d => ∃ r, d = .int r ∧ 0 ≤ r ∧ r < 4) (PB := fun l => ∃ gs : List Int, l = [dI gs] ∧ (1 ≤ gs.length ∧ gs.length ≤ 3) ∧ ∀ k ∈ gs, 0 ≤ k ∧ k ≤ 20000000) (es_draw HI rfl ed_int (by decide) (by decide)) (eas_cons (Pa := fun d => ∃ gs : List Int, d = dI gs ∧ (1 ≤ gs.length ∧ gs.length ≤ 3) ∧ ∀ k ∈ gs, 0 ≤ k ∧ k ≤ 20000000) (PB := (· = [])) ((es_tupleR (EvL.rd (el_keys HI rfl (lo := 1) (up := 3) (es_op (Pa := (· = .int 1)) (Pb := fun d => ∃ r, d = .int r ∧ 0 ≤ r ∧ r < 3) ed_int (es_draw HI rfl ed_int (by decide) (by decide)) (fun a b e1 ⟨r, e2, r0, r1⟩ => ?_)) (by decide)))).imp fun d ⟨ds, ⟨gs, e, g1, g2, g3⟩, e2⟩ => ⟨gs, by rw [e2, e], ⟨g1, g2⟩, g3⟩) ea_nil (fun a l ⟨gs, e1, g⟩ e2 => ⟨gs, by rw [e1, e2], g⟩)) (fun a l ⟨r, e1, r0, r1⟩ ⟨gs, e2, g⟩ => ⟨r, gs, by rw [e1, e2], ⟨r0, by omega⟩, g⟩)) (fun l ⟨sh, gs, e, g⟩ => ⟨by rw [e]; exact (show 2 ≤ 16777216 by decide), sh, gs, by rw [e], g⟩)
        subst e1; subst e2
        exact fun H a b s ha hb Q q => od_int H a b s ha hb Q fun v d H' e => q v d H' ⟨(r + 1).toNat, by rw [e]; congr 1; omega, by omega, by omega⟩
      · obtain ⟨sh, gs, rfl, g1, g2, g3⟩ := pd
        have e : putI (dGn gn) mv (.tuple [.int sh, dI gs]) = dGn (gn ++ [(mv, (sh, gs))]) := by
          rw [putI_new (fun p hp => by
            obtain ⟨z, hz, rfl⟩ := List.mem_map.mp hp
            exact (q7 z hz).1.2)]
          unfold dGn
          rw [List.map_append]
          rfl
        rw [e] at I
        refine fin _ (fun _ _ z => z) σ H5 ks wt (gn ++ [(mv, (sh, gs))]) _ _ (fun mv' h1 h2 => ⟨q1, q2, q3, q4, ?_, fun p hp => ⟨⟨(q6 p hp).1.1, by have := (q6 p hp).1.2; show p.1 < mv'; omega⟩, (q6 p hp).2⟩, fun p hp => ?_, q8, by show (gn ++ [_]).length ≤ _; rw [List.length_append]; exact Nat.succ_le_succ q9, by show 0 ≤ mv'; omega, by show mv' ≤ _; push_cast; omega⟩) I
        · show ((gn ++ [(mv, (sh, gs))]).map (·.1)).Nodup
          rw [List.map_append]
          refine List.nodup_append.mpr ⟨q5, by simp, fun x hx y hy => ?_⟩
          have : y = mv := by simpa using hy
          obtain ⟨z, hz, e⟩ := List.mem_map.mp hx
          have := (q7 z hz).1.2
          omega
        · rcases List.mem_append.mp hp with h | h
          · exact ⟨⟨(q7 p h).1.1, by have := (q7 p h).1.2; show p.1 < mv'; omega⟩, (q7 p h).2⟩
          · rw [List.mem_singleton.mp h]
            exact ⟨⟨q10, by show mv < mv'; omega⟩, g1, g2, g3⟩
  · rintro n f ⟨hn, _⟩ σ H3 ⟨ks, wt, gn, mv⟩ px I
    obtain ⟨q1, q2, q3, q4, q5, q6, q7, q8, q9, q10, q11⟩ := px
    dsimp only at q1 q2 q3 q4 q5 q6 q7 q8 q9 q10 q11 I
    have hmv : mv ≤ 1000 := by
      have : (n : Int) * 301 ≤ 3 * 301 := by
        have : (n : Int) ≤ 3 := by omega
        omega
      omega
    show tSeq _ _ _ _ _
    refine sq_setK I ek_new fun σ H4 I => ?_
    show tSeq _ _ _ _ _
    refine sq_forAP (α := List (Int × Item)) (PI := fun n f => ∃ ds, (∃ ks' : List Int, ds = ks'.map PyData.int ∧ ks'.length ≤ 21 ∧ ∀ k ∈ ks', 0 ≤ k ∧ k ≤ 20000000) ∧ n = ds.length ∧ f = nth ds) [] (fun i st => st.length ≤ i ∧ (st.map (·.1)).Nodup ∧ ∀ p ∈ st, p.2.1 = p.1 ∧ gJ p.2) I (eis_listR (el_slL (PA := (· = ks.map PyData.int)) (Pl := (· = none)) (Ph := fun _ => True) (er_var rfl) eo_none (eos_some (es_op (Pa := (· = .int (ks.length : Int))) (Pb := fun d => ∃ r, d = .int r) (P := fun d => ∃ r, d = .int r ∧ True) (EvS.is (ed_lenR (er_var rfl)) (by rw [List.length_map])) (es_op (Pa := (· = .int 4)) (Pb := fun d => ∃ r, d = .int r ∧ 0 ≤ r ∧ r < 2) ed_int (es_draw HI rfl ed_int (by decide) (by decide)) (fun a b e1 ⟨r, e2, _⟩ => ?_)) (fun a b e1 ⟨r, e2⟩ => ?_))) (fun ds lo hi e1 e2 _ => ?_)))
      (fun i st => [.val (.ref hp), .lst (ks.map .int), .dct (dK (dWt wt)), .dct (dK (dGn gn)), .dat (.int mv), .dat (.int (p : Int)), .no, .no, .no, .dct (dK (dSt st)), .no]) (fun f i st => [.val (.ref hp), .lst (ks.map .int), .dct (dK (dWt wt)), .dct (dK (dGn gn)), .dat (.int mv), .dat (.int (p : Int)), .no, .no, .no, .dct (dK (dSt st)), .dat (f i)])
      ⟨Nat.le_refl _, List.nodup_nil, by simp⟩ (fun H0 σ H I => I) (fun n f pi i x hi => bg_name) ?_ ?_
    · subst e1; subst e2
      exact fun H a b s ha hb Q q => od_intC (C := CMul) (f := fun i j => i * j) (.inl ⟨by decide, by decide⟩) H a b s ha hb Q fun v d H' e => q v d H' ⟨4 * r, e⟩
    · subst e1; subst e2
      exact fun H a b s ha hb Q q => od_int H a b s ha hb Q fun v d H' e => q v d H' ⟨_, e, trivial⟩
    · subst e1; subst e2
      refine ⟨ks.take (HT.sIx (ks.map PyData.int).length (ks.map PyData.int).length hi - 0), ?_, by rw [List.length_take]; omega, fun k hk => q1 k (List.mem_of_mem_take hk)⟩
      unfold cutD
      rw [HT.sIx_none, List.drop_zero, List.map_take]
    · rintro m f ⟨ds, ⟨ks', rfl, kl', kb'⟩, rfl, rfl⟩ H0' σ H5 hs i st hi ⟨s1, s2, s3⟩ I
      rw [List.length_map] at hi
      have hg : ks'[i]? = some (ks'.getD i 0) := by rw [List.getD_eq_getElem?_getD, List.getElem?_eq_getElem hi]; rfl
      have hkk := kb' _ (getD_mem 0 hi)
      generalize ks'.getD i 0 = k at hg hkk
      rw [nth_map PyData.int hg] at I
      refine st_dputs (P := fun d => ∃ it, gI k p it ∧ d = dItem it) (l := dSt st) I rfl (ed_var rfl) (es_item HI rfl (ed_var rfl) (ed_var rfl) hkk.1 (by omega)) (sz' (by unfold dSt; rw [List.length_map]; omega)) fun d H6 ⟨it, g, e⟩ I => ?_
      subst e
      have e : putI (dSt st) k (dItem it) = dSt (putI st k it) := (putI_map dItem st k it).symm
      rw [e] at I
      refine ⟨putI st k it, ⟨by have := putI_len st k it; omega, nodup_putI s2, fun z hz => ?_⟩, I.drop 10⟩
      rcases mem_putI hz with h | h
      · exact s3 z h
      · rw [h]
        exact ⟨g.k, k, p, hkk.1, hkk.2, hp8, g⟩
    · rintro m f ⟨ds, ⟨ks', rfl, kl', kb'⟩, rfl, rfl⟩ σ H5 st ⟨s1, s2, s3⟩ I
      rw [List.length_map] at s1
      obtain ⟨a9, v9, e9, h9, t9⟩ := I.dct (i := 9) (ds := dK (dSt st)) rfl
      obtain ⟨a2, v2, e2, h2, t2⟩ := I.dct (i := 2) (ds := dK (dWt wt)) rfl
      obtain ⟨a3, v3, e3, h3, t3⟩ := I.dct (i := 3) (ds := dK (dGn gn)) rfl
      refine ⟨_, e9, _, e2, _, e3, ?_⟩
      refine es_op (Pa := (· = .int mv)) (Pb := fun d => ∃ r, d = .int r ∧ 0 ≤ r ∧ r ≤ 100000000) (P := fun d => ∃ r, d = .int r ∧ mv ≤ r ∧ r ≤ mv + 100000000) (ed_var rfl) ((es_pick (ds := [.int 0, .int 0, .int (10 ^ (8 : Int).toNat)]) HI rfl (by walk_at "ev") (by decide) (by decide)).imp fun d hd => ?_) (fun a b x1 ⟨r, x2, r0, r1⟩ => ?_) _ _ _ I _ fun v d H6 ⟨mark, em, b0, b1⟩ I6 m6 t6 => ?_
      · simp only [List.mem_cons, List.not_mem_nil, or_false] at hd
        rcases hd with h | h | h <;> exact ⟨_, h, by decide, by decide⟩
      · subst x1; subst x2
        exact fun H a b s ha hb Q q => od_int H a b s ha hb Q fun v d H' e => q v d H' ⟨mv + r, e, by omega, by omega⟩
      · subst em
        cases t6
        refine ⟨(show 4 ≤ 16777216 by decide), fun pq hq => ?_⟩
        have I7 := I6.new (o := .tup [.ref a9, .ref a2, .ref a3, .int mark]) hq
        have f9 := I.fresh 9 _ a9 rfl rfl e9
        have f2 := I.fresh 2 _ a2 rfl rfl e2
        have f3 := I.fresh 3 _ a3 rfl rfl e3
        have up : ∀ a o, ¬ (rD hp l0).own a → H5 a = some o → upd H6 pq (.tup [.ref a9, .ref a2, .ref a3, .int mark]) a = some o := fun a o no h => by
          have := m6 a o no h
          rw [upd_ne (ne_of_none this hq)]
          exact this
        have tu : Tu H5 (upd H6 pq (.tup [.ref a9, .ref a2, .ref a3, .int mark])) := (m6.tu I.inv).trans (Tu.of (same_new hq))
        have fzs : Same N0 (fz N0 H (upd H6 pq (.tup [.ref a9, .ref a2, .ref a3, .int mark]))) := n0
        refine q (.ref pq) ⟨st, wt, gn, mark⟩ _ ⟨s2, q4, q5, s3, fun p hp => ⟨⟨(q6 p hp).1.1, by have := (q6 p hp).1.2; omega⟩, (q6 p hp).2⟩, fun p hp => ⟨⟨(q7 p hp).1.1, by have := (q7 p hp).1.2; omega⟩, (q7 p hp).2⟩, by show st.length ≤ 21; omega, q8, by show gn.length ≤ 3; omega, by show 0 ≤ mark; omega, by show mark ≤ 200000000; omega⟩ ?_ I7.inv I7.rel
        refine .tup upd_same (.cons (.dct ?_ (t9.mono fzs tu)) (.cons (.dct ?_ (t2.mono fzs tu)) (.cons (.dct ?_ (t3.mono fzs tu)) (.cons (.int mark) .nil))))
        · rw [fz_new f9.1]
          exact up _ _ f9.2.1 h9
        · rw [fz_new f2.1]
          exact up _ _ f2.2.1 h2
        · rw [fz_new f3.1]
          exact up _ _ f3.2.1 h3
end
end NN
set_option Elab.async false
set_option linter.all false
set_option maxRecDepth 100000
set_option maxHeartbeats 4000000
namespace NN
open PySem PySem.Spec PyProof.Rows L2 NM
local macro_rules | `(tactic| walk_at "ev") => `(tactic| ((fail_if_success (first | with_reducible apply gd1 | with_reducible apply gd2 | with_reducible apply gd3 | with_reducible apply gd4 | with_reducible apply gd5)); first
  | with_reducible exact ed_int | with_reducible exact ed_str | with_reducible exact ed_bl | with_reducible exact ed_non
  | ((with_reducible apply ed_var); rfl) | ((with_reducible apply er_var); rfl)
  | with_reducible exact ea_nil | ((with_reducible apply ea_cons) <;> walk_at "ev")
  | with_reducible exact od_int | with_reducible exact od_bool | exact od_intC (by decide) | exact od_intC ⟨by decide, by decide⟩ | exact od_intC (.inl ⟨by decide, by decide⟩) | with_reducible exact ud_int | with_reducible exact od_eqI | with_reducible exact od_neI | with_reducible exact od_strLt | with_reducible exact od_ip
  | ((with_reducible apply ed_op) <;> walk_at "ev")
  | ((with_reducible apply ed_un) <;> walk_at "ev")
  | ((with_reducible apply ed_tup') <;> walk_at "ev")
  | ((with_reducible apply el_lst') <;> walk_at "ev")
  | ((with_reducible apply ebd_test) <;> walk_at "ev")
  | ((with_reducible apply ebd_val) <;> walk_at "ev")
  | ((with_reducible refine ed_lenT ?_) <;> walk_at "ev")
  | ((with_reducible apply ed_lenR) <;> walk_at "ev")
  | ((with_reducible apply ed_tupleR) <;> walk_at "ev")
  | ((with_reducible apply EvL.rd) <;> walk_at "ev")
  | with_reducible exact eo_none
  | ((with_reducible apply eo_some) <;> walk_at "ev")
  | ((with_reducible apply ed_slT) <;> walk_at "ev")
  | ((with_reducible apply ebd_not) <;> walk_at "ev")
  | ((with_reducible apply ei_tup) <;> walk_at "ev")
  | rfl
  | skip))
section
variable {P : Program} {w : World} {K : PySem.W.Frag} {mg : Str → Option Value} {base : Heap}
/-- a comprehension with a test: some of the elements, of a kind -/
theorem el_lcW {ρ : Rl} {F : Hp} {Γ : List Ty} {te : TE} {tt : TT} {wi : TI} {g : TG} {vs : List Nat} {PI : Nat → (Nat → PyData) → Prop} {PE : PyData → Prop} {m : Nat} (hi : EvI ρ F wi Γ PI) (hw : ∀ i ∈ vs, ∀ t, Γ[i]? = some t → t = .no)
    (he : ∀ n f, PI n f → ∀ i, i < n → ∃ Γ', BndW ρ F g vs (f i) Γ Γ' ∧ EvB ρ F tt Γ' (fun _ => True) ∧ EvS ρ F te Γ' PE) (hn : ∀ n f, PI n f → n ≤ m) (hm : m ≤ sizeLine) : EvL ρ F (tLc wi g tt te vs) Γ (fun es => es.length ≤ m ∧ ∀ e ∈ es, PE e) := fun H0 σ H I Q q =>
  hi H0 σ H I _ fun J p n f H1 pi I1 m1 hp po wk => by
    intro D hD
    have Dn : H D = none := m1.free (I1.newown hD) hD
    have nown := I1.newown hD
    have fD : F D = none := I1.frz0 hD
    have offD : Off ρ F σ Γ D := ⟨nown, fun i t hi m => I1.notslot hD hi m⟩
    have pD : ∀ a o, p = some (a, o) → a ≠ D := fun a o ep z => by
      subst ep
      subst z
      have hp' : H1 a = some o := hp
      rw [hD] at hp'
      cases hp'
    have zD : flr H0 H1 p D = none := by
      unfold flr
      rw [I1.base0 hD]
      simp only [hD]
      cases p with
      | none => rfl
      | some ao =>
        obtain ⟨a, o⟩ := ao
        simp only
        rw [if_neg (fun z => pD a o rfl z.symm)]
    have I2 : SS ρ (flr H0 H1 p) F σ (upd H1 D (.lst [])) Γ := (I1.up p hp po).new hD
    refine ⟨fun i k H2 => k = n - i ∧ i ≤ n ∧ SS ρ (flr H0 H1 p) F σ H2 Γ ∧ Mv ρ H1 H2 ∧ ∃ acc es, H2 D = some (.lst acc) ∧ TDs F H2 acc es ∧ es.length ≤ i ∧ ∀ e ∈ es, PE e, ⟨n, by omega, Nat.zero_le _, I2, Mv.of (same_new hD), [], [], upd_same, .nil, Nat.le_refl _, fun e z => by cases z⟩, ?_⟩
    rintro i k H2 ⟨rfl, hin, I2, m2, acc, es, hA, tA, lA, pA⟩
    have tu : Tu H1 H2 := m2.tu I1.inv
    have pin : Pin p H2 := by
      cases p with
      | none => trivial
      | some ao =>
        obtain ⟨a, o⟩ := ao
        exact m2 a o po.1 hp
    by_cases hlt : i < n
    · refine .inr ⟨wk.go i H2 hlt tu pin, fun H' => i + 1 ≤ n ∧ SS ρ (flr H0 H1 p) F σ H' Γ ∧ Mv ρ H1 H' ∧ ∃ acc es, H' D = some (.lst acc) ∧ TDs F H' acc es ∧ es.length ≤ i + 1 ∧ ∀ e ∈ es, PE e, fun H' h => ⟨n - (i + 1), by omega, rfl, h⟩, fun x H3 hy => ?_⟩
      obtain ⟨s, td⟩ := wk.yld i x H2 H3 hlt tu pin hy
      have I3 := I2.same s
      obtain ⟨Γ', bw, eb, ee⟩ := he n f pi i hlt
      refine bw _ σ H3 x (I3.wipe hw) td _ fun σ' ew I4 => ⟨ew, ?_⟩
      refine eb _ σ' H3 I4 _ fun b H4 _ I5 m5 => ?_
      have hA4 : H4 D = some (.lst acc) := m5 D _ nown (s D _ hA)
      have m34 : Mv ρ H2 H4 := (Mv.of s).trans m5
      cases b with
      | false =>
        rw [if_neg Bool.false_ne_true]
        exact ⟨hlt, I2.on I5.inv m34, m2.trans m34, acc, es, hA4, tA.tu (m34.tu I2.inv), by omega, pA⟩
      | true =>
        rw [if_pos rfl]
        refine ee _ σ' H4 I5 _ fun y e H5 pe I6 m6 t6 => ?_
        have hA5 : H5 D = some (.lst acc) := m6 D _ nown hA4
        have m35 : Mv ρ H2 H5 := m34.trans m6
        have la := tA.len
        have := hn n f pi
        refine ⟨acc, hA5, Nat.lt_of_lt_of_le (by omega) hm, hlt, ?_⟩
        have nt : ∀ xs, H5 D ≠ some (.tup xs) := fun xs z => by
          rw [hA5] at z
          cases z
        have I7 : SS ρ (flr H0 H1 p) F σ H5 Γ := I2.on I6.inv m35
        have tu5 : Tu H5 (upd H5 D (.lst (acc ++ [y]))) := fun a xs z => by
          rw [upd_ne (fun w => by subst w; exact nt xs z)]
          exact z
        refine ⟨I7.off offD fD zD nt, fun b o nb z => ?_, acc ++ [y], es ++ [e], upd_same, ((tA.tu (m35.tu I2.inv)).snoc t6).tu tu5, by rw [List.length_append, List.length_singleton]; omega, fun e' z => ?_⟩
        · rw [upd_ne (ne_of_none z hD)]
          exact m35 b o nb (m2 b o nb z)
        · rcases List.mem_append.mp z with h | h
          · exact pA e' h
          · rw [List.mem_singleton.mp h]
            exact pe
    · have e : i = n := by omega
      subst e
      have := hn i f pi
      exact .inl ⟨wk.stop i H2 (Nat.le_refl _) tu pin, q D acc es H2 ⟨by omega, pA⟩ (I2.low flr_same) (m1.trans m2) Dn hA tA⟩
theorem sqlKeep {K : PySem.W.Frag} {F H : Hp} {a : Addr} {xs : List V} (s : Same F H) (h : SqL K F a xs) : SqL K H a xs := by
  rcases h with (h | ⟨o, h⟩) | h
  · exact .inl (.inl (s _ _ h))
  · exact .inl (.inr ⟨o, s _ _ h⟩)
  · exact .inr h
theorem el_slS {ρ : Rl} {F : Hp} {Γ : List Ty} {i : Nat} {a : Addr} {ns : List Int} {tl th : TO} {lo hi : Option Int} (hs : SqL K F a (ns.map V.int)) (hi' : Γ[i]? = some (.val (.ref a))) (hl : EvO ρ F tl Γ (· = lo)) (hh : EvO ρ F th Γ (· = hi)) : EvL ρ F (tSl (rSlL K) (tVar i) tl th) Γ (· = cutD (ns.map PyData.int) lo hi) := fun H0 σ H I Q q =>
  ⟨_, I.val hi', hl H0 σ H I _ fun l H1 e1 I1 m1 => hh H0 σ H1 I1 _ fun h H2 e2 I2 m2 => by
    subst e1; subst e2
    exact ⟨a, _, rfl, sqlKeep I2.sf hs, fun p hp => q p _ _ _ rfl (I2.new hp) ((m1.trans m2).trans (Mv.of (same_new hp))) ((m1.trans m2).free (I2.newown hp) hp) upd_same (cut_td (TDs.ints ns) _ _)⟩⟩
/-! _law_heap -/
abbrev s43 : Stmt := topS 43
theorem sc43 : FnScope ["_law_script", "_law_cells", "_law_stir", "_law_cell"] ["_law_script"] (defScope s43) := ⟨rfl, rfl, rfl, by decide +kernel, rfl, by decide +kernel, by decide +kernel⟩
def spHeap (K : PySem.W.Frag) : Sp := fun vs H Q _ => ∃ (a : Addr) (ns : List Int), vs = [.ref a] ∧ SqL K H a (ns.map V.int) ∧ ∀ hp l0 H', Same H H' → H hp = none → H l0 = none → inD hp l0 H' → Q (.ref hp) H'
theorem g43 (D : Df K mg "_law_heap" s43 ["_law_script"]) (N : Nm mg) : Gf P w K mg base 1 "_law_heap" ["_law_script"] (spHeap K) := by
  refine fn_gen D sc43 (fun vs H Q E ⟨a, ns, e, _⟩ => by subst e; rfl) fun cdv A outer s f H vs Q E hr c0 => ?_
  obtain ⟨a, ns, rfl, hs, q⟩ := c0
  refine ⟨_, (pss_cons (ps_par (i := 1) (j := 2) rfl sc43.nd rfl rfl (by decide) rfl rfl (pa_cons (pe_lc (own := [("_law_cell", 3)]) (g := gName 3) (tt := tYes) rfl sc43.nd (pi_list (pe_slice sl_list (pv 0) po_none (po_some pe_int))) (blkOk_by (own := [("_law_cell", 3)]) (N := ["_law_script", "_law_cells", "_law_stir", "_law_cell"]) (sc := defScope s43) (by decide +kernel)) (fun _ _ _ _ _ => (pg_name (i := 3) sc43.nd rfl (.inl rfl))) (fun _ _ _ _ _ => pts_nil) (fun _ _ _ _ _ => (pe_op op_add (pe_op op_mul pe_int (pe_callB call_abs (by rfl) N.abs (by decide +kernel) (pa_cons (pv 3) pa_nil))) (pe_callTy call_int1 (by rfl) N.int (by decide +kernel) (pa_cons (pe_cmpR op_lt (pv 3) pe_int (nomark _)) pa_nil))))) (pa_cons pe_int pa_nil)) (by rfl))
    (pss_cons (ps_for PassesOwn.never rfl (pi_list (pv 1)) (pg_name (i := 3) sc43.nd rfl (.inl rfl))
    (pss_one (ps_set (i := 2) sc43.nd rfl (.inl rfl) (pe_op op_mod (pe_callTy call_int1 (by rfl) N.int (by decide +kernel) (pa_cons (pe_op op_add (pe_op op_add (pe_op op_mul (pv 2) pe_int) (pe_op op_mod (pe_callTy call_int1 (by rfl) N.int (by decide +kernel) (pa_cons (pv 3) pa_nil)) pe_int)) pe_int) pa_nil)) pe_int))))
    (pss_one (ps_ret (pe_lst (pa_cons (pe_revL (pe_lc (own := [("_law_cell", 3)]) (g := gName 3) (tt := _) rfl sc43.nd (pi_list (pv 1)) (blkOk_by (own := [("_law_cell", 3)]) (N := ["_law_script", "_law_cells", "_law_stir", "_law_cell"]) (sc := defScope s43) (by decide +kernel)) (fun _ _ _ _ _ => (pg_name (i := 3) sc43.nd rfl (.inl rfl))) (fun _ _ _ _ _ => pts_one (pt_cmpR op_ge (pv 3) (pe_op op_pow pe_int pe_int) (nomark _))) (fun _ _ _ _ _ => (pv 3)))) (pa_cons (pv 2) pa_nil))))))), ?_⟩
  have f0 : Same (fun b => if b = a then H a else none) H := fun b o e => by
    by_cases c : b = a
    · simp only [c, if_true] at e
      rw [c]
      exact e
    · simp only [c, if_false] at e
      cases e
  have hs2 : SqL K (fun b => if b = a then H a else none) a (ns.map V.int) := by
    rcases hs with (h | ⟨o, h⟩) | h
    · exact .inl (.inl (by simpa using h))
    · exact .inl (.inr ⟨o, by simpa using h⟩)
    · exact .inr h
  generalize (fun b => if b = a then H a else none) = F at f0 hs2
  have I : SS rS H F (L2.start ["_law_script", "_law_cells", "_law_stir", "_law_cell"] [.ref a]) H [.val (.ref a), .no, .no, .no] := by
    refine SS.start (show 1 ≤ 4 by decide) rfl f0 fun i t e n => ?_
    rcases i with _ | _ | _ | _ | i
    · cases e; exact ⟨rfl, _, rfl, rfl⟩
    all_goals (cases e; try exact absurd rfl n)
  show tSeq _ _ _ _ _
  have ecut : cutD (ns.map PyData.int) none (some 60) = (ns.take 60).map PyData.int := by
    show cutD (ns.map PyData.int) none (some ((60 : Nat) : Int)) = _
    rw [cutD_to (hi := 60) rfl, List.map_take]
  have hl2 : (ns.take 60).length ≤ 60 := by rw [List.length_take]; omega
  generalize ns.take 60 = ms at ecut hl2
  refine sq_parL (ds := ms.map fun x => .int (2 * (if x < 0 then -x else x) + (if decide (x < 0) = true then 1 else 0))) I (EvL.is (el_lc (n := (ms.map PyData.int).length) (f := nth (ms.map PyData.int)) (h := fun i => .int (2 * (if ms.getD i 0 < 0 then -(ms.getD i 0) else ms.getD i 0) + (if decide (ms.getD i 0 < 0) = true then 1 else 0))) (ei_listR (EvL.is (el_slS hs2 rfl eo_none (eo_some ed_int)) ecut)) (one_no rfl) (fun i hi => ?_) (sz (by rw [List.length_map]; omega))) ?_) ed_int fun σ H1 I => ?_
  · rw [List.length_map] at hi
    have hg : ms[i]? = some (ms.getD i 0) := by rw [List.getD_eq_getElem?_getD, List.getElem?_eq_getElem hi]; rfl
    rw [nth_map PyData.int hg]
    refine ⟨_, bw_name, ed_op (ed_op ed_int (ed_cb (l := [.int (ms.getD i 0)]) (P := (· = .int (if ms.getD i 0 < 0 then -(ms.getD i 0) else ms.getD i 0))) (ea_cons (ed_var rfl) ea_nil) fun H x s t Q q => ?_) (od_intC (.inl ⟨by decide, by decide⟩))) (ed_int1b (ed_op (ed_var rfl) ed_int (od_bool (f := fun i j => decide (i < j))))) od_int⟩
    cases t with
    | cons a b =>
      cases b
      cases a
      exact ⟨_, rfl, q _ _ H rfl (Same.refl H) (.int _)⟩
  · rw [List.length_map]
    exact range_getD ms 0 (fun x => PyData.int (2 * (if x < 0 then -x else x) + (if decide (x < 0) = true then 1 else 0)))
  generalize hcs : (ms.map fun x => 2 * (if x < 0 then -x else x) + (if decide (x < 0) = true then 1 else 0)) = cs
  have hI : (ms.map fun x => PyData.int (2 * (if x < 0 then -x else x) + (if decide (x < 0) = true then 1 else 0))) = cs.map .int := by
    rw [← hcs, List.map_map]
    rfl
  have lcs : cs.length ≤ 60 := by rw [← hcs, List.length_map]; exact hl2
  rw [hI] at I
  obtain ⟨pc, vs2, pc0, hpc1, I⟩ := I.freeze (i := 1) rfl
  generalize upd F pc (.lst vs2) = F2 at I
  refine sq_forA (α := Int) 52391 (fun i x => 0 ≤ x ∧ x < 2147483647) I (ei_listF (ed_var rfl)) (fun i x => [.val (.ref a), .dat (.list (cs.map .int)), .dat (.int x), .no]) (fun i x => [.val (.ref a), .dat (.list (cs.map .int)), .dat (.int x), .dat (nth (cs.map .int) i)]) ⟨by decide, by decide⟩ (fun H0 σ H I => I) (fun i x hi => bg_name) ?_ ?_
  · intro H0' σ H2 hss i x hi hx I
    rw [List.length_map] at hi
    have hg : cs[i]? = some (cs.getD i 0) := by rw [List.getD_eq_getElem?_getD, List.getElem?_eq_getElem hi]; rfl
    rw [nth_map PyData.int hg] at I
    refine st_set I (ed_op (ed_int1 (ed_op (ed_op (ed_op (ed_var rfl) ed_int (od_intC (.inr ⟨by decide, by decide⟩))) (ed_op (ed_int1 (ed_var rfl)) ed_int (od_intC (by decide))) od_int) ed_int od_int)) ed_int (od_intC (by decide))) fun σ H I => ?_
    exact ⟨_, ⟨Int.emod_nonneg _ (by decide), Int.emod_lt_of_pos _ (by decide)⟩, I.drop 3⟩
  · intro σ H2 x hx I
    have elem : EvL rS F2 (tRevL K (tLc (iList K (tVar 1)) (gName 3) (tTest (tOp (rI0 fun i j => .bl (decide (j ≤ i))) (tVar 3) (tOp (rI CPow fun i j => .int (i ^ j.toNat)) (tC (.int 10)) (tC (.int 18))))) (tVar 3) [3])) [.val (.ref a), .dat (.list (cs.map .int)), .dat (.int x), .no] (fun ds => ds.length ≤ 60 ∧ ∀ e ∈ ds, ∃ y, e = PyData.int y ∧ True) :=
      el_rev (EvL.rd (el_lcW (PI := fun n f => n = (cs.map PyData.int).length ∧ f = nth (cs.map PyData.int)) (PE := fun e => ∃ y, e = PyData.int y ∧ True) (m := 60) (ei_listF (ed_var rfl)) (one_no rfl) (fun n f pi i hi => ?_) (fun n f pi => by rw [pi.1, List.length_map]; exact lcs) (by decide))) (fun ds ⟨h1, h2⟩ => ⟨by rw [List.length_reverse]; exact h1, fun e he => h2 e (List.mem_reverse.mp he)⟩)
    · dsimp only [tRet, tLst, tCons, tNil]
      refine elem _ _ _ I _ fun l vs3 ds H3 ⟨d1, d2⟩ I3 m3 hn hl td => ?_
      obtain ⟨ys, rfl, _⟩ := some_ints d2
      rw [List.length_map] at d1
      rw [td.of_ints] at hl
      obtain ⟨v2, e2, t2⟩ := I3.dat (i := 2) (d := .int x) rfl
      cases t2
      refine ⟨_, e2, (show 2 ≤ 16777216 by decide), fun hp hhp => ?_⟩
      have s3 : Same H2 H3 := m3.same
      have I4 := I3.new (o := .lst [.ref l, .int x]) hhp
      refine q hp l _ I4.rel.same (I3.base0 hhp) (I.base0 hn) ⟨fun z => ?_, ys, x, ⟨upd_same, ?_⟩, hx.1, hx.2, by omega⟩
      · rw [z, hl] at hhp
        cases hhp
      · rw [upd_ne (ne_of_none hl hhp)]
        exact hl
    · rw [pi.1, List.length_map] at hi
      have hg : cs[i]? = some (cs.getD i 0) := by rw [List.getD_eq_getElem?_getD, List.getElem?_eq_getElem hi]; rfl
      rw [pi.2, nth_map PyData.int hg]
      exact ⟨_, bw_name, (ebd_test (ed_op (ed_var rfl) (ed_op ed_int ed_int (od_intC ⟨by decide, by decide, by decide⟩)) (od_bool (f := fun i j => decide (j ≤ i))))).imp fun _ _ => trivial, (EvS.imp (ed_var rfl) fun d e => ⟨_, e, trivial⟩)⟩
end
end NN
set_option Elab.async false
set_option linter.all false
set_option maxRecDepth 100000
set_option maxHeartbeats 4000000
namespace NN
open PySem PySem.Spec PyProof.Rows L2 NM
local macro_rules | `(tactic| walk_at "ev") => `(tactic| ((fail_if_success (first | with_reducible apply gd1 | with_reducible apply gd2 | with_reducible apply gd3 | with_reducible apply gd4 | with_reducible apply gd5)); first
  | with_reducible exact ed_int | with_reducible exact ed_str | with_reducible exact ed_bl | with_reducible exact ed_non
  | ((with_reducible apply ed_var); rfl) | ((with_reducible apply er_var); rfl)
  | with_reducible exact ea_nil | ((with_reducible apply ea_cons) <;> walk_at "ev")
  | with_reducible exact od_int | with_reducible exact od_bool | exact od_intC (by decide) | exact od_intC ⟨by decide, by decide⟩ | exact od_intC (.inl ⟨by decide, by decide⟩) | with_reducible exact ud_int | with_reducible exact od_eqI | with_reducible exact od_neI | with_reducible exact od_strLt | with_reducible exact od_ip
  | ((with_reducible apply ed_op) <;> walk_at "ev")
  | ((with_reducible apply ed_un) <;> walk_at "ev")
  | ((with_reducible apply ed_tup') <;> walk_at "ev")
  | ((with_reducible apply el_lst') <;> walk_at "ev")
  | ((with_reducible apply ebd_test) <;> walk_at "ev")
  | ((with_reducible apply ebd_val) <;> walk_at "ev")
  | ((with_reducible refine ed_lenT ?_) <;> walk_at "ev")
  | ((with_reducible apply ed_lenR) <;> walk_at "ev")
  | ((with_reducible apply ed_tupleR) <;> walk_at "ev")
  | ((with_reducible apply EvL.rd) <;> walk_at "ev")
  | with_reducible exact eo_none
  | ((with_reducible apply eo_some) <;> walk_at "ev")
  | ((with_reducible apply ed_slT) <;> walk_at "ev")
  | ((with_reducible apply ebd_not) <;> walk_at "ev")
  | ((with_reducible apply ei_tup) <;> walk_at "ev")
  | rfl
  | skip))
section
variable {P : Program} {w : World} {K : PySem.W.Frag} {mg : Str → Option Value} {base : Heap}
/-! what is new is frozen, again and again -/
section
variable {ρ : Rl} {F F' H0 H H' H1 H2 : Hp} {σ : L2.St} {Γ : List Ty} {te ta : TE} {tr : TA} {D : Ends} {u ts : TS} {d : PyData}
theorem fz_big {Ha Hb : Hp} (I : SS ρ H0 F σ H Γ) (Ja : SS ρ H0 F σ Ha Γ) (Jb : SS ρ H0 F σ Hb Γ) (ma : Mv ρ H Ha) (mb : Mv ρ Hb H') : Same (fz F Ha Hb) (fz F H H') := fun b o e => by
  have ob := (Ja.frzA Jb).fr b o e
  cases z : Ha b with
  | none =>
    have zh : H b = none := ma.free (Ja.newown z) z
    rw [fz_new zh]
    exact mb b o ob.2 ob.1
  | some y =>
    rw [fz_old z] at e
    rw [fz_old (I.sf b o e)]
    exact e
/-- some.append(new) -/
theorem st_appendN {i : Nat} {ds : List PyData} (I : SS ρ H0 F σ H Γ) (hi : Γ[i]? = some (.lst ds)) (h : EvN ρ F te Γ (· = d)) (hz : ds.length < sizeLine) (k : ∀ F' H', Same F F' → SS ρ H0 F' σ H' (Γ.set i (.lst (ds ++ [d]))) → D.nx σ H') : tDrop (tBM K "list" rAppend (tVar i) (tCons te tNil)) D σ H := by
  obtain ⟨l, vs, e, h1, h2⟩ := I.lst hi
  have no := (I.fresh i _ l hi rfl e).2.1
  refine ⟨.ref l, e, .inl ⟨rfl, _, .of h1⟩, h H0 σ H I _ fun v dd H1 pd I1 m1 t1 => ?_⟩
  subst pd
  have IA := I.frzA I1
  have hl1 : H1 l = some (.lst vs) := m1 l _ no h1
  have nt : ∀ xs, H1 l ≠ some (.tup xs) := fun xs z => by rw [hl1] at z; cases z
  refine ⟨l, vs, v, rfl, rfl, hl1, by rw [h2.len]; exact hz, k _ _ (fz_same I.sf) (IA.write hi rfl rfl e nt ⟨l, _, rfl, upd_same, ?_⟩)⟩
  have tu : Tu H1 (upd H1 l (.lst (vs ++ [v]))) := fun a xs z => by
    rw [upd_ne (fun w => by subst w; exact nt xs z)]
    exact z
  exact ((h2.mono (fz_same I.sf) (m1.tu I.inv)).snoc t1).tu tu
/-- things, the new ones frozen -/
def EvAN (ρ : Rl) (F : Hp) (t : TA) (Γ : List Ty) (ds : List PyData) : Prop :=
  ∀ (H0 : Hp) (σ : L2.St) (H : Hp), SS ρ H0 F σ H Γ → ∀ Q : List V → Hp → Prop, (∀ vs H', SS ρ H0 F σ H' Γ → Mv ρ H H' → TDs (fz F H H') H' vs ds → Q vs H') → t σ H Q
theorem ean_nil : EvAN ρ F tNil Γ [] := fun H0 σ H I Q q => q [] H I (Mv.refl ρ H) .nil
theorem ean_cons {ds : List PyData} (h : EvN ρ F te Γ (· = d)) (hr : EvAN ρ F tr Γ ds) : EvAN ρ F (tCons te tr) Γ (d :: ds) := fun H0 σ H I Q q =>
  h H0 σ H I _ fun v dd H1 pd I1 m1 t1 => hr H0 σ H1 I1 _ fun vs H2 I2 m2 t2 => by
    subst pd
    exact q (v :: vs) H2 I2 (m1.trans m2) (.cons (t1.mono (fz_big I I I1 (Mv.refl ρ H) m2) (m2.tu I1.inv)) (t2.mono (fz_big I I1 I2 m1 (Mv.refl ρ H2)) (Tu.refl H2)))
/-- a list of new things -/
theorem sq_setLN {i : Nat} {ds : List PyData} (I : SS ρ H0 F σ H Γ) (h : EvAN ρ F tr Γ ds) (hz : ds.length ≤ sizeLine) (k : ∀ F' σ' H', Same F F' → SS ρ H0 F' σ' H' (Γ.set i (.lst ds)) → u D σ' H') : tSeq (tAsg (tLst tr) (gName i)) u D σ H :=
  h H0 σ H I _ fun vs H1 I1 m1 td => ⟨by rw [td.len]; exact hz, fun p hp => by
    have IA := I.frzA I1
    have IB := IA.new (o := .lst vs) hp
    exact k _ _ _ (fz_same I.sf) (IA.setN (t := .lst ds) IB i hp ⟨p, vs, rfl, upd_same, td.tu (Tu.of (same_new hp))⟩)⟩
/-- a new list of new things, frozen itself -/
theorem en_lst {ds : List PyData} (h : EvAN ρ F tr Γ ds) (hz : ds.length ≤ sizeLine) : EvN ρ F (tLst tr) Γ (· = .list ds) := fun H0 σ H I Q q =>
  h H0 σ H I _ fun vs H1 I1 m1 td => ⟨by rw [td.len]; exact hz, fun p hp => by
    have I2 := I1.new (o := .lst vs) hp
    have hp0 : H p = none := m1.free (I1.newown hp) hp
    exact q _ _ _ rfl I2 (m1.trans (Mv.of (same_new hp))) (.lst (by rw [fz_new hp0]; exact upd_same) (td.mono (fz_big I I I1 (Mv.refl ρ H) (Mv.of (same_new hp))) (Tu.of (same_new hp))))⟩
/-- a loop that freezes -/
theorem sq_forF {α : Type} {wi : TI} {g : TG} {n : Nat} {f : Nat → PyData} (x0 : α) (p : Nat → α → Prop) (I : SS ρ H0 F σ H Γ) (hi : EvI ρ F wi Γ (fun m h => m = n ∧ h = f)) (G Γb : Nat → α → List Ty) (hp : p 0 x0) (h0 : ∀ H0 σ H, SS ρ H0 F σ H Γ → SS ρ H0 F σ H (G 0 x0)) (hg : ∀ F', Same F F' → ∀ i x, i < n → BndG ρ F' g (f i) (G i x) (Γb i x))
    (hs : ∀ F', Same F F' → ∀ H0' σ H, Same H0 H0' → ∀ i x, i < n → p i x → SS ρ H0' F' σ H (Γb i x) → ts { D with nx := fun σ' H' => ∃ y F'', Same F F'' ∧ p (i + 1) y ∧ SS ρ H0' F'' σ' H' (G (i + 1) y), ct := fun σ' H' => ∃ y F'', Same F F'' ∧ p (i + 1) y ∧ SS ρ H0' F'' σ' H' (G (i + 1) y), bk := u D } σ H)
    (hd : ∀ F', Same F F' → ∀ σ H x, p n x → SS ρ H0 F' σ H (G n x) → u D σ H) : tSeq (tFor wi g ts) u D σ H :=
  hi H0 σ H I _ fun J q m h H1 pi I1 m1 hq po wk => by
    obtain ⟨rfl, rfl⟩ := pi
    refine ⟨fun i k σ H => k = m - i ∧ i ≤ m ∧ ∃ x F', Same F F' ∧ p i x ∧ SS ρ (flr H0 H1 q) F' σ H (G i x), ⟨m, by omega, Nat.zero_le _, x0, F, Same.refl F, hp, h0 _ _ _ (I1.up q hq po)⟩, ?_⟩
    rintro i k σ2 H2 ⟨rfl, hin, x, F', sF, px, I2⟩
    have tu : Tu H1 H2 := fun a xs h => I2.rel a _ (fun z => ρ.notup H1 a xs I1.inv z h) (flr_tup I1.rel I1.inv h)
    have pin : Pin q H2 := by
      cases q with
      | none => trivial
      | some ao =>
        obtain ⟨a, o⟩ := ao
        exact I2.rel a o po.1 (flr_pin I1.rel po.1 hq)
    by_cases hlt : i < m
    · refine .inr ⟨wk.go i H2 hlt tu pin, fun σ' H' => ∃ y F'', Same F F'' ∧ p (i + 1) y ∧ SS ρ (flr H0 H1 q) F'' σ' H' (G (i + 1) y), fun σ' H' ⟨y, F'', s2, py, h⟩ => ⟨m - (i + 1), by omega, rfl, hlt, y, F'', s2, py, h⟩, fun z H3 hy => ?_⟩
      obtain ⟨s, td⟩ := wk.yld i z H2 H3 hlt tu pin hy
      exact hg F' sF i x hlt _ σ2 H3 z (I2.same s) (td.mono sF (Tu.refl H3)) _ fun σ' I3 => hs F' sF _ σ' H3 flr_same i x hlt px I3
    · have e : i = m := by omega
      subst e
      exact .inl ⟨wk.stop i H2 (Nat.le_refl _) tu pin, hd F' sF σ2 H2 x px (I2.low flr_same)⟩
end
end
end NN
set_option Elab.async false
set_option linter.all false
set_option maxRecDepth 100000
set_option maxHeartbeats 4000000
/-! A snapshot read back; what is none. -/
namespace NN
open PySem PySem.Spec PyProof.Rows L2 NM
section
variable {α : Type}
theorem srt_rises (l : List (Int × α)) : (srt l).Pairwise fun a b => a.1 ≤ b.1 := by
  refine (List.pairwise_mergeSort (fun a b c h1 h2 => ?_) (fun a b => ?_) l).imp fun h => of_decide_eq_true h
  · have := of_decide_eq_true h1
    have := of_decide_eq_true h2
    exact decide_eq_true (by omega)
  · by_cases c : a.1 ≤ b.1
    · rw [decide_eq_true c]; rfl
    · rw [decide_eq_true (show b.1 ≤ a.1 by omega), Bool.or_true]
theorem srt_of {l : List (Int × α)} (h : l.Pairwise fun a b => a.1 ≤ b.1) : srt l = l := List.mergeSort_of_pairwise (h.imp fun h => decide_eq_true h)
theorem srt_srt (l : List (Int × α)) : srt (srt l) = srt l := srt_of (srt_rises l)
theorem srt_nodup {l : List (Int × α)} (h : (l.map (·.1)).Nodup) : ((srt l).map (·.1)).Nodup := (((List.mergeSort_perm l _).map (·.1)).nodup_iff).mpr h
theorem fold_nodup : ∀ (l a : List (Int × α)), ((a ++ l).map (·.1)).Nodup → l.foldl (fun a p => putI a p.1 p.2) a = a ++ l
  | [], a, _ => by simp
  | p :: r, a, h => by
    have hn : putI a p.1 p.2 = a ++ [p] := by
      unfold putI
      rw [if_neg]
      intro z
      obtain ⟨q, hq, e⟩ := List.any_eq_true.mp z
      have e := of_decide_eq_true e
      rw [List.map_append, List.map_cons, List.nodup_append] at h
      exact h.2.2 q.1 (List.mem_map_of_mem hq) p.1 List.mem_cons_self e
    rw [List.foldl_cons, hn, fold_nodup r (a ++ [p]) (by rw [List.append_assoc]; exact h), List.append_assoc]
    rfl
theorem mkI_nodup {l : List (Int × α)} (h : (l.map (·.1)).Nodup) : mkI l = l := fold_nodup l [] h
end
def canon (b : Bk) : Bk := ⟨srt b.st, srt b.wt, srt b.gn, b.mark⟩
theorem snap_canon (b : Bk) : snap (canon b) = snap b := by
  unfold snap bodies recs sealB canon movd
  dsimp only
  rw [srt_srt, srt_srt, srt_srt, srt_len]
theorem rdPart_recB {c : List Item} (h : ∀ it ∈ c, item.ok it) : rdPart (recB c) = some c := by
  have e : item.many.rd (item.many.pr c) = some (c, []) := by
    have := item.many.fwd c [] h
    rw [List.append_nil] at this
    exact this
  show (if (7 : Int) = 7 then whole (item.many.rd (item.many.pr c)) else none) = some c
  rw [if_pos rfl, e]
  rfl
theorem rdParts_recs : ∀ L : List (List Item), (∀ c ∈ L, ∀ it ∈ c, item.ok it) → rdParts (L.map recB) = some L.flatten
  | [], _ => rfl
  | c :: L, h => by
    show (match rdPart (recB c) with
      | none => none
      | some its => (rdParts (L.map recB)).map fun r => its ++ r) = _
    rw [rdPart_recB (h c List.mem_cons_self), rdParts_recs L fun d hd => h d (List.mem_cons_of_mem _ hd)]
    rfl
theorem sealC_pr (mk n : Int) (wt : List (Mov Item)) (gn : List (Mov Int)) : sealC.pr (mk, (n, (wt, gn))) = nc mk ++ (nc n ++ ((mov item).many.pr wt ++ (mov Cd.num).many.pr gn)) := rfl
theorem rdSeal_sealB {b : Bk} (ob : okB b) {its : List Item} (hl : its.length = b.st.length) : rdSeal its (sealB b) = some (mkBk its b.mark (srt b.wt) (srt b.gn)) := by
  have ok : sealC.ok (b.mark, ((b.st.length : Int), (srt b.wt, srt b.gn))) := ⟨ob.mkp, Int.natCast_nonneg _, fun p hp => ob.o2 p (mem_srt.mp hp), fun p hp => ob.o3 p (mem_srt.mp hp)⟩
  have e := sealC.fwd _ [] ok
  rw [List.append_nil] at e
  show (if (8 : Int) = 8 then sealIs its (whole (sealC.rd (sealC.pr (b.mark, ((b.st.length : Int), (srt b.wt, srt b.gn)))))) else none) = _
  rw [if_pos rfl, e]
  show (if (b.st.length : Int) = its.length then some (mkBk its b.mark (srt b.wt) (srt b.gn)) else none) = _
  rw [if_pos (by omega)]
theorem rdSnap_snap {b : Bk} (ob : okB b) (hk : ∀ p ∈ b.st, p.2.1 = p.1) : rdSnap (snap b) = some (canon b) := by
  have hf : frs (snap b) = some (bodies 8 b, []) := frs_joined _
  have hb : bodies 8 b ≠ [] := by unfold bodies; simp
  have hd : (bodies 8 b).dropLast = recs 8 b := by unfold bodies; rw [List.dropLast_concat]
  have hg : (bodies 8 b).getLastD [] = sealB b := by unfold bodies; simp
  have hp : rdParts (recs 8 b) = some ((srt b.st).map (·.2)) := by
    unfold recs
    rw [rdParts_recs _ fun c hc it hit => ?_, chk_flat (by decide) _ _ (Nat.le_refl _)]
    obtain ⟨p, hp, rfl⟩ := List.mem_map.mp (mem_chk hc hit)
    exact ob.o1 p (mem_srt.mp hp)
  have hB : rdBook (snap b) = some (canon b) := by
    unfold rdBook
    rw [hf]
    simp only [hd, hg, hp]
    rw [if_neg (fun z => z.elim hb (fun z => z rfl)), rdSeal_sealB ob (by rw [List.length_map, srt_len])]
    unfold mkBk canon
    have e1 : ((srt b.st).map (·.2)).map (fun it : Item => (it.1, it)) = srt b.st := by
      rw [List.map_map]
      conv => rhs; rw [← List.map_id (srt b.st)]
      apply List.map_congr_left
      intro p hp
      show (p.2.1, p.2) = p
      rw [hk p (mem_srt.mp hp)]
    rw [e1, mkI_nodup (srt_nodup ob.n1), mkI_nodup (srt_nodup ob.n2), mkI_nodup (srt_nodup ob.n3)]
  unfold rdSnap
  rw [hB]
  exact if_pos (snap_canon b)
/-! ### the shape of the records -/
theorem recs_head {b : Bk} {x : List Int} (h : x ∈ recs 8 b) : x.head? = some 7 := by
  unfold recs at h
  obtain ⟨c, _, rfl⟩ := List.mem_map.mp h
  rfl
theorem bodies_tail {b b' : Bk} {ds : List (List Int)} (h : bodies 8 b = bodies 8 b' ++ ds) : ds = [] := by
  cases hd : ds with
  | nil => rfl
  | cons d r =>
    exfalso
    have hm : sealB b' ∈ (bodies 8 b).dropLast := by
      rw [h, hd]
      unfold bodies
      have e : (recs 8 b' ++ [sealB b'] ++ d :: r) = (recs 8 b' ++ [sealB b']) ++ (d :: r) := rfl
      rw [e, List.dropLast_append_of_ne_nil (by simp)]
      exact List.mem_append_left _ (List.mem_append_right _ List.mem_cons_self)
    have e : (bodies 8 b).dropLast = recs 8 b := by unfold bodies; rw [List.dropLast_concat]
    rw [e] at hm
    have := recs_head hm
    cases this
theorem rdSnap_is {X : List Int} {b : Bk} (h : rdSnap X = some b) : snap b = X ∧ rdBook X = some b := by
  unfold rdSnap at h
  cases e : rdBook X with
  | none => rw [e] at h; cases h
  | some c =>
    rw [e] at h
    replace h : (if snap c = X then some c else none) = some b := h
    by_cases k : snap c = X
    · rw [if_pos k] at h
      cases h
      exact ⟨k, rfl⟩
    · rw [if_neg k] at h
      cases h
/-- a part of a snapshot, not the whole -/
theorem rdSnap_cut (b : Bk) {n : Nat} (hn : n < (snap b).length) : rdSnap ((snap b).take n) = none := by
  cases e : rdSnap ((snap b).take n) with
  | none => rfl
  | some c =>
    exfalso
    obtain ⟨h1, _⟩ := rdSnap_is e
    have h2 : joined (bodies 8 c) ++ (snap b).drop n = joined (bodies 8 b) := by
      show snap c ++ _ = snap b
      rw [h1, List.take_append_drop]
    obtain ⟨ds, h3, h4⟩ := joined_pre h2
    have := bodies_tail h3
    subst this
    have : ((snap b).drop n).length = 0 := by rw [h4]; rfl
    rw [List.length_drop] at this
    omega
/-- a snapshot and more -/
theorem rdSnap_more (b : Bk) {y : List Int} (hy : y ≠ []) : rdSnap (snap b ++ y) = none := by
  cases e : rdSnap (snap b ++ y) with
  | none => rfl
  | some c =>
    exfalso
    obtain ⟨h1, _⟩ := rdSnap_is e
    have h2 : joined (bodies 8 b) ++ y = joined (bodies 8 c) := h1.symm
    obtain ⟨ds, h3, h4⟩ := joined_pre h2
    have := bodies_tail h3
    subst this
    exact hy h4
end NN
set_option Elab.async false
set_option linter.all false
set_option maxRecDepth 100000
set_option maxHeartbeats 4000000
/-! Records that are no book's. -/
namespace NN
open PySem PySem.Spec PyProof.Rows L2 NM
structure NB (b : Bk) : Prop where
  ok : okB b
  key : ∀ p ∈ b.st, p.2.1 = p.1
theorem rdBook_nb {cs : List Int} {b : Bk} (hc : Cs cs) (h : rdBook cs = some b) : NB b := by
  refine ⟨(rdBook_ok hc h).1, ?_⟩
  unfold rdBook at h
  cases e : frs cs with
  | none => rw [e] at h; cases h
  | some p =>
    obtain ⟨bs, r⟩ := p
    rw [e] at h
    replace h : (if bs = [] ∨ r ≠ [] then none else match rdParts bs.dropLast with
      | none => none
      | some its => rdSeal its (bs.getLastD [])) = some b := h
    by_cases c : bs = [] ∨ r ≠ []
    · rw [if_pos c] at h; cases h
    · rw [if_neg c] at h
      have hb : bs ≠ [] := fun z => c (.inl z)
      have hr : r = [] := Classical.byContradiction fun z => c (.inr z)
      subst hr
      have ej := frs_back _ (Nat.le_refl _) hc e
      rw [List.append_nil] at ej
      have hcs := body_cs hc ej
      have eg : bs.getLastD [] = bs.getLast hb := List.getLastD_eq_getLast? ▸ by rw [List.getLast?_eq_getLast hb]; rfl
      cases e2 : rdParts bs.dropLast with
      | none => rw [e2] at h; cases h
      | some its =>
        rw [e2] at h
        replace h : rdSeal its (bs.getLastD []) = some b := h
        rw [eg] at h
        obtain ⟨mk, wt, gn, _, _, h5⟩ := rdSeal_back (hcs _ (List.getLast_mem hb)) h
        subst h5
        intro p hp
        obtain ⟨it, _, e⟩ := List.mem_map.mp (mem_mkI hp)
        rw [← e]
/-- no book has these records -/
def Bad (c : List (List Int)) : Prop := ∀ b, NB b → c ≠ bodies 8 b
theorem Bad.none {c : List (List Int)} (h : Bad c) (hc : Cs (joined c)) : rdSnap (joined c) = none := by
  cases e : rdSnap (joined c) with
  | none => rfl
  | some b =>
    exfalso
    obtain ⟨h1, h2⟩ := rdSnap_is e
    exact h b (rdBook_nb hc h2) (joined_inj h1.symm)
theorem recs_len {b : Bk} {x : List Int} (h : x ∈ recs 8 b) : ∃ c : List Item, x = recB c ∧ 1 ≤ c.length ∧ c.length ≤ 8 ∧ ∀ it ∈ c, ∃ p ∈ b.st, p.2 = it := by
  unfold recs at h
  obtain ⟨c, hc, rfl⟩ := List.mem_map.mp h
  refine ⟨c, rfl, ?_, ?_, fun it hit => ?_⟩
  · unfold chk at hc
    obtain ⟨i, hi, rfl⟩ := List.mem_map.mp hc
    have hi := List.mem_range.mp hi
    generalize (srt b.st).map (·.2) = l at hi
    rw [List.length_take, List.length_drop]
    have h1 : (i + 1) * 8 ≤ l.length + 8 - 1 := Nat.le_trans (Nat.mul_le_mul_right 8 hi) (Nat.div_mul_le_self _ _)
    omega
  · unfold chk at hc
    obtain ⟨i, hi, rfl⟩ := List.mem_map.mp hc
    rw [List.length_take]
    omega
  · obtain ⟨p, hp, e⟩ := List.mem_map.mp (mem_chk hc hit)
    exact ⟨p, mem_srt.mp hp, e⟩
theorem split_last {A : List (List Int)} {z : List Int} {b : Bk} (h : A ++ [z] = bodies 8 b) : A = recs 8 b ∧ z = sealB b := by
  unfold bodies at h
  obtain ⟨h1, h2⟩ := List.append_inj' h rfl
  exact ⟨h1, by simpa using h2⟩
theorem bad_rec {A : List (List Int)} {z x : List Int} (hx : x ∈ A) (h : x.head? ≠ some 7) : Bad (A ++ [z]) := fun b _ e => by
  obtain ⟨h1, _⟩ := split_last e
  rw [h1] at hx
  exact h (recs_head hx)
theorem bad_last {A : List (List Int)} {z : List Int} (h : z.head? ≠ some 8) : Bad (A ++ [z]) := fun b _ e => by
  obtain ⟨_, h2⟩ := split_last e
  rw [h2] at h
  exact h rfl
theorem bad_nil : Bad [] := fun b _ e => by
  unfold bodies at e
  simp at e
section
variable {b : Bk} (nb : NB b)
/-- without the last -/
theorem bad1 : Bad (recs 8 b) := by
  by_cases h : recs 8 b = []
  · rw [h]
    exact bad_nil
  · have e : recs 8 b = (recs 8 b).dropLast ++ [(recs 8 b).getLast h] := (List.dropLast_concat_getLast h).symm
    have hm := recs_head (List.getLast_mem h)
    rw [e]
    exact bad_last (by rw [hm]; decide)
theorem bad2 : Bad (bodies 8 b ++ [sealB b]) := bad_rec (x := sealB b) (List.mem_append_right _ List.mem_cons_self) (show some (8 : Int) ≠ some 7 by decide)
theorem bad3 : Bad ([sealB b] ++ bodies 8 b) := by
  have e : [sealB b] ++ bodies 8 b = ([sealB b] ++ recs 8 b) ++ [sealB b] := by
    unfold bodies
    rw [List.append_assoc]
  rw [e]
  exact bad_rec (x := sealB b) (List.mem_append_left _ List.mem_cons_self) (show some (8 : Int) ≠ some 7 by decide)
theorem bad4 : Bad ([[7, 0]] ++ bodies 8 b) := fun c _ e => by
  have e1 : [[7, 0]] ++ bodies 8 b = ([[7, 0]] ++ recs 8 b) ++ [sealB b] := by
    unfold bodies
    rw [List.append_assoc]
  rw [e1] at e
  obtain ⟨h1, _⟩ := split_last e
  have hm : [7, 0] ∈ recs 8 c := by
    rw [← h1]
    exact List.mem_append_left _ List.mem_cons_self
  obtain ⟨it, e2, l1, l2, _⟩ := recs_len hm
  rw [recB_eq, nc_small (by omega)] at e2
  have e3 : [(7 : Int), 0] = 7 :: ((it.length : Int) :: it.flatMap item.pr) := e2
  injection e3 with _ e3
  injection e3 with e3 _
  omega
/-- one record changed -/
theorem bad_at {A B : List (List Int)} {x y : List Int} (h : bodies 8 b = A ++ x :: B) (hr : ∀ c d : List Item, (∀ it ∈ c, item.ok it) → (∀ it ∈ d, item.ok it) → x = recB c → y ≠ recB d) (hs : ∀ d : Bk, NB d → x = sealB b → y ≠ sealB d) (nb : NB b) : Bad (A ++ y :: B) := fun d nd e => by
  cases hB : B with
  | nil =>
    subst hB
    obtain ⟨_, h2⟩ := split_last h.symm
    obtain ⟨_, h4⟩ := split_last e
    exact hs d nd h2 h4
  | cons z r =>
    have hne : B ≠ [] := by rw [hB]; simp
    have eB : B = B.dropLast ++ [B.getLast hne] := (List.dropLast_concat_getLast hne).symm
    have e1 : (A ++ x :: B.dropLast) ++ [B.getLast hne] = bodies 8 b := by
      rw [h]
      conv => rhs; rw [eB]
      rw [List.append_assoc]
      rfl
    have e2 : (A ++ y :: B.dropLast) ++ [B.getLast hne] = bodies 8 d := by
      rw [← e]
      conv => rhs; rw [eB]
      rw [List.append_assoc]
      rfl
    obtain ⟨h1, _⟩ := split_last e1
    obtain ⟨h2, _⟩ := split_last e2
    have m1 : x ∈ recs 8 b := by rw [← h1]; exact List.mem_append_right _ List.mem_cons_self
    have m2 : y ∈ recs 8 d := by rw [← h2]; exact List.mem_append_right _ List.mem_cons_self
    obtain ⟨c1, k1, _, _, k2⟩ := recs_len m1
    obtain ⟨c2, j1, _, _, j2⟩ := recs_len m2
    refine hr c1 c2 (fun it hit => ?_) (fun it hit => ?_) k1 j1
    · obtain ⟨p, hp, rfl⟩ := k2 it hit
      exact nb.ok.o1 p hp
    · obtain ⟨p, hp, rfl⟩ := j2 it hit
      exact nd.ok.o1 p hp
theorem seal_ok {b : Bk} (ob : okB b) : sealC.ok (b.mark, ((b.st.length : Int), (srt b.wt, srt b.gn))) := ⟨ob.mkp, Int.natCast_nonneg _, fun p hp => ob.o2 p (mem_srt.mp hp), fun p hp => ob.o3 p (mem_srt.mp hp)⟩
theorem seal_is (b : Bk) : sealB b = 8 :: sealC.pr (b.mark, ((b.st.length : Int), (srt b.wt, srt b.gn))) := rfl
/-- longer by one -/
theorem bad5 {A B : List (List Int)} {x : List Int} (h : bodies 8 b = A ++ x :: B) (nb : NB b) (z : Int) : Bad (A ++ (x ++ [z]) :: B) := bad_at h (fun c d hc hd e1 e2 => by
    rw [e1] at e2
    have e3 : 7 :: (item.many.pr c ++ [z]) = 7 :: item.many.pr d := e2
    injection e3 with _ e3
    have := (Cd.inj item.many (r := [z]) (s := []) hc hd (by rw [List.append_nil]; exact e3)).2
    cases this) (fun d nd e1 e2 => by
    rw [e1, seal_is, seal_is] at e2
    injection e2 with _ e3
    have := (Cd.inj sealC (r := [z]) (s := []) (seal_ok nb.ok) (seal_ok nd.ok) (by rw [List.append_nil]; exact e3)).2
    cases this) nb
/-- shorter by one -/
theorem bad6 {A B : List (List Int)} {x : List Int} (h : bodies 8 b = A ++ x :: B) (nb : NB b) : Bad (A ++ x.dropLast :: B) := bad_at h (fun c d hc hd e1 e2 => by
    have hne : item.many.pr c ≠ [] := item.many.pos c
    have e3 : 7 :: (item.many.pr c).dropLast = 7 :: item.many.pr d := by
      rw [e1] at e2
      rw [← List.dropLast_cons_of_ne_nil hne]
      exact e2
    injection e3 with _ e3
    have e4 := List.dropLast_concat_getLast hne
    rw [e3] at e4
    have := (Cd.inj item.many (r := [_]) (s := []) hd hc (by rw [List.append_nil]; exact e4)).2
    cases this) (fun d nd e1 e2 => by
    have hne : sealC.pr (b.mark, ((b.st.length : Int), (srt b.wt, srt b.gn))) ≠ [] := sealC.pos _
    have e3 : 8 :: (sealC.pr (b.mark, ((b.st.length : Int), (srt b.wt, srt b.gn)))).dropLast = 8 :: sealC.pr (d.mark, ((d.st.length : Int), (srt d.wt, srt d.gn))) := by
      rw [e1, seal_is, seal_is] at e2
      rw [← List.dropLast_cons_of_ne_nil hne]
      exact e2
    injection e3 with _ e3
    have e4 := List.dropLast_concat_getLast hne
    rw [e3] at e4
    have := (Cd.inj sealC (r := [_]) (s := []) (seal_ok nd.ok) (seal_ok nb.ok) (by rw [List.append_nil]; exact e4)).2
    cases this) nb
/-- another word at the front -/
theorem bad7 {A B : List (List Int)} {x t : List Int} (h : bodies 8 b = A ++ x :: B) (nb : NB b) : Bad (A ++ (9 :: t) :: B) := bad_at h (fun c d _ _ _ e2 => by
    have e3 : 9 :: t = 7 :: item.many.pr d := e2
    injection e3 with e3 _
    exact absurd e3 (by decide)) (fun d _ _ e2 => by
    rw [seal_is] at e2
    injection e2 with e3 _
    exact absurd e3 (by decide)) nb
/-- one more record, of no kind -/
theorem bad8 {A B : List (List Int)} {x : List Int} (h : bodies 8 b = A ++ B) (hB : B ≠ []) (hx : x.head? ≠ some 7) : Bad (A ++ x :: B) := by
  have eB : B = B.dropLast ++ [B.getLast hB] := (List.dropLast_concat_getLast hB).symm
  have e : A ++ x :: B = (A ++ x :: B.dropLast) ++ [B.getLast hB] := by
    conv => lhs; rw [eB]
    rw [List.append_assoc]
    rfl
  rw [e]
  exact bad_rec (List.mem_append_right _ List.mem_cons_self) hx
end
end NN
set_option Elab.async false
set_option linter.all false
set_option maxRecDepth 100000
set_option maxHeartbeats 4000000
/-! Records that are no book's: the other half. -/
namespace NN
open PySem PySem.Spec PyProof.Rows L2 NM
section
variable {b : Bk}
theorem its_of {d : Bk} (nd : NB d) : rdParts (recs 8 d) = some ((srt d.st).map (·.2)) := by
  unfold recs
  rw [rdParts_recs _ fun c hc it hit => ?_, chk_flat (by decide) _ _ (Nat.le_refl _)]
  obtain ⟨p, hp, rfl⟩ := List.mem_map.mp (mem_chk hc hit)
  exact nd.ok.o1 p (mem_srt.mp hp)
/-- the items that are read are in order, no key twice -/
theorem its_rise {d : Bk} (nd : NB d) : ((srt d.st).map (·.2)).Pairwise fun x y => x.1 < y.1 := by
  have h1 := srt_rises d.st
  have h2 := srt_nodup nd.ok.n1
  rw [List.pairwise_map]
  have h3 : (srt d.st).Pairwise fun a c => a.1 < c.1 := by
    have h4 : (srt d.st).Pairwise fun a c => a.1 ≠ c.1 := List.pairwise_map.mp h2
    exact (h1.and h4).imp fun ⟨a, c⟩ => by omega
  refine h3.imp_of_mem fun {x y} hx hy h => ?_
  rw [nd.key x (mem_srt.mp hx), nd.key y (mem_srt.mp hy)]
  exact h
theorem mov_rise {α : Type} {t : List (Int × α)} (h : (t.map (·.1)).Nodup) : (srt t).Pairwise fun a c => a.1 < c.1 := by
  have h1 := srt_rises t
  have h4 : (srt t).Pairwise fun a c => a.1 ≠ c.1 := List.pairwise_map.mp (srt_nodup h)
  exact (h1.and h4).imp fun ⟨a, c⟩ => by omega
/-- records by another size -/
theorem bad9 {s : Nat} (nb : NB b) (hs : 1 ≤ s) (hne : min s b.st.length ≠ min 8 b.st.length) : Bad (bodies s b) := fun d nd e => by
  obtain ⟨h1, h2⟩ := split_last (A := recs s b) (z := sealB b) e
  rw [seal_is, seal_is] at h2
  injection h2 with _ h3
  have h4 := (Cd.inj sealC (r := []) (s := []) (seal_ok nb.ok) (seal_ok nd.ok) (by rw [List.append_nil, List.append_nil]; exact h3)).1
  have h5 : (b.st.length : Int) = d.st.length := congrArg (fun x => x.2.1) h4
  have hn : b.st.length ≠ 0 := fun z => hne (by rw [z]; simp)
  generalize hl : (srt b.st).map (·.2) = l
  generalize hl' : (srt d.st).map (·.2) = l'
  have ll : l.length = b.st.length := by rw [← hl, List.length_map, srt_len]
  have ll' : l'.length = d.st.length := by rw [← hl', List.length_map, srt_len]
  have e1 : recs s b = recB (l.take s) :: (chk s (l.drop s)).map recB := by
    unfold recs
    rw [hl, chk_cons hs (fun z => hn (by rw [← ll, z]; rfl))]
    rfl
  have e2 : recs 8 d = recB (l'.take 8) :: (chk 8 (l'.drop 8)).map recB := by
    unfold recs
    have hne2 : l' ≠ [] := fun z => by
      have : l'.length = 0 := by rw [z]; rfl
      omega
    rw [hl', chk_cons (by decide) hne2]
    rfl
  rw [e1, e2] at h1
  injection h1 with h6 _
  have okl : ∀ it ∈ l.take s, item.ok it := fun it hit => by
    rw [← hl] at hit
    obtain ⟨p, hp, rfl⟩ := List.mem_map.mp (List.mem_of_mem_take hit)
    exact nb.ok.o1 p (mem_srt.mp hp)
  have okl' : ∀ it ∈ l'.take 8, item.ok it := fun it hit => by
    rw [← hl'] at hit
    obtain ⟨p, hp, rfl⟩ := List.mem_map.mp (List.mem_of_mem_take hit)
    exact nd.ok.o1 p (mem_srt.mp hp)
  have h7 : item.many.pr (l.take s) = item.many.pr (l'.take 8) := by
    have h8 : 7 :: item.many.pr (l.take s) = 7 :: item.many.pr (l'.take 8) := h6
    injection h8
  have h9 := (Cd.inj item.many (r := []) (s := []) okl okl' (by rw [List.append_nil, List.append_nil]; exact h7)).1
  have h10 := congrArg List.length h9
  rw [List.length_take, List.length_take, ll, ll'] at h10
  omega
/-- the first record twice -/
theorem bad10 (nb : NB b) (hn : b.st.length ≠ 0) : Bad ((bodies 8 b).take 1 ++ bodies 8 b) := fun d nd e => by
  have hr : recs 8 b ≠ [] := by
    unfold recs
    rw [chk_cons (by decide) (fun z => hn (by rw [← srt_len b.st, ← List.length_map (f := fun p : Int × Item => p.2), z]; rfl))]
    simp
  cases hR : recs 8 b with
  | nil => exact hr hR
  | cons x R =>
    have e1 : (bodies 8 b).take 1 ++ bodies 8 b = (x :: x :: R) ++ [sealB b] := by
      unfold bodies
      rw [hR]
      rfl
    rw [e1] at e
    obtain ⟨h1, h2⟩ := split_last e
    rw [seal_is, seal_is] at h2
    injection h2 with _ h3
    have h4 := (Cd.inj sealC (r := []) (s := []) (seal_ok nb.ok) (seal_ok nd.ok) (by rw [List.append_nil, List.append_nil]; exact h3)).1
    have h5 : (b.st.length : Int) = d.st.length := congrArg (fun x => x.2.1) h4
    have p1 := its_of nb
    have p2 := its_of nd
    rw [← h1] at p2
    rw [hR] at p1
    obtain ⟨c, ec, l1, _, okc⟩ := recs_len (b := b) (x := x) (by rw [hR]; exact List.mem_cons_self)
    have p3 : rdParts (x :: x :: R) = (match rdPart x with
      | none => none
      | some its => (rdParts (x :: R)).map fun r => its ++ r) := rfl
    have ex : rdPart x = some c := by
      rw [ec]
      exact rdPart_recB fun it hit => by
        obtain ⟨p, hp, rfl⟩ := okc it hit
        exact nb.ok.o1 p hp
    rw [p3, ex, p1] at p2
    have p4 : c ++ (srt b.st).map (·.2) = (srt d.st).map (·.2) := Option.some.inj p2
    have p5 := congrArg List.length p4
    rw [List.length_append, List.length_map, List.length_map, srt_len, srt_len] at p5
    omega
/-- two items out of order, or one twice -/
theorem bad11 {x y : Item} {z : List Int} (hx : item.ok x) (hy : item.ok y) (hxy : y.1 ≤ x.1) : Bad [recB [x, y], z] := fun d nd e => by
  obtain ⟨h1, _⟩ := split_last (A := [recB [x, y]]) (z := z) e
  have p2 := its_of nd
  rw [← h1] at p2
  have p3 := rdParts_recs [[x, y]] (fun c hc it hit => by
    rw [List.mem_singleton.mp hc] at hit
    rcases List.mem_cons.mp hit with h | h
    · rw [h]; exact hx
    · rw [List.mem_singleton.mp h]; exact hy)
  have p4 : some [x, y] = some ((srt d.st).map (·.2)) := p3.symm.trans p2
  have p5 := its_rise nd
  rw [← Option.some.inj p4] at p5
  have := (List.pairwise_cons.mp p5).1 y List.mem_cons_self
  omega
/-- moves out of order, or one twice -/
theorem bad12 {A : List (List Int)} {mk n : Int} {wt : List (Mov Item)} {gn : List (Mov Int)} (ok : sealC.ok (mk, (n, (wt, gn)))) (h : ¬ (wt.Pairwise fun a c => a.1 < c.1) ∨ ¬ (gn.Pairwise fun a c => a.1 < c.1)) : Bad (A ++ [8 :: sealC.pr (mk, (n, (wt, gn)))]) := fun d nd e => by
  obtain ⟨_, h2⟩ := split_last e
  rw [seal_is] at h2
  injection h2 with _ h3
  have h4 := (Cd.inj sealC (r := []) (s := []) ok (seal_ok nd.ok) (by rw [List.append_nil, List.append_nil]; exact h3)).1
  have h5 : wt = srt d.wt := congrArg (fun x => x.2.2.1) h4
  have h6 : gn = srt d.gn := congrArg (fun x => x.2.2.2) h4
  rcases h with h | h
  · rw [h5] at h
    exact h (mov_rise nd.ok.n2)
  · rw [h6] at h
    exact h (mov_rise nd.ok.n3)
end
end NN
set_option Elab.async false
set_option linter.all false
set_option maxRecDepth 100000
set_option maxHeartbeats 4000000
/-! How large the law's books are. -/
namespace NN
open PySem PySem.Spec PyProof.Rows L2 NM
theorem nc_pow : ∀ (k : Nat) (n : Int), n < 128 ^ (k + 1) → (nc n).length ≤ k + 1
  | 0, n, h => by
    rw [nc_small (by omega)]
    exact Nat.le_refl _
  | k + 1, n, h => by
    by_cases c : 127 < n
    · rw [nc_big c, List.length_cons]
      have := nc_pow k (n / 128) (by
        have e : (128 : Int) ^ (k + 1 + 1) = 128 ^ (k + 1) * 128 := Int.pow_succ ..
        rw [e] at h
        omega)
      omega
    · rw [nc_small c]
      simp
theorem nc1 {n : Int} (h : n < 128) : (nc n).length ≤ 1 := nc_pow 0 n h
theorem nc2 {n : Int} (h : n < 16384) : (nc n).length ≤ 2 := nc_pow 1 n h
theorem nc3 {n : Int} (h : n < 2097152) : (nc n).length ≤ 3 := nc_pow 2 n h
theorem nc4 {n : Int} (h : n < 268435456) : (nc n).length ≤ 4 := nc_pow 3 n h
theorem nc5 {n : Int} (h : n < 34359738368) : (nc n).length ≤ 5 := nc_pow 4 n h
theorem zig_le {x : Int} {m : Int} (h1 : -m ≤ x) (h2 : x ≤ m) : zig x ≤ 2 * m := by
  unfold zig
  split <;> omega
theorem sum_le {β : Type} (f : β → Nat) (a : Nat) : ∀ l : List β, (∀ x ∈ l, f x ≤ a) → (l.map f).sum ≤ a * l.length
  | [], _ => Nat.zero_le _
  | x :: r, h => by
    have h1 := h x List.mem_cons_self
    have h2 := sum_le f a r fun y hy => h y (List.mem_cons_of_mem _ hy)
    rw [List.map_cons, List.sum_cons, List.length_cons, Nat.mul_succ]
    omega
theorem nmc_len {s : Str} (h : okName s) : (nmc s).length ≤ 9 := by
  have hl : s.cps.toList.length = s.length := Array.length_toList
  have := h.1.2
  unfold nmc
  rw [List.length_cons, List.length_map, hl]
  omega
theorem gJ_len {it : Item} (h : gJ it) : (item.pr it).length ≤ 60 := by
  obtain ⟨key, p, k0, k1, hp, g⟩ := h
  rw [item_pr]
  simp only [List.length_append, flat_len]
  have e1 : (nc it.1).length ≤ 4 := nc4 (by rw [g.k]; omega)
  have e2 : (nc (it.2.1.length : Int)).length ≤ 1 := nc1 (by rw [g.l1]; omega)
  have e3 : (nc (it.2.2.length : Int)).length ≤ 1 := nc1 (by have := g.l2; omega)
  have e4 := sum_le (fun x => (NM.int.pr x).length) 3 it.2.1 (fun x hx => by
    have := g.v1 x hx
    have := zig_le this.1 this.2
    exact nc3 (n := zig x) (by omega))
  have e5 := sum_le (fun x => (lab.pr x).length) 14 it.2.2 (fun y hy => by
    have h1 := g.v2 y hy
    have h2 := zig_le h1.1 h1.2
    have h3 := nmc_len ((g.ok.2.2.1 y hy).1)
    have h4 : (nc (zig y.2)).length ≤ 5 := nc5 (by omega)
    show (nmc y.1 ++ nc (zig y.2)).length ≤ 14
    rw [List.length_append]
    omega)
  have l1 := g.l1
  have l2 := g.l2
  rw [l1] at e4
  omega
theorem gJ_ok {it : Item} (h : gJ it) : item.ok it := by
  obtain ⟨_, _, _, _, _, g⟩ := h
  exact g.ok
theorem gJ_sm {it : Item} (h : gJ it) : smI it := by
  obtain ⟨_, p, _, _, hp, g⟩ := h
  have := g.l1
  have := g.l2
  exact ⟨by omega, by omega⟩
section
variable {b : Bk} (g : gB b)
include g
theorem gB.nb : NB b := by
  refine ⟨⟨g.n1, g.n2, g.n3, fun p hp => gJ_ok (g.st p hp).2, fun p hp => ?_, fun p hp => ?_, g.mk0.1⟩, fun p hp => (g.st p hp).1⟩
  · obtain ⟨⟨h1, _⟩, ⟨h2, _⟩, _, h3⟩ := g.wt p hp
    exact ⟨h1, h2, fun it hit => gJ_ok (h3 it hit)⟩
  · obtain ⟨⟨h1, _⟩, ⟨h2, _⟩, _, h3⟩ := g.gn p hp
    exact ⟨h1, h2, fun k hk => (h3 k hk).1⟩
theorem gB.sm : smB b := ⟨g.nb.ok, fun p hp => gJ_sm (g.st p hp).2, fun p hp y hy => gJ_sm ((g.wt p hp).2.2.2 y hy)⟩
theorem gB.seal_len : (sealB b).length ≤ 1000 := by
  have e : (sealB b).length = 1 + ((nc b.mark).length + ((nc (b.st.length : Int)).length + ((movd item b.wt).length + (movd Cd.num b.gn).length))) := by
    show (8 :: (nc b.mark ++ (nc _ ++ (movd item b.wt ++ movd Cd.num b.gn)))).length = _
    simp only [List.length_cons, List.length_append]
    omega
  have n1 : (nc b.mark).length ≤ 4 := nc4 (by have := g.mk0.2; omega)
  have n2 := nc_lenN b.st.length
  have n3 := nc_lenN b.wt.length
  have n4 := nc_lenN b.gn.length
  have s1 := sum_le (fun p : Mov Item => ((mov item).pr p).length) 220 (srt b.wt) (fun p hp => by
    obtain ⟨⟨h1, h1'⟩, ⟨h2, h2'⟩, ⟨_, h3⟩, h4⟩ := g.wt p (mem_srt.mp hp)
    rw [mov_pr]
    simp only [List.length_append, flat_len]
    have m1 : (nc p.1).length ≤ 2 := nc2 (by omega)
    have m2 : (nc p.2.1).length ≤ 2 := nc2 (by omega)
    have m3 := nc_lenN p.2.2.length
    have m4 := sum_le (fun it => (item.pr it).length) 60 p.2.2 fun it hit => gJ_len (h4 it hit)
    omega)
  have s2 := sum_le (fun p : Mov Int => ((mov Cd.num).pr p).length) 30 (srt b.gn) (fun p hp => by
    obtain ⟨⟨h1, h1'⟩, ⟨h2, h2'⟩, ⟨_, h3⟩, h4⟩ := g.gn p (mem_srt.mp hp)
    rw [mov_pr]
    simp only [List.length_append, flat_len]
    have m1 : (nc p.1).length ≤ 2 := nc2 (by omega)
    have m2 : (nc p.2.1).length ≤ 2 := nc2 (by omega)
    have m3 := nc_lenN p.2.2.length
    have m4 := sum_le (fun k => (Cd.num.pr k).length) 4 p.2.2 fun k hk => nc4 (by have := (h4 k hk).2; omega)
    omega)
  have l1 := g.l1
  have l2 := g.l2
  have l3 := g.l3
  rw [e, movd_eq, movd_eq, List.length_append, List.length_append, flat_len, flat_len]
  rw [srt_len] at s1 s2
  omega
theorem gB.rec_len {s : Nat} (hs : s ≤ 9) {x : List Int} (h : x ∈ recs s b) : x.length ≤ 1100 := by
  unfold recs at h
  obtain ⟨c, hc, rfl⟩ := List.mem_map.mp h
  have h1 := recB_len c
  have h2 := sum_le wI 60 c fun it hit => by
    obtain ⟨p, hp, rfl⟩ := List.mem_map.mp (mem_chk hc hit)
    exact gJ_len (g.st p (mem_srt.mp hp)).2
  have h3 : c.length ≤ s := by
    unfold chk at hc
    obtain ⟨i, _, rfl⟩ := List.mem_map.mp hc
    rw [List.length_take]
    omega
  omega
theorem gB.rec_cs {s : Nat} {x : List Int} (h : x ∈ recs s b) : Cs x := by
  unfold recs at h
  obtain ⟨c, hc, rfl⟩ := List.mem_map.mp h
  have ok : ∀ it ∈ c, item.ok it := fun it hit => by
    obtain ⟨p, hp, rfl⟩ := List.mem_map.mp (mem_chk hc hit)
    exact g.nb.ok.o1 p (mem_srt.mp hp)
  intro z hz
  rcases List.mem_cons.mp hz with e | e
  · rw [e]; decide
  · exact item.many.cs c ok z e
theorem gB.seal_cs : Cs (sealB b) := fun z hz => by
  rcases List.mem_cons.mp hz with e | e
  · rw [e]; decide
  · exact sealC.cs _ (seal_ok g.nb.ok) z e
end
theorem joined_cs {c : List (List Int)} (h : ∀ x ∈ c, Cs x) : Cs (joined c) := fun z hz => by
  obtain ⟨x, hx, hm⟩ := List.mem_flatMap.mp hz
  unfold frm at hm
  rcases List.mem_append.mp hm with m | m
  · exact Cd.num.cs _ (Int.natCast_nonneg _) z m
  · rcases List.mem_append.mp m with m | m
    · exact h x hx z m
    · rw [List.mem_singleton.mp m]
      unfold endc
      have h1 := Int.emod_nonneg (wsum 0 x) (show (251 : Int) ≠ 0 by decide)
      have h2 := Int.emod_lt_of_pos (wsum 0 x) (show (0 : Int) < 251 by decide)
      omega
theorem joined_len {c : List (List Int)} {m : Nat} (h : ∀ x ∈ c, x.length ≤ m) : (joined c).length ≤ (2 * m + 2) * c.length := by
  unfold joined
  rw [flat_len]
  exact sum_le _ _ _ fun x hx => by
    have := frm_le x
    have := h x hx
    omega
end NN
set_option Elab.async false
set_option linter.all false
set_option maxRecDepth 100000
set_option maxHeartbeats 4000000
/-! The candidates of the law that are no book's. -/
namespace NN
open PySem PySem.Spec PyProof.Rows L2 NM
structure GC (c : List (List Int)) : Prop where
  bad : Bad c
  cs : ∀ x ∈ c, Cs x ∧ x.length ≤ 1200
  len : c.length ≤ 9
theorem GC.jcs {c : List (List Int)} (h : GC c) : Cs (joined c) := joined_cs fun x hx => (h.cs x hx).1
theorem GC.none {c : List (List Int)} (h : GC c) : rdSnap (joined c) = none := h.bad.none h.jcs
theorem GC.jlen {c : List (List Int)} (h : GC c) : (joined c).length ≤ 30000 := by
  have h1 := joined_len fun x hx => (h.cs x hx).2
  have h2 := h.len
  omega
theorem recs_num (s : Nat) (b : Bk) : (recs s b).length = (b.st.length + s - 1) / s := by
  unfold recs chk
  rw [List.length_map, List.length_map, List.length_range, List.length_map, srt_len]
section
variable {b : Bk} (g : gB b)
include g
theorem gB.n8 : (recs 8 b).length ≤ 3 := by
  rw [recs_num]
  have := g.l1
  omega
theorem gB.bl : (bodies 8 b).length ≤ 4 := by
  have := g.n8
  unfold bodies
  rw [List.length_append, List.length_singleton]
  omega
theorem gB.bpos : 0 < (bodies 8 b).length := by
  unfold bodies
  rw [List.length_append, List.length_singleton]
  omega
theorem gB.sl : Cs (sealB b) ∧ (sealB b).length ≤ 1200 := ⟨g.seal_cs, by have := g.seal_len; omega⟩
theorem gB.bs {s : Nat} (hs : s ≤ 9) : ∀ x ∈ bodies s b, Cs x ∧ x.length ≤ 1100 := fun x hx => by
  rcases List.mem_append.mp hx with h | h
  · exact ⟨g.rec_cs h, g.rec_len hs h⟩
  · rw [List.mem_singleton.mp h]
    exact ⟨g.seal_cs, by have := g.seal_len; omega⟩
theorem gB.b8 : ∀ x ∈ bodies 8 b, Cs x ∧ x.length ≤ 1200 := fun x hx => by
  have := g.bs (s := 8) (by decide) x hx
  exact ⟨this.1, by omega⟩
theorem gB.c1 : GC (recs 8 b) := ⟨bad1, fun x hx => g.b8 x (List.mem_append_left _ hx), by have := g.n8; omega⟩
theorem gB.c2 : GC (bodies 8 b ++ [sealB b]) := ⟨bad2, fun x hx => by
  rcases List.mem_append.mp hx with h | h
  · exact g.b8 x h
  · rw [List.mem_singleton.mp h]; exact g.sl, by have := g.bl; rw [List.length_append, List.length_singleton]; omega⟩
theorem gB.c3 : GC ([sealB b] ++ bodies 8 b) := ⟨bad3, fun x hx => by
  rcases List.mem_append.mp hx with h | h
  · rw [List.mem_singleton.mp h]; exact g.sl
  · exact g.b8 x h, by have := g.bl; rw [List.length_append, List.length_singleton]; omega⟩
theorem gB.c4 : GC ([[7, 0]] ++ bodies 8 b) := ⟨bad4, fun x hx => by
  rcases List.mem_append.mp hx with h | h
  · rw [List.mem_singleton.mp h]; exact ⟨by intro c hc; rcases List.mem_cons.mp hc with e | e; (rw [e]; decide); (rw [List.mem_singleton.mp e]; decide), by decide⟩
  · exact g.b8 x h, by have := g.bl; rw [List.length_append, List.length_singleton]; omega⟩
/-- one changed -/
theorem gB.cAt {k : Nat} {x y : List Int} (hk : (bodies 8 b)[k]? = some x) (hy : Cs y ∧ y.length ≤ 1200) (hb : ∀ A B, bodies 8 b = A ++ x :: B → Bad (A ++ y :: B)) : GC ((bodies 8 b).take k ++ [y] ++ (bodies 8 b).drop (k + 1)) := by
  have hl := (List.getElem?_eq_some_iff.mp hk).1
  have e : bodies 8 b = (bodies 8 b).take k ++ x :: (bodies 8 b).drop (k + 1) := by
    conv => lhs; rw [← List.take_append_drop k (bodies 8 b)]
    congr 1
    rw [List.drop_eq_getElem_cons hl]
    congr 1
    exact (List.getElem?_eq_some_iff.mp hk).2
  have bl := g.bl
  refine ⟨?_, fun z hz => ?_, ?_⟩
  · rw [List.append_assoc]
    exact hb _ _ e
  · rcases List.mem_append.mp hz with h | h
    · rcases List.mem_append.mp h with h | h
      · exact g.b8 z (List.mem_of_mem_take h)
      · rw [List.mem_singleton.mp h]; exact hy
    · exact g.b8 z (List.mem_of_mem_drop h)
  · simp only [List.length_append, List.length_take, List.length_drop, List.length_singleton]
    omega
theorem gB.c567 {k : Nat} {x y : List Int} (hk : (bodies 8 b)[k]? = some x) (hy : y = x ++ [0] ∨ y = x.dropLast ∨ y = [9] ++ x.drop 1) : GC ((bodies 8 b).take k ++ [y] ++ (bodies 8 b).drop (k + 1)) := by
  obtain ⟨h1, h2⟩ := g.bs (s := 8) (by decide) x (List.mem_of_getElem? hk)
  rcases hy with e | e | e
  · subst e
    exact g.cAt hk ⟨h1.append (Cs.cons (by decide) Cs.nil), by rw [List.length_append, List.length_singleton]; omega⟩ fun A B e => bad5 e g.nb 0
  · subst e
    exact g.cAt hk ⟨by rw [List.dropLast_eq_take]; exact h1.take _, by rw [List.length_dropLast]; omega⟩ fun A B e => bad6 e g.nb
  · subst e
    exact g.cAt hk ⟨Cs.append (Cs.cons (by decide) Cs.nil) (h1.drop 1), by rw [List.length_append, List.length_singleton, List.length_drop]; omega⟩ fun A B e => bad7 e g.nb
theorem gB.c8 {k : Nat} {y : List Int} (hk : k < (bodies 8 b).length) (hy : y = [] ∨ y = [6, 1]) : GC ((bodies 8 b).take k ++ [y] ++ (bodies 8 b).drop k) := by
  have bl := g.bl
  refine ⟨?_, fun z hz => ?_, ?_⟩
  · rw [List.append_assoc]
    refine bad8 (A := (bodies 8 b).take k) (B := (bodies 8 b).drop k) (List.take_append_drop k _).symm (fun z => ?_) ?_
    · have := congrArg List.length z
      rw [List.length_drop, List.length_nil] at this
      omega
    · rcases hy with e | e <;> (subst e; decide)
  · rcases List.mem_append.mp hz with h | h
    · rcases List.mem_append.mp h with h | h
      · exact g.b8 z (List.mem_of_mem_take h)
      · rw [List.mem_singleton.mp h]
        rcases hy with e | e
        · subst e
          exact ⟨Cs.nil, by decide⟩
        · subst e
          exact ⟨Cs.cons (by decide) (Cs.cons (by decide) Cs.nil), by decide⟩
    · exact g.b8 z (List.mem_of_mem_drop h)
  · simp only [List.length_append, List.length_take, List.length_drop, List.length_singleton]
    omega
def sOf (n : Nat) : Nat := if 7 < n then (if 8 < n then 9 else 7) else 1
omit g in
theorem sOf_b (n : Nat) : 1 ≤ sOf n ∧ sOf n ≤ 9 := by
  unfold sOf
  split
  · split <;> omega
  · omega
theorem gB.c9 (hn : 1 < b.st.length) : GC (bodies (sOf b.st.length) b) := by
  have l1 := g.l1
  obtain ⟨h1, h2⟩ := sOf_b b.st.length
  refine ⟨bad9 g.nb h1 ?_, fun x hx => ?_, ?_⟩
  · unfold sOf
    split
    · split <;> omega
    · omega
  · have := g.bs h2 x hx
    exact ⟨this.1, by omega⟩
  · unfold bodies
    rw [List.length_append, List.length_singleton, recs_num]
    unfold sOf
    split
    · split <;> omega
    · omega
theorem gB.c10 (hn : 1 < b.st.length) : GC ((bodies 8 b).take 1 ++ bodies 8 b) := ⟨bad10 g.nb (by omega), fun x hx => by
  rcases List.mem_append.mp hx with h | h
  · exact g.b8 x (List.mem_of_mem_take h)
  · exact g.b8 x h, by have := g.bl; rw [List.length_append, List.length_take]; omega⟩
omit g in
theorem two_items {x y : Item} (hx : gJ x) (hy : gJ y) : Cs (recB [x, y]) ∧ (recB [x, y]).length ≤ 1200 := by
  refine ⟨fun z hz => ?_, ?_⟩
  · rcases List.mem_cons.mp hz with e | e
    · rw [e]; decide
    · refine item.many.cs [x, y] (fun it hit => ?_) z e
      rcases List.mem_cons.mp hit with h | h
      · rw [h]; exact gJ_ok hx
      · rw [List.mem_singleton.mp h]; exact gJ_ok hy
  · have h1 := recB_len [x, y]
    have h2 : wI x ≤ 60 := gJ_len hx
    have h3 : wI y ≤ 60 := gJ_len hy
    simp only [List.map_cons, List.map_nil, List.sum_cons, List.sum_nil] at h1
    omega
theorem gB.c11 {x y : Item} (hx : gJ x) (hy : gJ y) (h : y.1 ≤ x.1) : GC [recB [x, y], [8] ++ nc b.mark ++ [2, 0, 0]] := by
  refine ⟨bad11 (gJ_ok hx) (gJ_ok hy) h, fun z hz => ?_, by simp⟩
  rcases List.mem_cons.mp hz with e | e
  · rw [e]; exact two_items hx hy
  · rw [List.mem_singleton.mp e]
    have n1 : (nc b.mark).length ≤ 4 := nc4 (by have := g.mk0.2; omega)
    refine ⟨Cs.append (Cs.append (Cs.cons (by decide) Cs.nil) (nc_cs g.mk0.1)) (Cs.cons (by decide) (Cs.cons (by decide) (Cs.cons (by decide) Cs.nil))), ?_⟩
    simp only [List.length_append, List.length_cons, List.length_nil]
    omega
/-- seals of other moves -/
theorem gB.c12 {wt : List (Mov Item)} {gn : List (Mov Int)} (hw : ∀ p ∈ wt, p ∈ b.wt) (hg : ∀ p ∈ gn, p ∈ b.gn) (lw : wt.length ≤ 3) (lg : gn.length ≤ 3) (h : ¬ (wt.Pairwise fun a c => a.1 < c.1) ∨ ¬ (gn.Pairwise fun a c => a.1 < c.1)) : GC (recs 8 b ++ [8 :: sealC.pr (b.mark, ((b.st.length : Int), (wt, gn)))]) := by
  have ok : sealC.ok (b.mark, ((b.st.length : Int), (wt, gn))) := ⟨g.nb.ok.mkp, Int.natCast_nonneg _, fun p hp => g.nb.ok.o2 p (hw p hp), fun p hp => g.nb.ok.o3 p (hg p hp)⟩
  have n8 := g.n8
  refine ⟨bad12 ok h, fun x hx => ?_, by rw [List.length_append, List.length_singleton]; omega⟩
  rcases List.mem_append.mp hx with h | h
  · exact g.b8 x (List.mem_append_left _ h)
  · rw [List.mem_singleton.mp h]
    refine ⟨fun z hz => ?_, ?_⟩
    · rcases List.mem_cons.mp hz with e | e
      · rw [e]; decide
      · exact sealC.cs _ ok z e
    · rw [sealC_pr]
      have n1 : (nc b.mark).length ≤ 4 := nc4 (by have := g.mk0.2; omega)
      have n2 := nc_lenN b.st.length
      have n3 := nc_lenN wt.length
      have n4 := nc_lenN gn.length
      have l1 := g.l1
      have s1 := sum_le (fun p : Mov Item => ((mov item).pr p).length) 220 wt (fun p hp => by
        obtain ⟨⟨h1, h1'⟩, ⟨h2, h2'⟩, ⟨_, h3⟩, h4⟩ := g.wt p (hw p hp)
        rw [mov_pr]
        simp only [List.length_append, flat_len]
        have m1 : (nc p.1).length ≤ 2 := nc2 (by omega)
        have m2 : (nc p.2.1).length ≤ 2 := nc2 (by omega)
        have m3 := nc_lenN p.2.2.length
        have m4 := sum_le (fun it => (item.pr it).length) 60 p.2.2 fun it hit => gJ_len (h4 it hit)
        omega)
      have s2 := sum_le (fun p : Mov Int => ((mov Cd.num).pr p).length) 30 gn (fun p hp => by
        obtain ⟨⟨h1, h1'⟩, ⟨h2, h2'⟩, ⟨_, h3⟩, h4⟩ := g.gn p (hg p hp)
        rw [mov_pr]
        simp only [List.length_append, flat_len]
        have m1 : (nc p.1).length ≤ 2 := nc2 (by omega)
        have m2 : (nc p.2.1).length ≤ 2 := nc2 (by omega)
        have m3 := nc_lenN p.2.2.length
        have m4 := sum_le (fun k => (Cd.num.pr k).length) 4 p.2.2 fun k hk => nc4 (by have := (h4 k hk).2; omega)
        omega)
      rw [many_pr, many_pr]
      simp only [List.length_cons, List.length_append, flat_len]
      omega
end
end NN
set_option Elab.async false
set_option linter.all false
set_option maxRecDepth 100000
set_option maxHeartbeats 4000000
/-! The largest and the smallest key of a dict. -/
namespace NN
open PySem PySem.Spec PyProof.Rows L2 NM
abbrev rMaxKey : List V → Hp → VK → Prop := fun xs H Q => ∃ (a : Addr) (kvs : List (Key × V)) (ks : List Int), xs = [.ref a] ∧ H a = some (.dK kvs) ∧ kvs.map (·.1) = ks.map Sum.inl ∧ 0 < ks.length ∧ ∀ m, m ∈ ks → (∀ j ∈ ks, j ≤ m) → Q (.int m) H
theorem call_maxKey {X : Cx} (hcalm : X.calm = true) : CallR X (.builtin "max") rMaxKey := by
  intro pins s σ H xs us Q I r q
  obtain ⟨a, kvs, ks, rfl, hd, hks, hp, q⟩ := q
  obtain ⟨u, rfl, rx⟩ := vals1 r
  cases rx
  obtain ⟨z, lo, vs, rel, dd⟩ := dk_of I.hok hd
  obtain ⟨ep, hat⟩ := dd.dictAt
  obtain ⟨ob, es, ho, _, _, _, _, _⟩ := id hat
  have hlt : a < s.heap.objs.size := Heap.lt_size ho
  have hkeys : vs.map (·.1) = ks.map Sum.inl := rel.keys.symm.trans hks
  have hl : vs.length = ks.length := by
    have e := congrArg List.length hkeys
    rw [List.length_map, List.length_map] at e
    exact e
  have hval : ∀ (i : Nat) (v : Value), (∃ k x, vs[i]? = some (k, x) ∧ (mixKind X.prog X.w).is k v = true) → ∃ t, v = Value.int (ks.getD i 0) t := fun i v ⟨k, x, e1, e2⟩ => by
    have e3 := congrArg (fun l => l[i]?) hkeys
    simp only [List.getElem?_map, e1] at e3
    cases e4 : ks[i]? with
    | none => rw [e4] at e3; cases e3
    | some y =>
      rw [e4] at e3
      have e5 : k = Sum.inl y := Option.some.inj e3
      subst e5
      obtain ⟨t, e6⟩ := Value.isInt_shape (k := y) (v := v) e2
      exact ⟨t, by rw [e6, List.getD_eq_getElem?_getD, e4]; rfl⟩
  refine call_max_walk (wpAny_pyIter_dict (knd := mixKind X.prog X.w) lo hat ?_)
  refine ⟨_, _, _, _, _, _, _, rfl, Walks.dictKeys (knd := mixKind X.prog X.w) (A := X.A.in1) (I.ok.hd hcalm) s.heap.objs.size a (Nat.ne_of_lt hlt) vs ep,
    ⟨⟨_, Heap.get?_push_size _ rfl, rfl, rfl⟩, hat.keep fun b u e => Heap.get?_push_of_some _ e⟩, fun b hb => ?_, by omega, CmpOf.ints_gt (fun i => ks.getD i 0) hval, fun v h' tk hP hk => ?_⟩
  · show b < (s.heap.push _).objs.size
    rw [Heap.size_push]
    rcases List.mem_cons.mp hb with e | e
    · exact Nat.lt_succ_of_le (Nat.le_of_eq e)
    · exact Nat.lt_succ_of_lt (Nat.lt_of_le_of_lt (Nat.le_of_eq (List.mem_singleton.mp e)) hlt)
  · obtain ⟨t, rfl⟩ := hval _ v hP
    have big := argBest_gt (fun i => ks.getD i 0) (vs.length - 1)
    refine ⟨.int _, H, I.kept (t' := tk) fun b u e => hk b u (fun hm => absurd (Heap.lt_size e) ?_) (Heap.get?_push_of_some _ e), ⟨t, rfl⟩, q _ (getD_mem 0 (by have := big.1; omega)) fun j hj => ?_⟩
    · rw [List.mem_singleton.mp hm]
      exact Nat.lt_irrefl _
    · obtain ⟨i, hi⟩ := List.mem_iff_getElem?.mp hj
      have hil := (List.getElem?_eq_some_iff.mp hi).1
      have := big.2 i (by omega)
      simp only [List.getD_eq_getElem?_getD, hi] at this ⊢
      exact this
section
variable {ρ : Rl} {F H0 H H' : Hp} {σ : L2.St} {Γ : List Ty} {ta : TE}
theorem es_max {l : List (Int × PyData)} (h1 : EvD ρ F ta Γ (.dict (dK l))) (hp : 0 < l.length) : EvS ρ F (tCB rMaxKey (tCons ta tNil)) Γ (fun d => ∃ m, d = .int m ∧ m ∈ l.map (·.1) ∧ ∀ j ∈ l.map (·.1), j ≤ m) := fun H0 σ H I Q q =>
  h1 H0 σ H I _ fun x xd H1 e1 I1 m1 t1 => by
    subst e1
    obtain ⟨p, ks, rfl, hF, hk⟩ := t1.of_dct
    exact ⟨p, ks, l.map (·.1), rfl, (I1.fr p _ hF).1, hk.keys, by rw [List.length_map]; exact hp, fun m h1 h2 => q _ _ H1 ⟨m, rfl, h1, h2⟩ I1 m1 (.int m)⟩
theorem es_min {l : List (Int × PyData)} (h1 : EvD ρ F ta Γ (.dict (dK l))) (hp : 0 < l.length) : EvS ρ F (tCB rMinK (tCons ta tNil)) Γ (fun d => ∃ m, d = .int m ∧ m ∈ l.map (·.1) ∧ ∀ j ∈ l.map (·.1), m ≤ j) := fun H0 σ H I Q q =>
  h1 H0 σ H I _ fun x xd H1 e1 I1 m1 t1 => by
    subst e1
    obtain ⟨p, ks, rfl, hF, hk⟩ := t1.of_dct
    exact ⟨p, ks, l.map (·.1), rfl, (I1.fr p _ hF).1, hk.keys, (fun z => by have := congrArg List.length z; rw [List.length_map, List.length_nil] at this; omega), fun m h1 h2 => q _ _ H1 ⟨m, rfl, h1, h2⟩ I1 m1 (.int m)⟩
/-- d[k], k of a kind -/
theorem es_dget {tb : TE} {l : List (Int × PyData)} {p : Int → Prop} {P : PyData → Prop} (h1 : EvD ρ F ta Γ (.dict (dK l))) (h2 : EvS ρ F tb Γ (fun d => ∃ m, d = .int m ∧ p m)) (f : ∀ k, p k → ∃ d, atK l k = some d ∧ P d) : EvS ρ F (tDGet ta tb) Γ P := fun H0 σ H I Q q =>
  h1 H0 σ H I _ fun x xd H1 e1 I1 m1 t1 => h2 H0 σ H1 I1 _ fun y yd H2 e2 I2 m2 t2 => by
    subst e1
    obtain ⟨k, rfl, pk⟩ := e2
    cases t2
    obtain ⟨d, e, pd⟩ := f k pk
    obtain ⟨p, ks, rfl, hF, hk⟩ := (t1.tu (m2.tu I1.inv)).of_dct
    obtain ⟨v, v1, v2⟩ := hk.at e
    exact ⟨p, v, rfl, .inl ⟨ks, Sum.inl k, .inl (I2.fr p _ hF).1, rfl, v1.symm⟩, q v d H2 pd I2 (m1.trans m2) v2⟩
end
end NN
set_option Elab.async false
set_option linter.all false
set_option maxRecDepth 100000
set_option maxHeartbeats 4000000
namespace NN
open PySem PySem.Spec PyProof.Rows L2 NM
local macro_rules | `(tactic| walk_at "ev") => `(tactic| ((fail_if_success (first | with_reducible apply gd1 | with_reducible apply gd2 | with_reducible apply gd3 | with_reducible apply gd4 | with_reducible apply gd5)); first
  | with_reducible exact ed_int | with_reducible exact ed_str | with_reducible exact ed_bl | with_reducible exact ed_non
  | ((with_reducible apply ed_var); rfl) | ((with_reducible apply er_var); rfl)
  | with_reducible exact ea_nil | ((with_reducible apply ea_cons) <;> walk_at "ev")
  | with_reducible exact od_int | with_reducible exact od_bool | exact od_intC (by decide) | exact od_intC ⟨by decide, by decide⟩ | exact od_intC (.inl ⟨by decide, by decide⟩) | with_reducible exact ud_int | with_reducible exact od_eqI | with_reducible exact od_neI | with_reducible exact od_strLt | with_reducible exact od_ip
  | ((with_reducible apply ed_op) <;> walk_at "ev")
  | ((with_reducible apply ed_un) <;> walk_at "ev")
  | ((with_reducible apply ed_tup') <;> walk_at "ev")
  | ((with_reducible apply el_lst') <;> walk_at "ev")
  | ((with_reducible apply ebd_test) <;> walk_at "ev")
  | ((with_reducible apply ebd_val) <;> walk_at "ev")
  | ((with_reducible refine ed_lenT ?_) <;> walk_at "ev")
  | ((with_reducible apply ed_lenR) <;> walk_at "ev")
  | ((with_reducible apply ed_tupleR) <;> walk_at "ev")
  | ((with_reducible apply EvL.rd) <;> walk_at "ev")
  | with_reducible exact eo_none
  | ((with_reducible apply eo_some) <;> walk_at "ev")
  | ((with_reducible apply ed_slT) <;> walk_at "ev")
  | ((with_reducible apply ebd_not) <;> walk_at "ev")
  | ((with_reducible apply ei_tup) <;> walk_at "ev")
  | rfl
  | skip))
section
variable {P : Program} {w : World} {K : PySem.W.Frag} {mg : Str → Option Value} {base : Heap}
section
variable {ρ : Rl} {F F' H0 H H' H1 H2 : Hp} {σ : L2.St} {Γ : List Ty} {te ta tb : TE} {tr : TA} {tt : TT} {D : Ends} {u ts : TS} {d a b : PyData} {E : XK}
/-- x, y = something of a kind, known data -/
theorem sq_parS {i j : Nat} {P : PyData → Prop} (I : SS ρ H0 F σ H Γ) (h : EvS ρ F ta Γ P) (hb : EvD ρ F tb Γ d) (k : ∀ y σ' H', P y → SS ρ H0 F σ' H' ((Γ.set i (.dat y)).set j (.dat d)) → u D σ' H') : tSeq (tPar i j (tCons ta (tCons tb tNil))) u D σ H :=
  h H0 σ H I _ fun v y H1 py I1 m1 t1 => hb H0 σ H1 I1 _ fun v2 d2 H2 pd2 I2 m2 t2 => by
    subst pd2
    exact ⟨_, _, rfl, k y _ H2 py ((I2.setD i (t1.tu (m2.tu I1.inv))).setD j t2)⟩
/-- both of a kind -/
theorem sq_parSS {i j : Nat} {P P' : PyData → Prop} (I : SS ρ H0 F σ H Γ) (h : EvS ρ F ta Γ P) (hb : EvS ρ F tb Γ P') (k : ∀ y z σ' H', P y → P' z → SS ρ H0 F σ' H' ((Γ.set i (.dat y)).set j (.dat z)) → u D σ' H') : tSeq (tPar i j (tCons ta (tCons tb tNil))) u D σ H :=
  h H0 σ H I _ fun v y H1 py I1 m1 t1 => hb H0 σ H1 I1 _ fun v2 z H2 pz I2 m2 t2 =>
    ⟨_, _, rfl, k y z _ H2 py pz ((I2.setD i (t1.tu (m2.tu I1.inv))).setD j t2)⟩
theorem sq_appendN {i : Nat} {ds : List PyData} (I : SS ρ H0 F σ H Γ) (hi : Γ[i]? = some (.lst ds)) (h : EvN ρ F te Γ (· = d)) (hz : ds.length < sizeLine) (k : ∀ F' H', Same F F' → SS ρ H0 F' σ H' (Γ.set i (.lst (ds ++ [d]))) → u D σ H') : tSeq (tDrop (tBM K "list" rAppend (tVar i) (tCons te tNil))) u D σ H := st_appendN (D := { D with nx := u D }) I hi h hz k
/-- an if with one way on -/
theorem sq_ifJ {p : Bool → Prop} (J : L2.St → Hp → Prop) (I : SS ρ H0 F σ H Γ) (h : EvB ρ F tt Γ p) (k : ∀ σ' H', J σ' H' → u D σ' H') (h1 : (∀ σ' H', J σ' H' → u D σ' H') → p true → ∀ H', SS ρ H0 F σ H' Γ → ts { D with nx := u D } σ H') (h2 : p false → ∀ H', SS ρ H0 F σ H' Γ → J σ H') : tSeq (tIfS tt ts tNext) u D σ H :=
  sq_ifr I h (fun e H' I' _ => h1 k e H' I') (fun e H' I' _ => k _ _ (h2 e H' I'))
theorem td_ints {F F' H : Hp} {v : V} {ns : List Int} (h : TD F H v (dI ns)) : TD F' H v (dI ns) := by
  obtain ⟨a, xs, rfl, h1, h2⟩ := h.of_tup
  have e := h2.of_ints
  subst e
  exact .tup h1 (TDs.ints ns)
/-- a call with a new first thing -/
theorem ed_callPN {C : List PyData → PyData → Prop} {xs : List Int} (h : EvN ρ F ta Γ (· = a)) (hb : EvD ρ F tb Γ b) (c : C [a, b] (dI xs)) : EvD ρ F (tCall (spP C) [] E (tCons ta (tCons tb tNil))) Γ (dI xs) := fun H0 σ H I Q q =>
  h H0 σ H I _ fun v d H1 e1 I1 m1 t1 => hb H0 σ H1 I1 _ fun v2 d2 H2 e2 I2 m2 t2 => by
    subst e1; subst e2
    have IA := (I.frzA I1).on I2.inv m2
    show spP C ([v, v2] ++ []) H2 Q E
    exact ⟨fz F H H1, [d, d2], dI xs, IA.sf, .cons (t1.tu (m2.tu I1.inv)) (.cons (t2.mono (fz_same I.sf) (Tu.refl H2)) .nil), c, fun v' H' s t => q v' _ H' rfl (I2.same s) ((m1.trans m2).trans (Mv.of s)) (td_ints t)⟩
/-- xs = xs + [new] * 2 -/
theorem sq_setTwice {i : Nat} {ds : List PyData} (I : SS ρ H0 F σ H Γ) (hi : Γ[i]? = some (.lst ds)) (h : EvN ρ F te Γ (· = d)) (hz : ds.length ≤ 1000) (k : ∀ F' σ' H', Same F F' → SS ρ H0 F' σ' H' (Γ.set i (.lst (ds ++ [d, d]))) → u D σ' H') : tSeq (tAsg (tOp rCat (tVar i) (tOp rRep (tLst (tCons te tNil)) (tC (.int 2)))) (gName i)) u D σ H := by
  obtain ⟨l, vs, e, h1, h2⟩ := I.lst hi
  have no := (I.fresh i _ l hi rfl e).2.1
  refine ⟨.ref l, e, h H0 σ H I _ fun v dd H1 pd I1 m1 t1 => ?_⟩
  subst pd
  have IA := I.frzA I1
  have hl1 : H1 l = some (.lst vs) := m1 l _ no h1
  refine ⟨(show 1 ≤ 16777216 by decide), fun p hp => ⟨p, 2, [v], rfl, rfl, upd_same, by decide, by decide, (show 2 ≤ 16777216 by decide), fun p2 hp2 => ?_⟩⟩
  have IB := IA.new (o := .lst [v]) hp
  have IC := IB.new (o := .lst (List.replicate (2 : Int).toNat [v]).flatten) hp2
  have hl2 : upd (upd H1 p (.lst [v])) p2 (.lst (List.replicate (2 : Int).toNat [v]).flatten) l = some (.lst vs) := IB.on IC.inv (Mv.of (same_new hp2)) |>.inv |> fun _ => by
    have a1 : upd H1 p (.lst [v]) l = some (.lst vs) := by rw [upd_ne (ne_of_none hl1 hp)]; exact hl1
    rw [upd_ne (ne_of_none a1 hp2)]
    exact a1
  have lv := h2.len
  refine ⟨l, p2, vs, [v, v], rfl, rfl, hl2, upd_same, (by show vs.length + 2 ≤ 16777216; omega), fun p3 hp3 => ?_⟩
  have ID := IC.new (o := .lst (vs ++ [v, v])) hp3
  have T3 : Tu H1 (upd (upd (upd H1 p (.lst [v])) p2 (.lst (List.replicate (2 : Int).toNat [v]).flatten)) p3 (.lst (vs ++ [v, v]))) := ((Tu.of (same_new hp)).trans (Tu.of (same_new hp2))).trans (Tu.of (same_new hp3))
  have t1' := t1.tu T3
  exact k _ _ _ (fz_same I.sf) (IC.setN (t := .lst (ds ++ [dd, dd])) ID i hp3 ⟨p3, _, rfl, upd_same, (h2.mono (fz_same I.sf) ((m1.tu I.inv).trans T3)).append (.cons t1' (.cons t1' .nil))⟩)
/-- pick(heap, a slot's list) -/
theorem es_pickV {hp l0 : Addr} {i j : Nat} (h : HIn ρ hp l0) (hi : Γ[i]? = some (.val (.ref hp))) {ds : List PyData} (hj : Γ[j]? = some (.lst ds)) (h0 : 0 < ds.length) (h1 : ds.length < 10000) : EvS ρ F (tCall spPick [] E (tCons (tVar i) (tCons (tVar j) tNil))) Γ (· ∈ ds) := fun H0 σ H I Q q => by
  obtain ⟨l, ws, e, hl, td⟩ := I.lst hj
  have no := (I.fresh j _ l hj rfl e).2.1
  refine ⟨_, I.val hi, _, e, ?_⟩
  show spPick [.ref hp, .ref l] H Q E
  exact ⟨F, hp, l0, l, ws, ds, rfl, fun z => no (z ▸ h.o1), fun z => no (z ▸ h.o2), h.inv _ I.inv, hl, td, h0, h1, fun v d H' hd t iv mv => q v d H' hd (I.on (h.back _ _ I.inv mv iv) (h.mv mv)) (h.mv mv) t⟩
theorem ed_ixV {j : Nat} {ds : List PyData} {i : Int} (hj : Γ[j]? = some (.lst ds)) (hb : EvD ρ F tb Γ (.int i)) (e : atI ds i = some d) : EvD ρ F (tOp (rIxL K) (tVar j) tb) Γ d := es_ixR (PA := (· = ds)) (Pb := (· = .int i)) (er_var hj) hb fun _ _ e1 e2 => by subst e1; exact ⟨i, d, e2, e, rfl⟩
end
end
end NN
set_option Elab.async false
set_option linter.all false
set_option maxRecDepth 100000
set_option maxHeartbeats 4000000
namespace NN
open PySem PySem.Spec PyProof.Rows L2 NM
local macro_rules | `(tactic| walk_at "ev") => `(tactic| ((fail_if_success (first | with_reducible apply gd1 | with_reducible apply gd2 | with_reducible apply gd3 | with_reducible apply gd4 | with_reducible apply gd5)); first
  | with_reducible exact ed_int | with_reducible exact ed_str | with_reducible exact ed_bl | with_reducible exact ed_non
  | ((with_reducible apply ed_var); rfl) | ((with_reducible apply er_var); rfl)
  | with_reducible exact ea_nil | ((with_reducible apply ea_cons) <;> walk_at "ev")
  | with_reducible exact od_int | with_reducible exact od_bool | exact od_intC (by decide) | exact od_intC ⟨by decide, by decide⟩ | exact od_intC (.inl ⟨by decide, by decide⟩) | with_reducible exact ud_int | with_reducible exact od_eqI | with_reducible exact od_neI | with_reducible exact od_strLt | with_reducible exact od_ip
  | ((with_reducible apply ed_op) <;> walk_at "ev")
  | ((with_reducible apply ed_un) <;> walk_at "ev")
  | ((with_reducible apply ed_tup') <;> walk_at "ev")
  | ((with_reducible apply el_lst') <;> walk_at "ev")
  | ((with_reducible apply ebd_test) <;> walk_at "ev")
  | ((with_reducible apply ebd_val) <;> walk_at "ev")
  | ((with_reducible refine ed_lenT ?_) <;> walk_at "ev")
  | ((with_reducible apply ed_lenR) <;> walk_at "ev")
  | ((with_reducible apply ed_tupleR) <;> walk_at "ev")
  | ((with_reducible apply EvL.rd) <;> walk_at "ev")
  | with_reducible exact eo_none
  | ((with_reducible apply eo_some) <;> walk_at "ev")
  | ((with_reducible apply ed_slT) <;> walk_at "ev")
  | ((with_reducible apply ebd_not) <;> walk_at "ev")
  | ((with_reducible apply ei_tup) <;> walk_at "ev")
  | rfl
  | skip))
section
variable {P : Program} {w : World} {K : PySem.W.Frag} {mg : Str → Option Value} {base : Heap}
theorem cutD_tail {α : Type} (xs : List α) : cutD xs (some 1) none = xs.drop 1 := by
  cases xs with
  | nil => rfl
  | cons x r => exact cutD_from (lo := 1) rfl (by rw [List.length_cons]; omega)
theorem Same.trans' {A B C : Hp} (h : Same A B) (k : Same B C) : Same A C := fun a o e => k a o (h a o e)
theorem EvN.is {ρ : Rl} {F : Hp} {Γ : List Ty} {t : TE} {a b : PyData} (h : EvN ρ F t Γ (· = a)) (e : a = b) : EvN ρ F t Γ (· = b) := e ▸ h
abbrev dL (c : List (List Int)) : PyData := .list (c.map dI)
/-- so many candidates at most -/
def CS (m : Nat) (cs : List (List (List Int))) : Prop := (∀ c ∈ cs, GC c) ∧ 0 < cs.length ∧ cs.length ≤ m
theorem CS.snoc {m : Nat} {cs : List (List (List Int))} {c : List (List Int)} (h : CS m cs) (g : GC c) : CS (m + 1) (cs ++ [c]) := ⟨fun x hx => (List.mem_append.mp hx).elim (h.1 x) fun z => by rw [List.mem_singleton.mp z]; exact g, by rw [List.length_append]; have := h.2.1; omega, by rw [List.length_append, List.length_singleton]; have := h.2.2; omega⟩
theorem CS.mono {m n : Nat} {cs : List (List (List Int))} (h : CS m cs) (hm : m ≤ n) : CS n cs := ⟨h.1, h.2.1, Nat.le_trans h.2.2 hm⟩
section
variable {ρ : Rl} {F H0 H : Hp} {σ : L2.St} {Γ : List Ty} {te : TE} {D : Ends} {u : TS}
theorem st_appC {i m : Nat} {cs : List (List (List Int))} {c : List (List Int)} (I : SS ρ H0 F σ H Γ) (hi : Γ[i]? = some (.lst (cs.map dL))) (h : EvN ρ F te Γ (· = dL c)) (g : GC c) (hc : CS m cs) (hm : m ≤ 100) (k : ∀ F' H' cs', Same F F' → CS (m + 1) cs' → SS ρ H0 F' σ H' (Γ.set i (.lst (cs'.map dL))) → D.nx σ H') : tDrop (tBM K "list" rAppend (tVar i) (tCons te tNil)) D σ H :=
  st_appendN I hi h (sz' (by rw [List.length_map]; have := hc.2.2; omega)) fun F' H' sF I => k F' H' (cs ++ [c]) sF (hc.snoc g) (by rw [List.map_append]; exact I)
theorem sq_appC {i m : Nat} {cs : List (List (List Int))} {c : List (List Int)} (I : SS ρ H0 F σ H Γ) (hi : Γ[i]? = some (.lst (cs.map dL))) (h : EvN ρ F te Γ (· = dL c)) (g : GC c) (hc : CS m cs) (hm : m ≤ 100) (k : ∀ F' H' cs', Same F F' → CS (m + 1) cs' → SS ρ H0 F' σ H' (Γ.set i (.lst (cs'.map dL))) → u D σ H') : tSeq (tDrop (tBM K "list" rAppend (tVar i) (tCons te tNil))) u D σ H := st_appC (D := { D with nx := u D }) I hi h g hc hm k
end
theorem gB.wl {b : Bk} (g : gB b) {p : Mov Item} (hp : p ∈ b.wt) : ((mov item).pr p).length ≤ 220 := by
  obtain ⟨⟨h1, h1'⟩, ⟨h2, h2'⟩, ⟨_, h3⟩, h4⟩ := g.wt p hp
  rw [mov_pr]
  simp only [List.length_append, flat_len]
  have m1 : (nc p.1).length ≤ 2 := nc2 (by omega)
  have m2 : (nc p.2.1).length ≤ 2 := nc2 (by omega)
  have m3 := nc_lenN p.2.2.length
  have m4 := sum_le (fun it => (item.pr it).length) 60 p.2.2 fun it hit => gJ_len (h4 it hit)
  omega
theorem gB.gl {b : Bk} (g : gB b) {p : Mov Int} (hp : p ∈ b.gn) : ((mov Cd.num).pr p).length ≤ 30 := by
  obtain ⟨⟨h1, h1'⟩, ⟨h2, h2'⟩, ⟨_, h3⟩, h4⟩ := g.gn p hp
  rw [mov_pr]
  simp only [List.length_append, flat_len]
  have m1 : (nc p.1).length ≤ 2 := nc2 (by omega)
  have m2 : (nc p.2.1).length ≤ 2 := nc2 (by omega)
  have m3 := nc_lenN p.2.2.length
  have m4 := sum_le (fun k => (Cd.num.pr k).length) 4 p.2.2 fun k hk => nc4 (by have := (h4 k hk).2; omega)
  omega
theorem gB.mvl {b : Bk} (g : gB b) : (movd item b.wt).length ≤ 1000 ∧ (movd Cd.num b.gn).length ≤ 1000 := by
  have h := g.seal_len
  have e : (sealB b).length = 1 + ((nc b.mark).length + ((nc (b.st.length : Int)).length + ((movd item b.wt).length + (movd Cd.num b.gn).length))) := by
    show (8 :: (nc b.mark ++ (nc _ ++ (movd item b.wt ++ movd Cd.num b.gn)))).length = _
    simp only [List.length_cons, List.length_append]
    omega
  omega
section
variable {ρ : Rl} {F H0 H : Hp} {σ : L2.St} {Γ : List Ty} {te ta tb : TE} {tr : TA} {D : Ends} {u : TS} {d : PyData}
theorem st_setTwice {i : Nat} {ds : List PyData} (I : SS ρ H0 F σ H Γ) (hi : Γ[i]? = some (.lst ds)) (h : EvN ρ F te Γ (· = d)) (hz : ds.length ≤ 1000) (k : ∀ F' σ' H', Same F F' → SS ρ H0 F' σ' H' (Γ.set i (.lst (ds ++ [d, d]))) → D.nx σ' H') : tAsg (tOp rCat (tVar i) (tOp rRep (tLst (tCons te tNil)) (tC (.int 2)))) (gName i) D σ H := sq_setTwice (u := fun D => D.nx) (D := D) I hi h hz k
/-- x, y = two of a kind -/
theorem srt1 {α : Type} (p : Int × α) : srt [p] = [p] := by unfold srt; simp
theorem movd1 {α : Type} (c : Cd α) (p : Mov α) : (movd c [p]).drop 1 = (mov c).pr p := by
  rw [movd_eq, srt1]
  show (nc (1 : Int) ++ _).drop 1 = _
  rw [nc_small (by decide)]
  simp
theorem movd1_len {α : Type} (c : Cd α) (p : Mov α) : (movd c [p]).length = 1 + ((mov c).pr p).length := by
  rw [movd_eq, srt1]
  show (nc (1 : Int) ++ _).length = _
  rw [nc_small (by decide)]
  simp
  omega
/-- [moved(only(d, move), flag)[1:] for move in sorted(list(d))] -/
theorem el_parts {α : Type} {c : Cd α} {toD : α → PyData} {flag : Bool} {small : α → Prop} {a j : Nat} {t : List (Mov α)} (h2 : Γ[a]? = some (.dat (.dict (dK (dMv toD t))))) (hj : Γ[j]? = some .no) (hne : j ≠ a) (nd : (t.map (·.1)).Nodup) (ok : ∀ p ∈ t, ((mov c).ok p ∧ ∀ y ∈ p.2.2, small y) ∧ ((mov c).pr p).length ≤ 1000) (lt : t.length ≤ 1000) :
    EvL ρ F (tLc (iList K (tCB (rSortedI K) (tCons (tCB rListD (tCons (tVar a) tNil)) tNil))) (gName j) tYes (tSl (rSlA K) (tCall (spP (cLM c toD flag small)) [] E0 (tCons (tCall (spN cON) [] E0 (tCons (tVar a) (tCons (tVar j) tNil))) (tCons (tC (.bl flag)) tNil))) (tPart (tC (.int 1))) tNoPart) [j]) Γ (· = (srt t).map fun p => dI ((mov c).pr p)) := by
  have es : ((srt (dMv toD t)).map fun p => PyData.int p.1) = (srt t).map fun p => PyData.int p.1 := by
    have e2 : srt (dMv toD t) = (srt t).map fun p => (p.1, .tuple [.int p.2.1, .tuple (p.2.2.map toD)]) := srt_map (fun q : Int × List α => PyData.tuple [.int q.1, .tuple (q.2.map toD)]) t
    rw [e2, List.map_map]
    rfl
  have nd2 : ((dMv toD t).map (·.1)).Nodup := by
    rw [List.map_map]
    exact nd
  have ls : (srt t).length = t.length := srt_len t
  refine EvL.is (el_lc (n := ((srt t).map fun p => PyData.int p.1).length) (f := nth ((srt t).map fun p => PyData.int p.1)) (h := fun i => dI ((mov c).pr ((srt t).getD i (0, (0, []))))) (ei_listR (EvL.is (el_sortedLD (l := dMv toD t) (ed_var h2)) es)) (one_no hj) (fun i hi => ⟨_, bw_name, ?_⟩) (sz (by rw [List.length_map]; omega))) ?_
  · rw [List.length_map] at hi
    have hg : (srt t)[i]? = some ((srt t).getD i (0, (0, []))) := by rw [List.getD_eq_getElem?_getD, List.getElem?_eq_getElem hi]; rfl
    have hm := mem_srt.mp (List.mem_of_getElem? hg)
    generalize (srt t).getD i (0, (0, [])) = p at hg hm
    rw [nth_map (fun p : Mov α => PyData.int p.1) hg]
    obtain ⟨⟨o1, o2⟩, o3⟩ := ok p hm
    have hp2 : (p.1, PyData.tuple [.int p.2.1, .tuple (p.2.2.map toD)]) ∈ dMv toD t := List.mem_map_of_mem (f := fun p : Int × (Int × List α) => (p.1, PyData.tuple [.int p.2.1, .tuple (p.2.2.map toD)])) hm
    have va : (Γ.set j (.dat (.int p.1)))[a]? = some (.dat (.dict (dK (dMv toD t)))) := by rw [List.getElem?_set_ne hne]; exact h2
    have vj : (Γ.set j (.dat (.int p.1)))[j]? = some (.dat (.int p.1)) := by rw [List.getElem?_set_self (List.getElem?_eq_some_iff.mp hj).1]
    refine EvS.is (ed_slT (ds := (movd c [p]).map PyData.int) (ed_callPN (a := .dict (dK (dMv toD [p]))) (b := .bool flag) (en_callN (ea_cons (ed_var va) (ea_cons (ed_var vj) ea_nil)) ⟨dMv toD t, p.1, _, rfl, atK_of nd2 hp2, rfl⟩) ed_bl ⟨[p], rfl, by simp, fun q hq => by rw [List.mem_singleton.mp hq]; exact ⟨o1, o2⟩, by rw [movd1_len]; omega, rfl⟩) (eo_some ed_int) eo_none) ?_
    rw [cutD_map, cutD_tail, movd1]
  · rw [List.length_map]
    exact range_getD (srt t) (0, (0, [])) (fun p : Mov α => dI ((mov c).pr p))
end
end
end NN
set_option Elab.async false
set_option linter.all false
set_option maxRecDepth 100000
set_option maxHeartbeats 4000000
namespace NN
open PySem PySem.Spec PyProof.Rows L2 NM
local macro_rules | `(tactic| walk_at "ev") => `(tactic| ((fail_if_success (first | with_reducible apply gd1 | with_reducible apply gd2 | with_reducible apply gd3 | with_reducible apply gd4 | with_reducible apply gd5)); first
  | with_reducible exact ed_int | with_reducible exact ed_str | with_reducible exact ed_bl | with_reducible exact ed_non
  | ((with_reducible apply ed_var); rfl) | ((with_reducible apply er_var); rfl)
  | with_reducible exact ea_nil | ((with_reducible apply ea_cons) <;> walk_at "ev")
  | with_reducible exact od_int | with_reducible exact od_bool | exact od_intC (by decide) | exact od_intC ⟨by decide, by decide⟩ | exact od_intC (.inl ⟨by decide, by decide⟩) | with_reducible exact ud_int | with_reducible exact od_eqI | with_reducible exact od_neI | with_reducible exact od_strLt | with_reducible exact od_ip
  | ((with_reducible apply ed_op) <;> walk_at "ev")
  | ((with_reducible apply ed_un) <;> walk_at "ev")
  | ((with_reducible apply ed_tup') <;> walk_at "ev")
  | ((with_reducible apply el_lst') <;> walk_at "ev")
  | ((with_reducible apply ebd_test) <;> walk_at "ev")
  | ((with_reducible apply ebd_val) <;> walk_at "ev")
  | ((with_reducible refine ed_lenT ?_) <;> walk_at "ev")
  | ((with_reducible apply ed_lenR) <;> walk_at "ev")
  | ((with_reducible apply ed_tupleR) <;> walk_at "ev")
  | ((with_reducible apply EvL.rd) <;> walk_at "ev")
  | with_reducible exact eo_none
  | ((with_reducible apply eo_some) <;> walk_at "ev")
  | ((with_reducible apply ed_slT) <;> walk_at "ev")
  | ((with_reducible apply ebd_not) <;> walk_at "ev")
  | ((with_reducible apply ei_tup) <;> walk_at "ev")
  | rfl
  | skip))
section
variable {P : Program} {w : World} {K : PySem.W.Frag} {mg : Str → Option Value} {base : Heap}
def spWrong : Sp := fun vs H Q _ => ∃ (F : Hp) (hp l0 : Addr) (b : Bk) (v1 v2 v3 v5 : V), vs = [.ref hp, v1, v2, v3, .int b.mark, v5] ∧ gB b ∧ inD hp l0 H ∧ Same F H ∧ (∀ a o, F a = some o → ¬ (rD hp l0).own a) ∧ TD F H v1 (.dict (dK (dSt b.st))) ∧ TD F H v2 (.dict (dK (dWt b.wt))) ∧ TD F H v3 (.dict (dK (dGn b.gn))) ∧ TD F H v5 (dL (bodies 8 b)) ∧
  ∀ v X H', rdSnap X = none → Cs X → X.length ≤ 30000 → TD N0 H' v (dI X) → inD hp l0 H' → Mv (rD hp l0) H H' → Q v H'
/-! _law_wrong -/
abbrev s56 : Stmt := topS 56
theorem sc56 : FnScope ["_law_heap_here", "_law_state", "_law_waiting", "_law_gone", "_law_mark", "_law_bodies_here", "_law_at", "_law_seal", "_law_some", "_law_body", "_law_first", "_law_last", "_law_turned", "_law_front", "_law_parts", "_law_move", "_law_part"] ["_law_heap_here", "_law_state", "_law_waiting", "_law_gone", "_law_mark", "_law_bodies_here"] (defScope s56) := ⟨rfl, rfl, rfl, by decide +kernel, rfl, by decide +kernel, by decide +kernel⟩
theorem g56 (D : Df K mg "_law_wrong" s56 ["_law_heap_here", "_law_state", "_law_waiting", "_law_gone", "_law_mark", "_law_bodies_here"]) (N : Nm mg) (g_d : Gf P w K mg base 1 "_law_draw" ["_law_heap_here", "_law_many"] spDraw) (g_p : Gf P w K mg base 2 "_law_pick" ["_law_heap_here", "_law_some"] spPick)
    (g_n : Gf P w K mg base 1 "_law_number_cells" ["_law_number"] (spP cNC)) (g_i : Gf P w K mg base 2 "_law_item_cells" ["_law_item_here"] (spP cLI)) (g_o : Gf P w K mg base 1 "_law_only" ["_law_table", "_law_move"] (spN cON))
    (g_m1 : Gf P w K mg base 3 "_law_moved" ["_law_table", "_law_items"] (spP cLM1)) (g_m2 : Gf P w K mg base 3 "_law_moved" ["_law_table", "_law_items"] (spP cLM2)) (g_b : Gf P w K mg base 4 "_law_bodies" ["_law_state", "_law_waiting", "_law_gone", "_law_mark", "_law_size"] (spL cLB)) (g_j : Gf P w K mg base 3 "_law_joined" ["_law_bodies_here"] (spP cLJ)) :
    Gf P w K mg base 5 "_law_wrong" ["_law_heap_here", "_law_state", "_law_waiting", "_law_gone", "_law_mark", "_law_bodies_here"] spWrong := by
  refine fn_gen D sc56 (fun vs H Q E ⟨F, hp, l0, b, v1, v2, v3, v5, e, _⟩ => by subst e; rfl) fun cdv A outer s f H vs Q E hr c0 => ?_
  obtain ⟨F, hp, l0, b, v1, v2, v3, v5, rfl, g, iv, f0, fo, t1, t2, t3, t5, q⟩ := c0
  refine ⟨_, (pss_cons (ps_par (i := 6) (j := 7) rfl sc56.nd rfl rfl (by decide) rfl rfl (pa_cons (pe_g g_d (hr.mono (by decide)) (pa_cons (pv 0) (pa_cons (pe_callB call_len_seq (by rfl) N.len PySem.boot_len (pa_cons (pv 5) pa_nil)) pa_nil))) (pa_cons (pe_ix ix_list (pv 5) (pe_un un_neg pe_int) (fun _ _ => rfl)) pa_nil)) (by rfl))
    (pss_cons (ps_set (i := 8) sc56.nd rfl (.inl rfl) (pe_lst (pa_cons (pe_slice sl_list (pv 5) po_none (po_some (pe_un un_neg pe_int))) (pa_cons (pe_op op_cat (pv 5) (pe_lst (pa_cons (pv 7) pa_nil))) (pa_cons (pe_op op_cat (pe_lst (pa_cons (pv 7) pa_nil)) (pv 5)) (pa_cons (pe_op op_cat (pe_lst (pa_cons (pe_tup (pa_cons pe_int (pa_cons pe_int pa_nil))) pa_nil)) (pv 5)) pa_nil))))))
    (pss_cons (ps_for PassesOwn.never rfl (pi_list (pe_lst (pa_cons (pe_op op_catA (pe_ix ix_list (pv 5) (pv 6) (fun _ _ => rfl)) (pe_tup (pa_cons pe_int pa_nil))) (pa_cons (pe_slice sl_tupA (pe_ix ix_list (pv 5) (pv 6) (fun _ _ => rfl)) po_none (po_some (pe_un un_neg pe_int))) (pa_cons (pe_op op_catA (pe_tup (pa_cons pe_int pa_nil)) (pe_slice sl_tupA (pe_ix ix_list (pv 5) (pv 6) (fun _ _ => rfl)) (po_some pe_int) po_none)) pa_nil))))) (pg_name (i := 9) sc56.nd rfl (.inl rfl))
    (pss_one (ps_expr (pe_bm PySem.F.plainAttrs_list PySem.F.slot_list_append PySem.F.type_list_append mt_append (pv 8) (pa_cons (pe_op op_cat (pe_op op_cat (pe_slice sl_list (pv 5) po_none (po_some (pv 6))) (pe_lst (pa_cons (pv 9) pa_nil))) (pe_slice sl_list (pv 5) (po_some (pe_op op_add (pv 6) pe_int)) po_none)) pa_nil)))))
    (pss_cons (ps_for PassesOwn.never rfl (pi_list (pe_lst (pa_cons (pe_tup pa_nil) (pa_cons (pe_tup (pa_cons pe_int (pa_cons pe_int pa_nil))) pa_nil)))) (pg_name (i := 9) sc56.nd rfl (.inl rfl))
    (pss_one (ps_expr (pe_bm PySem.F.plainAttrs_list PySem.F.slot_list_append PySem.F.type_list_append mt_append (pv 8) (pa_cons (pe_op op_cat (pe_op op_cat (pe_slice sl_list (pv 5) po_none (po_some (pv 6))) (pe_lst (pa_cons (pv 9) pa_nil))) (pe_slice sl_list (pv 5) (po_some (pv 6)) po_none)) pa_nil)))))
    (pss_cons (ps_if (pt_cmpR op_gt (pe_callB call_lenD (by rfl) N.len PySem.boot_len (pa_cons (pv 1) pa_nil)) pe_int (nomark _))
    (pss_cons (ps_expr (pe_bm PySem.F.plainAttrs_list PySem.F.slot_list_append PySem.F.type_list_append mt_append (pv 8) (pa_cons (pe_g g_b (hr.mono (by decide)) (pa_cons (pv 1) (pa_cons (pv 2) (pa_cons (pv 3) (pa_cons (pv 4) (pa_cons (pe_ifExp (pt_cmpR op_gt (pe_callB call_lenD (by rfl) N.len PySem.boot_len (pa_cons (pv 1) pa_nil)) pe_int (nomark _)) (pe_ix ix_list (pe_lst (pa_cons pe_int (pa_cons pe_int pa_nil))) (pe_callTy call_int1 (by rfl) N.int (by decide +kernel) (pa_cons (pe_cmpR op_gt (pe_callB call_lenD (by rfl) N.len PySem.boot_len (pa_cons (pv 1) pa_nil)) pe_int (nomark _)) pa_nil)) (fun _ _ => rfl)) pe_int) pa_nil)))))) pa_nil)))
    (pss_cons (ps_expr (pe_bm PySem.F.plainAttrs_list PySem.F.slot_list_append PySem.F.type_list_append mt_append (pv 8) (pa_cons (pe_op op_cat (pe_slice sl_list (pv 5) po_none (po_some pe_int)) (pv 5)) pa_nil)))
    (pss_cons (ps_par (i := 10) (j := 11) rfl sc56.nd rfl rfl (by decide) rfl rfl (pa_cons (pe_dget (hu_of hr) (pv 1) (pe_callB (cr_minK rfl) (by rfl) N.min (by decide +kernel) (pa_cons (pv 1) pa_nil)) (fun _ _ => rfl)) (pa_cons (pe_dget (hu_of hr) (pv 1) (pe_callB (call_maxKey rfl) (by rfl) N.max (by decide +kernel) (pa_cons (pv 1) pa_nil)) (fun _ _ => rfl)) pa_nil)) (by rfl))
    (pss_cons (ps_set (i := 12) sc56.nd rfl (.inl rfl) (pe_op op_catA (pe_op op_catA (pe_op op_catA (pe_tup (pa_cons pe_int pa_nil)) (pe_g g_n (hr.mono (by decide)) (pa_cons pe_int pa_nil))) (pe_g g_i (hr.mono (by decide)) (pa_cons (pv 11) pa_nil))) (pe_g g_i (hr.mono (by decide)) (pa_cons (pv 10) pa_nil))))
    (pss_cons (ps_expr (pe_bm PySem.F.plainAttrs_list PySem.F.slot_list_append PySem.F.type_list_append mt_append (pv 8) (pa_cons (pe_lst (pa_cons (pv 12) (pa_cons (pe_op op_catA (pe_op op_catA (pe_tup (pa_cons pe_int pa_nil)) (pe_g g_n (hr.mono (by decide)) (pa_cons (pv 4) pa_nil))) (pe_tup (pa_cons pe_int (pa_cons pe_int (pa_cons pe_int pa_nil))))) pa_nil))) pa_nil)))
    (pss_one (ps_expr (pe_bm PySem.F.plainAttrs_list PySem.F.slot_list_append PySem.F.type_list_append mt_append (pv 8) (pa_cons (pe_lst (pa_cons (pe_op op_catA (pe_op op_catA (pe_tup (pa_cons pe_int (pa_cons pe_int pa_nil))) (pe_g g_i (hr.mono (by decide)) (pa_cons (pv 10) pa_nil))) (pe_g g_i (hr.mono (by decide)) (pa_cons (pv 10) pa_nil))) (pa_cons (pe_op op_catA (pe_op op_catA (pe_tup (pa_cons pe_int pa_nil)) (pe_g g_n (hr.mono (by decide)) (pa_cons (pv 4) pa_nil))) (pe_tup (pa_cons pe_int (pa_cons pe_int (pa_cons pe_int pa_nil))))) pa_nil))) pa_nil)))))))))
    pss_nil)
    (pss_cons (ps_set (i := 13) sc56.nd rfl (.inl rfl) (pe_op op_catA (pe_op op_catA (pe_tup (pa_cons pe_int pa_nil)) (pe_g g_n (hr.mono (by decide)) (pa_cons (pv 4) pa_nil))) (pe_g g_n (hr.mono (by decide)) (pa_cons (pe_callB call_lenD (by rfl) N.len PySem.boot_len (pa_cons (pv 1) pa_nil)) pa_nil))))
    (pss_cons (ps_setLc (i := 14) (own := [("_law_move", 15)]) (g := gName 15) (tt := tYes) (te := tSl (rSlA K) (tCall (spP cLM1) [] E0 (tCons (tCall (spN cON) [] E0 (tCons (tVar 2) (tCons (tVar 15) tNil))) (tCons (tC (.bl true)) tNil))) (tPart (tC (.int 1))) tNoPart) rfl sc56.nd rfl rfl (sw_true rfl rfl rfl (by decide +kernel)) (pi_list (pe_callB cr_sortedI (by rfl) N.sorted (by decide +kernel) (pa_cons (pe_callTy (call_listD rfl) (by rfl) N.list (by decide +kernel) (pa_cons (pv 2) pa_nil)) pa_nil))) (blkOk_by (own := [("_law_move", 15)]) (N := ["_law_heap_here", "_law_state", "_law_waiting", "_law_gone", "_law_mark", "_law_bodies_here", "_law_at", "_law_seal", "_law_some", "_law_body", "_law_first", "_law_last", "_law_turned", "_law_front", "_law_parts", "_law_move", "_law_part"]) (sc := defScope s56) (by decide +kernel)) (fun _ _ _ _ _ => (pg_name (i := 15) sc56.nd rfl (.inl rfl))) (fun _ _ _ _ _ => pts_nil) (fun _ _ _ _ _ => (pe_slice sl_tupA (pe_g g_m1 (hr.mono (by decide)) (pa_cons (pe_g g_o (hr.mono (by decide)) (pa_cons (pv 2) (pa_cons (pv 15) pa_nil))) (pa_cons pe_bl pa_nil))) (po_some pe_int) po_none)))
    (pss_cons (ps_if (pt_cmpR op_eq (pe_callB call_lenD (by rfl) N.len PySem.boot_len (pa_cons (pv 2) pa_nil)) pe_int (nomark _))
    (pss_one (ps_expr (pe_bm PySem.F.plainAttrs_list PySem.F.slot_list_append PySem.F.type_list_append mt_append (pv 8) (pa_cons (pe_op op_cat (pe_slice sl_list (pv 5) po_none (po_some (pe_un un_neg pe_int))) (pe_lst (pa_cons (pe_op op_catA (pe_op op_catA (pe_op op_catA (pe_op op_catA (pv 13) (pe_tup (pa_cons pe_int pa_nil))) (pe_ix ix_list (pv 14) pe_int (fun _ _ => rfl))) (pe_ix ix_list (pv 14) pe_int (fun _ _ => rfl))) (pe_g g_m2 (hr.mono (by decide)) (pa_cons (pv 3) (pa_cons pe_bl pa_nil)))) pa_nil))) pa_nil))))
    pss_nil)
    (pss_cons (ps_if (pt_cmpR op_eq (pe_callB call_lenD (by rfl) N.len PySem.boot_len (pa_cons (pv 2) pa_nil)) pe_int (nomark _))
    (pss_one (ps_expr (pe_bm PySem.F.plainAttrs_list PySem.F.slot_list_append PySem.F.type_list_append mt_append (pv 8) (pa_cons (pe_op op_cat (pe_slice sl_list (pv 5) po_none (po_some (pe_un un_neg pe_int))) (pe_lst (pa_cons (pe_op op_catA (pe_op op_catA (pe_op op_catA (pe_op op_catA (pv 13) (pe_tup (pa_cons pe_int pa_nil))) (pe_ix ix_list (pv 14) pe_int (fun _ _ => rfl))) (pe_ix ix_list (pv 14) pe_int (fun _ _ => rfl))) (pe_g g_m2 (hr.mono (by decide)) (pa_cons (pv 3) (pa_cons pe_bl pa_nil)))) pa_nil))) pa_nil))))
    pss_nil)
    (pss_cons (ps_setLc (i := 14) (own := [("_law_move", 15)]) (g := gName 15) (tt := tYes) (te := tSl (rSlA K) (tCall (spP cLM2) [] E0 (tCons (tCall (spN cON) [] E0 (tCons (tVar 3) (tCons (tVar 15) tNil))) (tCons (tC (.bl false)) tNil))) (tPart (tC (.int 1))) tNoPart) rfl sc56.nd rfl rfl (sw_true rfl rfl rfl (by decide +kernel)) (pi_list (pe_callB cr_sortedI (by rfl) N.sorted (by decide +kernel) (pa_cons (pe_callTy (call_listD rfl) (by rfl) N.list (by decide +kernel) (pa_cons (pv 3) pa_nil)) pa_nil))) (blkOk_by (own := [("_law_move", 15)]) (N := ["_law_heap_here", "_law_state", "_law_waiting", "_law_gone", "_law_mark", "_law_bodies_here", "_law_at", "_law_seal", "_law_some", "_law_body", "_law_first", "_law_last", "_law_turned", "_law_front", "_law_parts", "_law_move", "_law_part"]) (sc := defScope s56) (by decide +kernel)) (fun _ _ _ _ _ => (pg_name (i := 15) sc56.nd rfl (.inl rfl))) (fun _ _ _ _ _ => pts_nil) (fun _ _ _ _ _ => (pe_slice sl_tupA (pe_g g_m2 (hr.mono (by decide)) (pa_cons (pe_g g_o (hr.mono (by decide)) (pa_cons (pv 3) (pa_cons (pv 15) pa_nil))) (pa_cons pe_bl pa_nil))) (po_some pe_int) po_none)))
    (pss_cons (ps_if (pt_cmpR op_gt (pe_callB call_lenD (by rfl) N.len PySem.boot_len (pa_cons (pv 3) pa_nil)) pe_int (nomark _))
    (pss_cons (ps_set (i := 12) sc56.nd rfl (.inl rfl) (pe_tup pa_nil))
    (pss_cons (ps_for PassesOwn.never rfl (pi_list (pe_revL (pv 14))) (pg_name (i := 16) sc56.nd rfl (.inl rfl))
    (pss_one (ps_set (i := 12) sc56.nd rfl (.inl rfl) (pe_op op_catA (pv 12) (pv 16)))))
    (pss_one (ps_set (i := 8) sc56.nd rfl (.inl rfl) (pe_op op_cat (pv 8) (pe_op op_rep (pe_lst (pa_cons (pe_op op_cat (pe_slice sl_list (pv 5) po_none (po_some (pe_un un_neg pe_int))) (pe_lst (pa_cons (pe_op op_catA (pe_op op_catA (pe_op op_catA (pv 13) (pe_g g_m1 (hr.mono (by decide)) (pa_cons (pv 2) (pa_cons pe_bl pa_nil)))) (pe_tup (pa_cons (pe_callB call_lenD (by rfl) N.len PySem.boot_len (pa_cons (pv 3) pa_nil)) pa_nil))) (pv 12)) pa_nil))) pa_nil)) pe_int))))))
    pss_nil)
    (pss_cons (ps_if (pt_cmpR op_eq (pe_callB call_lenD (by rfl) N.len PySem.boot_len (pa_cons (pv 3) pa_nil)) pe_int (nomark _))
    (pss_one (ps_expr (pe_bm PySem.F.plainAttrs_list PySem.F.slot_list_append PySem.F.type_list_append mt_append (pv 8) (pa_cons (pe_op op_cat (pe_slice sl_list (pv 5) po_none (po_some (pe_un un_neg pe_int))) (pe_lst (pa_cons (pe_op op_catA (pe_op op_catA (pe_op op_catA (pe_op op_catA (pv 13) (pe_g g_m1 (hr.mono (by decide)) (pa_cons (pv 2) (pa_cons pe_bl pa_nil)))) (pe_tup (pa_cons pe_int pa_nil))) (pe_ix ix_list (pv 14) pe_int (fun _ _ => rfl))) (pe_ix ix_list (pv 14) pe_int (fun _ _ => rfl))) pa_nil))) pa_nil))))
    pss_nil)
    (pss_one (ps_ret (pe_g g_j (hr.mono (by decide)) (pa_cons (pe_g g_p (hr.mono (by decide)) (pa_cons (pv 0) (pa_cons (pv 8) pa_nil))) pa_nil)))))))))))))))), ?_⟩
  have I : SS (rD hp l0) H F (L2.start ["_law_heap_here", "_law_state", "_law_waiting", "_law_gone", "_law_mark", "_law_bodies_here", "_law_at", "_law_seal", "_law_some", "_law_body", "_law_first", "_law_last", "_law_turned", "_law_front", "_law_parts", "_law_move", "_law_part"] [.ref hp, v1, v2, v3, .int b.mark, v5]) H [.val (.ref hp), .dat (.dict (dK (dSt b.st))), .dat (.dict (dK (dWt b.wt))), .dat (.dict (dK (dGn b.gn))), .dat (.int b.mark), .dat (dL (bodies 8 b)), .no, .no, .no, .no, .no, .no, .no, .no, .no, .no, .no] := by
    refine SS.toR (SS.start (show 6 ≤ 17 by decide) rfl f0 fun i t e n => ?_) iv fo (fun i t e => ?_)
    · rcases i with _ | _ | _ | _ | _ | _ | _ | _ | _ | _ | _ | _ | _ | _ | _ | _ | _ | i
      · cases e; exact ⟨rfl, _, rfl, rfl⟩
      · cases e; exact ⟨rfl, _, rfl, t1⟩
      · cases e; exact ⟨rfl, _, rfl, t2⟩
      · cases e; exact ⟨rfl, _, rfl, t3⟩
      · cases e; exact ⟨rfl, _, rfl, .int _⟩
      · cases e; exact ⟨rfl, _, rfl, t5⟩
      all_goals (cases e; try exact absurd rfl n)
    · rcases i with _ | _ | _ | _ | _ | _ | _ | _ | _ | _ | _ | _ | _ | _ | _ | _ | _ | i <;> (cases e; try rfl)
  have HI := HIn.self hp l0
  show tSeq _ _ _ _ _
  have bl := g.bl
  have bp := g.bpos
  have ebs : bodies 8 b = recs 8 b ++ [sealB b] := rfl
  have elast : (bodies 8 b).dropLast = recs 8 b := by rw [ebs, List.dropLast_concat]
  have lenb : ((bodies 8 b).map dI).length = (bodies 8 b).length := List.length_map _
  -- readings of the list of bodies in slot 5
  have r5 : ∀ {F : Hp} {Γ : List Ty}, Γ[5]? = some (.dat (dL (bodies 8 b))) → EvR (rD hp l0) F (tVar 5) Γ (· = (bodies 8 b).map dI) := fun h => er_frz (ed_var h)
  have ini : ∀ {F : Hp} {Γ : List Ty}, Γ[5]? = some (.dat (dL (bodies 8 b))) → EvL (rD hp l0) F (tSl (rSlL K) (tVar 5) tNoPart (tPart (tUn (rU fun i => .int (-i)) (tC (.int 1))))) Γ (· = (recs 8 b).map dI) := fun h => EvL.is (eld_sl (r5 h) eo_none (eo_some (ed_un ed_int ud_int))) (by rw [cutD_map, ← elast]; exact congrArg (List.map dI) (cutD_init _))
  have one : ∀ {F : Hp} {Γ : List Ty} {te : TE} {y : List Int}, EvD (rD hp l0) F te Γ (dI y) → EvL (rD hp l0) F (tLst (tCons te tNil)) Γ (· = [y].map dI) := fun h => el_lst' (ea_cons h ea_nil) rfl
  have cat : ∀ {F : Hp} {Γ : List Ty} {ta tb : TE} {x y : List (List Int)}, EvR (rD hp l0) F ta Γ (· = x.map dI) → EvR (rD hp l0) F tb Γ (· = y.map dI) → x.length + y.length ≤ 100 → EvL (rD hp l0) F (tOp rCat ta tb) Γ (· = (x ++ y).map dI) := fun h1 h2 hl => EvL.is (eld_cat h1 h2 (sz (by rw [List.length_map, List.length_map]; omega))) (List.map_append).symm
  refine sq_parS (P := fun d => ∃ k : Nat, d = .int (k : Int) ∧ k < (bodies 8 b).length) I ((es_draw (m := ((bodies 8 b).length : Int)) HI rfl (EvS.is (ed_lenR (r5 rfl)) (by rw [lenb])) (by omega) (by omega)).imp fun d ⟨r, e, r0, r1⟩ => ⟨r.toNat, by rw [e]; congr 1; omega, by omega⟩) (ed_op (ed_var rfl) (ed_un ed_int ud_int) (od_ixLf (d := dI (sealB b)) (by rw [ebs, List.map_append]; exact atI_last _ _))) fun y σ H1 py I => ?_
  obtain ⟨k, rfl, hk⟩ := py
  show tSeq _ _ _ _ _
  refine sq_setLN (ds := [recs 8 b, bodies 8 b ++ [sealB b], [sealB b] ++ bodies 8 b, [[7, 0]] ++ bodies 8 b].map dL) I (ean_cons (EvL.new (ini rfl)) (ean_cons (EvL.new (cat (r5 rfl) (EvL.rd (one (ed_var rfl))) (by rw [List.length_singleton]; omega))) (ean_cons (EvL.new (cat (EvL.rd (one (ed_var rfl))) (r5 rfl) (by rw [List.length_singleton]; omega))) (ean_cons (EvL.new (cat (EvL.rd (one (y := [7, 0]) (ed_tup' (ea_cons ed_int (ea_cons ed_int ea_nil)) rfl))) (r5 rfl) (by rw [List.length_singleton]; omega))) ean_nil)))) (sz (by simp)) fun F1 σ H2 sF1 I => ?_
  have c0 : CS 4 [recs 8 b, bodies 8 b ++ [sealB b], [sealB b] ++ bodies 8 b, [[7, 0]] ++ bodies 8 b] := ⟨fun c hc => by
    simp only [List.mem_cons, List.not_mem_nil, or_false] at hc
    rcases hc with e | e | e | e
    · rw [e]; exact g.c1
    · rw [e]; exact g.c2
    · rw [e]; exact g.c3
    · rw [e]; exact g.c4, by simp, by simp⟩
  generalize [recs 8 b, bodies 8 b ++ [sealB b], [sealB b] ++ bodies 8 b, [[7, 0]] ++ bodies 8 b] = cs0 at c0 I
  have hx : (bodies 8 b)[k]? = some (bodies 8 b)[k] := List.getElem?_eq_getElem hk
  generalize (bodies 8 b)[k] = x at hx
  have lx : Cs x ∧ x.length ≤ 1100 := g.bs (s := 8) (by decide) x (List.mem_of_getElem? hx)
  have ex : atI ((bodies 8 b).map dI) (k : Int) = some (dI x) := atI_nat (by rw [List.getElem?_map, hx]; rfl)
  show tSeq _ _ _ _ _
  have at6 : ∀ {F : Hp} {Γ : List Ty}, Γ[5]? = some (.dat (dL (bodies 8 b))) → Γ[6]? = some (.dat (.int (k : Int))) → EvD (rD hp l0) F (tOp (rIxL K) (tVar 5) (tVar 6)) Γ (dI x) := fun h1 h2 => ed_op (ed_var h1) (ed_var h2) (od_ixLf ex)
  have upto : ∀ {F : Hp} {Γ : List Ty}, Γ[5]? = some (.dat (dL (bodies 8 b))) → Γ[6]? = some (.dat (.int (k : Int))) → EvL (rD hp l0) F (tSl (rSlL K) (tVar 5) tNoPart (tPart (tVar 6))) Γ (· = ((bodies 8 b).take k).map dI) := fun h1 h2 => EvL.is (eld_sl (r5 h1) eo_none (eo_some (ed_var h2))) (by rw [cutD_map, cutD_to (hi := k) rfl])
  have y5 : ∀ {F : Hp} {Γ : List Ty}, Γ[5]? = some (.dat (dL (bodies 8 b))) → Γ[6]? = some (.dat (.int (k : Int))) → EvL (rD hp l0) F (tSl (rSlL K) (tVar 5) (tPart (tOp (rI0 fun i j => .int (i + j)) (tVar 6) (tC (.int 1)))) tNoPart) Γ (· = ((bodies 8 b).drop (k + 1)).map dI) := fun h1 h2 => EvL.is (eld_sl (r5 h1) (eo_some (ed_op (ed_var h2) ed_int od_int)) eo_none) (by rw [cutD_map, cutD_from (i := ((k : Int) + 1)) (lo := k + 1) rfl (by omega)])
  have y6 : ∀ {F : Hp} {Γ : List Ty}, Γ[5]? = some (.dat (dL (bodies 8 b))) → Γ[6]? = some (.dat (.int (k : Int))) → EvL (rD hp l0) F (tSl (rSlL K) (tVar 5) (tPart (tVar 6)) tNoPart) Γ (· = ((bodies 8 b).drop k).map dI) := fun h1 h2 => EvL.is (eld_sl (r5 h1) (eo_some (ed_var h2)) eo_none) (by rw [cutD_map, cutD_from (lo := k) rfl (by omega)])
  refine sq_forF (α := List (List (List Int))) (n := 3) (f := nth ([x ++ [0], x.dropLast, [9] ++ x.drop 1].map dI)) cs0 (fun i cs => CS (4 + i) cs) I (ei_listR (EvL.is (b := [x ++ [0], x.dropLast, [9] ++ x.drop 1].map dI) (el_lst' (ea_cons (ed_op (b := dI [0]) (at6 rfl rfl) (ed_tup' (ea_cons ed_int ea_nil) rfl) (od_catI (by rw [List.length_singleton]; omega))) (ea_cons (EvS.is (ed_slT (at6 rfl rfl) eo_none (eo_some (ed_un ed_int ud_int))) (b := dI x.dropLast) (by rw [cutD_map]; exact congrArg (fun l : List Int => dI l) (cutD_init x))) (ea_cons (ed_op (a := dI [9]) (b := dI (x.drop 1)) (ed_tup' (ea_cons ed_int ea_nil) rfl) (EvS.is (ed_slT (at6 rfl rfl) (eo_some ed_int) eo_none) (by rw [cutD_map]; exact congrArg (fun l : List Int => dI l) (cutD_tail x))) (od_catI (by rw [List.length_singleton, List.length_drop]; omega))) ea_nil))) rfl) rfl))
    (fun i cs => [.val (.ref hp), .dat (.dict (dK (dSt b.st))), .dat (.dict (dK (dWt b.wt))), .dat (.dict (dK (dGn b.gn))), .dat (.int b.mark), .dat (dL (bodies 8 b)), .dat (.int (k : Int)), .dat (dI (sealB b)), .lst (cs.map dL), .no, .no, .no, .no, .no, .no, .no, .no])
    (fun i cs => [.val (.ref hp), .dat (.dict (dK (dSt b.st))), .dat (.dict (dK (dWt b.wt))), .dat (.dict (dK (dGn b.gn))), .dat (.int b.mark), .dat (dL (bodies 8 b)), .dat (.int (k : Int)), .dat (dI (sealB b)), .lst (cs.map dL), .dat (nth ([x ++ [0], x.dropLast, [9] ++ x.drop 1].map dI) i), .no, .no, .no, .no, .no, .no, .no])
    c0 (fun H0 σ H I => I) (fun F' sF i cs hi => bg_name) ?_ ?_
  · intro F' sF H0' σ H3 hs i cs hi hcs I
    have hy : [x ++ [0], x.dropLast, [9] ++ x.drop 1][i]? = some ([x ++ [0], x.dropLast, [9] ++ x.drop 1].getD i []) := by rw [List.getD_eq_getElem?_getD, List.getElem?_eq_getElem (show i < 3 from hi)]; rfl
    have hm := List.mem_of_getElem? hy
    generalize [x ++ [0], x.dropLast, [9] ++ x.drop 1].getD i [] = y at hy hm
    simp only [List.mem_cons, List.not_mem_nil, or_false] at hm
    rw [nth_map dI hy] at I
    refine st_appC I rfl (EvL.new (cat (EvL.rd (cat (EvL.rd (upto rfl rfl)) (EvL.rd (one (ed_var rfl))) (by rw [List.length_take, List.length_singleton]; omega))) (EvL.rd (y5 rfl rfl)) (by rw [List.length_append, List.length_take, List.length_drop, List.length_singleton]; omega))) (g.c567 hx hm) hcs (by omega) fun F3 H4 cs3 sF3 hc3 I => ?_
    exact ⟨cs3, F3, Same.trans' sF sF3, hc3, I.drop 9⟩
  intro F2 sF2 σ H3 cs1 hc1 I
  have hc1 : CS 7 cs1 := hc1
  show tSeq _ _ _ _ _
  refine sq_forF (α := List (List (List Int))) (n := 2) (f := nth ([[], [6, 1]].map dI)) cs1 (fun i cs => CS (7 + i) cs) I (ei_listR (el_lst' (l := [[], [6, 1]].map dI) (ea_cons (ed_tup' ea_nil rfl) (ea_cons (ed_tup' (ea_cons ed_int (ea_cons ed_int ea_nil)) rfl) ea_nil)) rfl))
    (fun i cs => [.val (.ref hp), .dat (.dict (dK (dSt b.st))), .dat (.dict (dK (dWt b.wt))), .dat (.dict (dK (dGn b.gn))), .dat (.int b.mark), .dat (dL (bodies 8 b)), .dat (.int (k : Int)), .dat (dI (sealB b)), .lst (cs.map dL), .no, .no, .no, .no, .no, .no, .no, .no])
    (fun i cs => [.val (.ref hp), .dat (.dict (dK (dSt b.st))), .dat (.dict (dK (dWt b.wt))), .dat (.dict (dK (dGn b.gn))), .dat (.int b.mark), .dat (dL (bodies 8 b)), .dat (.int (k : Int)), .dat (dI (sealB b)), .lst (cs.map dL), .dat (nth ([[], [6, 1]].map dI) i), .no, .no, .no, .no, .no, .no, .no])
    hc1 (fun H0 σ H I => I) (fun F' sF i cs hi => bg_name) ?_ ?_
  · intro F' sF H0' σ H3 hs i cs hi hcs I
    have hy : ([[], [6, 1]] : List (List Int))[i]? = some (([[], [6, 1]] : List (List Int)).getD i []) := by rw [List.getD_eq_getElem?_getD, List.getElem?_eq_getElem (show i < 2 from hi)]; rfl
    have hm := List.mem_of_getElem? hy
    generalize ([[], [6, 1]] : List (List Int)).getD i [] = y at hy hm
    simp only [List.mem_cons, List.not_mem_nil, or_false] at hm
    rw [nth_map dI hy] at I
    refine st_appC I rfl (EvL.new (cat (EvL.rd (cat (EvL.rd (upto rfl rfl)) (EvL.rd (one (ed_var rfl))) (by rw [List.length_take, List.length_singleton]; omega))) (EvL.rd (y6 rfl rfl)) (by rw [List.length_append, List.length_take, List.length_drop, List.length_singleton]; omega))) (g.c8 hk hm) hcs (by omega) fun F3 H4 cs3 sF3 hc3 I => ?_
    exact ⟨cs3, F3, Same.trans' sF sF3, hc3, I.drop 9⟩
  intro F3 sF3 σ H4 cs2 hc2 I
  have hc2 : CS 9 cs2 := hc2
  have I := (I.drop 6).drop 7
  show tSeq _ _ _ _ _
  have nst : (dSt b.st).length = b.st.length := List.length_map _
  have nwt : (dWt b.wt).length = b.wt.length := List.length_map _
  have ngn : (dGn b.gn).length = b.gn.length := List.length_map _
  have l1 := g.l1
  have l2 := g.l2
  have l3 := g.l3
  have nmk : (nc b.mark).length ≤ 4 := nc4 (by have := g.mk0.2; omega)
  have nln : (nc (b.st.length : Int)).length ≤ 22 := by have := nc_lenN b.st.length; omega
  obtain ⟨mvw, mvg⟩ := g.mvl
  have n2 : nc 2 = [2] := nc_small (by decide)
  have lst : ∀ {F : Hp} {Γ : List Ty}, Γ[1]? = some (.dat (.dict (dK (dSt b.st)))) → EvD (rD hp l0) F (tCB rLenD (tCons (tVar 1) tNil)) Γ (.int (b.st.length : Int)) := fun h => EvS.is (ed_lenD (l := dSt b.st) (ed_var h)) (by rw [nst])
  have lwt : ∀ {F : Hp} {Γ : List Ty}, Γ[2]? = some (.dat (.dict (dK (dWt b.wt)))) → EvD (rD hp l0) F (tCB rLenD (tCons (tVar 2) tNil)) Γ (.int (b.wt.length : Int)) := fun h => EvS.is (ed_lenD (l := dWt b.wt) (ed_var h)) (by rw [nwt])
  have lgn : ∀ {F : Hp} {Γ : List Ty}, Γ[3]? = some (.dat (.dict (dK (dGn b.gn)))) → EvD (rD hp l0) F (tCB rLenD (tCons (tVar 3) tNil)) Γ (.int (b.gn.length : Int)) := fun h => EvS.is (ed_lenD (l := dGn b.gn) (ed_var h)) (by rw [ngn])
  have cn : ∀ {F : Hp} {Γ : List Ty} {ta : TE} {n : Int}, EvD (rD hp l0) F ta Γ (.int n) → 0 ≤ n → (nc n).length ≤ 1000 → EvD (rD hp l0) F (tCall (spP cNC) [] E0 (tCons ta tNil)) Γ (dI (nc n)) := fun h h0 hl => ed_callP (ea_cons h ea_nil) ⟨_, rfl, h0, by omega, rfl⟩
  have ci : ∀ {F : Hp} {Γ : List Ty} {ta : TE} {x : Item}, EvD (rD hp l0) F ta Γ (dItem x) → gJ x → EvD (rD hp l0) F (tCall (spP cLI) [] E0 (tCons ta tNil)) Γ (dI (item.pr x)) := fun h hx => ed_callP (ea_cons h ea_nil) ⟨_, rfl, gJ_ok hx, by have := gJ_len hx; omega, (gJ_sm hx).1, (gJ_sm hx).2, rfl⟩
  have e8 : ∀ {F : Hp} {Γ : List Ty}, Γ[4]? = some (.dat (.int b.mark)) → EvD (rD hp l0) F (tOp (rCatA K) (tTup (tCons (tC (.int 8)) tNil)) (tCall (spP cNC) [] E0 (tCons (tVar 4) tNil))) Γ (dI ([8] ++ nc b.mark)) := fun h => ed_op (a := dI [8]) (b := dI (nc b.mark)) (ed_tup' (ea_cons ed_int ea_nil) rfl) (cn (ed_var h) g.mk0.1 (by omega)) (od_catI (by simp only [List.length_singleton]; omega))
  have e1 : ∀ {F : Hp} {Γ : List Ty} {n : Int}, EvD (rD hp l0) F (tTup (tCons (tC (.int n)) tNil)) Γ (dI [n]) := ed_tup' (ea_cons ed_int ea_nil) rfl
  have cm1 : ∀ {F : Hp} {Γ : List Ty}, Γ[2]? = some (.dat (.dict (dK (dWt b.wt)))) → EvD (rD hp l0) F (tCall (spP cLM1) [] E0 (tCons (tVar 2) (tCons (tC (.bl true)) tNil))) Γ (dI (movd item b.wt)) := fun h => ed_callP (ea_cons (ed_var h) (ea_cons ed_bl ea_nil)) ⟨b.wt, rfl, g.n2, fun p hp => ⟨g.sm.ok.o2 p hp, g.sm.s2 p hp⟩, by omega, rfl⟩
  have cm2 : ∀ {F : Hp} {Γ : List Ty}, Γ[3]? = some (.dat (.dict (dK (dGn b.gn)))) → EvD (rD hp l0) F (tCall (spP cLM2) [] E0 (tCons (tVar 3) (tCons (tC (.bl false)) tNil))) Γ (dI (movd Cd.num b.gn)) := fun h => ed_callP (ea_cons (ed_var h) (ea_cons ed_bl ea_nil)) ⟨b.gn, rfl, g.n3, fun p hp => ⟨g.sm.ok.o3 p hp, fun _ _ => trivial⟩, by omega, rfl⟩
  have rise : ∀ {α : Type} {t : List (Mov α)} {p q : Mov α}, (t.map (·.1)).Nodup → srt t = [p, q] → p.1 < q.1 := fun nd e => by
    have h := mov_rise nd
    rw [e] at h
    exact (List.pairwise_cons.mp h).1 _ List.mem_cons_self
  -- more than one item
  refine sq_ifJ (p := (· = decide ((1 : Int) < (b.st.length : Int)))) (fun σ' H' => ∃ F' cs, CS 13 cs ∧ SS (rD hp l0) H F' σ' H' [.val (.ref hp), .dat (.dict (dK (dSt b.st))), .dat (.dict (dK (dWt b.wt))), .dat (.dict (dK (dGn b.gn))), .dat (.int b.mark), .dat (dL (bodies 8 b)), .no, .no, .lst (cs.map dL), .no, .no, .no, .no, .no, .no, .no, .no]) I (ebd_test (ed_op (lst rfl) ed_int (od_bool (f := fun i j => decide (j < i))))) ?_ (fun k e H5 I => ?_) (fun e H5 I => ⟨_, cs2, hc2.mono (by decide), I⟩)
  rotate_left
  · have hn : 1 < b.st.length := by
      have := of_decide_eq_true e.symm
      omega
    show tSeq _ _ _ _ _
    have esz : ∀ {F : Hp} {Γ : List Ty}, Γ[1]? = some (.dat (.dict (dK (dSt b.st)))) → EvD (rD hp l0) F (tIf (tTest (tOp (rI0 fun i j => .bl (decide (j < i))) (tCB rLenD (tCons (tVar 1) tNil)) (tC (.int 7)))) (tOp (rIxL K) (tLst (tCons (tC (.int 7)) (tCons (tC (.int 9)) tNil))) (tCB rInt1 (tCons (tOp (rI0 fun i j => .bl (decide (j < i))) (tCB rLenD (tCons (tVar 1) tNil)) (tC (.int 8))) tNil))) (tC (.int 1))) Γ (.int (sOf b.st.length : Int)) := fun {F Γ} h => by
      refine EvS.is (ed_ifc (c := (7 : Int) < (b.st.length : Int)) (x := .int (if (8 : Int) < (b.st.length : Int) then 9 else 7)) (y := .int 1) (ebd_test (ed_op (lst h) ed_int (od_bool (f := fun i j => decide (j < i))))) (fun _ => ?_) (fun _ => ed_int)) ?_
      · refine es_ixR (PA := (· = [.int 7, .int 9])) (Pb := (· = .int (if decide ((8 : Int) < (b.st.length : Int)) = true then 1 else 0))) (EvL.rd (el_lst' (ea_cons ed_int (ea_cons ed_int ea_nil)) rfl)) (ed_int1b (ed_op (lst h) ed_int (od_bool (f := fun i j => decide (j < i))))) (fun ds d e1 e2 => ⟨_, _, e2, ?_, rfl⟩)
        subst e1
        by_cases c : (8 : Int) < (b.st.length : Int)
        · rw [decide_eq_true c, if_pos c]
          rfl
        · rw [decide_eq_false c, if_neg c]
          rfl
      · unfold sOf
        by_cases c : 7 < b.st.length
        · rw [if_pos c, if_pos (by omega)]
          by_cases c2 : 8 < b.st.length
          · rw [if_pos c2, if_pos (by omega)]
            rfl
          · rw [if_neg c2, if_neg (by omega)]
            rfl
        · rw [if_neg c, if_neg (by omega)]
          rfl
    refine sq_appC I rfl (EvL.new (el_callL (d := (bodies (sOf b.st.length) b).map dI) (ea_cons (ed_var rfl) (ea_cons (ed_var rfl) (ea_cons (ed_var rfl) (ea_cons (ed_var rfl) (ea_cons (esz rfl) ea_nil))))) ⟨b, sOf b.st.length, rfl, (sOf_b _).1, by have := (sOf_b b.st.length).2; omega, g.sm, by omega, fun x hx => by have := (g.bs (sOf_b _).2 x hx).2; omega, rfl⟩)) (g.c9 hn) hc2 (by decide) fun F4 H6 cs3 sF hc3 I => ?_
    show tSeq _ _ _ _ _
    refine sq_appC I rfl (EvL.new (cat (EvL.rd (EvL.is (b := ((bodies 8 b).take 1).map dI) (eld_sl (r5 rfl) eo_none (eo_some ed_int)) (by rw [cutD_map]; exact congrArg (List.map dI) (cutD_to (j := 1) (hi := 1) rfl)))) (r5 rfl) (by rw [List.length_take]; omega))) (g.c10 hn) hc3 (by decide) fun F5 H7 cs4 sF4 hc4 I => ?_
    show tSeq _ _ _ _ _
    have nd2 : ((dSt b.st).map (·.1)).Nodup := by
      unfold dSt
      rw [List.map_map]
      exact g.n1
    have keyOf : ∀ k ∈ (dSt b.st).map (·.1), ∃ x : Item, atK (dSt b.st) k = some (dItem x) ∧ gJ x ∧ x.1 = k := fun k hk => by
      unfold dSt at hk
      rw [List.map_map] at hk
      obtain ⟨p, hp, e⟩ := List.mem_map.mp hk
      have e : p.1 = k := e
      subst e
      exact ⟨p.2, atK_of nd2 (List.mem_map_of_mem (f := fun p : Int × Item => (p.1, dItem p.2)) hp), (g.st p hp).2, (g.st p hp).1⟩
    refine sq_parSS (P := fun d => ∃ x : Item, d = dItem x ∧ gJ x ∧ x.1 ∈ (dSt b.st).map (·.1) ∧ ∀ j ∈ (dSt b.st).map (·.1), x.1 ≤ j) (P' := fun d => ∃ y : Item, d = dItem y ∧ gJ y ∧ y.1 ∈ (dSt b.st).map (·.1) ∧ ∀ j ∈ (dSt b.st).map (·.1), j ≤ y.1) I
      (es_dget (ed_var rfl) (es_min (ed_var rfl) (by omega)) (fun m ⟨h1, h2⟩ => ?_)) (es_dget (ed_var rfl) (es_max (ed_var rfl) (by omega)) (fun m ⟨h1, h2⟩ => ?_)) fun y z σ H8 ⟨x, ex, gx, mx, hx⟩ ⟨y, ey, gy, my, hy⟩ I => ?_
    · obtain ⟨x, a1, a2, a3⟩ := keyOf m h1
      exact ⟨_, a1, x, rfl, a2, by rw [a3]; exact h1, by rw [a3]; exact h2⟩
    · obtain ⟨x, a1, a2, a3⟩ := keyOf m h1
      exact ⟨_, a1, x, rfl, a2, by rw [a3]; exact h1, by rw [a3]; exact h2⟩
    subst ex; subst ey
    have hxy : x.1 ≤ y.1 := hx _ my
    have lx := gJ_len gx
    have ly := gJ_len gy
    have tw : ∀ u v : Item, [7] ++ nc 2 ++ item.pr u ++ item.pr v = recB [u, v] := fun u v => by
      rw [recB_eq]
      show _ = [7] ++ (nc 2 ++ (item.pr u ++ (item.pr v ++ [])))
      simp only [List.append_assoc, List.append_nil]
    show tSeq _ _ _ _ _
    refine sq_set (d := dI (recB [y, x])) I (EvS.is (ed_op (b := dI (item.pr x)) (ed_op (b := dI (item.pr y)) (ed_op (a := dI [7]) (b := dI (nc 2)) e1 (cn ed_int (by decide) (by rw [n2]; decide)) (od_catI (by rw [n2]; decide))) (ci (ed_var rfl) gy) (od_catI (by rw [n2]; simp only [List.length_append, List.length_singleton]; omega))) (ci (ed_var rfl) gx) (od_catI (by rw [n2]; simp only [List.length_append, List.length_singleton]; omega))) (by rw [tw])) fun σ H9 I => ?_
    have three : ∀ {F : Hp} {Γ : List Ty}, EvD (rD hp l0) F (tTup (tCons (tC (.int 2)) (tCons (tC (.int 0)) (tCons (tC (.int 0)) tNil)))) Γ (dI [2, 0, 0]) := ed_tup' (ea_cons ed_int (ea_cons ed_int (ea_cons ed_int ea_nil))) rfl
    show tSeq _ _ _ _ _
    refine sq_appC (c := [recB [y, x], [8] ++ nc b.mark ++ [2, 0, 0]]) I rfl (EvL.new (el_lst' (l := [recB [y, x], [8] ++ nc b.mark ++ [2, 0, 0]].map dI) (ea_cons (ed_var rfl) (ea_cons (ed_op (b := dI [2, 0, 0]) (e8 rfl) three (od_catI (by simp only [List.length_append, List.length_cons, List.length_nil]; omega))) ea_nil)) rfl)) (g.c11 gy gx hxy) hc4 (by decide) fun F6 H10 cs5 sF5 hc5 I => ?_
    refine st_appC (c := [recB [x, x], [8] ++ nc b.mark ++ [2, 0, 0]]) I rfl (EvL.new (el_lst' (l := [recB [x, x], [8] ++ nc b.mark ++ [2, 0, 0]].map dI) (ea_cons (EvS.is (b := dI (recB [x, x])) (ed_op (b := dI (item.pr x)) (ed_op (a := dI [7, 2]) (b := dI (item.pr x)) (ed_tup' (ea_cons ed_int (ea_cons ed_int ea_nil)) rfl) (ci (ed_var rfl) gx) (od_catI (by simp only [List.length_cons, List.length_nil]; omega))) (ci (ed_var rfl) gx) (od_catI (by simp only [List.length_append, List.length_cons, List.length_nil]; omega))) (by rw [← tw, n2]; rfl)) (ea_cons (ed_op (b := dI [2, 0, 0]) (e8 rfl) three (od_catI (by simp only [List.length_append, List.length_cons, List.length_nil]; omega))) ea_nil)) rfl)) (g.c11 gx gx (Int.le_refl _)) hc5 (by decide) fun F7 H11 cs6 sF6 hc6 I => ?_
    exact k _ _ ⟨F7, cs6, hc6, ((I.drop 10).drop 11).drop 12⟩
  rintro σ H5 ⟨F4, cs3, hc3, I⟩
  show tSeq _ _ _ _ _
  have lf : ([8] ++ nc b.mark ++ nc (b.st.length : Int)).length ≤ 30 := by
    simp only [List.length_append, List.length_singleton]
    omega
  refine sq_set (d := dI ([8] ++ nc b.mark ++ nc (b.st.length : Int))) I (ed_op (b := dI (nc (b.st.length : Int))) (e8 rfl) (cn (lst rfl) (by omega) (by omega)) (od_catI (by simp only [List.length_append, List.length_singleton]; omega))) fun σ H6 I => ?_
  generalize hfr : [8] ++ nc b.mark ++ nc (b.st.length : Int) = front at lf I
  have eseal : ∀ (wt : List (Mov Item)) (gn : List (Mov Int)), 8 :: sealC.pr (b.mark, ((b.st.length : Int), (wt, gn))) = front ++ (nc wt.length ++ wt.flatMap (mov item).pr) ++ (nc gn.length ++ gn.flatMap (mov Cd.num).pr) := fun wt gn => by
    rw [sealC_pr, many_pr, many_pr, ← hfr]
    simp only [List.append_assoc]
    rfl
  show tSeq _ _ _ _ _
  refine sq_setL (PL := (· = (srt b.wt).map fun p => dI ((mov item).pr p))) I (el_parts (c := item) (toD := dItem) (small := smI) rfl rfl (by decide) g.n2 (fun p hp => ⟨⟨g.sm.ok.o2 p hp, g.sm.s2 p hp⟩, by have := g.wl hp; omega⟩) (by omega)) fun ds σ H7 e I => ?_
  subst e
  show tSeq _ _ _ _ _
  -- two wait
  refine sq_ifJ (p := (· = decide ((b.wt.length : Int) = 2))) (fun σ' H' => ∃ F' cs, CS 14 cs ∧ SS (rD hp l0) H F' σ' H' [.val (.ref hp), .dat (.dict (dK (dSt b.st))), .dat (.dict (dK (dWt b.wt))), .dat (.dict (dK (dGn b.gn))), .dat (.int b.mark), .dat (dL (bodies 8 b)), .no, .no, .lst (cs.map dL), .no, .no, .no, .no, .dat (dI front), .lst ((srt b.wt).map fun p => dI ((mov item).pr p)), .no, .no]) I (ebd_test (ed_op (lwt rfl) ed_int od_eqI)) ?_ (fun k e H8 I => ?_) (fun e H8 I => ⟨_, cs3, hc3.mono (by decide), I⟩)
  rotate_left
  · have hn : (srt b.wt).length = 2 := by
      have := of_decide_eq_true e.symm
      rw [srt_len]
      omega
    match hs : srt b.wt, hn with
    | [p0, p1], _ =>
      have m0 : p0 ∈ b.wt := mem_srt.mp (by rw [hs]; exact List.mem_cons_self)
      have m1 : p1 ∈ b.wt := mem_srt.mp (by rw [hs]; exact List.mem_cons_of_mem _ List.mem_cons_self)
      have hlt := rise g.n2 hs
      have w0 := g.wl m0
      have w1 := g.wl m1
      rw [hs] at I
      refine st_appC (c := recs 8 b ++ [8 :: sealC.pr (b.mark, ((b.st.length : Int), ([p1, p0], srt b.gn)))]) I rfl (EvL.new (cat (EvL.rd (ini rfl)) (EvL.rd (one (EvS.is (ed_op (b := dI (movd Cd.num b.gn)) (ed_op (b := dI ((mov item).pr p0)) (ed_op (b := dI ((mov item).pr p1)) (ed_op (a := dI front) (b := dI [2]) (ed_var rfl) e1 (od_catI (by simp only [List.length_append, List.length_singleton]; omega))) (ed_ixV rfl ed_int rfl) (od_catI (by simp only [List.length_append, List.length_singleton]; omega))) (ed_ixV rfl ed_int rfl) (od_catI (by simp only [List.length_append, List.length_singleton]; omega))) (cm2 rfl) (od_catI (by simp only [List.length_append, List.length_singleton]; omega))) ?_))) (by rw [List.length_singleton]; have := g.n8; omega))) (g.c12 (fun p hp => ?_) (fun p hp => mem_srt.mp hp) (by simp) (by rw [srt_len]; omega) (.inl fun z => ?_)) hc3 (by decide) fun F6 H10 cs5 sF5 hc5 I => ?_
      · rw [eseal, movd_eq, srt_len]
        show dI _ = dI (front ++ (nc 2 ++ ((mov item).pr p1 ++ ((mov item).pr p0 ++ []))) ++ _)
        rw [n2]
        simp only [List.append_assoc, List.append_nil]
      · rcases List.mem_cons.mp hp with e | e
        · rw [e]; exact m1
        · rw [List.mem_singleton.mp e]; exact m0
      · have := (List.pairwise_cons.mp z).1 p0 List.mem_cons_self
        omega
      · exact k _ _ ⟨F6, cs5, hc5, by rw [hs]; exact I⟩
  rintro σ H8 ⟨F5, cs4, hc4, I⟩
  show tSeq _ _ _ _ _
  -- one waits
  refine sq_ifJ (p := (· = decide ((b.wt.length : Int) = 1))) (fun σ' H' => ∃ F' cs, CS 15 cs ∧ SS (rD hp l0) H F' σ' H' [.val (.ref hp), .dat (.dict (dK (dSt b.st))), .dat (.dict (dK (dWt b.wt))), .dat (.dict (dK (dGn b.gn))), .dat (.int b.mark), .dat (dL (bodies 8 b)), .no, .no, .lst (cs.map dL), .no, .no, .no, .no, .dat (dI front), .lst ((srt b.wt).map fun p => dI ((mov item).pr p)), .no, .no]) I (ebd_test (ed_op (lwt rfl) ed_int od_eqI)) ?_ (fun k e H8 I => ?_) (fun e H8 I => ⟨_, cs4, hc4.mono (by decide), I⟩)
  rotate_left
  · have hn : (srt b.wt).length = 1 := by
      have := of_decide_eq_true e.symm
      rw [srt_len]
      omega
    match hs : srt b.wt, hn with
    | [p0], _ =>
      have m0 : p0 ∈ b.wt := mem_srt.mp (by rw [hs]; exact List.mem_cons_self)
      have w0 := g.wl m0
      rw [hs] at I
      refine st_appC (c := recs 8 b ++ [8 :: sealC.pr (b.mark, ((b.st.length : Int), ([p0, p0], srt b.gn)))]) I rfl (EvL.new (cat (EvL.rd (ini rfl)) (EvL.rd (one (EvS.is (ed_op (b := dI (movd Cd.num b.gn)) (ed_op (b := dI ((mov item).pr p0)) (ed_op (b := dI ((mov item).pr p0)) (ed_op (a := dI front) (b := dI [2]) (ed_var rfl) e1 (od_catI (by simp only [List.length_append, List.length_singleton]; omega))) (ed_ixV rfl ed_int rfl) (od_catI (by simp only [List.length_append, List.length_singleton]; omega))) (ed_ixV rfl ed_int rfl) (od_catI (by simp only [List.length_append, List.length_singleton]; omega))) (cm2 rfl) (od_catI (by simp only [List.length_append, List.length_singleton]; omega))) ?_))) (by rw [List.length_singleton]; have := g.n8; omega))) (g.c12 (fun p hp => ?_) (fun p hp => mem_srt.mp hp) (by simp) (by rw [srt_len]; omega) (.inl fun z => ?_)) hc4 (by decide) fun F6 H10 cs5 sF5 hc5 I => ?_
      · rw [eseal, movd_eq, srt_len]
        show dI _ = dI (front ++ (nc 2 ++ ((mov item).pr p0 ++ ((mov item).pr p0 ++ []))) ++ _)
        rw [n2]
        simp only [List.append_assoc, List.append_nil]
      · rcases List.mem_cons.mp hp with e | e
        · rw [e]; exact m0
        · rw [List.mem_singleton.mp e]; exact m0
      · have := (List.pairwise_cons.mp z).1 p0 List.mem_cons_self
        omega
      · exact k _ _ ⟨F6, cs5, hc5, by rw [hs]; exact I⟩
  rintro σ H9 ⟨F6, cs5, hc5, I⟩
  show tSeq _ _ _ _ _
  refine sq_setL (PL := (· = (srt b.gn).map fun p => dI ((mov Cd.num).pr p))) I (el_parts (c := Cd.num) (toD := PyData.int) (small := fun _ => True) rfl rfl (by decide) g.n3 (fun p hp => ⟨⟨g.sm.ok.o3 p hp, fun _ _ => trivial⟩, by have := g.gl hp; omega⟩) (by omega)) fun ds σ H10 e I => ?_
  subst e
  show tSeq _ _ _ _ _
  -- more than one gone
  refine sq_ifJ (p := (· = decide ((1 : Int) < (b.gn.length : Int)))) (fun σ' H' => ∃ F' cs, CS 17 cs ∧ SS (rD hp l0) H F' σ' H' [.val (.ref hp), .dat (.dict (dK (dSt b.st))), .dat (.dict (dK (dWt b.wt))), .dat (.dict (dK (dGn b.gn))), .dat (.int b.mark), .dat (dL (bodies 8 b)), .no, .no, .lst (cs.map dL), .no, .no, .no, .no, .dat (dI front), .lst ((srt b.gn).map fun p => dI ((mov Cd.num).pr p)), .no, .no]) I (ebd_test (ed_op (lgn rfl) ed_int (od_bool (f := fun i j => decide (j < i))))) ?_ (fun k e H8 I => ?_) (fun e H8 I => ⟨_, cs5, hc5.mono (by decide), I⟩)
  rotate_left
  · have hn : 2 ≤ (srt b.gn).length := by
      have := of_decide_eq_true e.symm
      rw [srt_len]
      omega
    show tSeq _ _ _ _ _
    refine sq_set (d := dI []) I (ed_tup' ea_nil rfl) fun σ H11 I => ?_
    show tSeq _ _ _ _ _
    generalize hrv : (srt b.gn).reverse = rv
    have lrv : rv.length = b.gn.length := by rw [← hrv, List.length_reverse, srt_len]
    have mrv : ∀ p ∈ rv, p ∈ b.gn := fun p hp => by rw [← hrv] at hp; exact mem_srt.mp (List.mem_reverse.mp hp)
    have wrv : ∀ i, ((rv.take i).flatMap (mov Cd.num).pr).length ≤ 90 := fun i => by
      rw [flat_len]
      have := sum_le (fun p : Mov Int => ((mov Cd.num).pr p).length) 30 (rv.take i) fun p hp => g.gl (mrv p (List.mem_of_mem_take hp))
      have l := List.length_take_le' i rv
      omega
    refine sq_for (n := (rv.map fun p => dI ((mov Cd.num).pr p)).length) (f := nth (rv.map fun p => dI ((mov Cd.num).pr p))) I (ei_listR (EvL.is (b := rv.map fun p => dI ((mov Cd.num).pr p)) (a := ((srt b.gn).map fun p => dI ((mov Cd.num).pr p)).reverse) (el_rev (PA := (· = (srt b.gn).map fun p => dI ((mov Cd.num).pr p))) (er_var rfl) fun ds e => by rw [e]) (by rw [← List.map_reverse, hrv])))
      (fun i => [.val (.ref hp), .dat (.dict (dK (dSt b.st))), .dat (.dict (dK (dWt b.wt))), .dat (.dict (dK (dGn b.gn))), .dat (.int b.mark), .dat (dL (bodies 8 b)), .no, .no, .lst (cs5.map dL), .no, .no, .no, .dat (dI ((rv.take i).flatMap (mov Cd.num).pr)), .dat (dI front), .lst ((srt b.gn).map fun p => dI ((mov Cd.num).pr p)), .no, .no])
      (fun i => [.val (.ref hp), .dat (.dict (dK (dSt b.st))), .dat (.dict (dK (dWt b.wt))), .dat (.dict (dK (dGn b.gn))), .dat (.int b.mark), .dat (dL (bodies 8 b)), .no, .no, .lst (cs5.map dL), .no, .no, .no, .dat (dI ((rv.take i).flatMap (mov Cd.num).pr)), .dat (dI front), .lst ((srt b.gn).map fun p => dI ((mov Cd.num).pr p)), .no, .dat (nth (rv.map fun p => dI ((mov Cd.num).pr p)) i)])
      (fun H0 σ H I => I) (fun i hi => bg_name) ?_ ?_
    · intro H0' σ H hss i hi I
      rw [List.length_map] at hi
      have hg : rv[i]? = some rv[i] := List.getElem?_eq_getElem hi
      have hm : rv[i] ∈ rv := List.getElem_mem hi
      generalize rv[i] = p at hg hm
      rw [nth_map (fun p : Mov Int => dI ((mov Cd.num).pr p)) hg] at I
      have wp := g.gl (mrv p hm)
      have wi := wrv i
      refine st_set I (ed_op (ed_var rfl) (ed_var rfl) (od_catI (by omega))) fun σ H I => ?_
      have e : (rv.take (i + 1)).flatMap (mov Cd.num).pr = (rv.take i).flatMap (mov Cd.num).pr ++ (mov Cd.num).pr p := take_flat _ hg
      show SS _ H0' _ σ H _
      rw [e]
      exact I.drop 16
    · intro σ H12 I
      rw [List.length_map, List.take_length] at I
      have wr := wrv rv.length
      rw [List.take_length] at wr
      refine st_setTwice (d := dL (recs 8 b ++ [8 :: sealC.pr (b.mark, ((b.st.length : Int), (srt b.wt, rv)))])) I rfl (EvL.new (cat (EvL.rd (ini rfl)) (EvL.rd (one (EvS.is (ed_op (b := dI (rv.flatMap (mov Cd.num).pr)) (ed_op (b := dI [(b.gn.length : Int)]) (ed_op (a := dI front) (b := dI (movd item b.wt)) (ed_var rfl) (cm1 rfl) (od_catI (by omega))) (ed_tup' (ea_cons (lgn rfl) ea_nil) rfl) (od_catI (by simp only [List.length_append, List.length_singleton]; omega))) (ed_var rfl) (od_catI (by simp only [List.length_append, List.length_singleton]; omega))) ?_))) (by rw [List.length_singleton]; have := g.n8; omega))) (by rw [List.length_map]; have := hc5.2.2; omega) fun F7 σ H13 sF I => ?_
      · rw [eseal, movd_eq, srt_len, lrv, nc_small (n := (b.gn.length : Int)) (by omega)]
        simp only [List.append_assoc]
      · have gc : GC (recs 8 b ++ [8 :: sealC.pr (b.mark, ((b.st.length : Int), (srt b.wt, rv)))]) := g.c12 (fun p hp => mem_srt.mp hp) mrv (by rw [srt_len]; omega) (by omega) (.inr fun z => by
          have h := mov_rise g.n3
          rw [← hrv, List.pairwise_reverse] at z
          match hs : srt b.gn, hn with
          | p :: q :: r, _ =>
            rw [hs] at h z
            have h1 := (List.pairwise_cons.mp h).1 q List.mem_cons_self
            have h2 := (List.pairwise_cons.mp z).1 q List.mem_cons_self
            omega)
        exact k _ _ ⟨F7, cs5 ++ [_] ++ [_], (hc5.snoc gc).snoc gc, by
          rw [List.map_append, List.map_append, List.append_assoc]
          exact I.drop 12⟩
  rintro σ H11 ⟨F7, cs6, hc6, I⟩
  show tSeq _ _ _ _ _
  -- one gone
  refine sq_ifJ (p := (· = decide ((b.gn.length : Int) = 1))) (fun σ' H' => ∃ F' cs, CS 18 cs ∧ SS (rD hp l0) H F' σ' H' [.val (.ref hp), .dat (.dict (dK (dSt b.st))), .dat (.dict (dK (dWt b.wt))), .dat (.dict (dK (dGn b.gn))), .dat (.int b.mark), .dat (dL (bodies 8 b)), .no, .no, .lst (cs.map dL), .no, .no, .no, .no, .dat (dI front), .lst ((srt b.gn).map fun p => dI ((mov Cd.num).pr p)), .no, .no]) I (ebd_test (ed_op (lgn rfl) ed_int od_eqI)) ?_ (fun k e H8 I => ?_) (fun e H8 I => ⟨_, cs6, hc6.mono (by decide), I⟩)
  rotate_left
  · have hn : (srt b.gn).length = 1 := by
      have := of_decide_eq_true e.symm
      rw [srt_len]
      omega
    match hs : srt b.gn, hn with
    | [p0], _ =>
      have m0 : p0 ∈ b.gn := mem_srt.mp (by rw [hs]; exact List.mem_cons_self)
      have w0 := g.gl m0
      rw [hs] at I
      refine st_appC (c := recs 8 b ++ [8 :: sealC.pr (b.mark, ((b.st.length : Int), (srt b.wt, [p0, p0])))]) I rfl (EvL.new (cat (EvL.rd (ini rfl)) (EvL.rd (one (EvS.is (ed_op (b := dI ((mov Cd.num).pr p0)) (ed_op (b := dI ((mov Cd.num).pr p0)) (ed_op (b := dI [2]) (ed_op (a := dI front) (b := dI (movd item b.wt)) (ed_var rfl) (cm1 rfl) (od_catI (by omega))) e1 (od_catI (by simp only [List.length_append, List.length_singleton]; omega))) (ed_ixV rfl ed_int rfl) (od_catI (by simp only [List.length_append, List.length_singleton]; omega))) (ed_ixV rfl ed_int rfl) (od_catI (by simp only [List.length_append, List.length_singleton]; omega))) ?_))) (by rw [List.length_singleton]; have := g.n8; omega))) (g.c12 (fun p hp => mem_srt.mp hp) (fun p hp => ?_) (by rw [srt_len]; omega) (by simp) (.inr fun z => ?_)) hc6 (by decide) fun F6 H10 cs5 sF5 hc5 I => ?_
      · rw [eseal, movd_eq, srt_len]
        show dI _ = dI (front ++ _ ++ (nc 2 ++ ((mov Cd.num).pr p0 ++ ((mov Cd.num).pr p0 ++ []))))
        rw [n2]
        simp only [List.append_assoc, List.append_nil]
      · rcases List.mem_cons.mp hp with e | e
        · rw [e]; exact m0
        · rw [List.mem_singleton.mp e]; exact m0
      · have := (List.pairwise_cons.mp z).1 p0 List.mem_cons_self
        omega
      · exact k _ _ ⟨F6, cs5, hc5, by rw [hs]; exact I⟩
  rintro σ H12 ⟨F8, cs7, hc7, I⟩
  refine st_ret (P := fun d => ∃ X, d = dI X ∧ rdSnap X = none ∧ Cs X ∧ X.length ≤ 30000) I (es_call (PA := fun l => ∃ c, GC c ∧ l = [dL c]) (eas_cons (Pa := fun d => ∃ c, GC c ∧ d = dL c) (PB := (· = [])) ((es_pickV HI rfl rfl (by rw [List.length_map]; exact hc7.2.1) (by rw [List.length_map]; have := hc7.2.2; omega)).imp fun d hd => ?_) ea_nil (fun a l ⟨c, gc, e1⟩ e2 => ⟨c, gc, by rw [e1, e2]⟩)) (fun l ⟨c, gc, e⟩ => ?_)) fun v d H13 ⟨X, e, x1, x2, x3⟩ I m td => ?_
  · obtain ⟨c, hc, e⟩ := List.mem_map.mp hd
    exact ⟨c, hc7.1 c hc, e.symm⟩
  · subst e
    intro H vs i s fo t Q E q
    exact ⟨_, _, dI (joined c), s, t, ⟨c, rfl, by have := gc.jlen; omega, rfl⟩, fun v' H' s' t' => q v' _ H' ⟨_, rfl, gc.none, gc.jcs, gc.jlen⟩ (Mv.ofS i s') (Mv.of s') t'⟩
  · subst e
    exact q v X H13 x1 x2 x3 (td_ints td) I.inv I.rel
end
end NN
set_option Elab.async false
set_option linter.all false
set_option maxRecDepth 100000
set_option maxHeartbeats 4000000
/-! Data with dicts: read by the model, equal, shown. -/
namespace NN
open PySem PySem.Spec PyProof.Rows L2 NM
mutual
/-- no list lies within -/
def nl : PyData → Bool
  | .none | .bool _ | .int _ | .str _ => true
  | .tuple xs => nlAll xs
  | .list _ => false
  | .dict kvs => nlKv kvs
def nlAll : List PyData → Bool
  | [] => true
  | x :: xs => nl x && nlAll xs
def nlKv : List (PyData × PyData) → Bool
  | [] => true
  | p :: r => nl p.2 && nlKv r
end
section
variable {X : Cx} {pins : List (Addr × Obj)} {σ : L2.St} {H F : Hp} {s : Shared}
mutual
theorem TD.rd (I : Inv X pins σ H s) (f : Same F H) : ∀ {v : V} {d : PyData} {u : Value}, TD F H v d → nl d = true → RelV v u → ∃ as, Reads s.heap u d as ∧ sysModules ∉ as
  | _, _, _, .non, _, r => by cases r; exact ⟨_, .none, by simp⟩
  | _, _, _, .bl b, _, r => by cases r; exact ⟨_, .bool b, by simp⟩
  | _, _, _, .int i, _, r => by obtain ⟨t, rfl⟩ := r; exact ⟨_, .int i t, by simp⟩
  | _, _, _, .str x, _, r => by obtain ⟨t, rfl⟩ := r; exact ⟨_, .str x t, by simp⟩
  | _, _, _, .tup h q, e, r => by
    cases r
    obtain ⟨its, rv, hp, hz⟩ := I.tuple (.of h)
    obtain ⟨as, r1, r2⟩ := TDs.rd I f q (by simpa only [nl] using e) rv
    obtain ⟨o, ho, hc, n, hd⟩ := hp
    exact ⟨as, .tuple ho hc hd r1, r2⟩
  | _, _, _, .lst h q, e, r => by simp [nl] at e
  | _, _, _, .dct h q, e, r => by
    cases r
    obtain ⟨z, lo, vs, rel, o, es, ep, ho, hx, hd, hk, hp, hn⟩ := dk_of I.hok (f _ _ h)
    obtain ⟨as, bs, r1, r2, r3, r4⟩ := TKs.rd I f q (by simpa only [nl] using e) rel hp
    refine ⟨_, .dict ho hx.1 hd r1 r2, fun z => ?_⟩
    rcases List.mem_append.mp z with z | z
    · rcases List.mem_cons.mp z with z | z
      · rw [z] at lo
        simp at lo
      · exact r3 z
    · exact r4 z
theorem TDs.rd (I : Inv X pins σ H s) (f : Same F H) : ∀ {vs : List V} {ds : List PyData} {us : List Value}, TDs F H vs ds → nlAll ds = true → Vals vs us → ∃ as, ReadsAll s.heap us ds as ∧ sysModules ∉ as
  | _, _, _, .nil, _, r => by cases r; exact ⟨_, .nil, by simp⟩
  | _, _, _, .cons h q, e, r => by
    simp only [nlAll, Bool.and_eq_true] at e
    cases r with
    | cons r1 r2 =>
      obtain ⟨as, a1, a2⟩ := TD.rd I f h e.1 r1
      obtain ⟨bs, b1, b2⟩ := TDs.rd I f q e.2 r2
      exact ⟨_, .cons a1 b1, fun z => (List.mem_append.mp z).elim a2 b2⟩
theorem TKs.rd (I : Inv X pins σ H s) (f : Same F H) : ∀ {ks : List (Key × V)} {kvs : List (PyData × PyData)} {vs : List (Key × Value)} {es : List DictEntry}, TKs F H ks kvs → nlKv kvs = true → KV ks vs → Pairs (mixKind X.prog X.w) es vs →
    ∃ as bs, ReadsAll s.heap (es.map (·.key)) (kvs.map (·.1)) as ∧ ReadsAll s.heap (es.map (·.val)) (kvs.map (·.2)) bs ∧ sysModules ∉ as ∧ sysModules ∉ bs
  | _, _, _, _, .nil, _, rel, hp => by
    unfold KV at rel
    cases rel
    cases hp
    exact ⟨[], [], .nil, .nil, by simp, by simp⟩
  | _, _, _, _, .cons h q, e, rel, hp => by
    simp only [nlKv, Bool.and_eq_true] at e
    unfold KV at rel
    cases rel with
    | cons hr ht =>
      cases hp with
      | cons k1 k2 k3 =>
        obtain ⟨e1, e2⟩ := hr
        obtain ⟨as, bs, r1, r2, r3, r4⟩ := TKs.rd I f q e.2 ht k3
        obtain ⟨cs, c1, c2⟩ := TD.rd I f h e.1 e2
        rw [← e1] at k1
        rename_i k0 v0 _ _ _ _ _ e0 _
        have k1' : keyIs (Sum.inl k0) e0.key = true := k1
        rcases keyIs_shape k1' with ⟨i, t, z1, z2⟩ | ⟨x, t, z1, z2⟩
        · cases z1
          refine ⟨[] ++ as, cs ++ bs, .cons ?_ r1, .cons ?_ r2, by simpa using r3, fun z => (List.mem_append.mp z).elim c2 r4⟩
          · show Reads s.heap e0.key _ _
            rw [z2]
            exact .int _ _
          · show Reads s.heap e0.val _ _
            rw [k2]
            exact c1
        · cases z1
end
/-- equal data, no dict within -/
theorem eq_pl (I : Inv X pins σ H s) (f : Same F H) {A : Around} {x y : V} {d : PyData} {u z : Value} (hx : TD F H x d) (hy : TD F H y d) (hn : nl d = true) (hp : d.plain = true) (hd : d.depth ≤ 40) (r1 : RelV x u) (r2 : RelV y z) (hu : A.units + 50 < cLine) : SeqAt.EqAt A s u z true := by
  obtain ⟨as, ra, _⟩ := hx.rd I f hn r1
  obtain ⟨bs, rb, _⟩ := hy.rd I f hn r2
  have h := SeqAt.eqAt_plain d d A s u z as bs ra rb hp hp (by omega)
  rw [SeqAt.eqv_refl_plain d hp] at h
  exact h
/-- tables of the same entries, of data that are plain -/
structure EqL (l1 l2 : List (Int × PyData)) : Prop where
  len : l1.length = l2.length
  find : ∀ p ∈ l1, atK l2 p.1 = some p.2
  pl : ∀ p ∈ l1, nl p.2 = true ∧ p.2.plain = true ∧ p.2.depth ≤ 40
theorem eq_hits (I : Inv X pins σ H s) (f : Same F H) {A : Around} (hu : A.units + 50 < cLine) {l2 : List (Int × PyData)} {ls : List (Key × V)} {us : List (Key × Value)} (h2 : TKs F H ls (dK l2)) (r2 : KV ls us) :
    ∀ {l1 : List (Int × PyData)} {ks : List (Key × V)} {vs : List (Key × Value)}, TKs F H ks (dK l1) → KV ks vs → (∀ p ∈ l1, atK l2 p.1 = some p.2) → (∀ p ∈ l1, nl p.2 = true ∧ p.2.plain = true ∧ p.2.depth ≤ 40) → PySem.W.KeqHits A s us vs true
  | [], _, _, .nil, r, _, _ => by
    unfold KV at r
    cases r
    exact .nil
  | p :: l1, _, _, h, r, ha, hp => by
    obtain ⟨v, ks', rfl, h1, h3⟩ := h.inv1
    unfold KV at r
    cases r with
    | cons hr ht =>
      rename_i b r'
      obtain ⟨key, val⟩ := b
      obtain ⟨e1, e2⟩ := hr
      obtain ⟨y, y1, y2⟩ := h2.at (ha p List.mem_cons_self)
      have ro := r2.val (Sum.inl p.1)
      rw [y1] at ro
      obtain ⟨z, z1, z2⟩ := ro.some_of
      have e1' : Sum.inl p.1 = key := e1
      subst e1'
      obtain ⟨p1, p2, p3⟩ := hp p List.mem_cons_self
      have rest := eq_hits I f hu h2 r2 h3 ht (fun q hq => ha q (List.mem_cons_of_mem _ hq)) (fun q hq => hp q (List.mem_cons_of_mem _ hq))
      exact PySem.W.KeqHits.hit (e := true) (b := true) z1 (eq_pl I f h1 y2 p1 p2 p3 e2 z2 hu) rest
/-- the keys are ints: the same dict in any model -/
theorem dict_any {P P' : Program} {w w' : World} {h : Heap} {a : Addr} {vs : List (Key × Value)} (d : h.DictOf (mixKind P w) a vs) (hk : ∀ p ∈ vs, ∃ i, p.1 = Sum.inl i) : h.DictOf (mixKind P' w') a vs := by
  obtain ⟨o, es, ep, h1, h2, h3, hks, hps, hn⟩ := d
  have hps2 : ∀ {l : List DictEntry} {m : List (Key × Value)}, Pairs (mixKind P w) l m → Pairs (mixKind P' w') l m := fun {l m} q => by
    induction q with
    | nil => exact .nil
    | cons a b _ ih => exact .cons a b ih
  have mem : ∀ {l : List DictEntry} {m : List (Key × Value)}, Pairs (mixKind P w) l m → ∀ e ∈ l, ∃ p ∈ m, keyIs p.1 e.key = true := fun {l m} q => by
    induction q with
    | nil => intro e he; cases he
    | cons a b _ ih =>
      intro e he
      rcases List.mem_cons.mp he with z | z
      · rw [z]
        exact ⟨_, List.mem_cons_self, a⟩
      · obtain ⟨p, m1, m2⟩ := ih e z
        exact ⟨p, List.mem_cons_of_mem _ m1, m2⟩
  refine ⟨o, es, ep, h1, h2, h3, fun e he => ?_, hps2 hps, hn⟩
  obtain ⟨k, k1, k2⟩ := hks e he
  obtain ⟨p, p1, p2⟩ := mem hps e (by simpa using he)
  obtain ⟨i, hi⟩ := hk p p1
  have ek : k = p.1 := (mixKind P w).inj _ _ _ k1 p2
  rw [ek, hi] at k1 k2
  exact ⟨Sum.inl i, k1, k2⟩
theorem keys_inl {l : List (Int × PyData)} {ks : List (Key × V)} {vs : List (Key × Value)} (h : TKs F H ks (dK l)) (r : KV ks vs) : ∀ p ∈ vs, ∃ i, p.1 = Sum.inl i := fun p hp => by
  have e1 := r.keys
  rw [h.keys] at e1
  have : p.1 ∈ (l.map (·.1)).map (Sum.inl : Int → Key) := by
    rw [e1]
    exact List.mem_map_of_mem hp
  obtain ⟨i, _, e⟩ := List.mem_map.mp this
  exact ⟨i, e.symm⟩
theorem eq_dict (I : Inv X pins σ H s) (f : Same F H) {A : Around} {x y : V} {l1 l2 : List (Int × PyData)} {u z : Value} (hx : TD F H x (.dict (dK l1))) (hy : TD F H y (.dict (dK l2))) (E : EqL l1 l2) (r1 : RelV x u) (r2 : RelV y z) (hu : A.units + 60 < cLine) : SeqAt.EqAt A s u z true := by
  obtain ⟨a, ks, rfl, fa, ka⟩ := hx.of_dct
  obtain ⟨b, ls, rfl, fb, kb⟩ := hy.of_dct
  cases r1
  cases r2
  by_cases hab : a = b
  · subst hab
    exact SeqAt.EqAt.same _
  obtain ⟨_, ya, va, ra, da⟩ := dk_of I.hok (f _ _ fa)
  obtain ⟨_, yb, vb, rb, db⟩ := dk_of I.hok (f _ _ fb)
  have hl : va.length = vb.length := by rw [← ra.length, ← rb.length, ka.len, kb.len]; exact E.len
  refine SeqAt.EqAt.of_refs hab fun P w E' Q q => PySem.W.keq_eq (knd := mixKind P w) ya yb (dict_any da (keys_inl ka ra)) (dict_any db (keys_inl kb rb)) (by omega) (fun _ => eq_hits I f (by show A.units + 1 + 50 < cLine; omega) kb rb ka ra E.find E.pl) ?_
  rw [hl]
  simpa using q
/-- what lies side by side -/
inductive EqD : PyData → PyData → Prop
  | dct {l1 l2 : List (Int × PyData)} : EqL l1 l2 → EqD (.dict (dK l1)) (.dict (dK l2))
  | pl {d : PyData} : nl d = true → d.plain = true → d.depth ≤ 40 → EqD d d
theorem eq_any (I : Inv X pins σ H s) (f : Same F H) {A : Around} {x y : V} {d e : PyData} {u z : Value} (E : EqD d e) (hx : TD F H x d) (hy : TD F H y e) (r1 : RelV x u) (r2 : RelV y z) (hu : A.units + 60 < cLine) : SeqAt.EqAt A s u z true := by
  cases E with
  | dct E => exact eq_dict I f hx hy E r1 r2 hu
  | pl a b c => exact eq_pl I f hx hy a b c r1 r2 (by omega)
end
/-! ### operations -/
abbrev rEqK : R2 := fun x y H Q => ∃ F l1 l2, Same F H ∧ TD F H x (.dict (dK l1)) ∧ TD F H y (.dict (dK l2)) ∧ EqL l1 l2 ∧ Q (.bl true) H
abbrev rNeK : R2 := fun x y H Q => ∃ F l1 l2, Same F H ∧ TD F H x (.dict (dK l1)) ∧ TD F H y (.dict (dK l2)) ∧ EqL l1 l2 ∧ Q (.bl false) H
abbrev rNeT : R2 := fun x y H Q => ∃ F ds es, Same F H ∧ TD F H x (.tuple ds) ∧ TD F H y (.tuple es) ∧ ds.length = es.length ∧ (∀ (i : Nat) d e, ds[i]? = some d → es[i]? = some e → EqD d e) ∧ Q (.bl false) H
section
variable {X : Cx}
theorem op_eqK (hu : X.A.units + 64 < cLine) : OpR X (compareOp .Eq) rEqK := by
  intro pins s σ H x y v u Q I rx ry h
  obtain ⟨F, l1, l2, f, hx, hy, E, q⟩ := h
  obtain ⟨a, ks, rfl, fa, ka⟩ := hx.of_dct
  obtain ⟨b, ls, rfl, fb, kb⟩ := hy.of_dct
  cases rx
  cases ry
  obtain ⟨_, ya, va, ra, da⟩ := dk_of I.hok (f _ _ fa)
  obtain ⟨_, yb, vb, rb, db⟩ := dk_of I.hok (f _ _ fb)
  have hl : va.length = vb.length := by rw [← ra.length, ← rb.length, ka.len, kb.len]; exact E.len
  refine PySem.W.keq_eq (knd := mixKind X.prog X.w) ya yb da db (by omega) (fun _ => eq_hits I f (by show X.A.units + 1 + 50 < cLine; omega) kb rb ka ra E.find E.pl) ⟨.bl true, H, I, ?_, q⟩
  rw [hl]
  show _ = _
  simp
theorem op_neK (hu : X.A.units + 64 < cLine) : OpR X (compareOp .NotEq) rNeK := by
  intro pins s σ H x y v u Q I rx ry h
  obtain ⟨F, l1, l2, f, hx, hy, E, q⟩ := h
  obtain ⟨a, ks, rfl, fa, ka⟩ := hx.of_dct
  obtain ⟨b, ls, rfl, fb, kb⟩ := hy.of_dct
  cases rx
  cases ry
  obtain ⟨_, ya, va, ra, da⟩ := dk_of I.hok (f _ _ fa)
  obtain ⟨_, yb, vb, rb, db⟩ := dk_of I.hok (f _ _ fb)
  have hl : va.length = vb.length := by rw [← ra.length, ← rb.length, ka.len, kb.len]; exact E.len
  refine PySem.W.keq_ne (knd := mixKind X.prog X.w) ya yb da db (by omega) (fun _ => eq_hits I f (by show X.A.units + 1 + 50 < cLine; omega) kb rb ka ra E.find E.pl) ⟨.bl false, H, I, ?_, q⟩
  rw [hl]
  show _ = _
  simp
theorem vals_at : ∀ {vs : List V} {us : List Value}, Vals vs us → ∀ (j : Nat) (h : j < us.length), ∃ v, vs[j]? = some v ∧ RelV v us[j]
  | _, _, .nil, j, h => absurd h (Nat.not_lt_zero _)
  | _, _, .cons a _, 0, _ => ⟨_, rfl, a⟩
  | _, _, .cons _ b, j + 1, h => vals_at b j (Nat.lt_of_succ_lt_succ h)
theorem op_neTD (hu : X.A.units + 64 < cLine) : OpR X (compareOp .NotEq) rNeT := by
  intro pins s σ H x y v u Q I rx ry h
  obtain ⟨F, ds, es, f, hx, hy, hl, E, q⟩ := h
  obtain ⟨a, xs, rfl, fa, ka⟩ := hx.of_tup
  obtain ⟨b, ys, rfl, fb, kb⟩ := hy.of_tup
  cases rx
  cases ry
  obtain ⟨us, r1, p1, _⟩ := I.tuple (.of fa)
  obtain ⟨ws, r2, p2, _⟩ := I.tuple (.of fb)
  have e1 : us.toArray.size = ds.length := by rw [List.size_toArray, ← r1.length, ka.len]
  have e2 : ws.toArray.size = es.length := by rw [List.size_toArray, ← r2.length, kb.len]
  refine SeqAt.RcNeAt.tuples (e := fun _ => true) p1 p2 (by omega) (fun j h1 h2 => ?_) X.prog X.w _ _ ⟨.bl false, H, I, ?_, q⟩
  · rw [List.size_toArray] at h1 h2
    obtain ⟨v1, a1, b1⟩ := vals_at r1 j h1
    obtain ⟨v2, a2, b2⟩ := vals_at r2 j h2
    obtain ⟨d, c1, c2⟩ := ka.get' a1
    obtain ⟨e, c3, c4⟩ := kb.get' a2
    have h := eq_any I f (A := X.A.in1) (E j d e c1 c3) c2 c4 b1 b2 (by show X.A.units + 1 + 60 < cLine; omega)
    simpa using h
  · rw [e1, e2, hl]
    show _ = _
    simp
/-! ### repr -/
abbrev rRepr : List V → Hp → VK → Prop := fun xs H Q => ∃ F ds v, xs = [v] ∧ Same F H ∧ TD F H v (.tuple ds) ∧ nl (.tuple ds) = true ∧ (PyData.tuple ds).showable = true ∧ (PyData.tuple ds).depth ≤ 40 ∧ (PyData.tuple ds).shown.length ≤ sizeLine ∧ Q (.str (PyData.tuple ds).shown) H
theorem call_repr (hg : X.A.guards = some []) (hu : X.A.units + 64 < cLine) : CallR X (.builtin "repr") rRepr := by
  intro pins s σ H xs us Q I r h
  obtain ⟨F, ds, v, rfl, f, hv, hn, hs, hd, hz, q⟩ := h
  obtain ⟨u, rfl, rx⟩ := vals1 r
  obtain ⟨as, rd, nsm⟩ := hv.rd I f hn rx
  obtain ⟨a, vs, rfl, _, _⟩ := hv.of_tup
  cases rx
  exact repr_of_reads' rd hs (fun _ => nsm) hg (by omega) (fun _ _ e => e) (fun h' u tk hk => ⟨.str _, H, I.kept (t' := tk) hk, ⟨u, rfl⟩, q⟩) hz
end
end NN
set_option Elab.async false
set_option linter.all false
set_option maxRecDepth 100000
set_option maxHeartbeats 4000000
/-! What the law shows and compares: how deep, how long. -/
namespace NN
open PySem PySem.Spec PyProof.Rows L2 NM
theorem join_le (ts : List Str) : (Str.join ", " ts).length ≤ piled ts := by
  by_cases h : ts = []
  · subst h
    rw [piled_nil]
    exact Nat.le_refl _
  · have := join_length_add ts h
    omega
theorem piled_le {m : Nat} : ∀ ts : List Str, (∀ t ∈ ts, t.length ≤ m) → piled ts ≤ (m + 2) * ts.length
  | [], _ => Nat.le_refl _
  | t :: r, h => by
    have h1 := h t List.mem_cons_self
    have h2 := piled_le r fun x hx => h x (List.mem_cons_of_mem _ hx)
    rw [piled_cons, List.length_cons, Nat.mul_succ]
    omega
theorem tupT_le {m n : Nat} {ts : List Str} (h : ∀ t ∈ ts, t.length ≤ m) (hn : ts.length ≤ n) : (tupleText ts).length ≤ (m + 2) * n + 3 := by
  have h1 := join_le ts
  have h2 := piled_le ts h
  have h3 : (m + 2) * ts.length ≤ (m + 2) * n := Nat.mul_le_mul_left _ hn
  unfold tupleText
  rw [strLen_append, strLen_append]
  have e1 : ((("(" : Str)).length) = 1 := rfl
  have e2 : ((if (ts.length == 1) = true then ",)" else ")" : String) : Str).length ≤ 2 := by split <;> decide
  omega
theorem dicT_le {m n : Nat} {ts : List Str} (h : ∀ t ∈ ts, t.length ≤ m) (hn : ts.length ≤ n) : (dictText ts).length ≤ (m + 2) * n + 2 := by
  have h1 := join_le ts
  have h2 := piled_le ts h
  have h3 : (m + 2) * ts.length ≤ (m + 2) * n := Nat.mul_le_mul_left _ hn
  unfold dictText
  rw [strLen_append, strLen_append]
  have e1 : ((("{" : Str)).length) = 1 := rfl
  have e2 : ((("}" : Str)).length) = 1 := rfl
  omega
theorem sh_all : ∀ (xs : List PyData) (t : Str), t ∈ PyData.shownAll xs → ∃ x ∈ xs, t = x.shown
  | [], t, h => by simp [PyData.shownAll] at h
  | x :: r, t, h => by
    simp only [PyData.shownAll, List.mem_cons] at h
    rcases h with h | h
    · exact ⟨x, List.mem_cons_self, h⟩
    · obtain ⟨y, h1, h2⟩ := sh_all r t h
      exact ⟨y, List.mem_cons_of_mem _ h1, h2⟩
theorem sh_len : ∀ xs : List PyData, (PyData.shownAll xs).length = xs.length
  | [] => rfl
  | x :: r => by simp [PyData.shownAll, sh_len r]
theorem sh_kv : ∀ (xs : List (PyData × PyData)) (t : Str), t ∈ PyData.shownKv xs → ∃ x ∈ xs, t.length = x.1.shown.length + 2 + x.2.shown.length
  | [], t, h => by simp [PyData.shownKv] at h
  | (k, v) :: r, t, h => by
    simp only [PyData.shownKv, List.mem_cons] at h
    rcases h with h | h
    · refine ⟨_, List.mem_cons_self, ?_⟩
      rw [h, strLen_append, strLen_append]
      rfl
    · obtain ⟨y, h1, h2⟩ := sh_kv r t h
      exact ⟨y, List.mem_cons_of_mem _ h1, h2⟩
theorem sh_kvlen : ∀ xs : List (PyData × PyData), (PyData.shownKv xs).length = xs.length
  | [] => rfl
  | (k, v) :: r => by simp [PyData.shownKv, sh_kvlen r]
/-- small data without lists -/
structure Gn (m k : Nat) (d : PyData) : Prop where
  nl : nl d = true
  dep : d.depth ≤ k
  sh : d.showable = true
  len : d.shown.length ≤ m
theorem Gn.mono {m k m' k' : Nat} {d : PyData} (h : Gn m k d) (h1 : m ≤ m') (h2 : k ≤ k') : Gn m' k' d := ⟨h.nl, Nat.le_trans h.dep h2, h.sh, Nat.le_trans h.len h1⟩
theorem gn_all {m k : Nat} : ∀ {ds : List PyData}, (∀ d ∈ ds, Gn m k d) → nlAll ds = true ∧ PyData.depthAll ds ≤ k ∧ PyData.showableAll ds = true
  | [], _ => ⟨rfl, Nat.zero_le _, rfl⟩
  | d :: r, h => by
    obtain ⟨h1, h2, h3⟩ := gn_all (ds := r) fun x hx => h x (List.mem_cons_of_mem _ hx)
    have g := h d List.mem_cons_self
    refine ⟨?_, ?_, ?_⟩
    · simp only [nlAll, g.nl, h1, Bool.and_self]
    · simp only [PyData.depthAll]
      exact Nat.max_le.mpr ⟨g.dep, h2⟩
    · simp only [PyData.showableAll, g.sh, h3, Bool.and_self]
theorem Gn.tup {m k n : Nat} {ds : List PyData} (h : ∀ d ∈ ds, Gn m k d) (hn : ds.length ≤ n) : Gn ((m + 2) * n + 3) (k + 1) (.tuple ds) := by
  obtain ⟨h1, h2, h3⟩ := gn_all h
  refine ⟨by simpa only [NN.nl] using h1, ?_, by simpa only [PyData.showable] using h3, ?_⟩
  · simp only [PyData.depth]
    omega
  · simp only [PyData.shown]
    refine tupT_le (fun t ht => ?_) (by rw [sh_len]; exact hn)
    obtain ⟨x, hx, e⟩ := sh_all ds t ht
    rw [e]
    exact (h x hx).len
theorem ofS_len (x : String) : (Str.ofString x).length = x.length := PySem.ofString_length x
theorem Gn.int {i : Int} {j : Nat} (hj : 0 < j) (h : i.natAbs < 10 ^ j) (h2 : j ≤ 30) : Gn (j + 1) 0 (.int i) := by
  refine ⟨rfl, Nat.le_refl _, ?_, ?_⟩
  · simp only [PyData.showable]
    refine decide_eq_true ?_
    by_cases c : i.natAbs = 0
    · rw [c]
      decide
    · rw [Nat.log2_lt c]
      refine Nat.lt_of_lt_of_le h ?_
      refine Nat.le_trans (Nat.pow_le_pow_right (by decide) h2) ?_
      calc (10 : Nat) ^ 30 ≤ 2 ^ 100 := by decide
        _ ≤ 2 ^ 1920 := Nat.pow_le_pow_right (by decide) (by decide)
  · show (Str.ofString (toString i)).length ≤ j + 1
    rw [ofS_len]
    exact int_text_length_le10 hj h
theorem Gn.str {x : Str} (h : okName x) : Gn 82 0 (.str x) := by
  refine ⟨rfl, Nat.le_refl _, rfl, ?_⟩
  show (reprText x).length ≤ 82
  have h1 := PySem.StrLaws.reprText_len x fun c hc => Nat.lt_trans (h.2 c hc).2 (by decide)
  have := h.1.2
  omega
theorem gn_kv {m k : Nat} : ∀ {l : List (Int × PyData)}, (∀ p ∈ l, p.1.natAbs < 10 ^ 8 ∧ Gn m k p.2) → nlKv (dK l) = true ∧ PyData.depthKv (dK l) ≤ k ∧ PyData.showableKv (dK l) = true
  | [], _ => ⟨rfl, Nat.zero_le _, rfl⟩
  | p :: r, h => by
    obtain ⟨h1, h2, h3⟩ := gn_kv (l := r) fun x hx => h x (List.mem_cons_of_mem _ hx)
    obtain ⟨g0, g⟩ := h p List.mem_cons_self
    have gi := Gn.int (by decide) g0 (by decide)
    refine ⟨?_, ?_, ?_⟩
    · simp only [List.map_cons, nlKv, g.nl, h1, Bool.and_self]
    · have e0 : (PyData.int p.1).depth = 0 := rfl
      have g1 := g.dep
      simp only [List.map_cons, PyData.depthKv, e0]
      have h2' : PyData.depthKv (List.map (fun p : Int × PyData => (PyData.int p.1, p.2)) r) ≤ k := h2
      omega
    · simp only [List.map_cons, PyData.showableKv, gi.sh, g.sh, h3, Bool.and_self]
theorem Gn.dict {m k n : Nat} {l : List (Int × PyData)} (h : ∀ p ∈ l, p.1.natAbs < 10 ^ 8 ∧ Gn m k p.2) (hn : l.length ≤ n) : Gn ((m + 13) * n + 2) (k + 1) (.dict (dK l)) := by
  obtain ⟨h1, h2, h3⟩ := gn_kv h
  refine ⟨by simpa only [NN.nl] using h1, ?_, by simpa only [PyData.showable] using h3, ?_⟩
  · simp only [PyData.depth]
    omega
  · simp only [PyData.shown]
    have e : (m + 11 + 2) * n + 2 = (m + 13) * n + 2 := by rw [Nat.add_assoc]
    rw [← e]
    refine dicT_le (fun t ht => ?_) (by rw [sh_kvlen, List.length_map]; exact hn)
    obtain ⟨x, hx, e⟩ := sh_kv _ t ht
    obtain ⟨p, hp, rfl⟩ := List.mem_map.mp hx
    obtain ⟨g0, g⟩ := h p hp
    have gi := (Gn.int (by decide) g0 (by decide)).len
    have g1 := g.len
    rw [e]
    show (PyData.int p.1).shown.length + 2 + p.2.shown.length ≤ _
    omega
/-! ### the law's own data -/
theorem pl_map {α : Type} (g : α → PyData) (h : ∀ x, (g x).plain = true) : ∀ l : List α, PyData.plainAll (l.map g) = true
  | [] => rfl
  | x :: r => by simp only [List.map_cons, PyData.plainAll, h x, pl_map g h r, Bool.and_self]
theorem pl_dI (ns : List Int) : (dI ns).plain = true := by
  show PyData.plain (.tuple _) = true
  simp only [PyData.plain]
  exact pl_map _ (fun _ => rfl) ns
theorem pl_item (it : Item) : (dItem it).plain = true := by
  have h1 := pl_dI it.2.1
  have h2 : PyData.plainAll (it.2.2.map dLab) = true := pl_map _ (fun _ => rfl) _
  have h3 : (PyData.tuple (it.2.2.map dLab)).plain = true := by simp only [PyData.plain]; exact h2
  have e : (dItem it).plain = ((PyData.int it.1).plain && ((dI it.2.1).plain && ((PyData.tuple (it.2.2.map dLab)).plain && true))) := by
    unfold dItem
    simp only [PyData.plain, PyData.plainAll]
  rw [e, h1, h3]
  rfl
theorem gn_dI {ns : List Int} {j n : Nat} (hj : 0 < j) (h2 : j ≤ 30) (h : ∀ x ∈ ns, x.natAbs < 10 ^ j) (hn : ns.length ≤ n) : Gn ((j + 1 + 2) * n + 3) 1 (dI ns) := Gn.tup (fun d hd => by
  obtain ⟨x, hx, rfl⟩ := List.mem_map.mp hd
  exact Gn.int hj (h x hx) h2) (by rw [List.length_map]; exact hn)
theorem gn_item {it : Item} (h : gJ it) : Gn 1300 4 (dItem it) := by
  obtain ⟨key, p, k0, k1, hp, g⟩ := h
  have ek := g.k
  have a : Gn 420 3 (.int it.1) := (Gn.int (j := 8) (by decide) (by rw [ek]; omega) (by decide)).mono (by decide) (by decide)
  have b : Gn 420 3 (dI it.2.1) := (gn_dI (j := 5) (n := 8) (by decide) (by decide) (fun x hx => by have := g.v1 x hx; omega) (by rw [g.l1]; exact hp)).mono (by decide) (by decide)
  have c : Gn 420 3 (.tuple (it.2.2.map dLab)) := (Gn.tup (m := 180) (k := 1) (n := 2) (fun d hd => by
    obtain ⟨y, hy, rfl⟩ := List.mem_map.mp hd
    have hok := (g.ok.2.2.1 y hy).1
    have hv := g.v2 y hy
    refine (Gn.tup (m := 82) (k := 0) (n := 2) (ds := [.str y.1, .int y.2]) (fun e he => ?_) (Nat.le_refl _)).mono (by decide) (by decide)
    rcases List.mem_cons.mp he with z | z
    · rw [z]
      exact Gn.str hok
    · rw [List.mem_singleton.mp z]
      exact (Gn.int (j := 10) (by decide) (by omega) (by decide)).mono (by decide) (by decide)) (by rw [List.length_map]; exact g.l2)).mono (by decide) (by decide)
  refine (Gn.tup (m := 420) (k := 3) (n := 3) (ds := [.int it.1, dI it.2.1, .tuple (it.2.2.map dLab)]) (fun d hd => ?_) (Nat.le_refl _)).mono (by decide) (by decide)
  simp only [List.mem_cons, List.not_mem_nil, or_false] at hd
  rcases hd with z | z | z
  · rw [z]; exact a
  · rw [z]; exact b
  · rw [z]; exact c
section
variable {b : Bk} (g : gB b)
include g
theorem gB.kSt {p : Int × Item} (hp : p ∈ b.st) : p.1.natAbs < 10 ^ 8 := by
  obtain ⟨e, key, q, k0, k1, _, h⟩ := g.st p hp
  have := h.k
  omega
theorem gB.gSt : Gn 30000 5 (.dict (dK (dSt b.st))) := (Gn.dict (m := 1300) (k := 4) (n := 21) (fun p hp => by
  obtain ⟨q, hq, rfl⟩ := List.mem_map.mp hp
  exact ⟨g.kSt hq, gn_item (g.st q hq).2⟩) (by unfold dSt; rw [List.length_map]; exact g.l1)).mono (by decide) (by decide)
theorem gB.vWt {p : Mov Item} (hp : p ∈ b.wt) : Gn 6000 6 (.tuple [.int p.2.1, .tuple (p.2.2.map dItem)]) := by
  obtain ⟨_, ⟨h1, h2⟩, ⟨_, h3⟩, h4⟩ := g.wt p hp
  refine (Gn.tup (m := 2700) (k := 5) (n := 2) (fun d hd => ?_) (Nat.le_refl _)).mono (by decide) (by decide)
  rcases List.mem_cons.mp hd with z | z
  · rw [z]
    exact (Gn.int (j := 3) (by decide) (by omega) (by decide)).mono (by decide) (by decide)
  · rw [List.mem_singleton.mp z]
    exact (Gn.tup (m := 1300) (k := 4) (n := 2) (fun d hd => by
      obtain ⟨it, hit, rfl⟩ := List.mem_map.mp hd
      exact gn_item (h4 it hit)) (by rw [List.length_map]; exact h3)).mono (by decide) (by decide)
theorem gB.vGn {p : Mov Int} (hp : p ∈ b.gn) : Gn 200 2 (.tuple [.int p.2.1, dI p.2.2]) := by
  obtain ⟨_, ⟨h1, h2⟩, ⟨_, h3⟩, h4⟩ := g.gn p hp
  refine (Gn.tup (m := 40) (k := 1) (n := 2) (fun d hd => ?_) (Nat.le_refl _)).mono (by decide) (by decide)
  rcases List.mem_cons.mp hd with z | z
  · rw [z]
    exact (Gn.int (j := 3) (by decide) (by omega) (by decide)).mono (by decide) (by decide)
  · rw [List.mem_singleton.mp z]
    exact (gn_dI (j := 8) (n := 3) (by decide) (by decide) (fun k hk => by have := h4 k hk; omega) h3).mono (by decide) (by decide)
theorem gB.gWt : Gn 30000 7 (.dict (dK (dWt b.wt))) := (Gn.dict (m := 6000) (k := 6) (n := 2) (fun p hp => by
  obtain ⟨q, hq, rfl⟩ := List.mem_map.mp hp
  exact ⟨by have := (g.wt q hq).1; show q.1.natAbs < _; omega, g.vWt hq⟩) (by unfold dWt; rw [List.length_map]; exact g.l2)).mono (by decide) (by decide)
theorem gB.gGn : Gn 30000 7 (.dict (dK (dGn b.gn))) := (Gn.dict (m := 200) (k := 2) (n := 3) (fun p hp => by
  obtain ⟨q, hq, rfl⟩ := List.mem_map.mp hp
  exact ⟨by have := (g.gn q hq).1; show q.1.natAbs < _; omega, g.vGn hq⟩) (by unfold dGn; rw [List.length_map]; exact g.l3)).mono (by decide) (by decide)
theorem gB.gMk : Gn 30000 7 (.int b.mark) := (Gn.int (j := 9) (by decide) (by have := g.mk0; omega) (by decide)).mono (by decide) (by decide)
theorem gB.gAll : Gn 200000 8 (.tuple [.dict (dK (dSt b.st)), .dict (dK (dWt b.wt)), .dict (dK (dGn b.gn)), .int b.mark]) := (Gn.tup (m := 30000) (k := 7) (n := 4) (fun d hd => by
  simp only [List.mem_cons, List.not_mem_nil, or_false] at hd
  rcases hd with e | e | e | e
  · rw [e]; exact g.gSt.mono (by decide) (by decide)
  · rw [e]; exact g.gWt
  · rw [e]; exact g.gGn
  · rw [e]; exact g.gMk) (Nat.le_refl _)).mono (by decide) (by decide)
end
theorem gn_cells {X : List Int} (h : Cs X) (hl : X.length ≤ 30000) : Gn 200000 1 (dI X) := (gn_dI (j := 3) (n := 30000) (by decide) (by decide) (fun x hx => by have := h x hx; omega) hl).mono (by decide) (by decide)
/-! ### equal tables -/
theorem eqL_of {l1 l2 : List (Int × PyData)} (hp : l1.Perm l2) (hn : (l2.map (·.1)).Nodup) (g : ∀ p ∈ l2, nl p.2 = true ∧ p.2.plain = true ∧ p.2.depth ≤ 40) : EqL l1 l2 :=
  ⟨hp.length_eq, fun p h => atK_of hn (hp.mem_iff.mp h), fun p h => g p (hp.mem_iff.mp h)⟩
theorem perm_srt {α β : Type} (g : α → β) (t : List (Int × α)) : ((srt t).map fun p => (p.1, g p.2)).Perm (t.map fun p => (p.1, g p.2)) := (List.mergeSort_perm t _).map _
section
variable {b : Bk} (g : gB b)
include g
theorem gB.eSt : EqL (dSt (srt b.st)) (dSt b.st) := eqL_of (perm_srt dItem b.st) (by unfold dSt; rw [List.map_map]; exact g.n1) fun p hp => by
  obtain ⟨q, hq, rfl⟩ := List.mem_map.mp hp
  have := gn_item (g.st q hq).2
  exact ⟨this.nl, pl_item _, by have := this.dep; show (dItem q.2).depth ≤ 40; omega⟩
theorem gB.eWt : EqL (dWt (srt b.wt)) (dWt b.wt) := eqL_of (perm_srt (fun q : Int × List Item => PyData.tuple [.int q.1, .tuple (q.2.map dItem)]) b.wt) (by unfold dWt; rw [List.map_map]; exact g.n2) fun p hp => by
  obtain ⟨q, hq, rfl⟩ := List.mem_map.mp hp
  have h := g.vWt hq
  refine ⟨h.nl, ?_, by have := h.dep; show (PyData.tuple [.int q.2.1, .tuple (q.2.2.map dItem)]).depth ≤ 40; omega⟩
  show PyData.plain (.tuple [.int q.2.1, .tuple (q.2.2.map dItem)]) = true
  simp only [PyData.plain, PyData.plainAll, pl_map dItem pl_item, Bool.and_self]
theorem gB.eGn : EqL (dGn (srt b.gn)) (dGn b.gn) := eqL_of (perm_srt (fun q : Int × List Int => PyData.tuple [.int q.1, dI q.2]) b.gn) (by unfold dGn; rw [List.map_map]; exact g.n3) fun p hp => by
  obtain ⟨q, hq, rfl⟩ := List.mem_map.mp hp
  have h := g.vGn hq
  refine ⟨h.nl, ?_, by have := h.dep; show (PyData.tuple [.int q.2.1, dI q.2.2]).depth ≤ 40; omega⟩
  show PyData.plain (.tuple [.int q.2.1, dI q.2.2]) = true
  have := pl_dI q.2.2
  simp only [PyData.plain, PyData.plainAll] at this ⊢
  simp only [this, Bool.and_self]
theorem gB.snap_cs : Cs (snap b) := joined_cs fun x hx => (g.b8 x hx).1
theorem gB.snap_len : (snap b).length ≤ 9000 := by
  have h1 := joined_len (c := bodies 8 b) (m := 1100) fun x hx => (g.bs (by decide) x hx).2
  have h2 := g.bl
  show (joined (bodies 8 b)).length ≤ 9000
  omega
theorem gB.rd : rdSnap (snap b) = some (canon b) := rdSnap_snap g.nb.ok g.nb.key
end
/-! ### two small books -/
def bkOne : Bk := ⟨[(5, (5, ([1], [])))], [], [], 2⟩
def bkNil : Bk := ⟨[], [], [], 0⟩
theorem snap_one : snap bkOne = [6, 7, 1, 5, 1, 2, 0, 38, 5, 8, 2, 1, 0, 0, 15] := by
  have e0 : (srt ([(5, (5, ([1], [])))] : List (Int × Item))) = [(5, (5, ([1], [])))] := by unfold srt; simp
  have e1 : srt ([] : List (Mov Item)) = [] := by unfold srt; simp
  have e2 : srt ([] : List (Mov Int)) = [] := by unfold srt; simp
  have n0 : nc 0 = [0] := nc_small (by decide)
  have n1 : nc 1 = [1] := nc_small (by decide)
  have n2 : nc 2 = [2] := nc_small (by decide)
  have n5 : nc 5 = [5] := nc_small (by decide)
  have n6 : nc 6 = [6] := nc_small (by decide)
  have r1 : recB [(5, ([1], []))] = [7, 1, 5, 1, 2, 0] := by
    show [7] ++ (nc 1 ++ ((nc 5 ++ ((nc 1 ++ (nc 2 ++ [])) ++ (nc 0 ++ []))) ++ [])) = _
    rw [n0, n1, n2, n5]
    rfl
  have s1 : sealB bkOne = [8, 2, 1, 0, 0] := by
    show 8 :: (nc 2 ++ (nc 1 ++ (movd item [] ++ movd Cd.num []))) = _
    rw [movd_eq, movd_eq, e1, e2]
    show 8 :: (nc 2 ++ (nc 1 ++ ((nc 0 ++ []) ++ (nc 0 ++ [])))) = _
    rw [n0, n1, n2]
    rfl
  have b1 : bodies 8 bkOne = [[7, 1, 5, 1, 2, 0], [8, 2, 1, 0, 0]] := by
    unfold bodies recs
    rw [s1]
    show (chk 8 ((srt [(5, (5, ([1], [])))]).map (·.2))).map recB ++ _ = _
    rw [e0]
    show [recB [(5, ([1], []))]] ++ _ = _
    rw [r1]
    rfl
  unfold snap joined
  rw [b1]
  show (nc 6 ++ ([7, 1, 5, 1, 2, 0] ++ [38])) ++ ((nc 5 ++ ([8, 2, 1, 0, 0] ++ [15])) ++ []) = _
  rw [n6, n5]
  rfl
theorem snap_nil : snap bkNil = [5, 8, 0, 0, 0, 0, 8] := by
  have e0 : srt ([] : List (Int × Item)) = [] := by unfold srt; simp
  have e1 : srt ([] : List (Mov Item)) = [] := by unfold srt; simp
  have e2 : srt ([] : List (Mov Int)) = [] := by unfold srt; simp
  have n0 : nc 0 = [0] := nc_small (by decide)
  have n5 : nc 5 = [5] := nc_small (by decide)
  have s1 : sealB bkNil = [8, 0, 0, 0, 0] := by
    show 8 :: (nc 0 ++ (nc 0 ++ (movd item [] ++ movd Cd.num []))) = _
    rw [movd_eq, movd_eq, e1, e2]
    show 8 :: (nc 0 ++ (nc 0 ++ ((nc 0 ++ []) ++ (nc 0 ++ [])))) = _
    rw [n0]
    rfl
  have b1 : bodies 8 bkNil = [[8, 0, 0, 0, 0]] := by
    unfold bodies recs
    rw [s1]
    show (chk 8 ((srt []).map (·.2))).map recB ++ _ = _
    rw [e0]
    rfl
  unfold snap joined
  rw [b1]
  show (nc 5 ++ ([8, 0, 0, 0, 0] ++ [8])) ++ [] = _
  rw [n5]
  rfl
theorem rd_one : rdSnap [6, 7, 1, 5, 1, 2, 0, 38, 5, 8, 2, 1, 0, 0, 15] = some bkOne := by
  rw [← snap_one]
  have h := rdSnap_snap (b := bkOne) ⟨by decide, by decide, by decide, fun p hp => ?_, fun p hp => (by cases hp), fun p hp => (by cases hp), by decide⟩ (fun p hp => by rw [List.mem_singleton.mp hp])
  · rw [h]
    have e0 : (srt ([(5, (5, ([1], [])))] : List (Int × Item))) = [(5, (5, ([1], [])))] := by unfold srt; simp
    have e1 : srt ([] : List (Mov Item)) = [] := by unfold srt; simp
    have e2 : srt ([] : List (Mov Int)) = [] := by unfold srt; simp
    show some (Bk.mk (srt _) (srt _) (srt _) 2) = _
    unfold bkOne
    rw [e0, e1, e2]
  · rw [List.mem_singleton.mp hp]
    exact ⟨show (0 : Int) ≤ 5 by decide, fun _ _ => trivial, fun p hp => (by cases hp), rfl⟩
theorem rd_nil : rdSnap [] = none := by
  have h : NM.frs [] = some ([], []) := frs_end nxt_nil
  unfold rdSnap rdBook
  rw [h]
  simp
theorem ok_nil : okB bkNil := ⟨by decide, by decide, by decide, fun p hp => (by cases hp), fun p hp => (by cases hp), fun p hp => (by cases hp), by decide⟩
end NN
set_option Elab.async false
set_option linter.all false
set_option maxRecDepth 100000
set_option maxHeartbeats 4000000
namespace NN
open PySem PySem.Spec PyProof.Rows L2 NM
local macro_rules | `(tactic| walk_at "ev") => `(tactic| ((fail_if_success (first | with_reducible apply gd1 | with_reducible apply gd2 | with_reducible apply gd3 | with_reducible apply gd4 | with_reducible apply gd5)); first
  | with_reducible exact ed_int | with_reducible exact ed_str | with_reducible exact ed_bl | with_reducible exact ed_non
  | ((with_reducible apply ed_var); rfl) | ((with_reducible apply er_var); rfl)
  | with_reducible exact ea_nil | ((with_reducible apply ea_cons) <;> walk_at "ev")
  | with_reducible exact od_int | with_reducible exact od_bool | exact od_intC (by decide) | exact od_intC ⟨by decide, by decide⟩ | exact od_intC (.inl ⟨by decide, by decide⟩) | with_reducible exact ud_int | with_reducible exact od_eqI | with_reducible exact od_neI | with_reducible exact od_strLt | with_reducible exact od_ip
  | ((with_reducible apply ed_op) <;> walk_at "ev")
  | ((with_reducible apply ed_un) <;> walk_at "ev")
  | ((with_reducible apply ed_tup') <;> walk_at "ev")
  | ((with_reducible apply el_lst') <;> walk_at "ev")
  | ((with_reducible apply ebd_test) <;> walk_at "ev")
  | ((with_reducible apply ebd_val) <;> walk_at "ev")
  | ((with_reducible refine ed_lenT ?_) <;> walk_at "ev")
  | ((with_reducible apply ed_lenR) <;> walk_at "ev")
  | ((with_reducible apply ed_tupleR) <;> walk_at "ev")
  | ((with_reducible apply EvL.rd) <;> walk_at "ev")
  | with_reducible exact eo_none
  | ((with_reducible apply eo_some) <;> walk_at "ev")
  | ((with_reducible apply ed_slT) <;> walk_at "ev")
  | ((with_reducible apply ebd_not) <;> walk_at "ev")
  | ((with_reducible apply ei_tup) <;> walk_at "ev")
  | rfl
  | skip))
section
variable {P : Program} {w : World} {K : PySem.W.Frag} {mg : Str → Option Value} {base : Heap}
section
variable {ρ : Rl} {F F' H0 H H' H1 H2 : Hp} {σ : L2.St} {Γ : List Ty} {te ta tb tk tv : TE} {tr : TA} {tt : TT} {D : Ends} {u ts : TS} {d a b : PyData} {E : XK} {C : Addr}
/-! calls by a keyword -/
def tKw (sp : Sp) (te : TE) : TE := fun σ H Q => te σ H fun v H1 => sp [v] H1 Q E0
theorem pe_gK {X : Cx} {k : Nat} {x nm : Str} {st : Stmt} {sp : Sp} {e : Expr} {p pos kpos : Pos} (G : Gf X.prog X.w X.K X.mg X.base k x [nm] sp) (D : Df X.K X.mg x st [nm]) (hr : Room k X.A) (he : PE X e te)
    (hb : ∀ (kV doc pm : Value) (an : Option Addr) (cdv ct v : Value), bindArgs (PySem.W.fnOf x x (defArgs st) (defBody st) (defScope st) .none kV doc pm an cdv ct) ⟨[], [(nm, v)]⟩ = pure [(nm, v)])
    (hb1 : ∀ (kV doc pm : Value) (an : Option Addr) (cdv ct v : Value), bindArgs (PySem.W.fnOf x x (defArgs st) (defBody st) (defScope st) .none kV doc pm an cdv ct) ⟨[v], []⟩ = pure [(nm, v)])
    (hg : Gl X x := by rfl) (hdb : (x == ("__debug__" : Str)) = false := by decide) (hall : (backToKw pos (keywordEach [⟨some nm, e, kpos⟩] X.env)).all (·.1.isSome) = true := by rfl) (hks : (backToKw pos (keywordEach [⟨some nm, e, kpos⟩] X.env)).filterMap (·.1) = [nm] := by rfl)
    (hpl : ((backTo pos (starEach [] X.env)).any (·.1) || (backToKw pos (keywordEach [⟨some nm, e, kpos⟩] X.env)).any (·.1.isNone)) = false := by rfl) :
    PE X (.Call (.Name x p) [] [⟨some nm, e, kpos⟩] pos) (tKw sp te) := by
  obtain ⟨f, fd, Fo, hm, hk, _, st2, F2⟩ := G
  obtain ⟨f', fd', F1, hm', _⟩ := D
  rw [hm] at hm'
  cases hm'
  obtain ⟨_, _, _, _, _, _, _, _, _, _, l2, _⟩ := F2.ex
  obtain ⟨_, _, kV, doc, pm, an, cdv, ct, _, e1, l1, _⟩ := F1.ex
  have ef : fd = fd' := by
    rw [l1] at l2
    cases l2
    rfl
  subst ef
  have KB : KBinds X.K fd [nm] [nm] (fun us ws => us ++ ws) (fun vs zs => vs ++ zs) := by
    refine ⟨fun s us ws _ hl => ?_, fun r1 r2 => r1.append r2⟩
    rw [e1]
    match us, ws, hl with
    | [v], [], _ => exact .of_eq (hb1 _ _ _ _ _ _ v)
    | [], [v], _ => exact .of_eq (hb _ _ _ _ _ _ v)
    | [], [], hl => simp at hl
    | _ :: _ :: _, _, hl => simp at hl
    | [_], _ :: _, hl => simp at hl
    | [], _ :: _ :: _, hl => simp at hl
  refine ⟨fun pins s σ H Q I h => ?_⟩
  refine wpAny_Call_Name_kw (ld_glob I hg hm ?_ hdb)
  have h2 : (tCons te tNil) σ H (fun zs H2 => sp ([] ++ zs) H2 Q E0) := h
  refine PySem.W.callWith_KW0 I.mod.kin hk hall (thn ((pk_cons he pk_nil).run pos pins s σ H _ I h2) fun ws s2 ⟨zs, H2, I2, rz, q2⟩ => ⟨I2.kIn, ?_⟩) hpl
  rw [hks]
  exact run_fnk Fo hr KB pass0 I2 .nil rz q2
/-! readings -/
theorem ed_lenSq {i : Nat} {a : Addr} {ns : List Int} (hs : SqL K F a (ns.map V.int)) (hi : Γ[i]? = some (.val (.ref a))) : EvD ρ F (tCB (rLen K) (tCons (tVar i) tNil)) Γ (.int ns.length) := fun H0 σ H I Q q =>
  ⟨_, I.val hi, a, ns.map V.int, rfl, .inl (sqlKeep I.sf hs), by rw [List.length_map]; exact q _ _ H rfl I (Mv.refl ρ H) (.int _)⟩
theorem ed_repr {m k : Nat} {ds : List PyData} (h : EvD ρ F ta Γ (.tuple ds)) (g : Gn m k (.tuple ds)) (hm : m ≤ 1000000) (hk : k ≤ 40) : EvD ρ F (tCB rRepr (tCons ta tNil)) Γ (.str (PyData.tuple ds).shown) := fun H0 σ H I Q q =>
  h H0 σ H I _ fun v d H1 e I1 m1 t1 => by
    subst e
    exact ⟨F, ds, v, rfl, I1.sf, t1, g.nl, g.sh, Nat.le_trans g.dep hk, Nat.le_trans g.len (sz (by omega)), q _ _ H1 rfl I1 m1 (.str _)⟩
/-- what is read is a book -/
theorem eo_rd {cs : List Int} {bk : Bk} (h : EvA ρ F tr Γ (· = [dI cs])) (hc : Cs cs) (hl : cs.length ≤ 30000) (e : rdSnap cs = some bk) : EvOb ρ F C (tCall (spSN C) [] E tr) Γ (· = dBk bk) := fun H0 σ H I Q q =>
  h H0 σ H I _ fun vs ds H1 pd I1 m1 t1 => by
    subst pd
    show spSN C (vs ++ []) H1 Q E
    rw [List.append_nil]
    refine ⟨F, cs, I1.sf, t1, hc, hl, fun z => (by rw [e] at z; cases z), fun bk' z v H' s ob => ?_⟩
    rw [e] at z
    cases z
    exact q v _ H' rfl (I1.same s) (m1.trans (Mv.of s)) (ob.mono (fz_big I I1 (I1.same s) m1 (Mv.refl ρ H')) (Tu.refl H'))
theorem ed_rd0 {cs : List Int} (h : EvA ρ F tr Γ (· = [dI cs])) (hc : Cs cs) (hl : cs.length ≤ 30000) (e : rdSnap cs = none) : EvD ρ F (tCall (spSN C) [] E tr) Γ .none := fun H0 σ H I Q q =>
  h H0 σ H I _ fun vs ds H1 pd I1 m1 t1 => by
    subst pd
    show spSN C (vs ++ []) H1 Q E
    rw [List.append_nil]
    exact ⟨F, cs, I1.sf, t1, hc, hl, fun _ H' s => q .non _ H' rfl (I1.same s) (m1.trans (Mv.of s)) .non, fun bk z => by rw [e] at z; cases z⟩
theorem eo_rdK {cs : List Int} {bk : Bk} (h : EvD ρ F te Γ (dI cs)) (hc : Cs cs) (hl : cs.length ≤ 30000) (e : rdSnap cs = some bk) : EvOb ρ F C (tKw (spSN C) te) Γ (· = dBk bk) := eo_rd (E := E0) (tr := tCons te tNil) (ea_cons h ea_nil) hc hl e
/-- a book's cells -/
theorem ed_scO {bk : Bk} (h : EvOb ρ F C ta Γ (· = dBk bk)) (o1 : okB bk) (o2 : (snap bk).length ≤ 600000) (o3 : bk.st.length ≤ 100000) : EvD ρ F (tCall (spSC C) [] E (tCons ta tNil)) Γ (dI (snap bk)) := fun H0 σ H I Q q =>
  h H0 σ H I _ fun v fs H1 e I1 m1 ob => by
    subst e
    have IA := I.frzA I1
    exact ⟨fz F H H1, v, [], bk, (), rfl, IA.sf, ob, .nil, ⟨o1, o2, o3⟩, fun v' H' s t => q v' _ H' rfl (I1.same s) (m1.trans (Mv.of s)) (td_ints t)⟩
theorem eo_var {i : Nat} {fs : List (Str × PyData)} (hi : Γ[i]? = some (.obj C fs)) : EvOb ρ F C (tVar i) Γ (· = fs) := fun H0 σ H I Q q => by
  obtain ⟨v, e, o⟩ := I.has i _ hi (fun z => by cases z)
  exact ⟨v, e, q v _ H rfl I (Mv.refl ρ H) (ObjD.mono (fz_same I.sf) (Tu.refl H) o)⟩
theorem ed_sc {i : Nat} {bk : Bk} (hi : Γ[i]? = some (.obj C (dBk bk))) (o1 : okB bk) (o2 : (snap bk).length ≤ 600000) (o3 : bk.st.length ≤ 100000) : EvD ρ F (tCall (spSC C) [] E (tCons (tVar i) tNil)) Γ (dI (snap bk)) := ed_scO (eo_var hi) o1 o2 o3
theorem ed_scK {i : Nat} {bk : Bk} (hi : Γ[i]? = some (.obj C (dBk bk))) (o1 : okB bk) (o2 : (snap bk).length ≤ 600000) (o3 : bk.st.length ≤ 100000) : EvD ρ F (tKw (spSC C) (tVar i)) Γ (dI (snap bk)) := ed_sc (E := E0) hi o1 o2 o3
/-- a new object's field -/
theorem en_fld {fs : List (Str × PyData)} {f : Str} (h : EvOb ρ F C ta Γ (· = fs)) (hc : Cls K C) (hn : NoAttr K C f) (hl : List.lookup f fs = some d) : EvN ρ F (tFld K ta f) Γ (· = d) := fun H0 σ H I Q q =>
  h H0 σ H I _ fun v fs' H1 e I1 m1 ob => by
    subst e
    obtain ⟨b, dx, vs, rfl, h1, h2⟩ := ob
    obtain ⟨y, l1, l2⟩ := h2.at hl
    exact ⟨b, C, dx, vs, y, rfl, ((I.frzA I1).fr b _ h1).1, hc, hn, l1, q y d H1 rfl I1 m1 l2⟩
/-- the same cells, no data within: any F -/
theorem es_opN {r : R2} {P : PyData → Prop} (ha : EvN ρ F ta Γ (· = a)) (hb : EvN ρ F tb Γ (· = b)) (ho : ∀ F', OpD F' r a b (· = .bool true)) : EvD ρ F (tOp r ta tb) Γ (.bool true) := fun H0 σ H I Q q =>
  ha H0 σ H I _ fun x xd H1 e1 I1 m1 t1 => hb H0 σ H1 I1 _ fun y yd H2 e2 I2 m2 t2 => by
    subst e1; subst e2
    refine ho (fz F H H2) H2 x y (I.frzA I2).sf (t1.mono (fz_big I I I1 (Mv.refl ρ H) m2) (m2.tu I1.inv)) (t2.mono (fz_big I I1 I2 m1 (Mv.refl ρ H2)) (Tu.refl H2)) Q fun v d H3 pd s t3 => ?_
    subst pd
    cases t3
    exact q _ _ H3 rfl (I2.same s) ((m1.trans m2).trans (Mv.of s)) (.bl true)
theorem es_opN0 {r : R2} {P : PyData → Prop} (ha : EvN ρ F ta Γ (· = a)) (hb : EvN ρ F tb Γ (· = b)) (ho : ∀ F', OpD F' r a b (· = .bool false)) : EvD ρ F (tOp r ta tb) Γ (.bool false) := fun H0 σ H I Q q =>
  ha H0 σ H I _ fun x xd H1 e1 I1 m1 t1 => hb H0 σ H1 I1 _ fun y yd H2 e2 I2 m2 t2 => by
    subst e1; subst e2
    refine ho (fz F H H2) H2 x y (I.frzA I2).sf (t1.mono (fz_big I I I1 (Mv.refl ρ H) m2) (m2.tu I1.inv)) (t2.mono (fz_big I I1 I2 m1 (Mv.refl ρ H2)) (Tu.refl H2)) Q fun v d H3 pd s t3 => ?_
    subst pd
    cases t3
    exact q _ _ H3 rfl (I2.same s) ((m1.trans m2).trans (Mv.of s)) (.bl false)
theorem od_neK {l1 l2 : List (Int × PyData)} (h : EqL l1 l2) : OpD F rNeK (.dict (dK l1)) (.dict (dK l2)) (· = .bool false) := fun H x y s ha hb Q q => ⟨F, l1, l2, s, ha, hb, h, q _ _ H rfl (Same.refl H) (.bl false)⟩
theorem od_eqK {l1 l2 : List (Int × PyData)} (h : EqL l1 l2) : OpD F rEqK (.dict (dK l1)) (.dict (dK l2)) (· = .bool true) := fun H x y s ha hb Q q => ⟨F, l1, l2, s, ha, hb, h, q _ _ H rfl (Same.refl H) (.bl true)⟩
theorem od_neT {ds es : List PyData} (hl : ds.length = es.length) (h : ∀ (i : Nat) d e, ds[i]? = some d → es[i]? = some e → EqD d e) : OpD F rNeT (.tuple ds) (.tuple es) (· = .bool false) := fun H x y s ha hb Q q => ⟨F, ds, es, s, ha, hb, hl, h, q _ _ H rfl (Same.refl H) (.bl false)⟩
/-- {k: v} -/
theorem ek_disp1 {k : Int} (hk : EvD ρ F tk Γ (.int k)) (hv : EvD ρ F tv Γ d) : EvK ρ F (tDisp [(tk, tv)]) Γ (· = [(k, d)]) := fun H0 σ H I Q q => by
  intro p hp
  have np := I.newown hp
  refine hk H0 σ _ (I.new (o := .dK []) hp) _ fun x xd H1 e1 I1 m1 t1 => hv H0 σ H1 I1 _ fun y yd H2 e2 I2 m2 t2 => ?_
  subst e1; subst e2
  cases t1
  have a2 : H2 p = some (.dK []) := m2 p _ np (m1 p _ np upd_same)
  have nt : ∀ xs, H2 p ≠ some (.tup xs) := fun xs z => by rw [a2] at z; cases z
  have off : Off ρ F σ Γ p := ⟨np, fun i t hi m => I.notslot hp hi m⟩
  refine ⟨a2, [(Sum.inl k, y)], rfl, (show 1 ≤ 15 by decide), ?_⟩
  have tu : Tu H2 (upd H2 p (.dK (mergeK [] [(Sum.inl k, y)]))) := fun a xs z => by
    rw [upd_ne (fun w => by subst w; exact nt xs z)]
    exact z
  refine q p [(Sum.inl k, y)] _ _ rfl (I2.off off (I.frz0 hp) (I.base0 hp) nt) (fun b o nb z => ?_) hp upd_same (.cons (t2.tu tu) .nil)
  have bp : b ≠ p := ne_of_none z hp
  rw [upd_ne bp]
  exact m2 b o nb (m1 b o nb (by rw [upd_ne bp]; exact z))
/-- isinstance(book, Book) -/
structure IsC (K : PySem.W.Frag) (C : Addr) : Prop where
  a : PySem.W.findIn K (.ref C) "__class__" = some (some (.builtin "object.__class__"))
  n : PySem.W.specialIn K (.builtin "object.__class__") "__get__" = some (some (.builtin "getset_descriptor.__get__"))
  t : PySem.W.takesIn K (.builtin "object.__class__") = some true
  m : PySem.W.mroIn K C (.type "object") = some true
theorem ed_isi {i : Nat} {fs : List (Str × PyData)} (hi : Γ[i]? = some (.obj C fs)) (hc : Cls K C) (c : IsC K C) : EvD ρ F (tCB (rIsi K) (tCons (tVar i) (tCons (tC (.ref C)) tNil))) Γ (.bool true) := fun H0 σ H I Q q => by
  obtain ⟨v, e, b, dx, vs, rfl, h1, h2⟩ := I.has i _ hi (fun z => by cases z)
  exact ⟨_, e, .ref b, .ref C, .ref C, .ref C, true, rfl, .own C, .base (.ins (I.fr b _ h1).1 hc c.a c.n c.t c.m), (by unfold PySem.W.kitOne; rw [if_pos (beq_self_eq_true _)]), q _ _ H rfl I (Mv.refl ρ H) (.bl true)⟩
/-! statements -/
theorem sq_parDN {i j : Nat} (I : SS ρ H0 F σ H Γ) (h : EvD ρ F ta Γ d) (hb : EvN ρ F tb Γ (· = b)) (k : ∀ F' σ' H', Same F F' → SS ρ H0 F' σ' H' ((Γ.set i (.dat d)).set j (.dat b)) → u D σ' H') : tSeq (tPar i j (tCons ta (tCons tb tNil))) u D σ H :=
  h H0 σ H I _ fun v d' H1 e I1 m1 t1 => hb H0 σ H1 I1 _ fun v2 d2 H2 e2 I2 m2 t2 => by
    subst e; subst e2
    have IA := I1.frzA I2
    exact ⟨_, _, rfl, k _ _ H2 (fz_same I1.sf) ((IA.setD i (t1.mono (fz_same I1.sf) (m2.tu I1.inv))).setD j t2)⟩
theorem sq_parO {i j : Nat} {fs : List (Str × PyData)} (I : SS ρ H0 F σ H Γ) (h : EvOb ρ F C ta Γ (· = fs)) (hb : EvD ρ F tb Γ d) (k : ∀ F' σ' H', Same F F' → SS ρ H0 F' σ' H' ((Γ.set i (.obj C fs)).set j (.dat d)) → u D σ' H') : tSeq (tPar i j (tCons ta (tCons tb tNil))) u D σ H :=
  h H0 σ H I _ fun v fs' H1 e I1 m1 ob => hb H0 σ H1 I1 _ fun v2 d2 H2 e2 I2 m2 t2 => by
    subst e; subst e2
    have IB := (I.frzA I1).on I2.inv m2
    exact ⟨_, _, rfl, k _ _ H2 (fz_same I.sf) ((IB.setT (t := .obj C fs') i (ObjD.mono (Same.refl _) (m2.tu I1.inv) ob) rfl).setD j (t2.mono (fz_same I.sf) (Tu.refl H2)))⟩
theorem SS.toR' (I : SS rS H0 F σ H Γ) (iv : ρ.inv H) (hf : ∀ a o, F a = some o → ¬ ρ.own a) (nm : ∀ (i : Nat) (t : Ty), Γ[i]? = some t → t.mut = false) : SS ρ H F σ H Γ where
  inv := iv
  rel := Mv.refl ρ H
  len := I.len
  has := I.has
  fresh := fun i t a h m e => by rw [nm i t h] at m; cases m
  apart := I.apart
  fr := fun a o h => ⟨(I.fr a o h).1, hf a o h⟩
/-- the book of the law -/
theorem sq_book {hp l0 : Addr} {i a b c e : Nat} (I : SS (rD hp l0) H0 F σ H Γ) (hi : Γ[i]? = some (.val (.ref hp))) (k : ∀ F' bk σ' H', Same F F' → gB bk → SS (rD hp l0) H0 F' σ' H' ((((Γ.set a (.dat (.dict (dK (dSt bk.st))))).set b (.dat (.dict (dK (dWt bk.wt))))).set c (.dat (.dict (dK (dGn bk.gn))))).set e (.dat (.int bk.mark))) → u D σ' H') :
    tSeq (tAsg (tCall spBook [] E (tCons (tVar i) tNil)) (gTup K 4 (gCons (gName a) (gCons (gName b) (gCons (gName c) (gCons (gName e) gNil)))))) u D σ H := by
  refine ⟨_, I.val hi, ?_⟩
  show spBook [.ref hp] H _ E
  refine ⟨hp, l0, rfl, I.inv, fun v bk H' g td iv mv => ?_⟩
  have I' := I.on iv mv
  have IA := I.frzA I'
  have sF : Same (fz N0 H H') (fz F H H') := fun x o z => by
    cases q : H x with
    | none =>
      rw [fz_new q] at z ⊢
      exact z
    | some y =>
      rw [fz_old q] at z
      cases z
  exact (bg_tup rfl (bgs_cons bg_name (bgs_cons bg_name (bgs_cons bg_name (bgs_cons bg_name bgs_nil)))) : BndG (rD hp l0) (fz F H H') _ _ Γ _) H0 σ H' v IA (td.mono sF (Tu.refl H')) _ fun σ' I2 => k _ bk σ' H' (fz_same I.sf) g I2
/-- cells that are no book's -/
theorem es_wrong {hp l0 : Addr} {bk : Bk} {i0 i1 i2 i3 i4 i5 : Nat} (g : gB bk) (h0 : Γ[i0]? = some (.val (.ref hp))) (h1 : Γ[i1]? = some (.dat (.dict (dK (dSt bk.st))))) (h2 : Γ[i2]? = some (.dat (.dict (dK (dWt bk.wt))))) (h3 : Γ[i3]? = some (.dat (.dict (dK (dGn bk.gn))))) (h4 : Γ[i4]? = some (.dat (.int bk.mark))) (h5 : Γ[i5]? = some (.dat (dL (bodies 8 bk)))) :
    EvS (rD hp l0) F (tCall spWrong [] E (tCons (tVar i0) (tCons (tVar i1) (tCons (tVar i2) (tCons (tVar i3) (tCons (tVar i4) (tCons (tVar i5) tNil))))))) Γ (fun d => ∃ X, d = dI X ∧ rdSnap X = none ∧ Cs X ∧ X.length ≤ 30000) := fun H0 σ H I Q q => by
  obtain ⟨v1, e1, t1⟩ := I.dat h1
  obtain ⟨v2, e2, t2⟩ := I.dat h2
  obtain ⟨v3, e3, t3⟩ := I.dat h3
  obtain ⟨v4, e4, t4⟩ := I.dat h4
  obtain ⟨v5, e5, t5⟩ := I.dat h5
  cases t4
  refine ⟨_, I.val h0, _, e1, _, e2, _, e3, _, e4, _, e5, ?_⟩
  show spWrong [.ref hp, v1, v2, v3, .int bk.mark, v5] H Q E
  exact ⟨F, hp, l0, bk, v1, v2, v3, v5, rfl, g, I.inv, I.sf, fun a o h => (I.fr a o h).2, t1, t2, t3, t5, fun v X H' x1 x2 x3 td iv mv => q v _ H' ⟨X, rfl, x1, x2, x3⟩ (I.on iv mv) mv (td_ints td)⟩
/-- read_snapshot of such cells -/
theorem ed_rdW {P : List Int → Prop} (h : EvS ρ F ta Γ (fun d => ∃ X, d = dI X ∧ rdSnap X = none ∧ Cs X ∧ X.length ≤ 30000)) : EvD ρ F (tCall (spSN C) [] E (tCons ta tNil)) Γ .none := fun H0 σ H I Q q =>
  h H0 σ H I _ fun v d H1 ⟨X, e, x1, x2, x3⟩ I1 m1 t1 => by
    subst e
    show spSN C ([v] ++ []) H1 Q E
    exact ⟨F, X, I1.sf, .cons t1 .nil, x2, x3, fun _ H' s => q .non _ H' rfl (I1.same s) (m1.trans (Mv.of s)) .non, fun bk z => by rw [x1] at z; cases z⟩
end
end
end NN
set_option Elab.async false
set_option linter.all false
set_option maxRecDepth 100000
set_option maxHeartbeats 4000000
namespace NN
open PySem PySem.Spec PyProof.Rows L2 NM
local macro_rules | `(tactic| walk_at "ev") => `(tactic| ((fail_if_success (first | with_reducible apply gd1 | with_reducible apply gd2 | with_reducible apply gd3 | with_reducible apply gd4 | with_reducible apply gd5)); first
  | with_reducible exact ed_int | with_reducible exact ed_str | with_reducible exact ed_bl | with_reducible exact ed_non
  | ((with_reducible apply ed_var); rfl) | ((with_reducible apply er_var); rfl)
  | with_reducible exact ea_nil | ((with_reducible apply ea_cons) <;> walk_at "ev")
  | with_reducible exact od_int | with_reducible exact od_bool | exact od_intC (by decide) | exact od_intC ⟨by decide, by decide⟩ | exact od_intC (.inl ⟨by decide, by decide⟩) | with_reducible exact ud_int | with_reducible exact od_eqI | with_reducible exact od_neI | with_reducible exact od_strLt | with_reducible exact od_ip
  | ((with_reducible apply ed_op) <;> walk_at "ev")
  | ((with_reducible apply ed_un) <;> walk_at "ev")
  | ((with_reducible apply ed_tup') <;> walk_at "ev")
  | ((with_reducible apply el_lst') <;> walk_at "ev")
  | ((with_reducible apply ebd_test) <;> walk_at "ev")
  | ((with_reducible apply ebd_val) <;> walk_at "ev")
  | ((with_reducible refine ed_lenT ?_) <;> walk_at "ev")
  | ((with_reducible apply ed_lenR) <;> walk_at "ev")
  | ((with_reducible apply ed_tupleR) <;> walk_at "ev")
  | ((with_reducible apply EvL.rd) <;> walk_at "ev")
  | with_reducible exact eo_none
  | ((with_reducible apply eo_some) <;> walk_at "ev")
  | ((with_reducible apply ed_slT) <;> walk_at "ev")
  | ((with_reducible apply ebd_not) <;> walk_at "ev")
  | ((with_reducible apply ei_tup) <;> walk_at "ev")
  | rfl
  | skip))
section
variable {P : Program} {w : World} {K : PySem.W.Frag} {mg : Str → Option Value} {base : Heap}
section
variable {ρ : Rl} {F H0 H : Hp} {σ : L2.St} {Γ : List Ty} {ta tb : TE} {D : Ends} {ts : TS} {tt : TT}
theorem st_forF {α : Type} {wi : TI} {g : TG} {n : Nat} {f : Nat → PyData} (x0 : α) (p : Nat → α → Prop) (I : SS ρ H0 F σ H Γ) (hi : EvI ρ F wi Γ (fun m h => m = n ∧ h = f)) (G Γb : Nat → α → List Ty) (hp : p 0 x0) (h0 : ∀ H0 σ H, SS ρ H0 F σ H Γ → SS ρ H0 F σ H (G 0 x0)) (hg : ∀ F', Same F F' → ∀ i x, i < n → BndG ρ F' g (f i) (G i x) (Γb i x))
    (hs : ∀ F', Same F F' → ∀ H0' σ H, Same H0 H0' → ∀ i x, i < n → p i x → SS ρ H0' F' σ H (Γb i x) → ts { D with nx := fun σ' H' => ∃ y F'', Same F F'' ∧ p (i + 1) y ∧ SS ρ H0' F'' σ' H' (G (i + 1) y), ct := fun σ' H' => ∃ y F'', Same F F'' ∧ p (i + 1) y ∧ SS ρ H0' F'' σ' H' (G (i + 1) y), bk := D.nx } σ H)
    (hd : ∀ F', Same F F' → ∀ σ H x, p n x → SS ρ H0 F' σ H (G n x) → D.nx σ H) : tFor wi g ts D σ H := sq_forF (u := fun D => D.nx) (D := D) x0 p I hi G Γb hp h0 hg hs hd
theorem st_ifF (I : SS ρ H0 F σ H Γ) (h : EvB ρ F tt Γ (· = false)) (h1 : ∀ H', SS ρ H0 F σ H' Γ → Mv ρ H H' → D.nx σ H') : tIfS tt ts tNext D σ H := st_if I h (fun e => nomatch e) (fun _ H' I' m => h1 H' I' m)
theorem ed_andT (ha : EvD ρ F ta Γ (.bool true)) (hb : EvD ρ F tb Γ (.bool true)) : EvD ρ F (tAndV ta tb) Γ (.bool true) := fun H0 σ H I Q q =>
  ha H0 σ H I _ fun x d H1 e I1 m1 t1 => by
    subst e
    cases t1
    refine ⟨true, rfl, ?_⟩
    rw [if_pos rfl]
    exact hb H0 σ H1 I1 Q fun v d H2 e I2 m2 t2 => q v d H2 e I2 (m1.trans m2) t2
theorem od_imp {r : R2} {a b : PyData} {P P' : PyData → Prop} (h : OpD F r a b P) (f : ∀ d, P d → P' d) : OpD F r a b P' := fun H x y s ha hb Q q => h H x y s ha hb Q fun v d H' pd => q v d H' (f d pd)
theorem eb_none {k : Bool} (h : EvD ρ F ta Γ .none) : EvB ρ F (tTest (tOp (fun x y H Q => y = .non ∧ Q (.bl (!decide (x = .non))) H) ta (tC .non))) Γ (· = false) := ebd_test (ed_op h ed_non (od_notN false (by simp)))
end
def spLaw (K : PySem.W.Frag) : Sp := fun vs H Q _ => ∃ (a : Addr) (ns : List Int), vs = [.ref a] ∧ SqL K H a (ns.map V.int) ∧ ns.length ≤ 1000 ∧ ∀ H', Q (.bl true) H'
/-! law -/
abbrev s57 : Stmt := topS 57
theorem sc57 : FnScope ["_law_script", "_law_heap_here", "_law_turn", "_law_state", "_law_waiting", "_law_gone", "_law_mark", "_law_kept", "_law_bodies_here", "_law_book_here", "_law_due", "_law_told", "_law_again", "_law_at", "_law_other", "_law_near", "_law_one"] ["_law_script"] (defScope s57) := ⟨rfl, rfl, rfl, by decide +kernel, rfl, by decide +kernel, by decide +kernel⟩
abbrev NL : List Str := ["_law_script", "_law_heap_here", "_law_turn", "_law_state", "_law_waiting", "_law_gone", "_law_mark", "_law_kept", "_law_bodies_here", "_law_book_here", "_law_due", "_law_told", "_law_again", "_law_at", "_law_other", "_law_near", "_law_one"]
theorem law_walk {C f : Addr} (N : Nm mg) (B : BkC K C) (c : IsC K C) (M : MkB P w K mg base C) (D_snapshot_cells : Df K mg "snapshot_cells" s35 ["book"]) (D_read_snapshot : Df K mg "read_snapshot" s41 ["cells"])
    (g__law_heap : Gf P w K mg base 1 "_law_heap" ["_law_script"] (spHeap K)) (g__law_draw : Gf P w K mg base 1 "_law_draw" ["_law_heap_here", "_law_many"] spDraw) (g__law_book : Gf P w K mg base 4 "_law_book" ["_law_heap_here"] spBook)
    (g__law_bodies : Gf P w K mg base 4 "_law_bodies" ["_law_state", "_law_waiting", "_law_gone", "_law_mark", "_law_size"] (spL cLB)) (g__law_joined : Gf P w K mg base 3 "_law_joined" ["_law_bodies_here"] (spP cLJ))
    (g__law_wrong : Gf P w K mg base 5 "_law_wrong" ["_law_heap_here", "_law_state", "_law_waiting", "_law_gone", "_law_mark", "_law_bodies_here"] spWrong)
    (g_snapshot_cells : Gf P w K mg base 6 "snapshot_cells" ["book"] (spSC C)) (g_read_snapshot : Gf P w K mg base 15 "read_snapshot" ["cells"] (spSN C))
    (cdv : Value) (A : Around) (outer : List Env) (s : Shared) (H : Hp) (vs : List V) (Q : VK) (E : XK) (hga : A.guards = some []) (hr : Room 15 (A.deeper (envOfC "law" (defScope s57) s.heap.objs.size f cdv))) (c0 : spLaw K vs H Q E) :
    ∃ t, PSs (cxOf CX0 P w K mg base NL "law" (defScope s57) f cdv A outer s H E).nox (defBody s57) t ∧ t { nx := fun _ H' => Q .non H', rt := Q } (L2.start NL vs) H := by
  obtain ⟨a, ns, rfl, hs, hl, q⟩ := c0
  have m_Book : mg "Book" = some (.ref C) := by
    obtain ⟨_, _, _, _, m, _⟩ := M
    exact m
  have hgd : (cxOf CX0 P w K mg base NL "law" (defScope s57) f cdv A outer s H E).nox.A.guards = some [] := hga
  refine ⟨_, (pss_cons (ps_set (i := 1) sc57.nd rfl (.inl rfl) (pe_g g__law_heap (hr.mono (by decide)) (pa_cons (pv 0) pa_nil)))
    (pss_cons (ps_for PassesOwn.never rfl (pi_range1 rfl N.range (pa_cons (pe_op op_add pe_int (pe_callTy call_int1 (by rfl) N.int (by decide +kernel) (pa_cons (pe_cmpR op_gt (pe_callB call_len_seq (by rfl) N.len PySem.boot_len (pa_cons (pv 0) pa_nil)) pe_int (nomark _)) pa_nil))) pa_nil)) (pg_name (i := 2) sc57.nd rfl (.inl rfl))
    (pss_cons (ps_asg (pe_g g__law_book (hr.mono (by decide)) (pa_cons (pv 1) pa_nil)) (pg_tup rfl (pgs_cons (pg_name (i := 3) sc57.nd rfl (.inl rfl)) (pgs_cons (pg_name (i := 4) sc57.nd rfl (.inl rfl)) (pgs_cons (pg_name (i := 5) sc57.nd rfl (.inl rfl)) (pgs_cons (pg_name (i := 6) sc57.nd rfl (.inl rfl)) pgs_nil))))))
    (pss_cons (ps_par (i := 7) (j := 8) rfl sc57.nd rfl rfl (by decide) rfl rfl (pa_cons (pe_callB (call_repr hgd hr.units) (by rfl) N.repr (by decide +kernel) (pa_cons (pe_tup (pa_cons (pv 3) (pa_cons (pv 4) (pa_cons (pv 5) (pa_cons (pv 6) pa_nil))))) pa_nil)) (pa_cons (pe_g g__law_bodies (hr.mono (by decide)) (pa_cons (pv 3) (pa_cons (pv 4) (pa_cons (pv 5) (pa_cons (pv 6) (pa_cons pe_int pa_nil)))))) pa_nil)) (by rfl))
    (pss_cons (ps_par (i := 9) (j := 10) rfl sc57.nd rfl rfl (by decide) rfl rfl (pa_cons (pe_book M (hr.mono (by decide)) (pa_cons (pv 3) (pa_cons (pv 4) (pa_cons (pv 5) (pa_cons (pv 6) pa_nil))))) (pa_cons (pe_g g__law_joined (hr.mono (by decide)) (pa_cons (pv 8) pa_nil)) pa_nil)) (by rfl))
    (pss_cons (ps_if (PW.pt (pw_or (pt_cmpR op_ne (pe_callB (call_repr hgd hr.units) (by rfl) N.repr (by decide +kernel) (pa_cons (pe_g g_snapshot_cells (hr.mono (by decide)) (pa_cons (pv 9) pa_nil)) pa_nil)) (pe_callB (call_repr hgd hr.units) (by rfl) N.repr (by decide +kernel) (pa_cons (pv 10) pa_nil)) (nomark _)) (pw_or1 (pt_cmpR (op_neD hr.units) (pe_gK g_snapshot_cells D_snapshot_cells (hr.mono (by decide)) (pv 9) (fun _ _ _ _ _ _ _ => rfl) (fun _ _ _ _ _ _ _ => rfl)) (pv 10) (nomark _)))))
    (pss_one (ps_ret pe_bl))
    pss_nil)
    (pss_cons (ps_set (i := 11) sc57.nd rfl (.inl rfl) (pe_gK g_read_snapshot D_read_snapshot (hr.mono (by decide)) (pv 10) (fun _ _ _ _ _ _ _ => rfl) (fun _ _ _ _ _ _ _ => rfl)))
    (pss_cons (ps_if (PW.pt (pw_or (pt_not (pt_val (pe_callB call_isi (by rfl) N.isinstance (by decide +kernel) (pa_cons (pv 11) (pa_cons (pe_fn m_Book) pa_nil))))) (pw_or1 (pt_cmpR (op_neTD hr.units) (pe_tup (pa_cons (pe_fld (pv 11) (by rfl)) (pa_cons (pe_fld (pv 11) (by rfl)) (pa_cons (pe_fld (pv 11) (by rfl)) (pa_cons (pe_fld (pv 11) (by rfl)) pa_nil))))) (pe_tup (pa_cons (pv 3) (pa_cons (pv 4) (pa_cons (pv 5) (pa_cons (pv 6) pa_nil))))) (nomark _)))))
    (pss_one (ps_ret pe_bl))
    pss_nil)
    (pss_cons (ps_if (PW.pt (pw_or (pt_cmpR (op_neK hr.units) (pe_fld (pe_g g_read_snapshot (hr.mono (by decide)) (pa_cons (pe_g g_snapshot_cells (hr.mono (by decide)) (pa_cons (pv 11) pa_nil)) pa_nil)) (by rfl)) (pv 3) (nomark _)) (pw_or1 (pt_cmpR op_ne (pe_callB (call_repr hgd hr.units) (by rfl) N.repr (by decide +kernel) (pa_cons (pe_tup (pa_cons (pe_fld (pv 9) (by rfl)) (pa_cons (pe_fld (pv 9) (by rfl)) (pa_cons (pe_fld (pv 9) (by rfl)) (pa_cons (pe_fld (pv 9) (by rfl)) pa_nil))))) pa_nil)) (pv 7) (nomark _)))))
    (pss_one (ps_ret pe_bl))
    pss_nil)
    (pss_one (ps_for PassesOwn.never rfl (pi_range1 rfl N.range (pa_cons pe_int pa_nil)) (pg_name (i := 12) sc57.nd rfl (.inl rfl))
    (pss_cons (ps_set (i := 13) sc57.nd rfl (.inl rfl) (pe_g g__law_draw (hr.mono (by decide)) (pa_cons (pv 1) (pa_cons (pe_callB call_len_seq (by rfl) N.len PySem.boot_len (pa_cons (pv 10) pa_nil)) pa_nil))))
    (pss_cons (ps_if (PW.pt (pw_or (pt_cmpR op_notN (pe_g g_read_snapshot (hr.mono (by decide)) (pa_cons (pe_slice sl_tupA (pv 10) po_none (po_some (pv 13))) pa_nil)) pe_non (nomark _)) (pw_or1 (pt_cmpR op_notN (pe_g g_read_snapshot (hr.mono (by decide)) (pa_cons (pe_op op_catA (pv 10) (pe_slice sl_tupA (pv 10) po_none (po_some (pe_op op_add (pv 13) pe_int)))) pa_nil)) pe_non (nomark _)))))
    (pss_one (ps_ret pe_bl))
    pss_nil)
    (pss_cons (ps_if (pt_cmpR op_notN (pe_g g_read_snapshot (hr.mono (by decide)) (pa_cons (pe_g g__law_wrong (hr.mono (by decide)) (pa_cons (pv 1) (pa_cons (pv 3) (pa_cons (pv 4) (pa_cons (pv 5) (pa_cons (pv 6) (pa_cons (pv 8) pa_nil))))))) pa_nil)) pe_non (nomark _))
    (pss_one (ps_ret pe_bl))
    pss_nil)
    (pss_cons (ps_set (i := 14) sc57.nd rfl (.inl rfl) (pe_op op_catA (pe_op op_catA (pe_slice sl_tupA (pv 10) po_none (po_some (pv 13))) (pe_tup (pa_cons (pe_op op_mod (pe_callTy call_int1 (by rfl) N.int (by decide +kernel) (pa_cons (pe_op op_add (pe_op op_add (pe_ix ix_tup (pv 10) (pv 13) (fun _ _ => rfl)) pe_int) (pe_g g__law_draw (hr.mono (by decide)) (pa_cons (pv 1) (pa_cons pe_int pa_nil)))) pa_nil)) pe_int) pa_nil))) (pe_slice sl_tupA (pv 10) (po_some (pe_op op_add (pv 13) pe_int)) po_none)))
    (pss_cons (ps_set (i := 15) sc57.nd rfl (.inl rfl) (pe_g g_read_snapshot (hr.mono (by decide)) (pa_cons (pv 14) pa_nil)))
    (pss_one (ps_if (PW.pt (pw_and (pt_cmpR op_notN (pv 15) pe_non (nomark _)) (pw_and1 (pt_cmpR (op_neD hr.units) (pe_g g_snapshot_cells (hr.mono (by decide)) (pa_cons (pv 15) pa_nil)) (pv 14) (nomark _)))))
    (pss_one (ps_ret pe_bl))
    pss_nil)))))))))))))))))
    (pss_cons (ps_set (i := 16) sc57.nd rfl (.inl rfl) (pe_tup (pa_cons pe_int (pa_cons pe_int (pa_cons pe_int (pa_cons pe_int (pa_cons pe_int (pa_cons pe_int (pa_cons pe_int (pa_cons pe_int (pa_cons pe_int (pa_cons pe_int (pa_cons pe_int (pa_cons pe_int (pa_cons pe_int (pa_cons pe_int (pa_cons pe_int pa_nil)))))))))))))))))
    (pss_cons (ps_set (i := 11) sc57.nd rfl (.inl rfl) (pe_g g_read_snapshot (hr.mono (by decide)) (pa_cons (pv 16) pa_nil)))
    (pss_one (ps_ret (pe_and (pe_cmpR (op_eqK hr.units) (pe_fld (pv 11) (by rfl)) (pe_disp (pps_cons pe_int (pe_tup (pa_cons pe_int (pa_cons (pe_tup (pa_cons pe_int pa_nil)) (pa_cons (pe_tup pa_nil) pa_nil)))) pps_nil) (by rfl) (by rfl) (fun z => by cases z) (by decide)) (nomark _)) (pe_and (pe_cmpR op_eq (pe_fld (pv 11) (by rfl)) pe_int (nomark _)) (pe_and (pe_cmpR (op_eqD hr.units) (pe_g g_snapshot_cells (hr.mono (by decide)) (pa_cons (pe_book M (hr.mono (by decide)) (pa_cons pe_dnewK (pa_cons pe_dnewK (pa_cons pe_dnewK (pa_cons pe_int pa_nil))))) pa_nil)) (pe_tup (pa_cons pe_int (pa_cons pe_int (pa_cons pe_int (pa_cons pe_int (pa_cons pe_int (pa_cons pe_int (pa_cons pe_int pa_nil)))))))) (nomark _)) (pe_one (pe_cmpR op_isN (pe_g g_read_snapshot (hr.mono (by decide)) (pa_cons (pe_tup pa_nil) pa_nil)) pe_non (nomark _)))))))))))), ?_⟩
  have f0 : Same (fun b => if b = a then H a else none) H := fun b o e => by
    by_cases c : b = a
    · simp only [c, if_true] at e
      rw [c]
      exact e
    · simp only [c, if_false] at e
      cases e
  have hs2 : SqL K (fun b => if b = a then H a else none) a (ns.map V.int) := by
    rcases hs with (h | ⟨o, h⟩) | h
    · exact .inl (.inl (by simpa using h))
    · exact .inl (.inr ⟨o, by simpa using h⟩)
    · exact .inr h
  generalize (fun b => if b = a then H a else none) = F at f0 hs2
  have I : SS rS H F (L2.start NL [.ref a]) H [.val (.ref a), .no, .no, .no, .no, .no, .no, .no, .no, .no, .no, .no, .no, .no, .no, .no, .no] := by
    refine SS.start (show 1 ≤ 17 by decide) rfl f0 fun i t e n => ?_
    rcases i with _ | _ | _ | _ | _ | _ | _ | _ | _ | _ | _ | _ | _ | _ | _ | _ | _ | i
    · cases e; exact ⟨rfl, _, rfl, rfl⟩
    all_goals (cases e; try exact absurd rfl n)
  show tSeq _ _ _ _ _
  refine ⟨.ref a, I.val (i := 0) rfl, a, ns, rfl, hs, fun hp l0 H1 s1 n1 n2 iv => ?_⟩
  have own : ∀ b o, F b = some o → ¬ (rD hp l0).own b := fun b o e z => by
    have e1 := f0 b o e
    rcases z with z | z
    · rw [z, n1] at e1; cases e1
    · rw [z, n2] at e1; cases e1
  have I := ((I.same s1).toR' (ρ := rD hp l0) iv own (fun i t e => by rcases i with _ | _ | _ | _ | _ | _ | _ | _ | _ | _ | _ | _ | _ | _ | _ | _ | _ | i <;> (cases e; try rfl))).setT (t := .val (.ref hp)) (v := .ref hp) 1 rfl rfl
  have HI := HIn.self hp l0
  show tSeq _ _ _ _ _
  refine sq_forF (α := Unit) (n := (1 + (if decide ((2 : Int) < (ns.length : Int)) = true then 1 else 0) : Int).toNat) (f := fun i => .int i) () (fun _ _ => True) I (ei_rng1 (ea_cons (ed_op ed_int (ed_int1b (ed_op (ed_lenSq hs2 rfl) ed_int (od_bool (f := fun i j => decide (j < i))))) od_int) ea_nil) (by split <;> omega))
    (fun _ _ => [.val (.ref a), .val (.ref hp), .no, .no, .no, .no, .no, .no, .no, .no, .no, .no, .no, .no, .no, .no, .no])
    (fun i _ => [.val (.ref a), .val (.ref hp), .dat (.int (i : Int)), .no, .no, .no, .no, .no, .no, .no, .no, .no, .no, .no, .no, .no, .no])
    trivial (fun H0 σ H I => I) (fun F' sF i x hi => bg_name) ?_ ?_
  · intro F1 sF1 H0' σ H2 hs0 it x hit _ I
    show tSeq _ _ _ _ _
    refine sq_book I rfl fun F2 b σ H3 sF2 g I => ?_
    have sn := g.snap_cs
    have sl := g.snap_len
    have l1 := g.l1
    have ok := g.nb.ok
    have rd := g.rd
    have okc : okB (canon b) := (rdBook_nb sn (rdSnap_is rd).2).ok
    have lc : (canon b).st.length = b.st.length := srt_len b.st
    have eC := snap_canon b
    have gc : Gn 200000 1 (dI (snap b)) := gn_cells sn (by omega)
    have rdc : rdSnap (snap (canon b)) = some (canon b) := by rw [eC]; exact rd
    show tSeq _ _ _ _ _
    refine sq_parDN (d := .str (PyData.tuple [.dict (dK (dSt b.st)), .dict (dK (dWt b.wt)), .dict (dK (dGn b.gn)), .int b.mark]).shown) I (ed_repr (ed_tup' (ea_cons (ed_var rfl) (ea_cons (ed_var rfl) (ea_cons (ed_var rfl) (ea_cons (ed_var rfl) ea_nil)))) rfl) g.gAll (by decide) (by decide)) (EvL.new (el_callL (d := (bodies 8 b).map dI) (ea_cons (ed_var rfl) (ea_cons (ed_var rfl) (ea_cons (ed_var rfl) (ea_cons (ed_var rfl) (ea_cons ed_int ea_nil))))) ⟨b, 8, rfl, by decide, by decide, g.sm, by omega, fun x hx => by have := (g.bs (s := 8) (by decide) x hx).2; omega, rfl⟩)) fun F3 σ H4 sF3 I => ?_
    show tSeq _ _ _ _ _
    refine sq_parO (fs := dBk b) (d := dI (snap b)) I (eo_book (EvN.of (ed_var rfl)) (EvN.of (ed_var rfl)) (EvN.of (ed_var rfl)) (ed_var rfl)) (ed_callP (ea_cons (ed_var rfl) ea_nil) ⟨bodies 8 b, rfl, (by show (snap b).length ≤ 600000; omega), rfl⟩) fun F4 σ H5 sF4 I => ?_
    show tSeq _ _ _ _ _
    refine sq_ifF I (EvB.is (b := false) (ebd_or (x := false) (y := false) (EvB.is (ebd_test (ed_op (ed_repr (ed_sc rfl ok (by omega) (by omega)) gc (by decide) (by decide)) (ed_repr (ed_var rfl) gc (by decide) (by decide)) od_neS)) (by simp)) (fun _ => EvB.is (ebd_test (ed_op (ed_scK rfl ok (by omega) (by omega)) (ed_var rfl) (od_neD (shp_dI _) (shp_dI _)))) (by rw [eqv_dI]; simp))) rfl) fun H6 I _ => ?_
    show tSeq _ _ _ _ _
    refine sq_setO (fs := dBk (canon b)) I (eo_rdK (ed_var rfl) sn (by omega) rd) fun σ H7 _ sF5 I => ?_
    show tSeq _ _ _ _ _
    refine sq_ifF I (EvB.is (b := false) (ebd_or (x := false) (y := false) (EvB.is (ebd_not (ebd_val (ed_isi rfl B.cls c))) rfl) (fun _ => ebd_test (ed_op (a := .tuple [.dict (dK (dSt (srt b.st))), .dict (dK (dWt (srt b.wt))), .dict (dK (dGn (srt b.gn))), .int b.mark]) (b := .tuple [.dict (dK (dSt b.st)), .dict (dK (dWt b.wt)), .dict (dK (dGn b.gn)), .int b.mark]) (ed_tup' (ea_cons (ed_fld rfl B.cls B.n1 rfl) (ea_cons (ed_fld rfl B.cls B.n2 rfl) (ea_cons (ed_fld rfl B.cls B.n3 rfl) (ea_cons (ed_fld rfl B.cls B.n4 rfl) ea_nil)))) rfl) (ed_tup' (ea_cons (ed_var rfl) (ea_cons (ed_var rfl) (ea_cons (ed_var rfl) (ea_cons (ed_var rfl) ea_nil)))) rfl) (od_neT rfl fun i d e h1 h2 => ?_)))) rfl) fun H8 I _ => ?_
    · rcases i with _ | _ | _ | _ | i
      · cases h1; cases h2; exact .dct g.eSt
      · cases h1; cases h2; exact .dct g.eWt
      · cases h1; cases h2; exact .dct g.eGn
      · cases h1; cases h2; exact .pl rfl rfl (Nat.zero_le _)
      · cases h1
    show tSeq _ _ _ _ _
    refine sq_ifF I (EvB.is (b := false) (ebd_or (x := false) (y := false) (ebd_test (es_opN0 (P := fun _ => True) (en_fld (d := .dict (dK (dSt (srt b.st)))) (eo_rd (ea_cons (ed_sc rfl okc (by rw [eC]; omega) (by omega)) ea_nil) (by rw [eC]; exact sn) (by rw [eC]; omega) rdc) B.cls B.n1 rfl) (EvN.of (ed_var rfl)) (fun F' => od_neK g.eSt))) (fun _ => EvB.is (ebd_test (ed_op (ed_repr (ed_tup' (ea_cons (ed_fld rfl B.cls B.n1 rfl) (ea_cons (ed_fld rfl B.cls B.n2 rfl) (ea_cons (ed_fld rfl B.cls B.n3 rfl) (ea_cons (ed_fld rfl B.cls B.n4 rfl) ea_nil)))) rfl) g.gAll (by decide) (by decide)) (ed_var rfl) od_neS)) (by simp))) rfl) fun H9 I _ => ?_
    have I := ((I.drop 7).drop 9).drop 11
    have sA : Same F F4 := fun x o h => sF4 x o (sF3 x o (sF2 x o (sF1 x o h)))
    refine st_forF (α := Unit) (n := (4 : Int).toNat) (f := fun i => .int i) () (fun _ _ => True) I (ei_rng1 (ea_cons ed_int ea_nil) (by decide))
      (fun _ _ => [.val (.ref a), .val (.ref hp), .dat (.int (it : Int)), .dat (.dict (dK (dSt b.st))), .dat (.dict (dK (dWt b.wt))), .dat (.dict (dK (dGn b.gn))), .dat (.int b.mark), .no, .dat (dL (bodies 8 b)), .no, .dat (dI (snap b)), .no, .no, .no, .no, .no, .no])
      (fun i _ => [.val (.ref a), .val (.ref hp), .dat (.int (it : Int)), .dat (.dict (dK (dSt b.st))), .dat (.dict (dK (dWt b.wt))), .dat (.dict (dK (dGn b.gn))), .dat (.int b.mark), .no, .dat (dL (bodies 8 b)), .no, .dat (dI (snap b)), .no, .dat (.int (i : Int)), .no, .no, .no, .no])
      trivial (fun H0 σ H I => I) (fun F' sF i x hi => bg_name) ?_ ?_
    · intro F6 sF6 H0'' σ H10 hs1 i x hi _ I
      have spos : 0 < (snap b).length := by
        have h := g.bpos
        show 0 < (joined (bodies 8 b)).length
        cases hb : bodies 8 b with
        | nil => rw [hb] at h; cases h
        | cons y r =>
          show 0 < (frm y ++ joined r).length
          unfold frm
          simp only [List.length_append, List.length_singleton]
          omega
      show tSeq _ _ _ _ _
      refine sq_asg (P := fun d => ∃ n : Nat, d = .int (n : Int) ∧ n < (snap b).length) I ((es_draw (m := ((snap b).length : Int)) HI rfl (ed_lenTI (ed_var rfl)) (by omega) (by omega)).imp fun d ⟨r, e, r0, r1⟩ => ⟨r.toNat, by rw [e]; congr 1; omega, by omega⟩) fun v d H11 ⟨n, en, hn⟩ _ I => ?_
      subst en
      show tSeq _ _ _ _ _
      have upto : ∀ {F : Hp} {Γ : List Ty}, Γ[10]? = some (.dat (dI (snap b))) → Γ[13]? = some (.dat (.int (n : Int))) → EvD (rD hp l0) F (tSl (rSlA K) (tVar 10) tNoPart (tPart (tVar 13))) Γ (dI ((snap b).take n)) := fun h1 h2 => EvS.is (ed_slT (ed_var h1) eo_none (eo_some (ed_var h2))) (by rw [cutD_map, cutD_to (hi := n) rfl])
      have upto1 : ∀ {F : Hp} {Γ : List Ty}, Γ[10]? = some (.dat (dI (snap b))) → Γ[13]? = some (.dat (.int (n : Int))) → EvD (rD hp l0) F (tSl (rSlA K) (tVar 10) tNoPart (tPart (tOp (rI0 fun i j => .int (i + j)) (tVar 13) (tC (.int 1))))) Γ (dI ((snap b).take (n + 1))) := fun h1 h2 => EvS.is (ed_slT (ed_var h1) eo_none (eo_some (ed_op (ed_var h2) ed_int od_int))) (by rw [cutD_map, cutD_to (j := (n : Int) + 1) (hi := n + 1) rfl])
      have from1 : ∀ {F : Hp} {Γ : List Ty}, Γ[10]? = some (.dat (dI (snap b))) → Γ[13]? = some (.dat (.int (n : Int))) → EvD (rD hp l0) F (tSl (rSlA K) (tVar 10) (tPart (tOp (rI0 fun i j => .int (i + j)) (tVar 13) (tC (.int 1)))) tNoPart) Γ (dI ((snap b).drop (n + 1))) := fun h1 h2 => EvS.is (ed_slT (ed_var h1) (eo_some (ed_op (ed_var h2) ed_int od_int)) eo_none) (by rw [cutD_map, cutD_from (i := (n : Int) + 1) (lo := n + 1) rfl (by omega)])
      have lt1 : ((snap b).take (n + 1)).length = n + 1 := by rw [List.length_take]; omega
      have ne1 : (snap b).take (n + 1) ≠ [] := fun z => by rw [z] at lt1; cases lt1
      refine sq_ifF I (EvB.is (b := false) (ebd_or (x := false) (y := false) (eb_none (k := false) (ed_rd0 (ea_cons (upto rfl rfl) ea_nil) (sn.take n) (by rw [List.length_take]; omega) (rdSnap_cut b hn))) (fun _ => eb_none (k := false) (ed_rd0 (ea_cons (ed_op (b := dI ((snap b).take (n + 1))) (ed_var rfl) (upto1 rfl rfl) (od_catI (by omega))) ea_nil) (sn.append (sn.take (n + 1))) (by rw [List.length_append]; omega) (rdSnap_more b ne1)))) rfl) fun H12 I _ => ?_
      show tSeq _ _ _ _ _
      refine sq_ifF I (eb_none (k := false) (ed_rdW (P := fun _ => True) (es_wrong g rfl rfl rfl rfl rfl rfl))) fun H13 I _ => ?_
      show tSeq _ _ _ _ _
      have hx : (snap b)[n]? = some (snap b)[n] := List.getElem?_eq_getElem hn
      generalize (snap b)[n] = z at hx
      have ez : atI ((snap b).map PyData.int) (n : Int) = some (.int z) := atI_nat (by rw [List.getElem?_map, hx]; rfl)
      refine sq_asg (P := fun d => ∃ y : Int, (0 ≤ y ∧ y < 256) ∧ d = dI ((snap b).take n ++ [y] ++ (snap b).drop (n + 1))) I (es_op (Pa := fun d => ∃ y : Int, (0 ≤ y ∧ y < 256) ∧ d = dI ((snap b).take n ++ [y])) (Pb := (· = dI ((snap b).drop (n + 1)))) (es_op (Pa := (· = dI ((snap b).take n))) (Pb := fun d => ∃ y : Int, (0 ≤ y ∧ y < 256) ∧ d = dI [y]) (upto rfl rfl) (es_tup (PA := fun l => ∃ y : Int, (0 ≤ y ∧ y < 256) ∧ l = [.int y]) (eas_cons (Pa := fun d => ∃ y : Int, (0 ≤ y ∧ y < 256) ∧ d = .int y) (PB := (· = [])) (es_op (Pa := fun d => ∃ i, d = .int i ∧ True) (Pb := (· = .int 256)) (es_int1 (p := fun _ => True) (es_op (Pa := (· = .int (z + 1))) (Pb := fun d => ∃ r, d = .int r ∧ 0 ≤ r ∧ r < 255) (ed_op (ed_op (ed_var rfl) (ed_var rfl) (od_ixT ez)) ed_int od_int) (es_draw HI rfl ed_int (by decide) (by decide)) (fun a b e1 ⟨r, e2, _⟩ => ?_))) ed_int (fun a b ⟨i, e1, _⟩ e2 => ?_)) ea_nil (fun a l ⟨y, h, e1⟩ e2 => ⟨y, h, by rw [e1, e2]⟩)) (fun l ⟨y, h, e⟩ => ⟨by rw [e]; exact (show 1 ≤ 16777216 by decide), y, h, by rw [e]; rfl⟩)) (fun a b e1 ⟨y, h, e2⟩ => ?_)) (from1 rfl rfl) (fun a b ⟨y, h, e1⟩ e2 => ?_)) fun v d H14 ⟨y, hy, ed⟩ _ I => ?_
      · subst e1; subst e2
        exact od_imp od_int fun d e => ⟨_, e, trivial⟩
      · subst e1; subst e2
        exact od_imp (od_intC (show (0 : Int) < 256 by decide)) fun d e => ⟨i % 256, ⟨Int.emod_nonneg _ (by decide), Int.emod_lt_of_pos _ (by decide)⟩, e⟩
      · subst e1; subst e2
        exact od_imp (od_catI (by rw [List.length_take, List.length_singleton]; omega)) fun d e => ⟨y, h, e⟩
      · subst e1; subst e2
        exact od_imp (od_catI (by simp only [List.length_append, List.length_take, List.length_drop, List.length_singleton]; omega)) fun d e => ⟨y, h, e⟩
      subst ed
      have co : Cs ((snap b).take n ++ [y] ++ (snap b).drop (n + 1)) := ((sn.take n).append (Cs.cons hy Cs.nil)).append (sn.drop _)
      have lo : ((snap b).take n ++ [y] ++ (snap b).drop (n + 1)).length ≤ 9000 := by
        simp only [List.length_append, List.length_take, List.length_drop, List.length_singleton]
        omega
      generalize (snap b).take n ++ [y] ++ (snap b).drop (n + 1) = other at co lo I
      show tSeq _ _ _ _ _
      cases er : rdSnap other with
      | none =>
        refine sq_set I (ed_rd0 (ea_cons (ed_var rfl) ea_nil) co (by omega) er) fun σ H15 I => ?_
        refine st_ifF I (EvB.is (b := false) (ebd_and (x := false) (y := false) (eb_none (k := false) (ed_var rfl)) (fun z => nomatch z)) rfl) fun H16 I _ => ?_
        exact ⟨(), _, sF6, trivial, (((I.drop 12).drop 13).drop 14).drop 15⟩
      | some bk =>
        obtain ⟨e1, e2⟩ := rdSnap_is er
        obtain ⟨okk, _, lk⟩ := rdBook_ok co e2
        refine sq_setO (fs := dBk bk) I (eo_rd (ea_cons (ed_var rfl) ea_nil) co (by omega) er) fun σ H15 _ sF7 I => ?_
        refine st_ifF I (EvB.is (b := false) (ebd_and (x := true) (y := false) (eb_objS rfl) (fun _ => EvB.is (ebd_test (ed_op (ed_sc rfl okk (by rw [e1]; omega) (by omega)) (ed_var rfl) (od_neD (shp_dI _) (shp_dI _)))) (by rw [eqv_dI, e1]; simp))) rfl) fun H16 I _ => ?_
        exact ⟨(), _, fun x o h => sF7 x o (sF6 x o h), trivial, (((I.drop 12).drop 13).drop 14).drop 15⟩
    · intro F6 sF6 σ H10 x _ I
      exact ⟨(), F6, fun x o h => sF6 x o (sF5 x o (sA x o h)), trivial, (((((((I.drop 2).drop 3).drop 4).drop 5).drop 6).drop 8).drop 10)⟩
  · intro F1 sF1 σ H2 x _ I
    show tSeq _ _ _ _ _
    refine sq_set (d := dI [6, 7, 1, 5, 1, 2, 0, 38, 5, 8, 2, 1, 0, 0, 15]) I (ed_tup' (ea_cons ed_int (ea_cons ed_int (ea_cons ed_int (ea_cons ed_int (ea_cons ed_int (ea_cons ed_int (ea_cons ed_int (ea_cons ed_int (ea_cons ed_int (ea_cons ed_int (ea_cons ed_int (ea_cons ed_int (ea_cons ed_int (ea_cons ed_int (ea_cons ed_int ea_nil))))))))))))))) rfl) fun σ H3 I => ?_
    show tSeq _ _ _ _ _
    refine sq_setO (fs := dBk bkOne) I (eo_rd (ea_cons (ed_var rfl) ea_nil) (by unfold Cs; decide) (by decide) rd_one) fun σ H4 _ sF2 I => ?_
    have e1 : EqL (dSt bkOne.st) [(5, .tuple [.int 5, dI [1], .tuple []])] := ⟨rfl, fun p hp => by rw [List.mem_singleton.mp hp]; rfl, fun p hp => by rw [List.mem_singleton.mp hp]; exact ⟨rfl, rfl, by decide⟩⟩
    refine st_ret (P := (· = .bool true)) I (ed_andT (es_opN (P := fun _ => True) (en_fld (d := .dict (dK (dSt bkOne.st))) (eo_var rfl) B.cls B.n1 rfl) (EvK.new (ek_disp1 (d := .tuple [.int 5, dI [1], .tuple []]) ed_int (ed_tup' (ea_cons ed_int (ea_cons (ed_tup' (ea_cons ed_int ea_nil) rfl) (ea_cons (ed_tup' ea_nil rfl) ea_nil))) rfl))) (fun F' => od_eqK e1)) (ed_andT (EvS.is (ed_op (ed_fld rfl B.cls B.n4 rfl) ed_int od_eqI) rfl) (ed_andT (EvS.is (ed_op (b := dI [5, 8, 0, 0, 0, 0, 8]) (ed_scO (bk := bkNil) (eo_book (EvK.new ek_new) (EvK.new ek_new) (EvK.new ek_new) ed_int) ok_nil (by rw [snap_nil]; decide) (by decide)) (ed_tup' (ea_cons ed_int (ea_cons ed_int (ea_cons ed_int (ea_cons ed_int (ea_cons ed_int (ea_cons ed_int (ea_cons ed_int ea_nil))))))) rfl) (od_eqD (shp_dI _) (shp_dI _))) (by rw [eqv_dI, snap_nil]; rfl)) (EvS.is (ed_op (ed_rd0 (ea_cons (ed_tup' ea_nil rfl) ea_nil) Cs.nil (by decide) rd_nil) ed_non (od_isN true (by simp))) rfl)))) fun v d H5 e I _ td => ?_
    subst e
    cases td
    exact q H5
end
end NN
set_option Elab.async false
set_option linter.all false
set_option maxRecDepth 100000
set_option maxHeartbeats 4000000
namespace NN
open PySem PySem.Spec PyProof.Rows L2 NM
local macro_rules | `(tactic| walk_at "ev") => `(tactic| ((fail_if_success (first | with_reducible apply gd1 | with_reducible apply gd2 | with_reducible apply gd3 | with_reducible apply gd4 | with_reducible apply gd5)); first
  | with_reducible exact ed_int | with_reducible exact ed_str | with_reducible exact ed_bl | with_reducible exact ed_non
  | ((with_reducible apply ed_var); rfl) | ((with_reducible apply er_var); rfl)
  | with_reducible exact ea_nil | ((with_reducible apply ea_cons) <;> walk_at "ev")
  | with_reducible exact od_int | with_reducible exact od_bool | exact od_intC (by decide) | exact od_intC ⟨by decide, by decide⟩ | exact od_intC (.inl ⟨by decide, by decide⟩) | with_reducible exact ud_int | with_reducible exact od_eqI | with_reducible exact od_neI | with_reducible exact od_strLt | with_reducible exact od_ip
  | ((with_reducible apply ed_op) <;> walk_at "ev")
  | ((with_reducible apply ed_un) <;> walk_at "ev")
  | ((with_reducible apply ed_tup') <;> walk_at "ev")
  | ((with_reducible apply el_lst') <;> walk_at "ev")
  | ((with_reducible apply ebd_test) <;> walk_at "ev")
  | ((with_reducible apply ebd_val) <;> walk_at "ev")
  | ((with_reducible refine ed_lenT ?_) <;> walk_at "ev")
  | ((with_reducible apply ed_lenR) <;> walk_at "ev")
  | ((with_reducible apply ed_tupleR) <;> walk_at "ev")
  | ((with_reducible apply EvL.rd) <;> walk_at "ev")
  | with_reducible exact eo_none
  | ((with_reducible apply eo_some) <;> walk_at "ev")
  | ((with_reducible apply ed_slT) <;> walk_at "ev")
  | ((with_reducible apply ebd_not) <;> walk_at "ev")
  | ((with_reducible apply ei_tup) <;> walk_at "ev")
  | rfl
  | skip))
section
variable {P : Program} {w : World} {K : PySem.W.Frag} {mg : Str → Option Value} {base : Heap}
/-! the law's def is called where no repr runs: the call and the head, with that known -/
theorem law_runs {k : Nat} {f : Addr} {fd : FuncData} {sp : Sp} (Fu : Fun K "law" "law" s57 f fd) (len : ∀ vs H Q E, sp vs H Q E → vs.length = 1)
    (bd : ∀ (cdv : Value) (A : Around) (outer : List Env) (s : Shared) (H : Hp) (vs : List V) (Q : VK) (E : XK), A.guards = some [] → Room k (A.deeper (envOfC "law" (defScope s57) s.heap.objs.size f cdv)) → sp vs H Q E →
      ∃ t, PSs (cxOf CX0 P w K mg base NL "law" (defScope s57) f cdv A outer s H E).nox (defBody s57) t ∧ t { nx := fun _ H' => Q .non H', rt := Q } (L2.start NL vs) H)
    {A : Around} {outer : List Env} {s : Shared} {H : Hp} {args : Args} {us : List Value} {vs : List V} {Q : VK} {E : XK} (hgd : A.guards = some []) (room : Room (k + 1) A) (en : Env0 P w K mg base A outer s H)
    (bind : BindsTo s fd args ((["_law_script"] : List Str).zip us)) (rel : Vals vs us) (hq : sp vs H Q E) : codeAny (model P w) A (.call (.ref f) args) (CR CX0 outer P w H s Q E) s := by
  obtain ⟨oc, od, kV, doc, pm, an, cdv, ct, osl, e1, look, code⟩ := Fu.ex
  subst e1
  have one := len _ _ _ _ hq
  have inH : K.In s.heap := en.mod.kin.keeps fun b o z => (en.bs b o z).1
  have noL : s.heap.NoLimit := en.mod.nolimit.keeps fun b o z => (en.bs b o z).1
  have kinds : ∀ y ∈ (["_law_script"] : List Str).zip us, (defScope s57).names.lookup y.1 = some .local ∨ ((defScope s57).names.lookup y.1 = some .cell ∧ ((cellsFrom (s.heap.objs.size + 1) (defScope s57).names []).lookup y.1).isSome = true) := by
    rintro ⟨n, v⟩ hy
    have hn := List.mem_singleton.mp (List.of_mem_zip hy).1
    subst hn
    exact .inl rfl
  refine codeAny_call_function room.depth (inH _ _ look) rfl sc57.co sc57.gen rfl (PySem.W.codeRec_of inH code) (bind _ _ _ _ ?_)
  refine wpAny_newFunctionEnv_cells sc57.kind kinds fun ev ee s1 tie => ?_
  subst ee
  refine ⟨noL.keeps tie.toInCall.keep, codeAny_func ?_⟩
  obtain ⟨t, pt, run⟩ := bd cdv A outer s H vs Q E hgd (room.deeper _) hq
  have inv0 := inv_start (CX := CX0) (E := E) sc57 room.hd en one rel tie
  refine wpAny_mono (pt.nox.run [] s1 (L2.start NL vs) H _ inv0 run) (fun fl s' ends => ?_) fun _ _ z => z
  cases fl with
  | ret u =>
    obtain ⟨v, σ', H', J, rv, fin⟩ := ends
    exact ⟨v, H', J.os, J.bare, J.base, J.hok, rv, fin⟩
  | next =>
    obtain ⟨σ', H', J, fin⟩ := ends
    exact ⟨V.non, H', J.os, J.bare, J.base, J.hok, rfl, fin⟩
  | brk => exact (ends.elim fun _ z => z.elim fun _ z => z.2).elim
  | cont => exact (ends.elim fun _ z => z.elim fun _ z => z.2).elim
/-- only the script may be known there -/
theorem law_head {mb : Str → Option Value} {fa a : Addr} {sp : Sp} {s₁ : Shared} {vs : List Value} {ns : List Int} (inK : K.In s₁.heap) (glo : s₁.heap.Ns mainGlobals mg) (blt : s₁.heap.Ns builtinsNs mb) (boot : ∀ x : Str, x ≠ "__name__" → mb x = bootBuiltins x)
    (lim : s₁.heap.NoLimit) (gens : s₁.gens = #[]) (at_a : s₁.heap.get? a = some { cls := .type "list", data := .seq vs.toArray }) (allI : IntsAre vs ns) (few : ns.length ≤ sizeLine)
    (run : ∀ (base : Heap) (H : Hp) (Q : VK) (E : XK), K.In base → base.Ns mainGlobals mg → Env0 P w K mg base callerA [] s₁ H → sp [.ref a] H Q E → codeAny (model P w) callerA (.call (.ref fa) ⟨[.ref a], []⟩) (CR CX0 [] P w H s₁ Q E) s₁)
    (good : ∀ H : Hp, SqL K H a (ns.map V.int) → sp [.ref a] H (fun v _ => v = .bl true) fun _ _ _ => False) :
    codeAny (model P w) callerA (.call (.ref fa) ⟨[.ref a], []⟩) (fun r s' => r = .ok (.ret (.bool true)) ∧ OldK s₁.heap s'.heap ∧ s'.os = s₁.os ∧ AllBare s'.gens) s₁ := by
  have vals := vals_ints allI
  have nl := allI.length
  have go : ∀ H : Hp, (∀ b u, H b = some u → b = a ∧ ∃ ob xs, u = .frz ob (.lst xs)) → SqL K H a (ns.map V.int) → HOk P w H s₁.heap → (H a ≠ none → K.lookup a = none) →
      codeAny (model P w) callerA (.call (.ref fa) ⟨[.ref a], []⟩) (fun r s' => r = .ok (.ret (.bool true)) ∧ OldK s₁.heap s'.heap ∧ s'.os = s₁.os ∧ AllBare s'.gens) s₁ := by
    intro H only sq okH free
    have off : ∀ {b : Addr}, b ≠ a → H b = none := fun {b} nb => by
      cases z : H b with
      | none => rfl
      | some u => exact absurd (only b u z).1 nb
    have noD : ∀ {b : Addr} {o : Obj} {es : Array DictEntry} {ep : Nat}, s₁.heap.get? b = some o → o.data = .dict es ep → b ≠ a := fun {b o es ep} e d z => by
      subst z
      rw [at_a] at e
      cases e
      have d2 : Data.seq vs.toArray _ = Data.dict es ep := d
      cases d2
    have tbl : ∀ {b : Addr} {m : Str → Option Value}, s₁.heap.Ns b m → (hidT s₁.heap H).Ns b m := fun {b m} h => by
      obtain ⟨o, es, ep, e, d, r⟩ := h
      exact ⟨o, es, ep, hidT_get e (off (noD e d)), d, r⟩
    have kin : K.In (hidT s₁.heap H) := fun b o e => by
      refine hidT_get (inK b o e) ?_
      cases z : H b with
      | none => rfl
      | some u =>
        obtain ⟨eb, _⟩ := only b u z
        subst eb
        rw [free (by rw [z]; simp)] at e
        cases e
    obtain ⟨mc, lim1, lim2⟩ := lim
    have md : Mod K mg (hidT s₁.heap H) := ⟨kin, tbl glo, ⟨mb, tbl blt, boot⟩, ⟨mc, tbl lim1, lim2⟩⟩
    have en : Env0 P w K mg (hidT s₁.heap H) callerA [] s₁ H := { frames := rfl, mod := md, bs := fun b o e => of_hidT e, bsz := Nat.le_of_eq (hidT_size _ _), funs := trivial, frf := fun b hb => (by cases hb), hok := okH, bare := .of_eq gens }
    refine codeAny_mono (run _ H _ _ kin (tbl glo) en (good H sq)) fun r s' fin => ?_
    cases r with
    | error e => exact (show False from fin).elim
    | ok fl =>
      cases fl with
      | ret u =>
        obtain ⟨v, H', os', bare', un, okH', rv, ev⟩ := fin
        replace ev : v = .bl true := ev
        subst ev
        cases (show u = Value.bool true from rv)
        refine ⟨rfl, OldK.of_keep fun b o e => ?_, os', bare'⟩
        cases z : H b with
        | none => exact un.keep b o e z (fun y => by cases y) (fun y => by cases y)
        | some u =>
          obtain ⟨_, ob, xs, eu⟩ := only b u z
          subst eu
          have k1 := (okH b _ z).1
          have k2 := (okH' b _ (un.frzs b ob _ z)).1
          rw [e] at k1
          cases k1
          exact k2
      | _ => exact (show False from fin).elim
  cases hk : K.lookup a with
  | some o =>
    have eo := inK a o hk
    rw [at_a] at eo
    cases eo
    exact go (fun _ => none) (fun b u z => by cases z) (.inr ⟨_, vs.toArray, _, hk, rfl, rfl, rfl, by rw [List.size_toArray, nl]; exact few, by simpa using vals⟩) (fun b u z => by cases z) (fun z => absurd rfl z)
  | none =>
    have pt : ∀ b, (if b = a then some (HO.frz { cls := .type "list", data := .seq vs.toArray } (.lst (ns.map V.int))) else none) ≠ none → b = a := fun b z => by
      by_cases c : b = a
      · exact c
      · rw [if_neg c] at z
        exact absurd rfl z
    refine go (fun b => if b = a then some (HO.frz { cls := .type "list", data := .seq vs.toArray } (.lst (ns.map V.int))) else none) (fun b u z => ?_) (.inl (.inr ⟨_, if_pos rfl⟩)) (fun b u z => ?_) (fun _ => hk)
    · replace z : (if b = a then some (HO.frz { cls := .type "list", data := .seq vs.toArray } (.lst (ns.map V.int))) else none) = some u := z
      have eb := pt b (by rw [z]; simp)
      subst eb
      rw [if_pos rfl] at z
      cases z
      exact ⟨rfl, _, _, rfl⟩
    · replace z : (if b = a then some (HO.frz { cls := .type "list", data := .seq vs.toArray } (.lst (ns.map V.int))) else none) = some u := z
      have eb := pt b (by rw [z]; simp)
      subst eb
      rw [if_pos rfl] at z
      cases z
      exact ⟨at_a, by rw [List.length_map]; exact few, vs, _, vals, at_a⟩
/-- the law's row, from what its def does -/
theorem law_attach {l : PySem.W.OpenLaw} {q : Program} {loose : List Str} {XP : (Str → Option Value) → Heap → Prop} {YP : World → Heap → Prop} {d : DefRec} {KP : Params → PySem.W.Frag} (hn : l.most = some 63) (hdf : d.params.defaults = [])
    (hY : ∀ (w : World) (h : Heap), YP w h → (KP w.params).In h)
    (F : ∀ (w : World) (mg : Str → Option Value) (fa : Addr) (h : Heap), (KP w.params).In h → h.Ns mainGlobals mg → mg d.name = some (.ref fa) →
      ∃ fd : FuncData, (∀ (s : Shared) (u : Value), BindsTo s fd ⟨[u], []⟩ [("_law_script", u)]) ∧ ∀ (base : Heap) (A : Around) (outer : List Env) (s : Shared) (H : Hp) (args : Args) (us : List Value) (vs : List V) (Q : VK) (E : XK), (KP w.params).In base → base.Ns mainGlobals mg → A.guards = some [] → Room 16 A →
        Env0 l.prog w (KP w.params) mg base A outer s H → BindsTo s fd args ((["_law_script"] : List Str).zip us) → Vals vs us → spLaw (KP w.params) vs H Q E → codeAny (model l.prog w) A (.call (.ref fa) args) (CR CX0 outer l.prog w H s Q E) s) :
    PySem.W.WalkO q loose XP YP l.row.toRowW d [] (fun f vs => PySem.call f vs) := by
  refine Att.attach_call hn hdf fun w s₀ s₁ mg mb fa o pm cd doc a vs ns G Y _ _ _ hmg at_a allI hl gens => ?_
  have inK := hY w _ Y
  obtain ⟨fd, bind, run⟩ := F w mg fa _ inK G.T.g hmg
  refine law_head (sp := spLaw (KP w.params)) inK G.T.g G.T.b G.T.builtins G.T.nolimit gens at_a allI (Nat.le_trans hl (by decide)) (fun base H Q E kin glo en sp => ?_) (fun H sq => ⟨a, ns, rfl, sq, by omega, fun _ => rfl⟩)
  exact run base callerA [] s₁ H ⟨[.ref a], []⟩ [.ref a] [.ref a] Q E kin glo rfl ⟨rfl, by decide, by decide⟩ en (bind s₁ (.ref a)) (.cons rfl .nil) sp
end
end NN
set_option Elab.async false
set_option linter.all false
set_option maxRecDepth 100000
set_option maxHeartbeats 4000000
namespace NN
open PySem PySem.Spec PyProof.Rows L2 NM
local macro_rules | `(tactic| walk_at "ev") => `(tactic| ((fail_if_success (first | with_reducible apply gd1 | with_reducible apply gd2 | with_reducible apply gd3 | with_reducible apply gd4 | with_reducible apply gd5)); first
  | with_reducible exact ed_int | with_reducible exact ed_str | with_reducible exact ed_bl | with_reducible exact ed_non
  | ((with_reducible apply ed_var); rfl) | ((with_reducible apply er_var); rfl)
  | with_reducible exact ea_nil | ((with_reducible apply ea_cons) <;> walk_at "ev")
  | with_reducible exact od_int | with_reducible exact od_bool | exact od_intC (by decide) | exact od_intC ⟨by decide, by decide⟩ | exact od_intC (.inl ⟨by decide, by decide⟩) | with_reducible exact ud_int | with_reducible exact od_eqI | with_reducible exact od_neI | with_reducible exact od_strLt | with_reducible exact od_ip
  | ((with_reducible apply ed_op) <;> walk_at "ev")
  | ((with_reducible apply ed_un) <;> walk_at "ev")
  | ((with_reducible apply ed_tup') <;> walk_at "ev")
  | ((with_reducible apply el_lst') <;> walk_at "ev")
  | ((with_reducible apply ebd_test) <;> walk_at "ev")
  | ((with_reducible apply ebd_val) <;> walk_at "ev")
  | ((with_reducible refine ed_lenT ?_) <;> walk_at "ev")
  | ((with_reducible apply ed_lenR) <;> walk_at "ev")
  | ((with_reducible apply ed_tupleR) <;> walk_at "ev")
  | ((with_reducible apply EvL.rd) <;> walk_at "ev")
  | with_reducible exact eo_none
  | ((with_reducible apply eo_some) <;> walk_at "ev")
  | ((with_reducible apply ed_slT) <;> walk_at "ev")
  | ((with_reducible apply ebd_not) <;> walk_at "ev")
  | ((with_reducible apply ei_tup) <;> walk_at "ev")
  | rfl
  | skip))
section
variable {P : Program} {w : World} {K : PySem.W.Frag} {mg : Str → Option Value} {base : Heap}
theorem Gf.mono {j k : Nat} {x : Str} {ps : List Str} {sp : Sp} (G : Gf P w K mg base j x ps sp) (h : j ≤ k) : Gf P w K mg base k x ps sp := by
  obtain ⟨f, fd, a, b⟩ := G
  exact ⟨f, fd, a.mono h, b⟩
/-- a def as the top has written it -/
def Ft (K : PySem.W.Frag) (x : Str) (st : Stmt) : Prop := ∃ (f : Addr) (oc : Value) (od : Option Addr) (osl : Array (Option Value)) (kV doc pm : Value) (an : Option Addr) (cdv ct : Value),
  PySem.W.nsIn K mainGlobals x = some (some (.ref f)) ∧ K.lookup f = some ⟨oc, od, .func (PySem.W.fnOf x x (defArgs st) (defBody st) (defScope st) .none kV doc pm an cdv ct), osl⟩ ∧ PySem.W.codeIn K cdv x = true ∧ PySem.W.keepIn K (.ref f) = true
theorem Ft.intro {x : Str} {st : Stmt} {f : Addr} {oc : Value} {od : Option Addr} {osl : Array (Option Value)} {kV doc pm : Value} {an : Option Addr} {cdv ct : Value} (a : PySem.W.nsIn K mainGlobals x = some (some (.ref f)))
    (l : K.lookup f = some ⟨oc, od, .func (PySem.W.fnOf x x (defArgs st) (defBody st) (defScope st) .none kV doc pm an cdv ct), osl⟩) (c : PySem.W.codeIn K cdv x = true) (k : PySem.W.keepIn K (.ref f) = true) : Ft K x st := ⟨f, oc, od, osl, kV, doc, pm, an, cdv, ct, a, l, c, k⟩
theorem Ft.df {h : Heap} {x : Str} {st : Stmt} {ps : List Str} (t : Ft K x st) (X : K.In h) (G : h.Ns mainGlobals mg) (hb : ∀ (kV doc pm : Value) (an : Option Addr) (cdv ct : Value) (us : List Value), us.length = ps.length → bindArgs (PySem.W.fnOf x x (defArgs st) (defBody st) (defScope st) .none kV doc pm an cdv ct) ⟨us, []⟩ = pure (ps.zip us)) : Df K mg x st ps := by
  obtain ⟨f, oc, od, osl, kV, doc, pm, an, cdv, ct, a, l, c, k⟩ := t
  have Fu := fun_mk (st := st) l c k
  exact ⟨f, _, Fu, PySem.W.mg_of X G a, Fu.binds hb⟩
/-- all defs but the law -/
structure Dfs (K : PySem.W.Frag) (mg : Str → Option Value) : Prop where
  d06 : Df K mg "number_cells" (topS 6) ["number"]
  d07 : Df K mg "read_number" (topS 7) ["cells", "at"]
  d08 : Df K mg "integer_cells" (topS 8) ["integer"]
  d09 : Df K mg "read_integer" (topS 9) ["cells", "at"]
  d10 : Df K mg "name_cells" (topS 10) ["name"]
  d11 : Df K mg "read_name" (topS 11) ["cells", "at"]
  d12 : Df K mg "item_cells" (topS 12) ["item"]
  d13 : Df K mg "read_many" (topS 13) ["cells", "at", "reader"]
  d14 : Df K mg "read_label" (topS 14) ["cells", "at"]
  d15 : Df K mg "read_labels" (topS 15) ["cells", "at"]
  d16 : Df K mg "read_item" (topS 16) ["cells", "at"]
  d19 : Df K mg "end_cell" (topS 19) ["body"]
  d20 : Df K mg "framed" (topS 20) ["body"]
  d21 : Df K mg "is_unfinished" (topS 21) ["cells", "at"]
  d22 : Df K mg "next_body" (topS 22) ["cells", "at"]
  d23 : Df K mg "read_frames" (topS 23) ["cells"]
  d30 : Df K mg "items_record" (topS 30) ["items"]
  d31 : Df K mg "moved_cells" (topS 31) ["table", "cells_of"]
  d32 : Df K mg "seal_record" (topS 32) ["book", "many"]
  d33 : Df K mg "items_of" (topS 33) ["book"]
  d34 : Df K mg "eights_of" (topS 34) ["items"]
  d35 : Df K mg "snapshot_cells" (topS 35) ["book"]
  d36 : Df K mg "read_moved_item" (topS 36) ["cells", "at"]
  d37 : Df K mg "read_moved_key" (topS 37) ["cells", "at"]
  d38 : Df K mg "read_move" (topS 38) ["cells", "at", "reader"]
  d39 : Df K mg "read_seal" (topS 39) ["body", "items"]
  d40 : Df K mg "read_part" (topS 40) ["body"]
  d41 : Df K mg "read_snapshot" (topS 41) ["cells"]
  d43 : Df K mg "_law_heap" (topS 43) ["_law_script"]
  d44 : Df K mg "_law_draw" (topS 44) ["_law_heap_here", "_law_many"]
  d45 : Df K mg "_law_pick" (topS 45) ["_law_heap_here", "_law_some"]
  d46 : Df K mg "_law_number_cells" (topS 46) ["_law_number"]
  d47 : Df K mg "_law_item_cells" (topS 47) ["_law_item_here"]
  d48 : Df K mg "_law_framed" (topS 48) ["_law_body"]
  d49 : Df K mg "_law_item" (topS 49) ["_law_heap_here", "_law_key", "_law_places"]
  d50 : Df K mg "_law_keys" (topS 50) ["_law_heap_here", "_law_many"]
  d51 : Df K mg "_law_book" (topS 51) ["_law_heap_here"]
  d52 : Df K mg "_law_moved" (topS 52) ["_law_table", "_law_items"]
  d53 : Df K mg "_law_bodies" (topS 53) ["_law_state", "_law_waiting", "_law_gone", "_law_mark", "_law_size"]
  d54 : Df K mg "_law_joined" (topS 54) ["_law_bodies_here"]
  d55 : Df K mg "_law_only" (topS 55) ["_law_table", "_law_move"]
  d56 : Df K mg "_law_wrong" (topS 56) ["_law_heap_here", "_law_state", "_law_waiting", "_law_gone", "_law_mark", "_law_bodies_here"]
/-- as the top has written them -/
structure Fts (K : PySem.W.Frag) : Prop where
  d06 : Ft K "number_cells" (topS 6)
  d07 : Ft K "read_number" (topS 7)
  d08 : Ft K "integer_cells" (topS 8)
  d09 : Ft K "read_integer" (topS 9)
  d10 : Ft K "name_cells" (topS 10)
  d11 : Ft K "read_name" (topS 11)
  d12 : Ft K "item_cells" (topS 12)
  d13 : Ft K "read_many" (topS 13)
  d14 : Ft K "read_label" (topS 14)
  d15 : Ft K "read_labels" (topS 15)
  d16 : Ft K "read_item" (topS 16)
  d19 : Ft K "end_cell" (topS 19)
  d20 : Ft K "framed" (topS 20)
  d21 : Ft K "is_unfinished" (topS 21)
  d22 : Ft K "next_body" (topS 22)
  d23 : Ft K "read_frames" (topS 23)
  d30 : Ft K "items_record" (topS 30)
  d31 : Ft K "moved_cells" (topS 31)
  d32 : Ft K "seal_record" (topS 32)
  d33 : Ft K "items_of" (topS 33)
  d34 : Ft K "eights_of" (topS 34)
  d35 : Ft K "snapshot_cells" (topS 35)
  d36 : Ft K "read_moved_item" (topS 36)
  d37 : Ft K "read_moved_key" (topS 37)
  d38 : Ft K "read_move" (topS 38)
  d39 : Ft K "read_seal" (topS 39)
  d40 : Ft K "read_part" (topS 40)
  d41 : Ft K "read_snapshot" (topS 41)
  d43 : Ft K "_law_heap" (topS 43)
  d44 : Ft K "_law_draw" (topS 44)
  d45 : Ft K "_law_pick" (topS 45)
  d46 : Ft K "_law_number_cells" (topS 46)
  d47 : Ft K "_law_item_cells" (topS 47)
  d48 : Ft K "_law_framed" (topS 48)
  d49 : Ft K "_law_item" (topS 49)
  d50 : Ft K "_law_keys" (topS 50)
  d51 : Ft K "_law_book" (topS 51)
  d52 : Ft K "_law_moved" (topS 52)
  d53 : Ft K "_law_bodies" (topS 53)
  d54 : Ft K "_law_joined" (topS 54)
  d55 : Ft K "_law_only" (topS 55)
  d56 : Ft K "_law_wrong" (topS 56)
theorem Fts.dfs {h : Heap} (X : K.In h) (G : h.Ns mainGlobals mg) (t : Fts K) : Dfs K mg where
  d06 := t.d06.df X G fun _ _ _ _ _ _ us hl => match us, hl with | [_], _ => rfl
  d07 := t.d07.df X G fun _ _ _ _ _ _ us hl => match us, hl with | [_, _], _ => rfl
  d08 := t.d08.df X G fun _ _ _ _ _ _ us hl => match us, hl with | [_], _ => rfl
  d09 := t.d09.df X G fun _ _ _ _ _ _ us hl => match us, hl with | [_, _], _ => rfl
  d10 := t.d10.df X G fun _ _ _ _ _ _ us hl => match us, hl with | [_], _ => rfl
  d11 := t.d11.df X G fun _ _ _ _ _ _ us hl => match us, hl with | [_, _], _ => rfl
  d12 := t.d12.df X G fun _ _ _ _ _ _ us hl => match us, hl with | [_], _ => rfl
  d13 := t.d13.df X G fun _ _ _ _ _ _ us hl => match us, hl with | [_, _, _], _ => rfl
  d14 := t.d14.df X G fun _ _ _ _ _ _ us hl => match us, hl with | [_, _], _ => rfl
  d15 := t.d15.df X G fun _ _ _ _ _ _ us hl => match us, hl with | [_, _], _ => rfl
  d16 := t.d16.df X G fun _ _ _ _ _ _ us hl => match us, hl with | [_, _], _ => rfl
  d19 := t.d19.df X G fun _ _ _ _ _ _ us hl => match us, hl with | [_], _ => rfl
  d20 := t.d20.df X G fun _ _ _ _ _ _ us hl => match us, hl with | [_], _ => rfl
  d21 := t.d21.df X G fun _ _ _ _ _ _ us hl => match us, hl with | [_, _], _ => rfl
  d22 := t.d22.df X G fun _ _ _ _ _ _ us hl => match us, hl with | [_, _], _ => rfl
  d23 := t.d23.df X G fun _ _ _ _ _ _ us hl => match us, hl with | [_], _ => rfl
  d30 := t.d30.df X G fun _ _ _ _ _ _ us hl => match us, hl with | [_], _ => rfl
  d31 := t.d31.df X G fun _ _ _ _ _ _ us hl => match us, hl with | [_, _], _ => rfl
  d32 := t.d32.df X G fun _ _ _ _ _ _ us hl => match us, hl with | [_, _], _ => rfl
  d33 := t.d33.df X G fun _ _ _ _ _ _ us hl => match us, hl with | [_], _ => rfl
  d34 := t.d34.df X G fun _ _ _ _ _ _ us hl => match us, hl with | [_], _ => rfl
  d35 := t.d35.df X G fun _ _ _ _ _ _ us hl => match us, hl with | [_], _ => rfl
  d36 := t.d36.df X G fun _ _ _ _ _ _ us hl => match us, hl with | [_, _], _ => rfl
  d37 := t.d37.df X G fun _ _ _ _ _ _ us hl => match us, hl with | [_, _], _ => rfl
  d38 := t.d38.df X G fun _ _ _ _ _ _ us hl => match us, hl with | [_, _, _], _ => rfl
  d39 := t.d39.df X G fun _ _ _ _ _ _ us hl => match us, hl with | [_, _], _ => rfl
  d40 := t.d40.df X G fun _ _ _ _ _ _ us hl => match us, hl with | [_], _ => rfl
  d41 := t.d41.df X G fun _ _ _ _ _ _ us hl => match us, hl with | [_], _ => rfl
  d43 := t.d43.df X G fun _ _ _ _ _ _ us hl => match us, hl with | [_], _ => rfl
  d44 := t.d44.df X G fun _ _ _ _ _ _ us hl => match us, hl with | [_, _], _ => rfl
  d45 := t.d45.df X G fun _ _ _ _ _ _ us hl => match us, hl with | [_, _], _ => rfl
  d46 := t.d46.df X G fun _ _ _ _ _ _ us hl => match us, hl with | [_], _ => rfl
  d47 := t.d47.df X G fun _ _ _ _ _ _ us hl => match us, hl with | [_], _ => rfl
  d48 := t.d48.df X G fun _ _ _ _ _ _ us hl => match us, hl with | [_], _ => rfl
  d49 := t.d49.df X G fun _ _ _ _ _ _ us hl => match us, hl with | [_, _, _], _ => rfl
  d50 := t.d50.df X G fun _ _ _ _ _ _ us hl => match us, hl with | [_, _], _ => rfl
  d51 := t.d51.df X G fun _ _ _ _ _ _ us hl => match us, hl with | [_], _ => rfl
  d52 := t.d52.df X G fun _ _ _ _ _ _ us hl => match us, hl with | [_, _], _ => rfl
  d53 := t.d53.df X G fun _ _ _ _ _ _ us hl => match us, hl with | [_, _, _, _, _], _ => rfl
  d54 := t.d54.df X G fun _ _ _ _ _ _ us hl => match us, hl with | [_], _ => rfl
  d55 := t.d55.df X G fun _ _ _ _ _ _ us hl => match us, hl with | [_, _], _ => rfl
  d56 := t.d56.df X G fun _ _ _ _ _ _ us hl => match us, hl with | [_, _, _, _, _, _], _ => rfl

/-- what is known of the two classes -/
structure Cl (P : Program) (K : PySem.W.Frag) (mg : Str → Option Value) (C Cb fi fI : Addr) (fd : FuncData) : Prop where
  bk : BkC K C
  is : IsC K C
  tx : PySem.Brk.Txt P K mg Cb fI
  makes : Mk K C fi
  fu : Fun K "__init__" "Book.__init__" s25 fi fd
  gC : mg "Book" = some (.ref C)
theorem law_all {C Cb fi fI f : Addr} {fd fdI : FuncData} (D : Dfs K mg) (N : Nm mg) (Cc : Ct mg) (L : Cl P K mg C Cb fi fI fdI) (Fu : Fun K "law" "law" s57 f fd) {A : Around} {outer : List Env} {s : Shared} {H : Hp} {args : Args} {us : List Value} {vs : List V} {Q : VK} {E : XK}
    (hgd : A.guards = some []) (room : Room 16 A) (en : Env0 P w K mg base A outer s H) (bind : BindsTo s fd args ((["_law_script"] : List Str).zip us)) (rel : Vals vs us) (hq : spLaw K vs H Q E) : codeAny (model P w) A (.call (.ref f) args) (CR CX0 outer P w H s Q E) s := by
  have B := L.bk
  have M : MkB P w K mg base C := ⟨fi, fdI, L.makes, g25 L.fu N B, L.gC, L.fu.binds fun _ _ _ _ _ _ us hl => match us, hl with | [_, _, _, _, _], _ => rfl⟩
  -- the program's own
  have r06 : Gf P w K mg base 1 "number_cells" ["number"] (spP cNC) := g06 D.d06 N
  have r07 : Gf P w K mg base 1 "read_number" ["cells", "at"] (spP (cRd rdN .int)) := g07 D.d07 N
  have r08 := g08 D.d08 N r06
  have r09 := g09 D.d09 N r07
  have r10 : Gf P w K mg base 1 "name_cells" ["name"] (spP cNM) := g10 D.d10 N Cc
  have r11 : Gf P w K mg base 1 "read_name" ["cells", "at"] (spP (cRd NM.name.rd .str)) := g11 D.d11 N Cc
  have r12 := g12 D.d12 N r06 r08 r10
  have r14 := g14 D.d14 N r11 r09
  obtain ⟨f14, m14, R14⟩ := r14.rdr
  have r13a := g13 (c := lab) (toD := dLab) D.d13 N r07 R14
  have r15 := g15 D.d15 N m14 r13a
  obtain ⟨f09, m09, R09⟩ := r09.rdr
  have r13b := g13 (c := NM.int) (toD := PyData.int) D.d13 N r07 R09
  have r16 := g16 D.d16 N m09 r07 r13b r15
  obtain ⟨f16, m16, R16⟩ := r16.rdr
  have r13c := g13 (c := item) (toD := dItem) D.d13 N r07 R16
  obtain ⟨f07, m07, R07⟩ := r07.rdr
  have r13d := g13 (c := Cd.num) (toD := PyData.int) D.d13 N r07 R07
  have r19 : Gf P w K mg base 1 "end_cell" ["body"] (spP cEC) := g19 D.d19 N Cc
  have r20 := g20 D.d20 N r06 r19
  have r21 : Gf P w K mg base 1 "is_unfinished" ["cells", "at"] (spP cUN) := g21 D.d21 N
  have r22 := g22 D.d22 N L.tx r07 r19 r21
  have r23 := g23 D.d23 N r22
  have r30 := g30 D.d30 N Cc r06 r12 r20
  have r34 : Gf P w K mg base 1 "eights_of" ["items"] (spL cE8) := g34 D.d34 N Cc
  have r33 : Gf P w K mg base 1 "items_of" ["book"] (spIO C) := g33 D.d33 N B
  obtain ⟨f12, m12, R12⟩ := r12.rdr
  obtain ⟨f06, m06, R06⟩ := r06.rdr
  have r31a := g31 (c := item) (toD := dItem) (by decide) D.d31 N R12 r06
  have r31b := g31 (c := Cd.num) (toD := PyData.int) (by decide) D.d31 N R06 r06
  have r32 := g32 D.d32 N Cc B m12 m06 r06 r20 r31a r31b
  have r35 := g35 D.d35 N Cc B r33 r34 r30 r32
  have r38a := g38 (c := item) (toD := dItem) (by decide) D.d38 r07 r13c
  have r38b := g38 (c := Cd.num) (toD := PyData.int) (by decide) D.d38 r07 r13d
  have r36 := g36 D.d36 m16 r38a
  have r37 := g37 D.d37 m07 r38b
  obtain ⟨f36, m36, R36⟩ := r36.rdr
  obtain ⟨f37, m37, R37⟩ := r37.rdr
  have r13e := g13 (c := mov item) (toD := dMove dItem) D.d13 N r07 R36
  have r13f := g13 (c := mov Cd.num) (toD := dMove PyData.int) D.d13 N r07 R37
  have r39 := g39 (by decide) D.d39 N Cc M m36 m37 r07 r13e (r13f.mono (by decide))
  have r40 := g40 (by decide) D.d40 N Cc m16 r13c
  have r41 := g41 (by decide) D.d41 N B L.tx r23 (r40.mono (by decide)) r39 r35
  -- the law's
  have r43 : Gf P w K mg base 1 "_law_heap" ["_law_script"] (spHeap K) := g43 D.d43 N
  have r44 : Gf P w K mg base 1 "_law_draw" ["_law_heap_here", "_law_many"] spDraw := g44 D.d44 N
  have r45 := g45 D.d45 N r44
  have r46 : Gf P w K mg base 1 "_law_number_cells" ["_law_number"] (spP cNC) := g46 D.d46 N
  have r47 := g47 D.d47 N r46
  have r48 := g48 D.d48 N r46
  have r49 := g49 D.d49 N r44 r45
  have r50 := g50 D.d50 N r45
  have r51 := g51 D.d51 N r44 r45 r49 r50
  have r52a := g52a D.d52 N r46 r47
  have r52b := g52b D.d52 N r46 r47
  have r53 := g53 D.d53 N r46 r47 r52a r52b
  have r54 := g54 D.d54 r48
  have r55 : Gf P w K mg base 1 "_law_only" ["_law_table", "_law_move"] (spN cON) := g55 D.d55
  have r56 := g56 D.d56 N r44 r45 r46 r47 r55 r52a r52b r53 r54
  exact law_runs Fu (fun vs H Q E ⟨a, ns, e, _⟩ => by rw [e]; rfl) (fun cdv A outer s H vs Q E hga hr c0 => law_walk N B L.is M D.d35 D.d41 r43 r44 r51 r53 r54 r56 r35 r41 cdv A outer s H vs Q E hga hr c0) hgd room en bind rel hq
end
end NN
set_option Elab.async false
set_option linter.all false
set_option maxRecDepth 100000
set_option maxHeartbeats 4000000
namespace NN
open PySem PySem.Spec PyProof.Rows L2 NM
local macro_rules | `(tactic| walk_at "ev") => `(tactic| ((fail_if_success (first | with_reducible apply gd1 | with_reducible apply gd2 | with_reducible apply gd3 | with_reducible apply gd4 | with_reducible apply gd5)); first
  | with_reducible exact ed_int | with_reducible exact ed_str | with_reducible exact ed_bl | with_reducible exact ed_non
  | ((with_reducible apply ed_var); rfl) | ((with_reducible apply er_var); rfl)
  | with_reducible exact ea_nil | ((with_reducible apply ea_cons) <;> walk_at "ev")
  | with_reducible exact od_int | with_reducible exact od_bool | exact od_intC (by decide) | exact od_intC ⟨by decide, by decide⟩ | exact od_intC (.inl ⟨by decide, by decide⟩) | with_reducible exact ud_int | with_reducible exact od_eqI | with_reducible exact od_neI | with_reducible exact od_strLt | with_reducible exact od_ip
  | ((with_reducible apply ed_op) <;> walk_at "ev")
  | ((with_reducible apply ed_un) <;> walk_at "ev")
  | ((with_reducible apply ed_tup') <;> walk_at "ev")
  | ((with_reducible apply el_lst') <;> walk_at "ev")
  | ((with_reducible apply ebd_test) <;> walk_at "ev")
  | ((with_reducible apply ebd_val) <;> walk_at "ev")
  | ((with_reducible refine ed_lenT ?_) <;> walk_at "ev")
  | ((with_reducible apply ed_lenR) <;> walk_at "ev")
  | ((with_reducible apply ed_tupleR) <;> walk_at "ev")
  | ((with_reducible apply EvL.rd) <;> walk_at "ev")
  | with_reducible exact eo_none
  | ((with_reducible apply eo_some) <;> walk_at "ev")
  | ((with_reducible apply ed_slT) <;> walk_at "ev")
  | ((with_reducible apply ebd_not) <;> walk_at "ev")
  | ((with_reducible apply ei_tup) <;> walk_at "ev")
  | rfl
  | skip))
section
variable {P : Program} {w : World} {K : PySem.W.Frag} {mg : Str → Option Value} {base : Heap}
/-! the top's facts, joined -/
structure NmF (K : PySem.W.Frag) : Prop where
  n_len : PySem.W.nsIn K mainGlobals "len" = some none
  n_tuple : PySem.W.nsIn K mainGlobals "tuple" = some none
  n_range : PySem.W.nsIn K mainGlobals "range" = some none
  n_sum : PySem.W.nsIn K mainGlobals "sum" = some none
  n_all : PySem.W.nsIn K mainGlobals "all" = some none
  n_enumerate : PySem.W.nsIn K mainGlobals "enumerate" = some none
  n_sorted : PySem.W.nsIn K mainGlobals "sorted" = some none
  n_dict : PySem.W.nsIn K mainGlobals "dict" = some none
  n_list : PySem.W.nsIn K mainGlobals "list" = some none
  n_repr : PySem.W.nsIn K mainGlobals "repr" = some none
  n_isinstance : PySem.W.nsIn K mainGlobals "isinstance" = some none
  n_int : PySem.W.nsIn K mainGlobals "int" = some none
  n_abs : PySem.W.nsIn K mainGlobals "abs" = some none
  n_min : PySem.W.nsIn K mainGlobals "min" = some none
  n_max : PySem.W.nsIn K mainGlobals "max" = some none
  n_super : PySem.W.nsIn K mainGlobals "super" = some none
theorem NmF.nm {h : Heap} (X : K.In h) (G : h.Ns mainGlobals mg) (t : NmF K) : Nm mg where
  len := PySem.W.mg_none_of X G t.n_len
  tuple := PySem.W.mg_none_of X G t.n_tuple
  range := PySem.W.mg_none_of X G t.n_range
  sum := PySem.W.mg_none_of X G t.n_sum
  all := PySem.W.mg_none_of X G t.n_all
  enumerate := PySem.W.mg_none_of X G t.n_enumerate
  sorted := PySem.W.mg_none_of X G t.n_sorted
  dict := PySem.W.mg_none_of X G t.n_dict
  list := PySem.W.mg_none_of X G t.n_list
  repr := PySem.W.mg_none_of X G t.n_repr
  isinstance := PySem.W.mg_none_of X G t.n_isinstance
  int := PySem.W.mg_none_of X G t.n_int
  abs := PySem.W.mg_none_of X G t.n_abs
  min := PySem.W.mg_none_of X G t.n_min
  max := PySem.W.mg_none_of X G t.n_max
  super := PySem.W.mg_none_of X G t.n_super
structure CtF (K : PySem.W.Frag) : Prop where
  c_letters : ∃ t, PySem.W.nsIn K mainGlobals "LETTERS" = some (some (.str "abcdefghijklmnopqrstuvwxyz" t))
  c_longest : ∃ t, PySem.W.nsIn K mainGlobals "LONGEST_NAME" = some (some (.int 8 t))
  c_range : ∃ t, PySem.W.nsIn K mainGlobals "END_RANGE" = some (some (.int 251 t))
  c_items : ∃ t, PySem.W.nsIn K mainGlobals "ITEMS_WORD" = some (some (.int 7 t))
  c_sealw : ∃ t, PySem.W.nsIn K mainGlobals "SEAL_WORD" = some (some (.int 8 t))
  c_most : ∃ t, PySem.W.nsIn K mainGlobals "MOST_IN_RECORD" = some (some (.int 8 t))
theorem CtF.ct {h : Heap} (X : K.In h) (G : h.Ns mainGlobals mg) (t : CtF K) : Ct mg where
  letters := t.c_letters.elim fun t e => ⟨t, PySem.W.mg_of X G e⟩
  longest := t.c_longest.elim fun t e => ⟨t, PySem.W.mg_of X G e⟩
  range := t.c_range.elim fun t e => ⟨t, PySem.W.mg_of X G e⟩
  items := t.c_items.elim fun t e => ⟨t, PySem.W.mg_of X G e⟩
  sealw := t.c_sealw.elim fun t e => ⟨t, PySem.W.mg_of X G e⟩
  most := t.c_most.elim fun t e => ⟨t, PySem.W.mg_of X G e⟩
theorem CtF.intro {t1 t2 t3 t4 t5 t6 : Tok} (c1 : PySem.W.nsIn K mainGlobals "LETTERS" = some (some (.str "abcdefghijklmnopqrstuvwxyz" t1))) (c2 : PySem.W.nsIn K mainGlobals "LONGEST_NAME" = some (some (.int 8 t2))) (c3 : PySem.W.nsIn K mainGlobals "END_RANGE" = some (some (.int 251 t3))) (c4 : PySem.W.nsIn K mainGlobals "ITEMS_WORD" = some (some (.int 7 t4))) (c5 : PySem.W.nsIn K mainGlobals "SEAL_WORD" = some (some (.int 8 t5))) (c6 : PySem.W.nsIn K mainGlobals "MOST_IN_RECORD" = some (some (.int 8 t6))) : CtF K := ⟨⟨t1, c1⟩, ⟨t2, c2⟩, ⟨t3, c3⟩, ⟨t4, c4⟩, ⟨t5, c5⟩, ⟨t6, c6⟩⟩
theorem exm_own {C : Addr} (h1 : PySem.W.subIn K (.ref C) (.type "BaseException") = some true) (h2 : PySem.W.isClsIn K C = true) (h3 : PySem.W.typeIn K (.ref C) = some (.type "type")) (h4 : PySem.W.subIn K (.ref C) (.ref C) = some true) : PySem.W.exmOne K (.ref C) (.ref C) = some true := by
  unfold PySem.W.exmOne
  have a : (PySem.W.subIn K (.ref C) (.type "BaseException") == some true) = true := by
    rw [h1]
    rfl
  have b : ((PySem.W.clsIn K C).isSome && PySem.W.typeIn K (.ref C) == some (.type "type")) = true := by
    rw [h3, show (PySem.W.clsIn K C).isSome = true from h2]
    rfl
  simp only [a, if_true]
  show (if ((PySem.W.clsIn K C).isSome && PySem.W.typeIn K (.ref C) == some (.type "type")) = true then PySem.W.subIn K (.ref C) (.ref C) else none) = some true
  rw [if_pos b]
  exact h4
theorem tx_intro {h : Heap} {C fI : Addr} (X : K.In h) (G : h.Ns mainGlobals mg) (topP : (P.main.scope.names.lookup ("super" : Str)).isSome = false) (gX : PySem.W.nsIn K mainGlobals "Broken" = some (some (.ref C))) (gS : PySem.W.nsIn K mainGlobals "super" = some none)
    {nm q : Str} {N : Addr} {bs bm : List Value} {sn : List Str} {sub : List Value} {ab : Bool} {col : Option Bool} {dd : Option Addr} {k0 k1 k2 k3 k5 : Option Value}
    (xL : K.lookup C = some (excClassObj nm q C N bs bm true sn sub ab col dd k0 k1 k2 k3 k5 "ValueError.__new__")) (vb : PySem.HandSPX.refsVE bm = true)
    (sa : PySem.W.findIn K (.ref C) "__setattr__" = some (some (.builtin "object.__setattr__"))) (noN : PySem.W.findIn K (.ref C) "word" = some none) (iC : PySem.W.findIn K (.ref C) "__init__" = some (some (.ref fI))) (tC : PySem.W.typeIn K (.ref fI) = some (.type "function")) (kC : PySem.W.keepIn K (.ref C) = true)
    (exC : PySem.W.subIn K (.ref C) (.type "BaseException") = some true) (veC : PySem.W.subIn K (.ref C) (.type "ValueError") = some true) (tyC : PySem.W.typeIn K (.ref C) = some (.type "type")) (hC : PySem.W.isClsIn K C = true) (sC : PySem.W.subIn K (.ref C) (.ref C) = some true)
    (opq : PySem.W.nsIn K cStatics "thirdparty.any" = some none) (self : PySem.W.mroIn K C (.ref C) = some true) (sup : PySem.W.ks_superIn K C C "__init__" = some (some (.builtin "ValueError.__init__")))
    {oc ct doc pm cl ccl : Value} {od an cld cdd : Option Addr} {cda cc : Addr} {osl csl ccs : Array (Option Value)} {vs : Array Value} {file : Str} {tf : Tok}
    (l1 : K.lookup fI = some ⟨oc, od, .func (PySem.W.fnX "__init__" "Broken.__init__" (defArgs PySem.Brk.stI) (defBody PySem.Brk.stI) (defScope PySem.Brk.stI) [("__class__", cc)] .none .none doc pm an (.ref cda) ct), osl⟩) (l2 : PySem.W.codeIn K (.ref cda) "Broken.__init__" = true)
    (l3 : K.lookup cc = some ⟨cl, cld, .cell (some (.ref C)), csl⟩) (l4 : K.lookup cda = some ⟨ccl, cdd, .fields vs, ccs⟩) (l5 : vs[2]? = some (.str file tf)) (l6 : ((P.main.file : Str) == file) = true) : PySem.Brk.Txt P K mg C fI :=
  ⟨PySem.W.mg_of X G gX, PySem.W.mg_none_of X G gS, topP, ⟨nm, q, N, bs, bm, sn, sub, ab, col, dd, k0, k1, k2, k3, k5, xL, vb⟩, sa, noN, iC, tC, kC, exC, veC, tyC, exm_own exC hC tyC sC, opq, self, sup, ⟨oc, ct, od, doc, pm, an, cda, cc, osl, l1, l2, ⟨cl, cld, csl, l3⟩, ccl, cdd, vs, ccs, file, tf, l4, l5, l6⟩⟩
/-- the end: from what stands behind the top -/
theorem law_end {l : PySem.W.OpenLaw} {h : Heap} {fa fa2 C Cb fi fI : Addr} (X : K.In h) (G : h.Ns mainGlobals mg) (hfa : mg "law" = some (.ref fa)) (ft : Fts K) (nm : NmF K) (ct : CtF K)
    (gB : PySem.W.nsIn K mainGlobals "Book" = some (some (.ref C)))
    (b1 : PySem.W.plainGet K C Str.empty = true) (b2 : PySem.W.hasDictIn K C = true) (b3 : PySem.W.plainOver K C = true) (b4 : PySem.W.findIn K (.ref C) "__setattr__" = some (some (.builtin "object.__setattr__")))
    (b5 : PySem.W.findIn K (.ref C) "state" = some none) (b6 : PySem.W.findIn K (.ref C) "waiting" = some none) (b7 : PySem.W.findIn K (.ref C) "given_away" = some none) (b8 : PySem.W.findIn K (.ref C) "mark" = some none)
    (i1 : PySem.W.findIn K (.ref C) "__class__" = some (some (.builtin "object.__class__"))) (i2 : PySem.W.specialIn K (.builtin "object.__class__") "__get__" = some (some (.builtin "getset_descriptor.__get__"))) (i3 : PySem.W.takesIn K (.builtin "object.__class__") = some true) (i4 : PySem.W.mroIn K C (.type "object") = some true)
    (m1 : PySem.W.makesIn K C = true) (m2 : PySem.W.findIn K (.ref C) "__init__" = some (some (.ref fi))) (m3 : PySem.W.isFn K (.ref fi) = true) (m4 : PySem.W.keepIn K (.ref C) = true)
    {oc1 kV1 dc1 pm1 cd1 ct1 oc2 kV2 dc2 pm2 cd2 ct2 : Value} {od1 an1 od2 an2 : Option Addr} {sl1 sl2 : Array (Option Value)}
    (f1 : K.lookup fi = some ⟨oc1, od1, .func (PySem.W.fnOf "__init__" "Book.__init__" (defArgs s25) (defBody s25) (defScope s25) .none kV1 dc1 pm1 an1 cd1 ct1), sl1⟩) (f2 : PySem.W.codeIn K cd1 "Book.__init__" = true) (f3 : PySem.W.keepIn K (.ref fi) = true)
    (tx : PySem.Brk.Txt l.prog K mg Cb fI)
    (l0 : PySem.W.nsIn K mainGlobals "law" = some (some (.ref fa2))) (l1 : K.lookup fa2 = some ⟨oc2, od2, .func (PySem.W.fnOf "law" "law" (defArgs s57) (defBody s57) (defScope s57) .none kV2 dc2 pm2 an2 cd2 ct2), sl2⟩) (l2 : PySem.W.codeIn K cd2 "law" = true) (l3 : PySem.W.keepIn K (.ref fa2) = true) :
    ∃ fd : FuncData, (∀ (s : Shared) (u : Value), BindsTo s fd ⟨[u], []⟩ [("_law_script", u)]) ∧ ∀ (base : Heap) (A : Around) (outer : List Env) (s : Shared) (H : Hp) (args : Args) (us : List Value) (vs : List V) (Q : VK) (E : XK), K.In base → base.Ns mainGlobals mg → A.guards = some [] → Room 16 A →
        Env0 l.prog w K mg base A outer s H → BindsTo s fd args ((["_law_script"] : List Str).zip us) → Vals vs us → spLaw K vs H Q E → codeAny (model l.prog w) A (.call (.ref fa) args) (CR CX0 outer l.prog w H s Q E) s := by
  have e := hfa.symm.trans (PySem.W.mg_of X G l0)
  cases e
  have B : BkC K C := ⟨⟨b1, b2, b3, b4⟩, b5, b6, b7, b8⟩
  have L : Cl l.prog K mg C Cb fi fI _ := ⟨B, ⟨i1, i2, i3, i4⟩, tx, ⟨m1, m2, m3, m4⟩, fun_mk (st := s25) f1 f2 f3, PySem.W.mg_of X G gB⟩
  have Fu := fun_mk (st := s57) l1 l2 l3
  exact ⟨_, fun s v => .of_eq rfl, fun base A outer s H args us vs Q E _ _ hgd room en bind rel hq => law_all (ft.dfs X G) (nm.nm X G) (ct.ct X G) L Fu hgd room en bind rel hq⟩
end
end NN
set_option Elab.async false
set_option linter.all false
open PySem PySem.W PyProof.Rows
set_option maxRecDepth 100000 in
set_option maxHeartbeats 0 in
theorem PySem.Challenge.cw_nonearer_k59_whole_cells_of_books_holds : PySem.Challenge.rw_nonearer_k59_whole_cells_of_books.Holds := by
  w_on; o_law; k_head; (case hw => w_witness2)
  k_fill
  refine NN.law_attach (l := PySem.Challenge.rw_nonearer_k59_whole_cells_of_books) rfl rfl (fun w h Y => PySem.W.kIn_of Y) ?F
  case F =>
    intro w mg fa h KX G hmg
    refine' NN.law_end KX G hmg ?ft ?nm ?ct ?gB ?b1 ?b2 ?b3 ?b4 ?b5 ?b6 ?b7 ?b8 ?i1 ?i2 ?i3 ?i4 ?m1 ?m2 ?m3 ?m4 ?f1 ?f2 ?f3 ?tx ?l0 ?l1 ?l2 ?l3
    (case gB => k_is); (case b1 => k_is); (case b2 => k_is); (case b3 => k_is); (case b4 => k_is); (case b5 => k_is); (case b6 => k_is); (case b7 => k_is); (case b8 => k_is)
    (case i1 => k_is); (case i2 => k_is); (case i3 => k_is); (case i4 => k_is)
    (case m1 => k_is); (case m2 => k_is); (case m3 => k_is); (case m4 => k_is)
    (case f1 => k_is); (case f2 => k_is); (case f3 => k_is)
    (case l0 => k_is); (case l1 => k_is); (case l2 => k_is); (case l3 => k_is)
    case nm => exact ⟨by k_is, by k_is, by k_is, by k_is, by k_is, by k_is, by k_is, by k_is, by k_is, by k_is, by k_is, by k_is, by k_is, by k_is, by k_is, by k_is⟩
    case ct =>
      refine' NN.CtF.intro ?c1 ?c2 ?c3 ?c4 ?c5 ?c6
      (case c1 => k_is); (case c2 => k_is); (case c3 => k_is); (case c4 => k_is); (case c5 => k_is); (case c6 => k_is)
    case tx =>
      refine' NN.tx_intro KX G ?tp ?gX ?gS ?xL ?vb ?sa ?noN ?iC ?tC ?kC ?exC ?veC ?tyC ?hC ?sC ?opq ?self ?sup ?r1 ?r2 ?r3 ?r4 ?r5 ?r6
      (case tp => rfl)
      (case gX => k_is); (case gS => k_is); (case xL => k_is); (case vb => decide +kernel); (case sa => k_is); (case noN => k_is); (case iC => k_is); (case tC => k_is); (case kC => k_is)
      (case exC => k_is); (case veC => k_is); (case tyC => k_is); (case hC => k_is); (case sC => first | rfl | k_is); (case opq => k_is); (case self => k_is); (case sup => ks_is)
      (case r1 => k_is); (case r2 => k_is); (case r3 => k_is); (case r4 => k_is); (case r5 => rfl); (case r6 => decide +kernel)
    case ft =>
      constructor
      all_goals (refine' NN.Ft.intro ?a ?l ?c ?k; (case a => k_is); (case l => k_is); (case c => k_is); (case k => k_is))
