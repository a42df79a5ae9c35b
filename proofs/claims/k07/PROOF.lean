import PyProof.Rows.All
import Wide.All
import OpenK.AllK
import Wide.FinOn
import HandS.ForMost
import HandS.ForExc
import HandS.Walk
import HandS.Lambda
import KE.DataCmp
import KE.SortData
import KE.DataMinMax
import HandS.Deep
import HandS.TupAny
import HandS.TupMul
import HandS.Flow
import HandS.IsInst
import HandS.Dict
import KE.KTupSum
import HandS.Text
import HandS.TupLe
import HandS.TupLen
import HandS.CallLocal
import HandS.Style
import KE.GoesMore
import KE.GoesEnum
import KE.GoesZip
import HandS.Star
import HandS.DictComp
import HandS.Words
import HandS.WordsExc
import HandS.TupSets
import HandS.SetFor
import HandS.Strs
import HandS.Conv
import KE.KDictSum
import HandS.Exc
import KE.KExcSuper
import KE.KSuper
import HandS.ExcField
import HandS.ExcIs
import HandS.Comp
import PyProof.ListRange
import HandS.EndOwn
import KE.KDictZip
import HandS.TryOnly
import HandS.ExcInit
import KE.KRevSl
import HandS.RevTup
import PySem.Challenge.RW_spadebook_k07_hands_and_days_they_can_st
set_option Elab.async false
set_option linter.all false
set_option autoImplicit false
set_option maxRecDepth 100000
/-! Ev0: data as trees (D), how they lie in the abstract heap (RV), what keeps them. -/
namespace Ev
open PySem PySem.Spec L2
open PyProof.Rows hiding St
/-- the tables of the lambdas' code objects, with the code objects' names -/
class Tbl where
  tt : List (Addr × Str)
variable [Tbl]

/-- a value as a tree; lists and dicts by their contents -/
inductive D where
  | non | bl (b : Bool) | int (i : Int) | str (x : Str)
  | tup (xs : List D) | lst (xs : List D)
  | dct (ks vs : List D)
  | bag | fn (f : Str) | ty (n : String)

abbrev LT := Addr
/-- where things are: the written part, the module's names, the bag, the bag's list -/
structure Rc where
  K : PySem.W.Frag
  mg : Str → Option Value
  A : Addr
  L : LT
abbrev Od := Addr → Prop
/-- the bag, the tables: they change behind all calls -/
def av (c : Rc) (a : Addr) : Prop := a = c.A ∨ a ∈ Tbl.tt.map (·.1)
abbrev OA (c : Rc) (O : Od) : Prop := ∀ b, av c b → O b
/-- what may change -/
def Mu : Option HO → Prop
  | some (.tbl _) => True
  | o => Mut o
theorem mu_of {o : Option HO} (h : Mut o) : Mu o := by
  unfold Mu
  split
  · trivial
  · exact h

/-- keys of dicts as trees -/
def keyD : Key → D
  | .inl i => .int i
  | .inr x => .str x
/-- a dict's entries at a -/
def DctAt (H : Hp) (a : Addr) (ks : List D) (xs : List V) : Prop :=
  (∃ kvs : List (Key × V), Rd H a (.dK kvs) ∧ (kvs = [] → H a = some (.dK [])) ∧ ks = kvs.map (fun p => keyD p.1) ∧ xs = kvs.map (·.2)) ∨
  (∃ kvs : List (List Key × V), Rd H a (.dT kvs) ∧ (kvs = [] → H a = some (.dT [])) ∧ ks = kvs.map (fun p => D.tup (p.1.map keyD)) ∧ xs = kvs.map (·.2))

mutual
/-- v is d, its lists and dicts not at O -/
def RV (c : Rc) (O : Od) (H : Hp) : D → V → Prop
  | .non, v => v = .non
  | .bl b, v => v = .bl b
  | .int i, v => v = .int i
  | .str x, v => v = .str x ∧ x.length ≤ sizeLine ∧ PyData.strOk x = true
  | .tup ds, v => ∃ a vs, v = .ref a ∧ H a = some (.tup vs) ∧ RVs c O H ds vs
  | .lst ds, v => ∃ a vs, v = .ref a ∧ ¬ O a ∧ H a = some (.lst vs) ∧ RVs c O H ds vs
  | .dct ks ds, v => ∃ a vs, v = .ref a ∧ ¬ O a ∧ DctAt H a ks vs ∧ RVs c O H ds vs
  | .bag, v => v = .ref c.A
  | .fn f, v => ∃ a, v = .ref a ∧ c.mg f = some (.ref a)
  | .ty n, v => v = .ty n
def RVs (c : Rc) (O : Od) (H : Hp) : List D → List V → Prop
  | [], vs => vs = []
  | d :: ds, vs => ∃ v r, vs = v :: r ∧ RV c O H d v ∧ RVs c O H ds r
end

/-- what stood and may not be changed (not at O, or a thing that never changes) stands -/
def Kp (O : Od) (H H' : Hp) : Prop := ∀ b o, H b = some o → (¬ O b ∨ ¬ Mu (some o)) → H' b = some o
theorem Kp.refl {O : Od} {H : Hp} : Kp O H H := fun _ _ h _ => h
theorem Kp.trans {O : Od} {H H1 H2 : Hp} (a : Kp O H H1) (b : Kp O H1 H2) : Kp O H H2 := fun x o h m => b x o (a x o h m) m
theorem Kp.anti {O O' : Od} {H H' : Hp} (a : Kp O H H') (h : ∀ b, O b → O' b) : Kp O' H H' := fun x o e m => a x o e (m.imp (fun n z => n (h _ z)) id)
theorem Kp.wr {O : Od} {H : Hp} {a : Addr} {o u : HO} (h : H a = some u) (mu : Mut (some u)) (ho : O a) : Kp O H (upd H a o) := fun b p e m => by
  by_cases hb : b = a
  · subst hb
    rw [h] at e; cases e
    rcases m with m | m
    · exact absurd ho m
    · exact absurd (mu_of mu) m
  · rw [upd_ne hb]; exact e
theorem Kp.new {O : Od} {H : Hp} {a : Addr} {o : HO} (h : H a = none) : Kp O H (upd H a o) := fun b p e _ => by
  rw [upd_ne (ne_of_none e h)]; exact e
theorem nmut_tup {xs : List V} : ¬ Mu (some (.tup xs)) := fun h => h
theorem nmut_frz {o : Obj} {u : HO} : ¬ Mu (some (.frz o u)) := fun h => h
section
variable {c : Rc} {O O' : Od} {H H' : Hp}
theorem sqT_kp {K : PySem.W.Frag} {a : Addr} {xs : List V} (k : Kp O H H') (h : SqT K H a xs) : SqT K H' a xs := by
  rcases h with (h | ⟨o, h⟩) | h
  · exact .inl (.inl (k _ _ h (.inr nmut_tup)))
  · exact .inl (.inr ⟨o, k _ _ h (.inr nmut_frz)⟩)
  · exact .inr h
theorem rd_kp {a : Addr} {u : HO} (k : Kp O H H') (n : ¬ O a) (h : Rd H a u) : Rd H' a u := by
  rcases h with h | ⟨o, h⟩
  · exact .inl (k _ _ h (.inl n))
  · exact .inr ⟨o, k _ _ h (.inl n)⟩
theorem rd_some {a : Addr} {u : HO} (h : Rd H a u) : H a ≠ none := by
  rcases h with h | ⟨o, h⟩ <;> (rw [h]; intro z; cases z)
theorem dctAt_kp {a : Addr} {ks : List D} {xs : List V} (k : Kp O H H') (n : ¬ O a) (h : DctAt H a ks xs) : DctAt H' a ks xs := by
  rcases h with ⟨kvs, h, z, e⟩ | ⟨kvs, h, z, e⟩
  · exact .inl ⟨kvs, rd_kp k n h, fun q => k _ _ (z q) (.inl n), e⟩
  · exact .inr ⟨kvs, rd_kp k n h, fun q => k _ _ (z q) (.inl n), e⟩
theorem dctAt_some {a : Addr} {ks : List D} {xs : List V} (h : DctAt H a ks xs) : H a ≠ none := by
  rcases h with ⟨kvs, h, z, e⟩ | ⟨kvs, h, z, e⟩
  · exact rd_some h
  · exact rd_some h
mutual
theorem RV.go (k : Kp O H H') (h2 : ∀ b, O' b → O b ∨ H b = none) : ∀ (d : D) (v : V), RV c O H d v → RV c O' H' d v
  | .non, _, h => by unfold RV at h ⊢; exact h
  | .bl _, _, h => by unfold RV at h ⊢; exact h
  | .int _, _, h => by unfold RV at h ⊢; exact h
  | .str _, _, h => by unfold RV at h ⊢; exact h
  | .bag, _, h => by unfold RV at h ⊢; exact h
  | .fn _, _, h => by unfold RV at h ⊢; exact h
  | .ty _, _, h => by unfold RV at h ⊢; exact h
  | .tup ds, _, h => by
    unfold RV at h ⊢
    obtain ⟨a, vs, e, s, r⟩ := h
    exact ⟨a, vs, e, k _ _ s (.inr nmut_tup), RVs.go k h2 ds vs r⟩
  | .lst ds, _, h => by
    unfold RV at h ⊢
    obtain ⟨a, vs, e, n, s, r⟩ := h
    exact ⟨a, vs, e, fun z => (h2 a z).elim n (fun q => by rw [s] at q; cases q), k _ _ s (.inl n), RVs.go k h2 ds vs r⟩
  | .dct ks ds, _, h => by
    unfold RV at h ⊢
    obtain ⟨a, vs, e, n, s, r⟩ := h
    exact ⟨a, vs, e, fun z => (h2 a z).elim n (dctAt_some s), dctAt_kp k n s, RVs.go k h2 ds vs r⟩
theorem RVs.go (k : Kp O H H') (h2 : ∀ b, O' b → O b ∨ H b = none) : ∀ (ds : List D) (vs : List V), RVs c O H ds vs → RVs c O' H' ds vs
  | [], _, h => by unfold RVs at h ⊢; exact h
  | d :: ds, _, h => by
    unfold RVs at h ⊢
    obtain ⟨v, r, e, h, hs⟩ := h
    exact ⟨v, r, e, RV.go k h2 d v h, RVs.go k h2 ds r hs⟩
end
theorem RV.kp {d : D} {v : V} (h : RV c O H d v) (k : Kp O H H') : RV c O H' d v := RV.go k (fun _ z => .inl z) d v h
theorem RVs.kp {ds : List D} {vs : List V} (h : RVs c O H ds vs) (k : Kp O H H') : RVs c O H' ds vs := RVs.go k (fun _ z => .inl z) ds vs h
theorem RV.anti {d : D} {v : V} (h : RV c O H d v) (a : ∀ b, O' b → O b) : RV c O' H d v := RV.go .refl (fun b z => .inl (a b z)) d v h
theorem RVs.anti {ds : List D} {vs : List V} (h : RVs c O H ds vs) (a : ∀ b, O' b → O b) : RVs c O' H ds vs := RVs.go .refl (fun b z => .inl (a b z)) ds vs h
/-- a new address is avoided -/
theorem RV.new {d : D} {v : V} {a : Addr} {o : HO} (h : RV c O H d v) (n : H a = none) : RV c (fun b => O b ∨ b = a) (upd H a o) d v :=
  RV.go (Kp.new n) (fun b z => z.imp id fun e => by rw [e]; exact n) d v h
theorem RVs.new {ds : List D} {vs : List V} {a : Addr} {o : HO} (h : RVs c O H ds vs) (n : H a = none) : RVs c (fun b => O b ∨ b = a) (upd H a o) ds vs :=
  RVs.go (Kp.new n) (fun b z => z.imp id fun e => by rw [e]; exact n) ds vs h

theorem RVs.length : ∀ {ds : List D} {vs : List V}, RVs c O H ds vs → vs.length = ds.length
  | [], _, h => by unfold RVs at h; subst h; rfl
  | d :: ds, _, h => by
    unfold RVs at h
    obtain ⟨v, r, rfl, _, hs⟩ := h
    simp [RVs.length hs]
theorem RVs.get : ∀ {ds : List D} {vs : List V} {i : Nat} {d : D}, RVs c O H ds vs → ds[i]? = some d → ∃ v, vs[i]? = some v ∧ RV c O H d v
  | [], _, i, d, _, e => by simp at e
  | d :: ds, _, 0, d', h, e => by
    unfold RVs at h
    obtain ⟨v, r, rfl, h, _⟩ := h
    simp at e; subst e
    exact ⟨v, rfl, h⟩
  | d :: ds, _, i + 1, d', h, e => by
    unfold RVs at h
    obtain ⟨v, r, rfl, _, hs⟩ := h
    obtain ⟨w, e1, e2⟩ := RVs.get (i := i) hs (by simpa using e)
    exact ⟨w, by simpa using e1, e2⟩
theorem RVs.get' : ∀ {ds : List D} {vs : List V} {i : Nat} {v : V}, RVs c O H ds vs → vs[i]? = some v → ∃ d, ds[i]? = some d ∧ RV c O H d v
  | [], _, i, v, h, e => by unfold RVs at h; subst h; simp at e
  | d :: ds, _, 0, v, h, e => by
    unfold RVs at h
    obtain ⟨w, r, rfl, h, _⟩ := h
    simp at e; subst e
    exact ⟨d, rfl, h⟩
  | d :: ds, _, i + 1, v, h, e => by
    unfold RVs at h
    obtain ⟨w, r, rfl, _, hs⟩ := h
    obtain ⟨w, e1, e2⟩ := RVs.get' (i := i) hs (by simpa using e)
    exact ⟨w, by simpa using e1, e2⟩
theorem RVs.nil : RVs c O H [] [] := by unfold RVs; rfl
theorem RVs.cons {d : D} {ds : List D} {v : V} {vs : List V} (h : RV c O H d v) (hs : RVs c O H ds vs) : RVs c O H (d :: ds) (v :: vs) := by
  unfold RVs; exact ⟨v, vs, rfl, h, hs⟩
theorem RVs.append : ∀ {ds es : List D} {vs us : List V}, RVs c O H ds vs → RVs c O H es us → RVs c O H (ds ++ es) (vs ++ us)
  | [], _, _, _, h, g => by unfold RVs at h; subst h; exact g
  | d :: ds, _, _, _, h, g => by
    unfold RVs at h
    obtain ⟨v, r, rfl, h, hs⟩ := h
    exact .cons h (RVs.append hs g)
theorem RVs.drop : ∀ {ds : List D} {vs : List V} (n : Nat), RVs c O H ds vs → RVs c O H (ds.drop n) (vs.drop n)
  | _, _, 0, h => h
  | [], _, n + 1, h => by unfold RVs at h; subst h; exact .nil
  | d :: ds, _, n + 1, h => by
    unfold RVs at h
    obtain ⟨v, r, rfl, _, hs⟩ := h
    exact RVs.drop n hs
theorem RVs.take : ∀ {ds : List D} {vs : List V} (n : Nat), RVs c O H ds vs → RVs c O H (ds.take n) (vs.take n)
  | _, _, 0, h => by simp; exact .nil
  | [], _, n + 1, h => by unfold RVs at h; subst h; exact .nil
  | d :: ds, _, n + 1, h => by
    unfold RVs at h
    obtain ⟨v, r, rfl, h, hs⟩ := h
    exact .cons h (RVs.take n hs)
theorem RVs.set : ∀ {ds : List D} {vs : List V} {d : D} {v : V} (n : Nat), RVs c O H ds vs → RV c O H d v → RVs c O H (ds.set n d) (vs.set n v)
  | [], _, _, _, n, h, g => by unfold RVs at h; subst h; exact .nil
  | e :: ds, _, _, _, 0, h, g => by
    unfold RVs at h
    obtain ⟨w, r, rfl, _, hs⟩ := h
    exact .cons g hs
  | e :: ds, _, _, _, n + 1, h, g => by
    unfold RVs at h
    obtain ⟨w, r, rfl, h, hs⟩ := h
    exact .cons h (RVs.set n hs g)
theorem RVs.eraseIdx : ∀ {ds : List D} {vs : List V} (n : Nat), RVs c O H ds vs → RVs c O H (ds.eraseIdx n) (vs.eraseIdx n)
  | [], _, n, h => by unfold RVs at h; subst h; exact .nil
  | e :: ds, _, 0, h => by
    unfold RVs at h
    obtain ⟨w, r, rfl, _, hs⟩ := h
    exact hs
  | e :: ds, _, n + 1, h => by
    unfold RVs at h
    obtain ⟨w, r, rfl, h, hs⟩ := h
    exact .cons h (RVs.eraseIdx n hs)
theorem RVs.one {d : D} {v : V} (h : RV c O H d v) : RVs c O H [d] [v] := .cons h .nil
theorem RVs.reverse : ∀ {ds : List D} {vs : List V}, RVs c O H ds vs → RVs c O H ds.reverse vs.reverse
  | [], _, h => by unfold RVs at h; subst h; exact .nil
  | e :: ds, _, h => by
    unfold RVs at h
    obtain ⟨w, r, rfl, h, hs⟩ := h
    rw [List.reverse_cons, List.reverse_cons]
    exact (RVs.reverse hs).append (.one h)
theorem RVs.rep {ds : List D} {vs : List V} (h : RVs c O H ds vs) : ∀ k : Nat, RVs c O H (List.replicate k ds).flatten (List.replicate k vs).flatten
  | 0 => .nil
  | k + 1 => by
    rw [List.replicate_succ, List.replicate_succ, List.flatten_cons, List.flatten_cons]
    exact h.append (RVs.rep h k)
theorem RVs.ints : ∀ {ns : List Int} {vs : List V}, RVs c O H (ns.map .int) vs → vs = ns.map .int
  | [], _, h => by unfold RVs at h; exact h
  | n :: ns, _, h => by
    unfold RVs at h
    obtain ⟨v, r, rfl, h, hs⟩ := h
    unfold RV at h
    rw [h, RVs.ints hs]; rfl
theorem RVs.bls : ∀ {ns : List Bool} {vs : List V}, RVs c O H (ns.map .bl) vs → vs = ns.map .bl
  | [], _, h => by unfold RVs at h; exact h
  | n :: ns, _, h => by
    unfold RVs at h
    obtain ⟨v, r, rfl, h, hs⟩ := h
    unfold RV at h
    rw [h, RVs.bls hs]; rfl
theorem RVs.of_ints : ∀ {ns : List Int}, RVs c O H (ns.map .int) (ns.map .int)
  | [] => .nil
  | n :: ns => .cons (by unfold RV; rfl) RVs.of_ints
end

/-- no table -/
def NT : HO → Prop
  | .tbl _ => False
  | _ => True
/-- the tables stand -/
def TbOk (H : Hp) : Prop := LamX.Tabs Tbl.tt H
/-- the bag: three numbers and the script's -/
def Bag (c : Rc) (H : Hp) : Prop := c.L ≠ c.A ∧ ∃ (b0 b1 b2 : Int) (ns : List Int), 0 ≤ b0 ∧ 0 ≤ b1 ∧ b1 < 2147483647 ∧ 0 ≤ b2 ∧ ns.length ≤ 63 ∧ (∀ n ∈ ns, 0 ≤ n) ∧
  H c.A = some (.lst [.int b0, .int b1, .int b2, .ref c.L]) ∧ H c.L = some (.lst (ns.map V.int)) ∧ TbOk H
/-- all that stood, but the bag -/
abbrev Ex (c : Rc) (H H' : Hp) : Prop := Kp (av c) H H'
theorem Ex.kp {c : Rc} {O : Od} {H H' : Hp} (e : Ex c H H') (oA : OA c O) : Kp O H H' := e.anti oA

/-- an exception: its class by name, its fields -/
structure Exc where
  cls : Str
  fields : List (Str × D)
def RX (c : Rc) (O : Od) (H : Hp) (x : Exc) (cv : Value) (dd : Option Addr) : Prop :=
  ∃ C, cv = .ref C ∧ c.mg x.cls = some (.ref C) ∧ ∀ f d, (f, d) ∈ x.fields → ∃ a fs v, dd = some a ∧ H a = some (.xd fs) ∧ fs.lookup f = some v ∧ RV c O H d v
theorem RX.anti {c : Rc} {O O' : Od} {H : Hp} {x : Exc} {cv : Value} {dd : Option Addr} (h : RX c O H x cv dd) (a : ∀ b, O' b → O b) : RX c O' H x cv dd := by
  obtain ⟨C, e, m, f⟩ := h
  refine ⟨C, e, m, fun g d hd => ?_⟩
  obtain ⟨p, fs, v, e1, e2, e3, r⟩ := f g d hd
  exact ⟨p, fs, v, e1, e2, e3, r.anti a⟩
end Ev

/-! Ev1: the state (SE), the judgements (DE), names, constants. -/
namespace Ev
open PySem PySem.Spec L2
open PyProof.Rows hiding St
variable [Tbl]

/-- what a name holds: a value that is shared (no list of it is changed again), or a list or dict of its own -/
inductive Slot where
  | val (d : D) | own (ds : List D) | ownd (ks vs : List D)
abbrev EnvD := List (Option Slot)
/-- a dict's entries at a, to be written -/
def DctOwn (H : Hp) (a : Addr) (ks : List D) (xs : List V) : Prop :=
  (∃ kvs : List (Key × V), H a = some (.dK kvs) ∧ ks = kvs.map (fun p => keyD p.1) ∧ xs = kvs.map (·.2)) ∨
  (∃ kvs : List (List Key × V), H a = some (.dT kvs) ∧ ks = kvs.map (fun p => D.tup (p.1.map keyD)) ∧ xs = kvs.map (·.2))
theorem DctOwn.at {H : Hp} {a : Addr} {ks : List D} {xs : List V} (h : DctOwn H a ks xs) : DctAt H a ks xs := by
  rcases h with ⟨k, h, e⟩ | ⟨k, h, e⟩
  · exact .inl ⟨k, .inl h, fun q => by rw [h, q], e⟩
  · exact .inr ⟨k, .inl h, fun q => by rw [h, q], e⟩
theorem DctOwn.mut {H : Hp} {a : Addr} {ks : List D} {xs : List V} (h : DctOwn H a ks xs) : Mut (H a) := by
  rcases h with ⟨k, h, e⟩ | ⟨k, h, e⟩ <;> (rw [h]; trivial)
theorem DctOwn.kp {O : Od} {H H' : Hp} {a : Addr} {ks : List D} {xs : List V} (k : Kp O H H') (n : ¬ O a) (h : DctOwn H a ks xs) : DctOwn H' a ks xs := by
  rcases h with ⟨kvs, h, e⟩ | ⟨kvs, h, e⟩
  · exact .inl ⟨kvs, k _ _ h (.inl n), e⟩
  · exact .inr ⟨kvs, k _ _ h (.inl n), e⟩

def SlotOk (c : Rc) (O : Od) (H : Hp) : Slot → V → Prop
  | .val d, v => RV c O H d v
  | .own ds, v => ∃ a vs, v = .ref a ∧ ¬ av c a ∧ H a = some (.lst vs) ∧ RVs c O H ds vs
  | .ownd ks ds, v => ∃ a vs, v = .ref a ∧ ¬ av c a ∧ DctOwn H a ks vs ∧ RVs c O H ds vs
theorem SlotOk.ex {c : Rc} {O : Od} {H H' : Hp} {s : Slot} {v : V} (h : SlotOk c O H s v) (e : Ex c H H') (oA : OA c O) : SlotOk c O H' s v := by
  cases s with
  | val d => exact RV.kp (show RV c O H d v from h) (e.kp oA)
  | own ds =>
    obtain ⟨a, vs, e1, n, h1, r⟩ := h
    exact ⟨a, vs, e1, n, e _ _ h1 (.inl n), r.kp (e.kp oA)⟩
  | ownd ks ds =>
    obtain ⟨a, vs, e1, n, h1, r⟩ := h
    exact ⟨a, vs, e1, n, h1.kp e n, r.kp (e.kp oA)⟩

abbrev rc (X : Cx) (A : Addr) (L : LT) : Rc := ⟨X.K, X.mg, A, L⟩

theorem oT_ex {c : Rc} {H H' : Hp} {x : Addr} (e : Ex c H H') (b : Bag c H') (h : H x ≠ none) : H' x ≠ none := by
  by_cases hx : av c x
  · obtain ⟨_, _, _, _, _, _, _, _, _, _, _, h1, _, ht⟩ := b
    rcases hx with rfl | hx
    · rw [h1]; intro z; cases z
    · obtain ⟨p, hp, rfl⟩ := List.mem_map.mp hx
      obtain ⟨ps, h2, _⟩ := ht p hp
      rw [h2]; intro z; cases z
  · cases q : H x with
    | none => exact absurd q h
    | some o => rw [e _ _ q (.inl hx)]; intro z; cases z
structure SE (c : Rc) (Hz : Hp) (O : Od) (ρ : EnvD) (σ : St) (H : Hp) : Prop where
  bag : Bag c H
  ext : Ex c Hz H
  oA : OA c O
  oT : ∀ b, O b → H b ≠ none
  slots : ∀ (i : Nat) (s : Slot), ρ[i]? = some (some s) → ∃ v, σ[i]? = some (some v) ∧ SlotOk c O H s v
  len : σ.length = ρ.length
theorem SE.ex {c : Rc} {Hz : Hp} {O : Od} {ρ : EnvD} {σ : St} {H H' : Hp} (S : SE c Hz O ρ σ H) (e : Ex c H H') (b : Bag c H') : SE c Hz O ρ σ H' :=
  ⟨b, S.ext.trans e, S.oA, fun x hx => oT_ex e b (S.oT x hx), fun i s hi => let ⟨v, h1, h2⟩ := S.slots i s hi; ⟨v, h1, h2.ex e S.oA⟩, S.len⟩

/-- how a value may be used: read now; kept; kept, its own list or dict new -/
inductive Md where
  | al | vl | fr
def RB (c : Rc) (O : Od) (H : Hp) (d : D) (v : V) : Prop :=
  match d with
  | .lst ds => ∃ a vs, v = .ref a ∧ ¬ av c a ∧ H a = some (.lst vs) ∧ RVs c O H ds vs
  | .dct ks ds => ∃ a vs, v = .ref a ∧ ¬ av c a ∧ DctAt H a ks vs ∧ RVs c O H ds vs
  | d => RV c O H d v
def RF (c : Rc) (O : Od) (H0 H : Hp) (d : D) (v : V) : Prop :=
  match d with
  | .lst ds => ∃ a vs, v = .ref a ∧ ¬ O a ∧ H0 a = none ∧ H a = some (.lst vs) ∧ RVs c (fun b => O b ∨ b = a) H ds vs
  | .dct ks ds => ∃ a vs, v = .ref a ∧ ¬ O a ∧ H0 a = none ∧ DctOwn H a ks vs ∧ RVs c (fun b => O b ∨ b = a) H ds vs
  | d => RV c O H d v
def RM (m : Md) (c : Rc) (O : Od) (H0 H : Hp) (d : D) (v : V) : Prop :=
  match m with
  | .al => RB c O H d v
  | .vl => RV c O H d v
  | .fr => RF c O H0 H d v
section
variable {c : Rc} {O : Od} {H0 H H1 H' : Hp} {d : D} {v : V} {m : Md}
theorem RF.rv (h : RF c O H0 H d v) : RV c O H d v := by
  cases d with
  | lst ds =>
    obtain ⟨a, vs, e, n, _, h1, r⟩ := h
    unfold RV
    exact ⟨a, vs, e, n, h1, r.anti fun b z => .inl z⟩
  | dct ks ds =>
    obtain ⟨a, vs, e, n, _, h1, r⟩ := h
    unfold RV
    exact ⟨a, vs, e, n, h1.at, r.anti fun b z => .inl z⟩
  | _ => exact h
theorem RV.rb (oA : OA c O) (h : RV c O H d v) : RB c O H d v := by
  cases d with
  | lst ds =>
    unfold RV at h
    obtain ⟨a, vs, e, n, h1, r⟩ := h
    exact ⟨a, vs, e, fun z => n (oA _ z), h1, r⟩
  | dct ks ds =>
    unfold RV at h
    obtain ⟨a, vs, e, n, h1, r⟩ := h
    exact ⟨a, vs, e, fun z => n (oA _ z), h1, r⟩
  | _ => exact h
theorem RF.rm (oA : OA c O) (h : RF c O H0 H d v) : RM m c O H0 H d v := by
  cases m with
  | al => exact h.rv.rb oA
  | vl => exact h.rv
  | fr => exact h
theorem RB.ex (h : RB c O H d v) (e : Ex c H H') (oA : OA c O) : RB c O H' d v := by
  cases d with
  | lst ds =>
    obtain ⟨a, vs, e1, n, h1, r⟩ := h
    exact ⟨a, vs, e1, n, e _ _ h1 (.inl n), r.kp (e.kp oA)⟩
  | dct ks ds =>
    obtain ⟨a, vs, e1, n, h1, r⟩ := h
    exact ⟨a, vs, e1, n, dctAt_kp e n h1, r.kp (e.kp oA)⟩
  | _ => exact RV.kp (show RV c O H _ v from h) (e.kp oA)
theorem ex_none {a : Addr} (e : Ex c H H') (n : ¬ av c a) (h : H' a = none) : H a = none := by
  cases q : H a with
  | none => rfl
  | some o => rw [e _ _ q (.inl n)] at h; cases h
theorem RF.back (h : RF c O H1 H' d v) (e : Ex c H H1) (oA : OA c O) : RF c O H H' d v := by
  cases d with
  | lst ds =>
    obtain ⟨a, vs, e1, n, n0, h1, r⟩ := h
    exact ⟨a, vs, e1, n, ex_none e (fun z => n (oA _ z)) n0, h1, r⟩
  | dct ks ds =>
    obtain ⟨a, vs, e1, n, n0, h1, r⟩ := h
    exact ⟨a, vs, e1, n, ex_none e (fun z => n (oA _ z)) n0, h1, r⟩
  | _ => exact h
theorem RM.back (h : RM m c O H1 H' d v) (e : Ex c H H1) (oA : OA c O) : RM m c O H H' d v := by
  cases m with
  | al => exact h
  | vl => exact h
  | fr => exact RF.back h e oA
theorem RM.ex (h : RM m c O H H1 d v) (e : Ex c H1 H') (oA : OA c O) : RM m c O H H' d v := by
  cases m with
  | al => exact RB.ex h e oA
  | vl => exact RV.kp h (e.kp oA)
  | fr =>
    cases d with
    | lst ds =>
      obtain ⟨a, vs, e1, n, n0, h1, r⟩ := h
      exact ⟨a, vs, e1, n, n0, e _ _ h1 (.inl fun z => n (oA _ z)), r.kp (e.kp fun b z => .inl (oA b z))⟩
    | dct ks ds =>
      obtain ⟨a, vs, e1, n, n0, h1, r⟩ := h
      exact ⟨a, vs, e1, n, n0, h1.kp e fun z => n (oA _ z), r.kp (e.kp fun b z => .inl (oA b z))⟩
    | _ => exact RV.kp (show RV c O H1 _ v from h) (e.kp oA)
theorem RM.rb (h : RM m c O H H1 d v) (oA : OA c O) : RB c O H1 d v := by
  cases m with
  | al => exact h
  | vl => exact RV.rb oA h
  | fr => exact (RF.rv h).rb oA
end

/-- what an exception that leaves wants -/
def Bad (c : Rc) (O : Od) (Hz : Hp) (W : WX) (x : Exc) : Prop := ∀ σ H cv dd, Ex c Hz H → Bag c H → RX c O H x cv dd → W cv dd σ H

abbrev ME := EnvD → (D → Prop) → (Exc → Prop) → Prop
abbrev MT := EnvD → (Bool → Prop) → (Exc → Prop) → Prop
def tE (X : Cx) (W : WX) (m : Md) (me : ME) : TE := fun σ H Q => ∃ A L Hz O ρ Qd Ed, SE (rc X A L) Hz O ρ σ H ∧ me ρ Qd Ed ∧
  (∀ d v H', Qd d → Ex (rc X A L) H H' → Bag (rc X A L) H' → RM m (rc X A L) O H H' d v → Q v H') ∧ ∀ x, Ed x → Bad (rc X A L) O Hz W x
def DE (X : Cx) (W : WX) (m : Md) (e : Expr) (me : ME) : Prop := PE X e (tE X W m me)
def tT (X : Cx) (W : WX) (mt : MT) : TT := fun σ H Q => ∃ A L Hz O ρ Qd Ed, SE (rc X A L) Hz O ρ σ H ∧ mt ρ Qd Ed ∧
  (∀ b H', Qd b → Ex (rc X A L) H H' → Bag (rc X A L) H' → Q b H') ∧ ∀ x, Ed x → Bad (rc X A L) O Hz W x
def DT (X : Cx) (W : WX) (e : Expr) (mt : MT) : Prop := PT X e (tT X W mt)

section
variable {X : Cx} {W : WX} {m : Md} {e : Expr} {me : ME} {mt : MT} {A : Addr} {L : LT} {Hz : Hp} {O : Od} {ρ : EnvD} {Qd : D → Prop} {Qb : Bool → Prop} {Ed : Exc → Prop} {pins : List (Addr × Obj)} {s : Shared} {σ : St} {H : Hp}
theorem DE.get (h : DE X W m e me) (I : Inv X pins σ H s) (S : SE (rc X A L) Hz O ρ σ H) (hm : me ρ Qd Ed) (hE : ∀ x, Ed x → Bad (rc X A L) O Hz W x) :
    wpAny (model X.prog X.w) X.A (eval e X.env) (fun u s1 => ∃ v H1 d, Inv X pins σ H1 s1 ∧ RelV v u ∧ SE (rc X A L) Hz O ρ σ H1 ∧ Ex (rc X A L) H H1 ∧ RM m (rc X A L) O H H1 d v ∧ Qd d) X.xe s := by
  refine thn (h.run pins s σ H (fun v H1 => ∃ d, SE (rc X A L) Hz O ρ σ H1 ∧ Ex (rc X A L) H H1 ∧ RM m (rc X A L) O H H1 d v ∧ Qd d) I ⟨A, L, Hz, O, ρ, Qd, Ed, S, hm, fun d v H' q ex b r => ⟨d, S.ex ex b, ex, r, q⟩, hE⟩) fun u s1 hq => ?_
  obtain ⟨v, H1, I1, r1, d, S1, x1, m1, q1⟩ := hq
  exact ⟨v, H1, d, I1, r1, S1, x1, m1, q1⟩
theorem DT.get (h : DT X W e mt) (I : Inv X pins σ H s) (S : SE (rc X A L) Hz O ρ σ H) (hm : mt ρ Qb Ed) (hE : ∀ x, Ed x → Bad (rc X A L) O Hz W x) :
    wpAny (model X.prog X.w) X.A (isTrue e X.env (eval e X.env)) (fun b s1 => ∃ H1, Inv X pins σ H1 s1 ∧ SE (rc X A L) Hz O ρ σ H1 ∧ Ex (rc X A L) H H1 ∧ Qb b) X.xe s := by
  refine thn (h.run pins s σ H (fun b H1 => SE (rc X A L) Hz O ρ σ H1 ∧ Ex (rc X A L) H H1 ∧ Qb b) I ⟨A, L, Hz, O, ρ, Qb, Ed, S, hm, fun b H' q ex bg => ⟨S.ex ex bg, ex, q⟩, hE⟩) fun u s1 hq => ?_
  obtain ⟨H1, I1, S1, x1, q1⟩ := hq
  exact ⟨H1, I1, S1, x1, q1⟩
/-- a rule for an expression, by its run -/
theorem DE.mk (h : ∀ (pins : List (Addr × Obj)) (s : Shared) (σ : St) (H : Hp) (A : Addr) (L : LT) (Hz : Hp) (O : Od) (ρ : EnvD) (Qd : D → Prop) (Ed : Exc → Prop), Inv X pins σ H s → SE (rc X A L) Hz O ρ σ H → me ρ Qd Ed → (∀ x, Ed x → Bad (rc X A L) O Hz W x) →
    wpAny (model X.prog X.w) X.A (eval e X.env) (fun u s1 => ∃ v H1 d, Inv X pins σ H1 s1 ∧ RelV v u ∧ Ex (rc X A L) H H1 ∧ Bag (rc X A L) H1 ∧ RM m (rc X A L) O H H1 d v ∧ Qd d) X.xe s) : DE X W m e me := by
  refine ⟨fun pins s σ H Q I hq => ?_⟩
  obtain ⟨A, L, Hz, O, ρ, Qd, Ed, S, hm, k, hE⟩ := hq
  refine thn (h pins s σ H A L Hz O ρ Qd Ed I S hm hE) fun u s1 z => ?_
  obtain ⟨v, H1, d, I1, r1, x1, b1, m1, q1⟩ := z
  exact ⟨v, H1, I1, r1, k d v H1 q1 x1 b1 m1⟩
theorem DT.mk (h : ∀ (pins : List (Addr × Obj)) (s : Shared) (σ : St) (H : Hp) (A : Addr) (L : LT) (Hz : Hp) (O : Od) (ρ : EnvD) (Qb : Bool → Prop) (Ed : Exc → Prop), Inv X pins σ H s → SE (rc X A L) Hz O ρ σ H → mt ρ Qb Ed → (∀ x, Ed x → Bad (rc X A L) O Hz W x) →
    wpAny (model X.prog X.w) X.A (isTrue e X.env (eval e X.env)) (fun b s1 => ∃ H1, Inv X pins σ H1 s1 ∧ Ex (rc X A L) H H1 ∧ Bag (rc X A L) H1 ∧ Qb b) X.xe s) : DT X W e mt := by
  refine ⟨fun pins s σ H Q I hq => ?_⟩
  obtain ⟨A, L, Hz, O, ρ, Qb, Ed, S, hm, k, hE⟩ := hq
  refine thn (h pins s σ H A L Hz O ρ Qb Ed I S hm hE) fun b s1 z => ?_
  obtain ⟨H1, I1, x1, b1, q1⟩ := z
  exact ⟨H1, I1, k b H1 q1 x1 b1⟩
/-- from HandS: the expression's own reading at this state -/
theorem DE.by {t : TE} (he : PE X e t) (h : ∀ (σ : St) (H : Hp) (A : Addr) (L : LT) (Hz : Hp) (O : Od) (ρ : EnvD) (Qd : D → Prop) (Ed : Exc → Prop), SE (rc X A L) Hz O ρ σ H → me ρ Qd Ed → (∀ x, Ed x → Bad (rc X A L) O Hz W x) →
    t σ H (fun v H1 => ∃ d, Ex (rc X A L) H H1 ∧ Bag (rc X A L) H1 ∧ RM m (rc X A L) O H H1 d v ∧ Qd d)) : DE X W m e me :=
  .mk fun pins s σ H A L Hz O ρ Qd Ed I S hm hE => thn (he.run pins s σ H _ I (h σ H A L Hz O ρ Qd Ed S hm hE)) fun u s1 ⟨v, H1, I1, r1, d, x1, b1, m1, q1⟩ => ⟨v, H1, d, I1, r1, x1, b1, m1, q1⟩

/-! ### names and constants -/
def Opt {α : Type} (o : Option α) (Q : α → Prop) : Prop := ∃ a, o = some a ∧ Q a
theorem opt_some {α : Type} {a : α} {Q : α → Prop} : Opt (some a) Q = Q a := by
  apply propext
  constructor
  · rintro ⟨b, e, q⟩
    cases e
    exact q
  · exact fun q => ⟨a, rfl, q⟩
/-- a name, to be read now -/
def rdv (i : Nat) (ρ : EnvD) : Option D := match ρ[i]? with
  | some (some (.val d)) => some d
  | some (some (.own ds)) => some (.lst ds)
  | some (some (.ownd ks ds)) => some (.dct ks ds)
  | _ => none
/-- a name, to be kept -/
def kpv (i : Nat) (ρ : EnvD) : Option D := match ρ[i]? with
  | some (some (.val d)) => some d
  | _ => none
def mVar (i : Nat) : ME := fun ρ Q _ => Opt (rdv i ρ) Q
def mKp (i : Nat) : ME := fun ρ Q _ => Opt (kpv i ρ) Q
def mC (d : D) : ME := fun _ Q _ => Q d
theorem SE.var (S : SE (rc X A L) Hz O ρ σ H) {i : Nat} {d : D} (h : rdv i ρ = some d) : ∃ v, σ[i]? = some (some v) ∧ RB (rc X A L) O H d v := by
  unfold rdv at h
  split at h
  · rename_i e h1
    cases h
    obtain ⟨v, h2, h3⟩ := S.slots _ _ h1
    exact ⟨v, h2, RV.rb S.oA h3⟩
  · rename_i e h1
    cases h
    obtain ⟨v, h2, h3⟩ := S.slots _ _ h1
    exact ⟨v, h2, h3⟩
  · rename_i e h1
    cases h
    obtain ⟨v, h2, a, vs, e1, n, h4, r⟩ := S.slots _ _ h1
    exact ⟨v, h2, a, vs, e1, n, h4.at, r⟩
  · cases h
theorem SE.kpv (S : SE (rc X A L) Hz O ρ σ H) {i : Nat} {d : D} (h : kpv i ρ = some d) : ∃ v, σ[i]? = some (some v) ∧ RV (rc X A L) O H d v := by
  unfold Ev.kpv at h
  split at h
  · rename_i e h1
    cases h
    exact S.slots _ _ h1
  · cases h
theorem de_var {x : Str} {pos : Pos} (i : Nat) (hN : X.N[i]? = some x) (hv : Vis X.env.scope x) (hd : (x == ("__debug__" : Str)) = false) (hcd : (x == ("__classdict__" : Str)) = false) : DE X W .al (.Name x pos) (mVar i) :=
  .by (pe_var hN hv hd hcd) fun σ H A L Hz O ρ Qd Ed S ⟨d, h1, q⟩ hE => by
    obtain ⟨v, e, r⟩ := S.var h1
    exact ⟨v, e, d, .refl, S.bag, r, q⟩
theorem de_kp {x : Str} {pos : Pos} (i : Nat) (hN : X.N[i]? = some x) (hv : Vis X.env.scope x) (hd : (x == ("__debug__" : Str)) = false) (hcd : (x == ("__classdict__" : Str)) = false) : DE X W .vl (.Name x pos) (mKp i) :=
  .by (pe_var hN hv hd hcd) fun σ H A L Hz O ρ Qd Ed S ⟨d, h1, q⟩ hE => by
    obtain ⟨v, e, r⟩ := S.kpv h1
    exact ⟨v, e, d, .refl, S.bag, r, q⟩
/-- a value that has no place -/
def flatD : D → Bool
  | .non | .bl _ | .int _ | .str _ | .fn _ | .ty _ | .bag => true
  | _ => false
theorem rm_flat {c : Rc} {H0 H : Hp} {d : D} {v : V} (f : flatD d = true) (h : RV c O H d v) : RM m c O H0 H d v := by
  cases m <;> cases d <;> first | exact h | cases f
theorem de_c {t : V} {d : D} {v : V} (he : PE X e (tC v)) (f : flatD d = true) (h : ∀ A L O H, RV (rc X A L) O H d v) : DE X W m e (mC d) :=
  .by he fun σ H A L Hz O ρ Qd Ed S q hE => ⟨d, .refl, S.bag, rm_flat f (h A L O H), q⟩
theorem de_int {i : Int} {j pos} : DE X W m (.Constant (.int i) j pos) (mC (.int i)) := de_c (t := .non) pe_int rfl fun _ _ _ _ => by unfold RV; rfl
theorem de_bl {b : Bool} {j pos} : DE X W m (.Constant (.bool b) j pos) (mC (.bl b)) := de_c (t := .non) pe_bl rfl fun _ _ _ _ => by unfold RV; rfl
theorem de_non {j pos} : DE X W m (.Constant .none j pos) (mC .non) := de_c (t := .non) pe_non rfl fun _ _ _ _ => by unfold RV; rfl
theorem de_str {x : Str} {j pos} (h : (decide (x.length ≤ 16777216) && PyData.strOk x) = true) : DE X W m (.Constant (.str x) j pos) (mC (.str x)) :=
  de_c (t := .non) pe_str rfl fun _ _ _ _ => by
    unfold RV
    rw [Bool.and_eq_true, decide_eq_true_eq] at h
    exact ⟨rfl, by rw [sizeLine_eq]; exact h.1, h.2⟩
theorem de_fn {x : Str} {f : Addr} {pos : Pos} (hg : Gl X x) (hm : X.mg x = some (.ref f)) (hd : (x == ("__debug__" : Str)) = false) : DE X W m (.Name x pos) (mC (.fn x)) :=
  de_c (t := .non) (pe_glob (v := .ref f) hg hm rfl hd) rfl fun _ _ _ _ => by
    unfold RV
    exact ⟨f, rfl, hm⟩
theorem DE.weak (h : DE X W .fr e me) : DE X W m e me := .by h fun σ H A L Hz O ρ Qd Ed S hm hE =>
  ⟨A, L, Hz, O, ρ, Qd, Ed, S, hm, fun d v H' q x b r => ⟨d, x, b, RF.rm S.oA r, q⟩, hE⟩
theorem DE.weakV (h : DE X W .vl e me) : DE X W .al e me := .by h fun σ H A L Hz O ρ Qd Ed S hm hE =>
  ⟨A, L, Hz, O, ρ, Qd, Ed, S, hm, fun d v H' q x b r => ⟨d, x, b, RV.rb S.oA r, q⟩, hE⟩
end
end Ev

/-! Ev2: operators and comparisons over D. -/
namespace Ev
open PySem PySem.Spec L2
open PyProof.Rows hiding St
variable [Tbl]

def lim : Nat := 16777216
theorem lim_eq : lim = sizeLine := by rw [sizeLine_eq]; rfl

/-! ### data as PyData -/
mutual
def toPD : D → Option PyData
  | .non => some .none
  | .bl b => some (.bool b)
  | .int i => some (.int i)
  | .str x => some (.str x)
  | .tup ds => (toPDs ds).map .tuple
  | .lst ds => (toPDs ds).map .list
  | _ => none
def toPDs : List D → Option (List PyData)
  | [] => some []
  | d :: ds => match toPD d, toPDs ds with
    | some a, some b => some (a :: b)
    | _, _ => none
end
section
variable {c : Rc} {O : Od} {H : Hp}
mutual
theorem dp_of : ∀ (d : D) (v : V) (p : PyData), RV c O H d v → toPD d = some p → Dp c.K H v p ∧ p.canLay0 = true
  | .non, v, p, h, e => by
    unfold RV at h; unfold toPD at e; cases e; subst h
    exact ⟨.non, rfl⟩
  | .bl b, v, p, h, e => by
    unfold RV at h; unfold toPD at e; cases e; subst h
    exact ⟨.bl b, rfl⟩
  | .int i, v, p, h, e => by
    unfold RV at h; unfold toPD at e; cases e; subst h
    exact ⟨.int i, rfl⟩
  | .str x, v, p, h, e => by
    unfold RV at h; unfold toPD at e; cases e; obtain ⟨rfl, _, q⟩ := h
    exact ⟨.str x, by rw [PyData.canLay0]; exact q⟩
  | .tup ds, v, p, h, e => by
    unfold RV at h; unfold toPD at e
    obtain ⟨a, vs, rfl, hs, r⟩ := h
    cases q : toPDs ds with
    | none => rw [q] at e; cases e
    | some ps =>
      rw [q] at e; cases e
      obtain ⟨h1, h2⟩ := dps_of ds vs ps r q
      exact ⟨.tup (.of hs) h1, by rw [PyData.canLay0]; exact h2⟩
  | .lst ds, v, p, h, e => by
    unfold RV at h; unfold toPD at e
    obtain ⟨a, vs, rfl, _, hs, r⟩ := h
    cases q : toPDs ds with
    | none => rw [q] at e; cases e
    | some ps =>
      rw [q] at e; cases e
      obtain ⟨h1, h2⟩ := dps_of ds vs ps r q
      exact ⟨.lst (.of hs) h1, by rw [PyData.canLay0]; exact h2⟩
  | .dct _ _, v, p, h, e => by unfold toPD at e; cases e
  | .bag, v, p, h, e => by unfold toPD at e; cases e
  | .fn _, v, p, h, e => by unfold toPD at e; cases e
  | .ty _, v, p, h, e => by unfold toPD at e; cases e
theorem dps_of : ∀ (ds : List D) (vs : List V) (ps : List PyData), RVs c O H ds vs → toPDs ds = some ps → DpAll c.K H vs ps ∧ PyData.canLayAll0 ps = true
  | [], vs, ps, h, e => by
    unfold RVs at h; unfold toPDs at e; cases e; subst h
    exact ⟨.nil, by rw [PyData.canLayAll0]⟩
  | d :: ds, vs, ps, h, e => by
    unfold RVs at h; unfold toPDs at e
    obtain ⟨v, r, rfl, h1, h2⟩ := h
    cases q : toPD d with
    | none => rw [q] at e; cases e
    | some a =>
      cases q2 : toPDs ds with
      | none => rw [q, q2] at e; cases e
      | some b =>
        rw [q, q2] at e; cases e
        obtain ⟨e1, e2⟩ := dp_of d v a h1 q
        obtain ⟨e3, e4⟩ := dps_of ds r b h2 q2
        exact ⟨.cons e1 e3, by rw [PyData.canLayAll0, e2, e4]; rfl⟩
end
theorem dp_rb {d : D} {v : V} {p : PyData} (h : RB c O H d v) (e : toPD d = some p) : Dp c.K H v p ∧ p.canLay0 = true := by
  cases d with
  | lst ds =>
    obtain ⟨a, vs, rfl, _, hs, r⟩ := h
    unfold toPD at e
    cases q : toPDs ds with
    | none => rw [q] at e; cases e
    | some ps =>
      rw [q] at e; cases e
      obtain ⟨h1, h2⟩ := dps_of ds vs ps r q
      exact ⟨.lst (.of hs) h1, by rw [PyData.canLay0]; exact h2⟩
  | dct ks ds => unfold toPD at e; cases e
  | _ => exact dp_of _ v p h e
end

/-! ### binary operators -/
/-- what a rule hands on -/
def FQ (c : Rc) (O : Od) (H : Hp) (d : D) : VK := fun w H1 => Ex c H H1 ∧ Bag c H1 ∧ RF c O H H1 d w
def DO2 (X : Cx) (f : Value → Value → Sem Value) (g : D → D → Option D) : Prop :=
  ∀ (pins : List (Addr × Obj)) (s : Shared) (σ : St) (H : Hp) (A : Addr) (L : LT) (Hz : Hp) (O : Od) (ρ : EnvD) (x y : V) (v u : Value) (d1 d2 d : D), Inv X pins σ H s → SE (rc X A L) Hz O ρ σ H → RelV x v → RelV y u →
    RB (rc X A L) O H d1 x → RB (rc X A L) O H d2 y → g d1 d2 = some d → wpAny (model X.prog X.w) X.A (f v u) (EP X pins σ (FQ (rc X A L) O H d)) X.xe s

theorem Bag.new {c : Rc} {H : Hp} {p : Addr} {o : HO} (b : Bag c H) (n : H p = none) (ho : NT o := by exact trivial) : Bag c (upd H p o) := by
  obtain ⟨ne, b0, b1, b2, ns, h0, h1, h2, h3, h4, h5, hA, hL, hT⟩ := b
  exact ⟨ne, b0, b1, b2, ns, h0, h1, h2, h3, h4, h5, by rw [upd_ne (ne_of_none hA n)]; exact hA, by rw [upd_ne (ne_of_none hL n)]; exact hL, LamX.Tabs.ext hT fun b o e => by rw [upd_ne (ne_of_none e n)]; exact e⟩
theorem tabs_wr {H : Hp} {a : Addr} {u o : HO} (t : TbOk H) (hu : H a = some u) (h1 : ∀ ps, u ≠ .tbl ps) (h2 : ∀ φ, u ≠ .ext φ) (ho : NT o) : TbOk (upd H a o) := fun p hp => by
  obtain ⟨ps, e1, e2, e3⟩ := t p hp
  refine ⟨ps, ?_, e2, fun pos cv hc => ?_⟩
  · have ne : p.1 ≠ a := fun z => by rw [z, hu] at e1; cases e1; exact h1 _ rfl
    rw [upd_ne ne]; exact e1
  · obtain ⟨c, f1, f2⟩ := e3 pos cv hc
    have ne : c ≠ a := fun z => by rw [z, hu] at f2; cases f2; exact h2 _ rfl
    exact ⟨c, f1, by rw [upd_ne ne]; exact f2⟩
section
variable {X : Cx} {W : WX} {m : Md} {A : Addr} {L : LT} {Hz : Hp} {O : Od} {ρ : EnvD} {σ : St} {H : Hp} {d : D} {w : V}
theorem FQ.flat (S : SE (rc X A L) Hz O ρ σ H) (f : flatD d = true) (r : RV (rc X A L) O H d w) : FQ (rc X A L) O H d w H := ⟨.refl, S.bag, rm_flat (m := .fr) f r⟩
theorem FQ.int (S : SE (rc X A L) Hz O ρ σ H) {i : Int} : FQ (rc X A L) O H (.int i) (.int i) H := FQ.flat S rfl (by unfold RV; rfl)
theorem FQ.bl (S : SE (rc X A L) Hz O ρ σ H) {i : Bool} : FQ (rc X A L) O H (.bl i) (.bl i) H := FQ.flat S rfl (by unfold RV; rfl)
theorem FQ.str (S : SE (rc X A L) Hz O ρ σ H) {i : Str} (h1 : i.length ≤ sizeLine) (h2 : PyData.strOk i = true) : FQ (rc X A L) O H (.str i) (.str i) H := FQ.flat S rfl (by unfold RV; exact ⟨rfl, h1, h2⟩)
theorem FQ.non (S : SE (rc X A L) Hz O ρ σ H) : FQ (rc X A L) O H .non .non H := FQ.flat S rfl (by unfold RV; rfl)
theorem oNew (S : SE (rc X A L) Hz O ρ σ H) {p : Addr} (n : H p = none) : ¬ O p := fun z => S.oT p z n
theorem FQ.lst (S : SE (rc X A L) Hz O ρ σ H) {p : Addr} {ds : List D} {vs : List V} (n : H p = none) (r : RVs (rc X A L) O H ds vs) : FQ (rc X A L) O H (.lst ds) (.ref p) (upd H p (.lst vs)) :=
  ⟨Kp.new n, S.bag.new n, p, vs, rfl, oNew S n, n, upd_same, r.new n⟩
theorem FQ.tup (S : SE (rc X A L) Hz O ρ σ H) {p : Addr} {ds : List D} {vs : List V} (n : H p = none) (r : RVs (rc X A L) O H ds vs) : FQ (rc X A L) O H (.tup ds) (.ref p) (upd H p (.tup vs)) := by
  refine ⟨Kp.new n, S.bag.new n, ?_⟩
  show RV _ _ _ _ _
  unfold RV
  exact ⟨p, vs, rfl, upd_same, r.kp (Kp.new n)⟩
/-- a tuple that stands -/
theorem FQ.old (S : SE (rc X A L) Hz O ρ σ H) {ds : List D} (r : RV (rc X A L) O H (.tup ds) w) : FQ (rc X A L) O H (.tup ds) w H := ⟨.refl, S.bag, r⟩

theorem strOk_append {a b : Str} (h1 : PyData.strOk a = true) (h2 : PyData.strOk b = true) : PyData.strOk (a ++ b) = true := by
  unfold PyData.strOk at *
  show ((a.cps ++ b.cps).all _) = true
  rw [Array.all_append, h1, h2]; rfl
theorem length_append (a b : Str) : (a ++ b).length = a.length + b.length := by
  show (a.cps ++ b.cps).size = _
  rw [Array.size_append]; rfl

def dAdd : D → D → Option D
  | .int a, .int b => some (.int (a + b))
  | .str a, .str b => if a.length + b.length ≤ lim then some (.str (a ++ b)) else none
  | .tup a, .tup b => if a.length + b.length ≤ lim then some (.tup (a ++ b)) else none
  | .lst a, .lst b => if a.length + b.length ≤ lim then some (.lst (a ++ b)) else none
  | _, _ => none
theorem do_add : DO2 X (binaryOp .Add) dAdd := by
  intro pins s σ H A L Hz O ρ x y v u d1 d2 d I S rx ry h1 h2 g
  unfold dAdd at g
  split at g
  · cases g
    obtain rfl : x = _ := by have q : RV _ _ _ _ _ := h1; unfold RV at q; exact q
    obtain rfl : y = _ := by have q : RV _ _ _ _ _ := h2; unfold RV at q; exact q
    exact op_add pins s σ H _ _ v u _ I rx ry ⟨_, _, rfl, rfl, FQ.int S⟩
  · split at g
    · rename_i hl
      cases g
      obtain ⟨rfl, l1, o1⟩ : x = _ ∧ _ := by have q : RV _ _ _ _ _ := h1; unfold RV at q; exact q
      obtain ⟨rfl, l2, o2⟩ : y = _ ∧ _ := by have q : RV _ _ _ _ _ := h2; unfold RV at q; exact q
      rw [lim_eq] at hl
      exact op_add_str pins s σ H _ _ v u _ I rx ry ⟨_, _, rfl, rfl, hl, FQ.str S (by rw [length_append]; exact hl) (strOk_append o1 o2)⟩
    · cases g
  · split at g
    · rename_i hl
      cases g
      obtain ⟨a, xs, rfl, s1', r1⟩ : ∃ a xs, x = V.ref a ∧ _ := by have q : RV _ _ _ _ _ := h1; unfold RV at q; exact q
      have s1 := SqT.of (K := X.K) s1'
      obtain ⟨b, ys, rfl, s2', r2⟩ : ∃ a xs, y = V.ref a ∧ _ := by have q : RV _ _ _ _ _ := h2; unfold RV at q; exact q
      have s2 := SqT.of (K := X.K) s2'
      rw [lim_eq, ← r1.length, ← r2.length] at hl
      have e1 := r1.length
      have e2 := r2.length
      refine op_catA pins s σ H _ _ v u _ I rx ry ⟨a, b, xs, ys, rfl, rfl, s1, s2, hl, ?_, ?_, ?_⟩
      · rintro rfl
        rename_i ds es
        obtain rfl : ds = [] := List.length_eq_zero_iff.mp (by simpa using e1.symm)
        exact FQ.old S h2
      · intro _ hys
        subst hys
        rename_i ds es _
        obtain rfl : es = [] := List.length_eq_zero_iff.mp (by simpa using e2.symm)
        rw [List.append_nil]
        exact FQ.old S h1
      · intro _ _ p n
        exact FQ.tup S n (r1.append r2)
    · cases g
  · split at g
    · rename_i hl
      cases g
      obtain ⟨a, xs, rfl, _, s1, r1⟩ := h1
      obtain ⟨b, ys, rfl, _, s2, r2⟩ := h2
      rw [lim_eq, ← r1.length, ← r2.length] at hl
      exact op_cat pins s σ H _ _ v u _ I rx ry ⟨a, b, xs, ys, rfl, rfl, s1, s2, hl, fun p n => FQ.lst S n (r1.append r2)⟩
    · cases g
  · cases g
end
end Ev

/-! Ev2b: keys of dicts. -/
namespace Ev
open PySem PySem.Spec L2
open PyProof.Rows hiding St
variable [Tbl]
inductive DKey where
  | one (k : Key) | tup (k : List Key)
  deriving DecidableEq
def keyOf : D → Option Key
  | .int i => some (.inl i)
  | .str x => some (.inr x)
  | _ => none
def keysOf : List D → Option (List Key)
  | [] => some []
  | d :: ds => match keyOf d, keysOf ds with
    | some a, some b => some (a :: b)
    | _, _ => none
def dkOf : D → Option DKey
  | .tup ds => (keysOf ds).map .tup
  | d => (keyOf d).map .one
theorem keyOf_eq {d : D} {k : Key} (h : keyOf d = some k) : d = keyD k := by
  cases d <;> cases h <;> rfl
theorem keyOf_keyD (k : Key) : keyOf (keyD k) = some k := by cases k <;> rfl
theorem keysOf_eq : ∀ {ds : List D} {k : List Key}, keysOf ds = some k → ds = k.map keyD
  | [], k, h => by cases h; rfl
  | d :: ds, k, h => by
    unfold keysOf at h
    split at h
    · rename_i a b h1 h2
      cases h
      rw [keyOf_eq h1, keysOf_eq h2]; rfl
    · cases h
theorem keysOf_map : ∀ (k : List Key), keysOf (k.map keyD) = some k
  | [] => rfl
  | a :: k => by
    show (match keyOf (keyD a), keysOf (k.map keyD) with | some a, some b => some (a :: b) | _, _ => none) = _
    rw [keyOf_keyD, keysOf_map k]
theorem dkOf_one {d : D} {k : Key} (h : dkOf d = some (.one k)) : d = keyD k := by
  unfold dkOf at h
  split at h
  · rename_i ds
    cases q : keysOf ds with
    | none => rw [q] at h; cases h
    | some b => rw [q] at h; cases h
  · cases q : keyOf d with
    | none => rw [q] at h; cases h
    | some b => rw [q] at h; cases h; exact keyOf_eq q
theorem dkOf_tup {d : D} {k : List Key} (h : dkOf d = some (.tup k)) : d = .tup (k.map keyD) := by
  unfold dkOf at h
  split at h
  · rename_i ds
    cases q : keysOf ds with
    | none => rw [q] at h; cases h
    | some b => rw [q] at h; cases h; rw [keysOf_eq q]
  · cases q : keyOf d with
    | none => rw [q] at h; cases h
    | some b => rw [q] at h; cases h
theorem dkOf_keyD (k : Key) : dkOf (keyD k) = some (.one k) := by cases k <;> rfl
theorem dkOf_keysD (k : List Key) : dkOf (.tup (k.map keyD)) = some (.tup k) := by
  show (keysOf (k.map keyD)).map DKey.tup = _
  rw [keysOf_map]; rfl
/-- the dict has the key -/
def hasK (ks : List D) (k : D) : Bool := ks.any fun k0 => decide (dkOf k0 = dkOf k)
def kindK (a b : D) : Bool := match dkOf a, dkOf b with
  | some (.one _), some (.one _) => true
  | some (.tup _), some (.tup _) => true
  | _, _ => false
/-- k can be asked of the dict -/
def askK (ks : List D) (k : D) : Bool := (dkOf k).isSome && ks.all fun k0 => kindK k0 k
def valD (ks vs : List D) (k : D) : Option D := ((ks.zip vs).find? fun p => decide (dkOf p.1 = dkOf k)).map (·.2)
section
variable {X : Cx} {c : Rc} {O : Od} {H : Hp} {σ : St} {pins : List (Addr × Obj)} {s : Shared} {a : Addr}
theorem rv_keyD {k : Key} {v : V} (h : RV c O H (keyD k) v) : v = kV k := by
  cases k with
  | inl i => unfold keyD RV at h; exact h
  | inr x => unfold keyD RV at h; exact h.1
theorem rvs_keysD : ∀ {k : List Key} {vs : List V}, RVs c O H (k.map keyD) vs → vs = k.map kV
  | [], vs, h => by unfold List.map RVs at h; exact h
  | k :: ks, vs, h => by
    unfold List.map RVs at h
    obtain ⟨v, r, rfl, h, hs⟩ := h
    rw [rv_keyD h, rvs_keysD hs]; rfl
theorem rv_keyT {k : List Key} {v : V} (h : RV c O H (.tup (k.map keyD)) v) : ∃ b, v = .ref b ∧ H b = some (.tup (k.map kV)) := by
  unfold RV at h
  obtain ⟨b, vs, e, h1, r⟩ := h
  exact ⟨b, e, by rw [h1, rvs_keysD r]⟩
/-- an empty dict is of either kind -/
theorem dT_of_dK {P : Program} {w : World} {H H' : Hp} {h : Heap} (o : ObjOk P w H h a (.dK [])) : ObjOk P w H' h a (.dT []) := by
  obtain ⟨l, m, vs, kv, ob, es, ep, h1, h2, h3, h4, h5, h6⟩ := o
  cases kv
  have e : es.toList = [] := by
    cases q : es.toList with
    | nil => rfl
    | cons x r => rw [q] at h5; cases h5
  exact ⟨l, m, [], .nil, ob, es, ep, h1, h2, h3, by rw [e]; rfl, List.nodup_nil⟩
theorem dK_of_dT {P : Program} {w : World} {H H' : Hp} {h : Heap} (o : ObjOk P w H h a (.dT [])) : ObjOk P w H' h a (.dK []) := by
  obtain ⟨l, m, xs, kv, ob, es, ep, h1, h2, h3, h4, h5⟩ := o
  cases kv
  have e : es = #[] := by
    cases es with
    | mk l => simp at h4; subst h4; rfl
  subst e
  exact ⟨l, m, [], .nil, ob, #[], ep, h1, h2, h3, by intro e he; simp at he, .nil, List.nodup_nil⟩
theorem invToT (I : Inv X pins σ H s) (h : H a = some (.dK [])) : Inv X pins σ (upd H a (.dT [])) s := by
  have o := dT_of_dK (H' := upd H a (.dT [])) (I.hok a _ h)
  obtain ⟨_, _, xs, _, ob, _, _, h1, _⟩ := id o
  exact I.write (e := a) (t' := s.toks) (by rw [h]; trivial) (.inl rfl) (fun b u _ e => e) ⟨ob, h1⟩ o
theorem invToK (I : Inv X pins σ H s) (h : H a = some (.dT [])) : Inv X pins σ (upd H a (.dK [])) s := by
  have o := dK_of_dT (H' := upd H a (.dK [])) (I.hok a _ h)
  obtain ⟨_, _, xs, _, ob, _, _, h1, _⟩ := id o
  exact I.write (e := a) (t' := s.toks) (by rw [h]; trivial) (.inl rfl) (fun b u _ e => e) ⟨ob, h1⟩ o
theorem upd_back {o : HO} (h : H a = some o) (u : HO) : upd (upd H a u) a o = H := by
  rw [upd_upd]
  funext b
  by_cases e : b = a
  · subst e; rw [upd_same, h]
  · rw [upd_ne e]
theorem val_one {y : D} {k : Key} (hy : dkOf y = some (.one k)) : ∀ {kvs : List (Key × V)} {vs : List D}, RVs c O H vs (kvs.map (·.2)) →
    (valV kvs k).isSome = hasK (kvs.map fun p => keyD p.1) y ∧ (∀ d, valD (kvs.map fun p => keyD p.1) vs y = some d → ∃ v, valV kvs k = some v ∧ RV c O H d v) ∧ (valD (kvs.map fun p => keyD p.1) vs y = none → valV kvs k = none)
  | [], vs, r => by
    unfold RVs at r
    cases vs with
    | nil => exact ⟨rfl, fun d h => (by cases h), fun _ => rfl⟩
    | cons d ds => obtain ⟨v, r', e, _⟩ := r; cases e
  | p :: kvs, vs, r => by
    cases vs with
    | nil => unfold RVs at r; cases r
    | cons d0 ds =>
      unfold RVs at r
      obtain ⟨v0, r', e, h0, hs⟩ := r
      rw [List.map_cons] at e
      cases e
      obtain ⟨i1, i2, i3⟩ := val_one hy (kvs := kvs) hs
      have ek : (dkOf (keyD p.1) = dkOf y) ↔ p.1 = k := by
        rw [dkOf_keyD, hy]
        exact ⟨fun h => by cases h; rfl, fun h => by rw [h]⟩
      by_cases e : p.1 = k
      · rw [valV_pos e]
        have e' : decide (dkOf (keyD p.1) = dkOf y) = true := decide_eq_true (ek.mpr e)
        refine ⟨?_, fun d h => ?_, fun h => ?_⟩
        · simp [hasK, e']
        · unfold valD at h
          simp only [List.map_cons, List.zip_cons_cons, List.find?_cons, e', Option.map_some] at h
          cases h
          exact ⟨_, rfl, h0⟩
        · unfold valD at h
          simp only [List.map_cons, List.zip_cons_cons, List.find?_cons, e', Option.map_some] at h
          cases h
      · rw [valV_neg e]
        have e' : decide (dkOf (keyD p.1) = dkOf y) = false := decide_eq_false fun z => e (ek.mp z)
        refine ⟨?_, fun d h => ?_, fun h => ?_⟩
        · simp only [hasK, List.map_cons, List.any_cons, e', Bool.false_or]
          exact i1
        · unfold valD at h
          simp only [List.map_cons, List.zip_cons_cons, List.find?_cons, e'] at h
          exact i2 d h
        · unfold valD at h
          simp only [List.map_cons, List.zip_cons_cons, List.find?_cons, e'] at h
          exact i3 h
theorem val_tup {y : D} {k : List Key} (hy : dkOf y = some (.tup k)) : ∀ {kvs : List (List Key × V)} {vs : List D}, RVs c O H vs (kvs.map (·.2)) →
    (valV kvs k).isSome = hasK (kvs.map fun p => D.tup (p.1.map keyD)) y ∧ (∀ d, valD (kvs.map fun p => D.tup (p.1.map keyD)) vs y = some d → ∃ v, valV kvs k = some v ∧ RV c O H d v) ∧ (valD (kvs.map fun p => D.tup (p.1.map keyD)) vs y = none → valV kvs k = none)
  | [], vs, r => by
    unfold RVs at r
    cases vs with
    | nil => exact ⟨rfl, fun d h => (by cases h), fun _ => rfl⟩
    | cons d ds => obtain ⟨v, r', e, _⟩ := r; cases e
  | p :: kvs, vs, r => by
    cases vs with
    | nil => unfold RVs at r; cases r
    | cons d0 ds =>
      unfold RVs at r
      obtain ⟨v0, r', e, h0, hs⟩ := r
      rw [List.map_cons] at e
      cases e
      obtain ⟨i1, i2, i3⟩ := val_tup hy (kvs := kvs) hs
      have ek : (dkOf (.tup (p.1.map keyD)) = dkOf y) ↔ p.1 = k := by
        rw [dkOf_keysD, hy]
        exact ⟨fun h => by cases h; rfl, fun h => by rw [h]⟩
      by_cases e : p.1 = k
      · rw [valV_pos e]
        have e' : decide (dkOf (.tup (p.1.map keyD)) = dkOf y) = true := decide_eq_true (ek.mpr e)
        refine ⟨?_, fun d h => ?_, fun h => ?_⟩
        · simp [hasK, e']
        · unfold valD at h
          simp only [List.map_cons, List.zip_cons_cons, List.find?_cons, e', Option.map_some] at h
          cases h
          exact ⟨_, rfl, h0⟩
        · unfold valD at h
          simp only [List.map_cons, List.zip_cons_cons, List.find?_cons, e', Option.map_some] at h
          cases h
      · rw [valV_neg e]
        have e' : decide (dkOf (.tup (p.1.map keyD)) = dkOf y) = false := decide_eq_false fun z => e (ek.mp z)
        refine ⟨?_, fun d h => ?_, fun h => ?_⟩
        · simp only [hasK, List.map_cons, List.any_cons, e', Bool.false_or]
          exact i1
        · unfold valD at h
          simp only [List.map_cons, List.zip_cons_cons, List.find?_cons, e'] at h
          exact i2 d h
        · unfold valD at h
          simp only [List.map_cons, List.zip_cons_cons, List.find?_cons, e'] at h
          exact i3 h
theorem ask_nil {α : Type} {f : α → D} {kvs : List α} {y : D} (h : askK (kvs.map f) y = true) (n : ∀ p, kindK (f p) y = false) : kvs = [] := by
  cases kvs with
  | nil => rfl
  | cons p r =>
    unfold askK at h
    simp only [List.map_cons, List.all_cons, n p, Bool.false_and, Bool.and_false] at h
    cases h
theorem dget (I : Inv X pins σ H s) {ks vs : List D} {ws : List V} (hd : DctAt H a ks ws) (r : RVs c O H vs ws) {y : D} {yv : V} (hy : RV c O H y yv) (hk : askK ks y = true) :
    ∃ H' o, Inv X pins σ H' s ∧ DGet H' a yv o ∧ (∀ s', Inv X pins σ H' s' → Inv X pins σ H s') ∧ o.isSome = hasK ks y ∧ (∀ d, valD ks vs y = some d → ∃ v, o = some v ∧ RV c O H d v) ∧ (valD ks vs y = none → o = none) := by
  have hsome : ∃ k, dkOf y = some k := by
    unfold askK at hk
    rw [Bool.and_eq_true] at hk
    exact Option.isSome_iff_exists.mp hk.1
  obtain ⟨k, hkk⟩ := hsome
  rcases hd with ⟨kvs, h1, h2, rfl, rfl⟩ | ⟨kvs, h1, h2, rfl, rfl⟩
  · cases k with
    | one k =>
      have ey := dkOf_one hkk
      subst ey
      obtain rfl := rv_keyD hy
      obtain ⟨v1, v2, v3⟩ := val_one hkk (kvs := kvs) r
      exact ⟨H, valV kvs k, I, .inl ⟨kvs, k, h1, rfl, rfl⟩, fun _ z => z, v1, v2, v3⟩
    | tup k =>
      have e0 : kvs = [] := ask_nil hk fun p => by unfold kindK; rw [dkOf_keyD, hkk]
      subst e0
      have ey := dkOf_tup hkk
      subst ey
      obtain ⟨b, rfl, hb⟩ := rv_keyT hy
      have h0 := h2 rfl
      have ne : b ≠ a := fun z => by rw [z, h0] at hb; cases hb
      refine ⟨upd H a (.dT []), none, invToT I h0, .inr ⟨[], k, b, .inl upd_same, rfl, by rw [upd_ne ne]; exact hb, rfl⟩, fun s' J => ?_, rfl, fun d h => ?_, fun _ => rfl⟩
      · have := invToK J (a := a) upd_same
        rw [upd_back h0] at this
        exact this
      · unfold valD at h; simp at h
  · cases k with
    | tup k =>
      have ey := dkOf_tup hkk
      subst ey
      obtain ⟨b, rfl, hb⟩ := rv_keyT hy
      obtain ⟨v1, v2, v3⟩ := val_tup hkk (kvs := kvs) r
      exact ⟨H, valV kvs k, I, .inr ⟨kvs, k, b, h1, rfl, hb, rfl⟩, fun _ z => z, v1, v2, v3⟩
    | one k =>
      have e0 : kvs = [] := ask_nil hk fun p => by unfold kindK; rw [dkOf_keysD, hkk]
      subst e0
      have ey := dkOf_one hkk
      subst ey
      obtain rfl := rv_keyD hy
      have h0 := h2 rfl
      refine ⟨upd H a (.dK []), none, invToK I h0, .inl ⟨[], k, .inl upd_same, rfl, rfl⟩, fun s' J => ?_, rfl, fun d h => ?_, fun _ => rfl⟩
      · have := invToT J (a := a) upd_same
        rw [upd_back h0] at this
        exact this
      · unfold valD at h; simp at h
end
end Ev

set_option maxHeartbeats 4000000
/-! Ev2c: tuple * int, the int at most 1, or the tuple empty. -/
namespace Ev
open PySem PySem.Spec L2
open PyProof.Rows hiding St
theorem tuple_mulSame (l : Addr) (items : Array Value) (n : Nat) (dd : Option Addr) (sl : Array (Option Value)) (x : Int) (u : Tok) (c0 : (decide (x < -(2 ^ 63)) || decide (x ≥ 2 ^ 63)) = false) (c1 : (items.isEmpty || x == 1) = true) :
    Meets (Builtin.«tuple.__mul__» ⟨[.ref l, .int x u], []⟩) (fun _ R s => s.heap.get? l = some { cls := .type "tuple", dict := dd, data := .seq items n, slots := sl } ∧ R (.ok (.ret (Value.ref l))) s) :=
  .of_wp fun prog w A R s h => by
    obtain ⟨hp, g, d, tk, os⟩ := s
    obtain ⟨hl, h⟩ := h
    have f1 := AutoSeq1.idx_int
    wp_walk using wpAny_loadPart' hl
    repeat (first
      | (refine wpAny_ite_false (decide_eq_false (by rw [c0]; exact Bool.false_ne_true)) ?_; wp_walk using wpAny_loadPart' hl)
      | (refine wpAny_ite_true (decide_eq_true c1) ?_; wp_walk using wpAny_loadPart' hl))
    exact ⟨_, rfl, h⟩
theorem tuple_mulNone (l : Addr) (items : Array Value) (n : Nat) (dd : Option Addr) (sl : Array (Option Value)) (x : Int) (u : Tok) (c0 : (decide (x < -(2 ^ 63)) || decide (x ≥ 2 ^ 63)) = false) (c1 : (items.isEmpty || x == 1) = false) (c2 : (decide (x ≤ 0) || items.isEmpty) = true) :
    Meets (Builtin.«tuple.__mul__» ⟨[.ref l, .int x u], []⟩) (fun _ R s => s.heap.get? l = some { cls := .type "tuple", dict := dd, data := .seq items n, slots := sl } ∧
      R (.ok (.ret (Value.ref s.heap.objs.size))) { s with heap := s.heap.push { cls := Value.type "tuple", data := Data.seq #[] }, toks := s.toks }) :=
  .of_wp fun prog w A R s h => by
    obtain ⟨hp, g, d, tk, os⟩ := s
    obtain ⟨hl, h⟩ := h
    have f1 := AutoSeq1.idx_int
    wp_walk using wpAny_loadPart' hl
    repeat (first
      | (refine wpAny_ite_false (decide_eq_false (by rw [c0]; exact Bool.false_ne_true)) ?_; wp_walk using wpAny_loadPart' hl)
      | (refine wpAny_ite_false (decide_eq_false (by rw [c1]; exact Bool.false_ne_true)) ?_; wp_walk using wpAny_loadPart' hl)
      | (refine wpAny_ite_true (decide_eq_true c2) ?_; wp_walk using wpAny_loadPart' hl))
    exact ⟨_, rfl, h⟩
def rRepS (K : PySem.W.Frag) : R2 := fun x y H Q => ∃ l k xs, x = .ref l ∧ y = .int k ∧ SqT K H l xs ∧ -(2 ^ 63) ≤ k ∧ k < 2 ^ 63 ∧ (xs = [] ∨ k = 1) ∧ Q (.ref l) H
def rRepN (K : PySem.W.Frag) : R2 := fun x y H Q => ∃ l k xs, x = .ref l ∧ y = .int k ∧ SqT K H l xs ∧ -(2 ^ 63) ≤ k ∧ k ≤ 0 ∧ xs ≠ [] ∧ ∀ p, H p = none → Q (.ref p) (upd H p (.tup []))
section
variable {X : Cx}
theorem op_repS : OpR X (binaryOp .Mult) (rRepS X.K) := by
  intro pins s σ H x y v u Q I rx ry h
  obtain ⟨l, k, xs, rfl, rfl, hT, h1, h2, h3, q⟩ := h
  cases rx
  obtain ⟨t, rfl⟩ := ry
  obtain ⟨its, r, ⟨⟨cls, dd, data, sl⟩, ho, hc, n, hd⟩, hs⟩ := I.tuple hT
  simp only at hc hd
  subst hc hd
  have hle : its.length = xs.length := r.length.symm
  have c0 : (decide (k < -(2 ^ 63)) || decide (k ≥ 2 ^ 63)) = false := by
    rw [decide_eq_false (by omega), decide_eq_false (by omega)] <;> rfl
  have c1 : (its.toArray.isEmpty || k == 1) = true := by
    rcases h3 with h3 | h3
    · subst h3
      obtain rfl := List.eq_nil_of_length_eq_zero hle
      rfl
    · subst h3
      rw [Bool.or_eq_true]
      exact .inr rfl
  refine wpAny_binaryOp_repeat_ref (T := "tuple") (U := "int") (by decide) ⟨_, ho, rfl⟩ (fun s' => typeIs_int s' k t) noFill_tuple_mul F.fills_int_mul F.slot_int_rmul repeat_tuple F.slot_int_index.lookup
    (call_meets F.slot_int_rmul (typeIs_int s k t) F.entry_int_rmul (F.args_int_rmul_2 _ _) (int_rmul_tuple k t l its.toArray n dd sl)
      ⟨ho, rfl, ⟨_, ho, rfl⟩, call_meets F.slot_tuple_mul ⟨_, ho, rfl⟩ F.entry_tuple_mul (F.args_tuple_mul_2 _ _) (tuple_mulSame l its.toArray n dd sl k t c0 c1) ⟨ho, ?_⟩⟩)
  exact ⟨.ref l, H, I.tok _, rfl, q⟩
theorem op_repN : OpR X (binaryOp .Mult) (rRepN X.K) := by
  intro pins s σ H x y v u Q I rx ry h
  obtain ⟨l, k, xs, rfl, rfl, hT, h1, h2, h3, q⟩ := h
  cases rx
  obtain ⟨t, rfl⟩ := ry
  obtain ⟨its, r, ⟨⟨cls, dd, data, sl⟩, ho, hc, n, hd⟩, hs⟩ := I.tuple hT
  simp only at hc hd
  subst hc hd
  have hle : its.length = xs.length := r.length.symm
  have hi : its.toArray.isEmpty = false := by
    cases its with
    | nil => exact absurd (List.eq_nil_of_length_eq_zero hle.symm) h3
    | cons a b => rfl
  have c0 : (decide (k < -(2 ^ 63)) || decide (k ≥ 2 ^ 63)) = false := by
    rw [decide_eq_false (by omega), decide_eq_false (by omega)] <;> rfl
  have c1 : (its.toArray.isEmpty || k == 1) = false := by
    rw [hi, Bool.false_or]
    exact beq_eq_false_iff_ne.mpr (by omega)
  have c2 : (decide (k ≤ 0) || its.toArray.isEmpty) = true := by
    rw [decide_eq_true h2]; rfl
  refine wpAny_binaryOp_repeat_ref (T := "tuple") (U := "int") (by decide) ⟨_, ho, rfl⟩ (fun s' => typeIs_int s' k t) noFill_tuple_mul F.fills_int_mul F.slot_int_rmul repeat_tuple F.slot_int_index.lookup
    (call_meets F.slot_int_rmul (typeIs_int s k t) F.entry_int_rmul (F.args_int_rmul_2 _ _) (int_rmul_tuple k t l its.toArray n dd sl)
      ⟨ho, rfl, ⟨_, ho, rfl⟩, call_meets F.slot_tuple_mul ⟨_, ho, rfl⟩ F.entry_tuple_mul (F.args_tuple_mul_2 _ _) (tuple_mulNone l its.toArray n dd sl k t c0 c1 c2) ⟨ho, ?_⟩⟩)
  exact ⟨.ref s.heap.objs.size, _, I.laid (t' := s.toks) (o := .tup []) (fun b ob q => Heap.get?_push_of_some _ q) (Nat.le_refl _) ⟨Nat.zero_le _, _, .nil, IsTup.new _ _⟩, rfl, q _ (I.hok.fresh (Nat.le_refl _))⟩
theorem sumT_raw {prog : Program} {w : World} {A : Around} {E : Value → Shared → Prop} {s : Shared} {l : Addr} {its : List Value} {ns : List Int} {Q : Value → Shared → Prop} (hh : A.handled = none) (hl : s.heap.IsTuple l its.toArray) (hi : IntsAre its ns)
    (h : ∀ h' tk t', (∀ b o, s.heap.get? b = some o → h'.get? b = some o) → Q (.int ns.sum t') { s with heap := h', toks := tk }) : wpAny (model prog w) A (call (.builtin "sum") [.ref l]) Q E s := by
  obtain ⟨xs, e⟩ := hi.allInts.items
  have hn : numsOf (intItems xs).toList = ns := by rw [← e]; exact hi.numsOf
  rw [nums_intItems] at hn
  rw [e] at hl
  refine PySem.W.ktm_sumG hh hl fun h' tk t' hk => ?_
  have := h h' tk t' hk
  rw [preSum_eq, List.take_of_length_le (by simp), hn]; exact this
theorem cr_sumT (hc : X.calm = true) : CallR X (.builtin "sum") (fun vs H Q => ∃ (a : Addr) (ns : List Int), vs = [V.ref a] ∧ SqT X.K H a (ns.map V.int) ∧ Q (.int ns.sum) H) := by
  intro pins s σ H vs us Q I r h
  obtain ⟨a, ns, rfl, hs, q⟩ := h
  obtain ⟨its, rv, hl, _⟩ := I.tuple hs
  rw [Vals.ref1 r]
  exact sumT_raw (I.ok.hd hc) hl rv.ints fun h' tk t' hk => ⟨.int _, H, I.kept hk, ⟨_, rfl⟩, q⟩
end
end Ev

/-! Ev3: the other operators, comparisons, membership, truth. -/
namespace Ev
open PySem PySem.Spec L2
open PyProof.Rows hiding St
variable [Tbl]
section
variable {c : Rc} {O : Od} {H : Hp} {v : V}
theorem rb_int {i : Int} (h : RB c O H (.int i) v) : v = .int i := by have q : RV _ _ _ _ _ := h; unfold RV at q; exact q
theorem rb_bl {i : Bool} (h : RB c O H (.bl i) v) : v = .bl i := by have q : RV _ _ _ _ _ := h; unfold RV at q; exact q
theorem rb_non (h : RB c O H .non v) : v = .non := by have q : RV _ _ _ _ _ := h; unfold RV at q; exact q
theorem rb_str {i : Str} (h : RB c O H (.str i) v) : v = .str i ∧ i.length ≤ sizeLine ∧ PyData.strOk i = true := by have q : RV _ _ _ _ _ := h; unfold RV at q; exact q
theorem rb_tup {ds : List D} (h : RB c O H (.tup ds) v) : ∃ a vs, v = .ref a ∧ SqT c.K H a vs ∧ RVs c O H ds vs := by
  have q : RV _ _ _ _ _ := h
  unfold RV at q
  obtain ⟨a, vs, e, s, r⟩ := q
  exact ⟨a, vs, e, .of s, r⟩
theorem rb_lst {ds : List D} (h : RB c O H (.lst ds) v) : ∃ a vs, v = .ref a ∧ ¬ av c a ∧ H a = some (.lst vs) ∧ RVs c O H ds vs := h
theorem rb_dct {ks ds : List D} (h : RB c O H (.dct ks ds) v) : ∃ a vs, v = .ref a ∧ ¬ av c a ∧ DctAt H a ks vs ∧ RVs c O H ds vs := h
theorem rv_tupH {ds : List D} (h : RV c O H (.tup ds) v) : ∃ a vs, v = .ref a ∧ H a = some (.tup vs) ∧ RVs c O H ds vs := by unfold RV at h; exact h
theorem rv_tup {ds : List D} (h : RV c O H (.tup ds) v) : ∃ a vs, v = .ref a ∧ SqT c.K H a vs ∧ RVs c O H ds vs := by
  obtain ⟨a, vs, e, s, r⟩ := rv_tupH h
  exact ⟨a, vs, e, .of s, r⟩
theorem rv_lst {ds : List D} (h : RV c O H (.lst ds) v) : ∃ a vs, v = .ref a ∧ ¬ O a ∧ H a = some (.lst vs) ∧ RVs c O H ds vs := by unfold RV at h; exact h
theorem rv_int {i : Int} (h : RV c O H (.int i) v) : v = .int i := by unfold RV at h; exact h
theorem rv_str {i : Str} (h : RV c O H (.str i) v) : v = .str i ∧ i.length ≤ sizeLine ∧ PyData.strOk i = true := by unfold RV at h; exact h
theorem rv_bl {i : Bool} (h : RV c O H (.bl i) v) : v = .bl i := by unfold RV at h; exact h
theorem mk_int {i : Int} : RV c O H (.int i) (.int i) := by unfold RV; rfl
theorem mk_bl {i : Bool} : RV c O H (.bl i) (.bl i) := by unfold RV; rfl
theorem mk_non : RV c O H .non .non := by unfold RV; rfl
theorem mk_str {i : Str} (h1 : i.length ≤ sizeLine) (h2 : PyData.strOk i = true) : RV c O H (.str i) (.str i) := by unfold RV; exact ⟨rfl, h1, h2⟩
theorem mk_tup {ds : List D} {a : Addr} {vs : List V} (h : H a = some (.tup vs)) (r : RVs c O H ds vs) : RV c O H (.tup ds) (.ref a) := by unfold RV; exact ⟨a, vs, rfl, h, r⟩
theorem mk_lst {ds : List D} {a : Addr} {vs : List V} (n : ¬ O a) (h : H a = some (.lst vs)) (r : RVs c O H ds vs) : RV c O H (.lst ds) (.ref a) := by unfold RV; exact ⟨a, vs, rfl, n, h, r⟩
end
section
variable {X : Cx} {W : WX} {m : Md} {A : Addr} {L : LT} {Hz : Hp} {O : Od} {ρ : EnvD} {σ : St} {H : Hp} {d : D} {w : V}

/-! ### arithmetic -/
def dSub : D → D → Option D
  | .int a, .int b => some (.int (a - b))
  | _, _ => none
theorem do_sub : DO2 X (binaryOp .Sub) dSub := by
  intro pins s σ H A L Hz O ρ x y v u d1 d2 d I S rx ry h1 h2 g
  unfold dSub at g
  split at g
  · cases g
    obtain rfl := rb_int h1
    obtain rfl := rb_int h2
    exact op_sub pins s σ H _ _ v u _ I rx ry ⟨_, _, rfl, rfl, FQ.int S⟩
  · cases g
def dMod : D → D → Option D
  | .int a, .int b => if 0 < b then some (.int (a % b)) else none
  | _, _ => none
theorem do_mod : DO2 X (binaryOp .Mod) dMod := by
  intro pins s σ H A L Hz O ρ x y v u d1 d2 d I S rx ry h1 h2 g
  unfold dMod at g
  split at g
  · split at g
    · rename_i hb
      cases g
      obtain rfl := rb_int h1
      obtain rfl := rb_int h2
      exact op_mod pins s σ H _ _ v u _ I rx ry ⟨_, _, rfl, rfl, hb, FQ.int S⟩
    · cases g
  · cases g
def dDiv : D → D → Option D
  | .int a, .int b => if 0 < b ∧ b < 1073741824 then some (.int (a / b)) else none
  | _, _ => none
theorem do_div : DO2 X (binaryOp .FloorDiv) dDiv := by
  intro pins s σ H A L Hz O ρ x y v u d1 d2 d I S rx ry h1 h2 g
  unfold dDiv at g
  split at g
  · split at g
    · rename_i hb
      cases g
      obtain rfl := rb_int h1
      obtain rfl := rb_int h2
      exact op_fdiv pins s σ H _ _ v u _ I rx ry ⟨_, _, rfl, rfl, hb, FQ.int S⟩
    · cases g
  · cases g
def dPow : D → D → Option D
  | .int a, .int b => if 0 ≤ b ∧ b ≤ 1000000 ∧ a.natAbs < 2 ^ 64 then some (.int (a ^ b.toNat)) else none
  | _, _ => none
theorem do_pow : DO2 X (binaryOp .Pow) dPow := by
  intro pins s σ H A L Hz O ρ x y v u d1 d2 d I S rx ry h1 h2 g
  unfold dPow at g
  split at g
  · split at g
    · rename_i hb
      cases g
      obtain rfl := rb_int h1
      obtain rfl := rb_int h2
      exact op_pow pins s σ H _ _ v u _ I rx ry ⟨_, _, rfl, rfl, hb, FQ.int S⟩
    · cases g
  · cases g
def dMul : D → D → Option D
  | .int a, .int b => if (-(2 ^ 64) < a ∧ a < 2 ^ 64) ∨ (-(2 ^ 64) < b ∧ b < 2 ^ 64) then some (.int (a * b)) else none
  | .lst a, .int b => if -(2 ^ 63) ≤ b ∧ b < 2 ^ 63 ∧ a.length * b.toNat ≤ lim then some (.lst (List.replicate b.toNat a).flatten) else none
  | .tup a, .int b => if -(2 ^ 63) ≤ b ∧ b ≤ 1000 ∧ a.length ≤ 1000 then some (.tup (List.replicate b.toNat a).flatten) else none
  | _, _ => none
theorem RVs.ne_nil {c : Rc} {ds : List D} {vs : List V} (r : RVs c O H ds vs) (h : ds ≠ []) : vs ≠ [] := fun e => h (List.length_eq_zero_iff.mp (by rw [← r.length, e]; rfl))
theorem do_mul : DO2 X (binaryOp .Mult) dMul := by
  intro pins s σ H A L Hz O ρ x y v u d1 d2 d I S rx ry h1 h2 g
  unfold dMul at g
  split at g
  · split at g
    · rename_i hb
      cases g
      obtain rfl := rb_int h1
      obtain rfl := rb_int h2
      exact op_mul pins s σ H _ _ v u _ I rx ry ⟨_, _, rfl, rfl, hb, FQ.int S⟩
    · cases g
  · split at g
    · rename_i hb
      cases g
      obtain ⟨a, xs, rfl, _, s1, r1⟩ := rb_lst h1
      obtain rfl := rb_int h2
      have e := r1.length
      exact op_rep pins s σ H _ _ v u _ I rx ry ⟨a, _, xs, rfl, rfl, s1, hb.1, hb.2.1, by rw [e, ← lim_eq]; exact hb.2.2, fun p n => FQ.lst S n (r1.rep _)⟩
    · cases g
  · split at g
    · rename_i hb
      cases g
      obtain ⟨a, xs, rfl, s1, r1⟩ := rb_tup h1
      obtain rfl := rb_int h2
      have e := r1.length
      rename_i ds b
      by_cases h0 : ds = []
      · subst h0
        have hx : xs = [] := List.eq_nil_of_length_eq_zero e
        have er : (List.replicate b.toNat ([] : List D)).flatten = [] := by simp
        rw [er]
        exact op_repS pins s σ H _ _ v u _ I rx ry ⟨a, _, xs, rfl, rfl, s1, hb.1, by omega, .inl hx, FQ.old S h1⟩
      · by_cases h3 : b = 1
        · subst h3
          have er : (List.replicate (1 : Int).toNat ds).flatten = ds := by simp
          rw [er]
          exact op_repS pins s σ H _ _ v u _ I rx ry ⟨a, _, xs, rfl, rfl, s1, hb.1, by omega, .inr rfl, FQ.old S h1⟩
        · by_cases h4 : b ≤ 0
          · have er : (List.replicate b.toNat ds).flatten = [] := by rw [Int.toNat_of_nonpos h4]; rfl
            rw [er]
            exact op_repN pins s σ H _ _ v u _ I rx ry ⟨a, _, xs, rfl, rfl, s1, hb.1, h4, RVs.ne_nil r1 h0, fun p n => FQ.tup S n .nil⟩
          · exact op_repT pins s σ H _ _ v u _ I rx ry ⟨a, _, xs, rfl, rfl, s1, RVs.ne_nil r1 h0, by omega, hb.2.1, by rw [e]; exact hb.2.2, fun p n => FQ.tup S n (r1.rep _)⟩
    · cases g
  · cases g

/-! ### equality, order -/
def notNone : PyData → Bool
  | .none => false
  | _ => true
theorem notNone_ne {p : PyData} (h : notNone p = true) : p ≠ .none := by
  intro e; subst e; cases h
def dEqv (x y : D) : Option Bool := match toPD x, toPD y with
  | some p, some q => if min p.depth q.depth ≤ 64 then some (PyData.eqv p q) else none
  | _, _ => none
def dLtv (x y : D) : Option Bool := match toPD x, toPD y with
  | some p, some q => if min p.depth q.depth ≤ 64 ∧ PySem.W.alike p q = true ∧ notNone p = true then some (PySem.W.dataLt p q) else none
  | _, _ => none
def dEq (x y : D) : Option D := (dEqv x y).map .bl
def dNe (x y : D) : Option D := (dEqv x y).map fun b => .bl (!b)
def dLt (x y : D) : Option D := (dLtv x y).map .bl
def dGe (x y : D) : Option D := (dLtv x y).map fun b => .bl (!b)
def dLtv' (x y : D) : Option Bool := match toPD x, toPD y with
  | some p, some q => if min p.depth q.depth ≤ 64 ∧ PySem.W.alike p q = true ∧ notNone p = true then some (PySem.W.dataLt q p) else none
  | _, _ => none
def dGt (x y : D) : Option D := (dLtv' x y).map .bl
def dLe (x y : D) : Option D := (dLtv' x y).map fun b => .bl (!b)
theorem opt_map {α β : Type} {f : α → β} {o : Option α} {b : β} (h : o.map f = some b) : ∃ a, o = some a ∧ f a = b := by
  cases o with
  | none => cases h
  | some a => exact ⟨a, rfl, Option.some.inj h⟩
theorem dEqv_get {x y : D} {b : Bool} (h : dEqv x y = some b) : ∃ p q, toPD x = some p ∧ toPD y = some q ∧ min p.depth q.depth ≤ 64 ∧ PyData.eqv p q = b := by
  unfold dEqv at h
  split at h
  · split at h
    · rename_i p q e1 e2 hd
      cases h
      exact ⟨p, q, e1, e2, hd, rfl⟩
    · cases h
  · cases h
theorem dLtv_get {x y : D} {b : Bool} (h : dLtv x y = some b) : ∃ p q, toPD x = some p ∧ toPD y = some q ∧ (min p.depth q.depth ≤ 64 ∧ PySem.W.alike p q = true ∧ notNone p = true) ∧ PySem.W.dataLt p q = b := by
  unfold dLtv at h
  split at h
  · split at h
    · rename_i p q e1 e2 hd
      cases h
      exact ⟨p, q, e1, e2, hd, rfl⟩
    · cases h
  · cases h
theorem dLtv'_get {x y : D} {b : Bool} (h : dLtv' x y = some b) : ∃ p q, toPD x = some p ∧ toPD y = some q ∧ (min p.depth q.depth ≤ 64 ∧ PySem.W.alike p q = true ∧ notNone p = true) ∧ PySem.W.dataLt q p = b := by
  unfold dLtv' at h
  split at h
  · split at h
    · rename_i p q e1 e2 hd
      cases h
      exact ⟨p, q, e1, e2, hd, rfl⟩
    · cases h
  · cases h
theorem do_eq (hu : X.A.units + 64 < cLine) : DO2 X (compareOp .Eq) dEq := by
  intro pins s σ H A L Hz O ρ x y v u d1 d2 d I S rx ry h1 h2 g
  obtain ⟨b, hb, rfl⟩ := opt_map g
  obtain ⟨p, q, e1, e2, hd, rfl⟩ := dEqv_get hb
  obtain ⟨p1, c1⟩ := dp_rb h1 e1
  obtain ⟨p2, c2⟩ := dp_rb h2 e2
  obtain ⟨as, r1⟩ := Dp.reads I p x v p1 rx
  obtain ⟨bs, r2⟩ := Dp.reads I q y u p2 ry
  exact SeqAt.compareEq_reads r1 r2 c1 c2 (by omega) ⟨.bl _, H, I, rfl, FQ.bl S⟩
theorem do_ne (hu : X.A.units + 64 < cLine) : DO2 X (compareOp .NotEq) dNe := by
  intro pins s σ H A L Hz O ρ x y v u d1 d2 d I S rx ry h1 h2 g
  obtain ⟨b, hb, rfl⟩ := opt_map g
  obtain ⟨p, q, e1, e2, hd, rfl⟩ := dEqv_get hb
  obtain ⟨p1, c1⟩ := dp_rb h1 e1
  obtain ⟨p2, c2⟩ := dp_rb h2 e2
  obtain ⟨as, r1⟩ := Dp.reads I p x v p1 rx
  obtain ⟨bs, r2⟩ := Dp.reads I q y u p2 ry
  exact SeqAt.compareNe_reads r1 r2 c1 c2 (by omega) ⟨.bl _, H, I, rfl, FQ.bl S⟩
theorem do_lt (hu : X.A.units + 64 < cLine) : DO2 X (compareOp .Lt) dLt := by
  intro pins s σ H A L Hz O ρ x y v u d1 d2 d I S rx ry h1 h2 g
  obtain ⟨b, hb, rfl⟩ := opt_map g
  obtain ⟨p, q, e1, e2, ⟨hd, ha, hn⟩, rfl⟩ := dLtv_get hb
  obtain ⟨p1, c1⟩ := dp_rb h1 e1
  obtain ⟨p2, c2⟩ := dp_rb h2 e2
  obtain ⟨as, r1⟩ := Dp.reads I p x v p1 rx
  obtain ⟨bs, r2⟩ := Dp.reads I q y u p2 ry
  exact PySem.W.lt_data r1 r2 ha (notNone_ne hn) (by omega) ⟨.bl _, H, I, rfl, FQ.bl S⟩
theorem do_ge (hu : X.A.units + 64 < cLine) : DO2 X (compareOp .GtE) dGe := by
  intro pins s σ H A L Hz O ρ x y v u d1 d2 d I S rx ry h1 h2 g
  obtain ⟨b, hb, rfl⟩ := opt_map g
  obtain ⟨p, q, e1, e2, ⟨hd, ha, hn⟩, rfl⟩ := dLtv_get hb
  obtain ⟨p1, c1⟩ := dp_rb h1 e1
  obtain ⟨p2, c2⟩ := dp_rb h2 e2
  obtain ⟨as, r1⟩ := Dp.reads I p x v p1 rx
  obtain ⟨bs, r2⟩ := Dp.reads I q y u p2 ry
  exact PySem.W.ge_data r1 r2 ha (notNone_ne hn) (by omega) ⟨.bl _, H, I, rfl, FQ.bl S⟩
theorem do_gt (hu : X.A.units + 64 < cLine) : DO2 X (compareOp .Gt) dGt := by
  intro pins s σ H A L Hz O ρ x y v u d1 d2 d I S rx ry h1 h2 g
  obtain ⟨b, hb, rfl⟩ := opt_map g
  obtain ⟨p, q, e1, e2, ⟨hd, ha, hn⟩, rfl⟩ := dLtv'_get hb
  obtain ⟨p1, c1⟩ := dp_rb h1 e1
  obtain ⟨p2, c2⟩ := dp_rb h2 e2
  obtain ⟨as, r1⟩ := Dp.reads I p x v p1 rx
  obtain ⟨bs, r2⟩ := Dp.reads I q y u p2 ry
  exact PySem.W.gt_data r1 r2 ha (notNone_ne hn) (by omega) ⟨.bl _, H, I, rfl, FQ.bl S⟩
theorem do_le (hu : X.A.units + 64 < cLine) : DO2 X (compareOp .LtE) dLe := by
  intro pins s σ H A L Hz O ρ x y v u d1 d2 d I S rx ry h1 h2 g
  obtain ⟨b, hb, rfl⟩ := opt_map g
  obtain ⟨p, q, e1, e2, ⟨hd, ha, hn⟩, rfl⟩ := dLtv'_get hb
  obtain ⟨p1, c1⟩ := dp_rb h1 e1
  obtain ⟨p2, c2⟩ := dp_rb h2 e2
  obtain ⟨as, r1⟩ := Dp.reads I p x v p1 rx
  obtain ⟨bs, r2⟩ := Dp.reads I q y u p2 ry
  exact PySem.W.le_data r1 r2 ha (notNone_ne hn) (by omega) ⟨.bl _, H, I, rfl, FQ.bl S⟩
/-- is None -/
def isNon : D → Bool
  | .non => true
  | _ => false
def dIs : D → D → Option D
  | x, .non => some (.bl (isNon x))
  | .bl a, .bl b => some (.bl (decide (a = b)))
  | .int _, .bl _ => some (.bl false)
  | .non, .bl _ => some (.bl false)
  | _, _ => none
def dIsNot : D → D → Option D
  | x, .non => some (.bl (!isNon x))
  | .bl a, .bl b => some (.bl (!decide (a = b)))
  | .int _, .bl _ => some (.bl true)
  | .non, .bl _ => some (.bl true)
  | _, _ => none
theorem isNon_rb {c : Rc} {x : D} {v : V} (h : RB c O H x v) : decide (v = .non) = isNon x := by
  cases x with
  | non => rw [rb_non h]; rfl
  | bl b => rw [rb_bl h]; rfl
  | int b => rw [rb_int h]; rfl
  | str b => rw [(rb_str h).1]; rfl
  | tup b => obtain ⟨a, _, rfl, _⟩ := rb_tup h; rfl
  | lst b => obtain ⟨a, _, rfl, _⟩ := rb_lst h; rfl
  | dct b e => obtain ⟨a, _, rfl, _⟩ := rb_dct h; rfl
  | bag => have q : RV _ _ _ _ _ := h; unfold RV at q; rw [q]; rfl
  | fn b => have q : RV _ _ _ _ _ := h; unfold RV at q; obtain ⟨a, rfl, _⟩ := q; rfl
  | ty b => have q : RV _ _ _ _ _ := h; unfold RV at q; rw [q]; rfl
theorem do_is : DO2 X (compareOp .Is) dIs := by
  intro pins s σ H A L Hz O ρ x y v u d1 d2 d I S rx ry h1 h2 g
  unfold dIs at g
  split at g
  · cases g
    obtain rfl := rb_non h2
    exact op_isN pins s σ H _ _ v u _ I rx ry ⟨rfl, by rw [isNon_rb h1]; exact FQ.bl S⟩
  · cases g
    obtain rfl := rb_bl h1
    obtain rfl := rb_bl h2
    exact op_is_bl pins s σ H _ _ v u _ I rx ry ⟨_, _, rfl, rfl, FQ.bl S⟩
  · cases g
    obtain rfl := rb_int h1
    obtain rfl := rb_bl h2
    obtain ⟨t, rfl⟩ := rx
    cases ry
    exact wpAny_is_other rfl (fun z => nomatch z) ⟨.bl false, H, I, rfl, FQ.bl S⟩
  · cases g
    obtain rfl := rb_non h1
    obtain rfl := rb_bl h2
    cases rx
    cases ry
    exact wpAny_is_other rfl (fun z => nomatch z) ⟨.bl false, H, I, rfl, FQ.bl S⟩
  · cases g
theorem do_isNot : DO2 X (compareOp .IsNot) dIsNot := by
  intro pins s σ H A L Hz O ρ x y v u d1 d2 d I S rx ry h1 h2 g
  unfold dIsNot at g
  split at g
  · cases g
    obtain rfl := rb_non h2
    exact op_notN pins s σ H _ _ v u _ I rx ry ⟨rfl, by rw [isNon_rb h1]; exact FQ.bl S⟩
  · cases g
    obtain rfl := rb_bl h1
    obtain rfl := rb_bl h2
    exact op_isnot_bl pins s σ H _ _ v u _ I rx ry ⟨_, _, rfl, rfl, FQ.bl S⟩
  · cases g
    obtain rfl := rb_int h1
    obtain rfl := rb_bl h2
    obtain ⟨t, rfl⟩ := rx
    cases ry
    exact wpAny_isNot_other rfl (fun z => nomatch z) ⟨.bl true, H, I, rfl, FQ.bl S⟩
  · cases g
    obtain rfl := rb_non h1
    obtain rfl := rb_bl h2
    cases rx
    cases ry
    exact wpAny_isNot_other rfl (fun z => nomatch z) ⟨.bl true, H, I, rfl, FQ.bl S⟩
  · cases g

/-! ### membership -/
def inData (x : D) (ds : List D) : Option Bool := match toPD x, toPDs ds with
  | some p, some qs => if p.depth ≤ 64 then some (qs.any fun q => PyData.eqv q p) else none
  | _, _ => none
def inStr (x : D) (z : Str) : Option Bool := match x with
  | .str y => match y.cps.toList with
    | [c] => some (decide (c ∈ z.cps.toList))
    | _ => none
  | _ => none
def dInv (x : D) : D → Option Bool
  | .str z => inStr x z
  | .tup ds => inData x ds
  | .lst ds => inData x ds
  | .dct ks _ => if askK ks x = true then some (hasK ks x) else none
  | _ => none
def dIn (x y : D) : Option D := (dInv x y).map .bl
def dNotIn (x y : D) : Option D := (dInv x y).map fun b => .bl (!b)
theorem one_sign {y : Str} {c : Nat} (h : y.cps.toList = [c]) : y = ⟨#[c]⟩ := by
  cases y
  congr 1
  exact Array.toList_inj.mp h
theorem inStr_get {x : D} {z : Str} {b : Bool} (h : inStr x z = some b) : ∃ c, x = .str ⟨#[c]⟩ ∧ b = decide (c ∈ z.cps.toList) := by
  unfold inStr at h
  split at h
  · split at h
    · rename_i c e
      cases h
      exact ⟨c, by rw [one_sign e], rfl⟩
    · cases h
  · cases h
theorem inData_get {x : D} {ds : List D} {b : Bool} (h : inData x ds = some b) : ∃ p qs, toPD x = some p ∧ toPDs ds = some qs ∧ p.depth ≤ 64 ∧ b = qs.any fun q => PyData.eqv q p := by
  unfold inData at h
  split at h
  · split at h
    · rename_i p qs e1 e2 hd
      cases h
      exact ⟨p, qs, e1, e2, hd, rfl⟩
    · cases h
  · cases h
theorem tup_pd {ds : List D} {qs : List PyData} (e : toPDs ds = some qs) : toPD (.tup ds) = some (.tuple qs) := by unfold toPD; rw [e]; rfl
theorem lst_pd {ds : List D} {qs : List PyData} (e : toPDs ds = some qs) : toPD (.lst ds) = some (.list qs) := by unfold toPD; rw [e]; rfl
theorem RB.rvK {c : Rc} {ks : List D} {x : D} {v : V} (h : RB c O H x v) (hk : askK ks x = true) : RV c O H x v := by
  cases x with
  | lst ds => unfold askK dkOf at hk; simp [keyOf] at hk
  | dct k ds => unfold askK dkOf at hk; simp [keyOf] at hk
  | _ => exact h
theorem do_in (hu : X.A.units + 65 < cLine) : DO2 X (compareOp .In) dIn := by
  intro pins s σ H A L Hz O ρ x y v u d1 d2 d I S rx ry h1 h2 g
  obtain ⟨b, hb, rfl⟩ := opt_map g
  unfold dInv at hb
  split at hb
  · obtain ⟨c, rfl, rfl⟩ := inStr_get hb
    obtain ⟨rfl, _, _⟩ := rb_str h1
    obtain ⟨rfl, _, _⟩ := rb_str h2
    exact op_in_sign pins s σ H _ _ v u _ I rx ry ⟨c, _, rfl, rfl, FQ.bl S⟩
  · obtain ⟨p, qs, e1, e2, hd, rfl⟩ := inData_get hb
    obtain ⟨p1, c1⟩ := dp_rb h1 e1
    obtain ⟨p2, c2⟩ := dp_rb h2 (tup_pd e2)
    obtain ⟨as, r1⟩ := Dp.reads I p x v p1 rx
    obtain ⟨bs, r2⟩ := Dp.reads I _ y u p2 ry
    exact SeqAt.in_tuple_reads r2 r1 (by rw [PyData.canLay0] at c2; exact c2) c1 (by omega) ⟨.bl _, H, I, rfl, FQ.bl S⟩
  · obtain ⟨p, qs, e1, e2, hd, rfl⟩ := inData_get hb
    obtain ⟨p1, c1⟩ := dp_rb h1 e1
    obtain ⟨p2, c2⟩ := dp_rb h2 (lst_pd e2)
    obtain ⟨as, r1⟩ := Dp.reads I p x v p1 rx
    obtain ⟨bs, r2⟩ := Dp.reads I _ y u p2 ry
    exact SeqAt.in_list_reads r2 r1 (by rw [PyData.canLay0] at c2; exact c2) c1 (by omega) ⟨.bl _, H, I, rfl, FQ.bl S⟩
  · split at hb
    · rename_i hk
      cases hb
      obtain ⟨a, ws, rfl, _, hd, r⟩ := rb_dct h2
      cases ry
      obtain ⟨H', o, I', g, back, e1, _, _⟩ := dget I hd r (RB.rvK h1 hk) hk
      exact d_in (by omega) I' g rx fun s' J => ⟨.bl o.isSome, H, back s' J, rfl, by rw [e1]; exact FQ.bl S⟩
    · cases hb
  · cases hb
theorem do_notIn (hu : X.A.units + 65 < cLine) : DO2 X (compareOp .NotIn) dNotIn := by
  intro pins s σ H A L Hz O ρ x y v u d1 d2 d I S rx ry h1 h2 g
  obtain ⟨b, hb, rfl⟩ := opt_map g
  unfold dInv at hb
  split at hb
  · obtain ⟨c, rfl, rfl⟩ := inStr_get hb
    obtain ⟨rfl, _, _⟩ := rb_str h1
    obtain ⟨rfl, _, _⟩ := rb_str h2
    exact op_notIn_sign pins s σ H _ _ v u _ I rx ry ⟨c, _, rfl, rfl, FQ.bl S⟩
  · obtain ⟨p, qs, e1, e2, hd, rfl⟩ := inData_get hb
    obtain ⟨p1, c1⟩ := dp_rb h1 e1
    obtain ⟨p2, c2⟩ := dp_rb h2 (tup_pd e2)
    obtain ⟨as, r1⟩ := Dp.reads I p x v p1 rx
    obtain ⟨bs, r2⟩ := Dp.reads I _ y u p2 ry
    exact SeqAt.notIn_tuple_reads r2 r1 (by rw [PyData.canLay0] at c2; exact c2) c1 (by omega) ⟨.bl _, H, I, rfl, FQ.bl S⟩
  · obtain ⟨p, qs, e1, e2, hd, rfl⟩ := inData_get hb
    obtain ⟨p1, c1⟩ := dp_rb h1 e1
    obtain ⟨p2, c2⟩ := dp_rb h2 (lst_pd e2)
    obtain ⟨as, r1⟩ := Dp.reads I p x v p1 rx
    obtain ⟨bs, r2⟩ := Dp.reads I _ y u p2 ry
    exact SeqAt.notIn_list_reads r2 r1 (by rw [PyData.canLay0] at c2; exact c2) c1 (by omega) ⟨.bl _, H, I, rfl, FQ.bl S⟩
  · split at hb
    · rename_i hk
      cases hb
      obtain ⟨a, ws, rfl, _, hd, r⟩ := rb_dct h2
      cases ry
      obtain ⟨H', o, I', g, back, e1, _, _⟩ := dget I hd r (RB.rvK h1 hk) hk
      exact d_notIn (by omega) I' g rx fun s' J => ⟨.bl (!o.isSome), H, back s' J, rfl, by rw [e1]; exact FQ.bl S⟩
    · cases hb
  · cases hb

/-! ### truth -/
def dTru : D → Option Bool
  | .non => some false
  | .bl b => some b
  | .int i => some (i != 0)
  | .str x => some ((x.length : Int) != 0)
  | .tup ds => some (!ds.isEmpty)
  | .lst ds => some (!ds.isEmpty)
  | _ => none
theorem RVs.isEmpty {c : Rc} {ds : List D} {vs : List V} (r : RVs c O H ds vs) : vs.isEmpty = ds.isEmpty := by
  have := r.length
  cases ds <;> cases vs <;> simp at this ⊢
theorem tru_of {x : D} {v : V} {b : Bool} (h : RB (rc X A L) O H x v) (e : dTru x = some b) : TruV X.K v H b := by
  cases x with
  | non => cases e; rw [rb_non h]; rfl
  | bl i => cases e; rw [rb_bl h]; rfl
  | int i => cases e; rw [rb_int h]; rfl
  | str i => cases e; obtain ⟨rfl, l, _⟩ := rb_str h; exact ⟨l, rfl⟩
  | tup ds => cases e; obtain ⟨a, vs, rfl, s, r⟩ := rb_tup h; exact .inr (.inl ⟨vs, s, by rw [r.isEmpty]⟩)
  | lst ds => cases e; obtain ⟨a, vs, rfl, _, s, r⟩ := rb_lst h; exact .inl ⟨vs, .of s, by rw [r.isEmpty]⟩
  | _ => cases e
theorem tru_run {pins : List (Addr × Obj)} {s : Shared} {x : D} {v : V} {u : Value} {b : Bool} {Q : Bool → Hp → Prop} (I : Inv X pins σ H s) (h : RB (rc X A L) O H x v) (r : RelV v u) (e : dTru x = some b) (q : Q b H) :
    wpAny (model X.prog X.w) X.A (truthy u) (TP X pins σ Q) X.xe s := tru_ok pins s σ H v u Q I r ⟨b, tru_of h e, q⟩

/-- a unary operator by values -/
def DO1 (X : Cx) (f : Value → Sem Value) (g : D → Option D) : Prop :=
  ∀ (pins : List (Addr × Obj)) (s : Shared) (σ : St) (H : Hp) (A : Addr) (L : LT) (Hz : Hp) (O : Od) (ρ : EnvD) (x : V) (v : Value) (d1 d : D), Inv X pins σ H s → SE (rc X A L) Hz O ρ σ H → RelV x v →
    RB (rc X A L) O H d1 x → g d1 = some d → wpAny (model X.prog X.w) X.A (f v) (EP X pins σ (FQ (rc X A L) O H d)) X.xe s
def dNeg : D → Option D
  | .int i => some (.int (-i))
  | _ => none
theorem do_neg : DO1 X (unaryOp .USub) dNeg := by
  intro pins s σ H A L Hz O ρ x v d1 d I S rx h1 g
  unfold dNeg at g
  split at g
  · cases g
    obtain rfl := rb_int h1
    exact un_neg pins s σ H _ v _ I rx ⟨_, rfl, FQ.int S⟩
  · cases g
end
end Ev

/-! Ev4: expressions: operators, tests, displays, subscripts. -/
namespace Ev
open PySem PySem.Spec L2
open PyProof.Rows hiding St
variable [Tbl]
section
variable {X : Cx} {W : WX} {m : Md} {A : Addr} {L : LT} {Hz : Hp} {O : Od} {ρ : EnvD} {σ : St} {H : Hp} {Ed : Exc → Prop}

theorem tE.go {me : ME} {Qd : D → Prop} {Q : VK} (S : SE (rc X A L) Hz O ρ σ H) (hm : me ρ Qd Ed) (hE : ∀ x, Ed x → Bad (rc X A L) O Hz W x)
    (k : ∀ d v H', Qd d → SE (rc X A L) Hz O ρ σ H' → Ex (rc X A L) H H' → RM m (rc X A L) O H H' d v → Q v H') : tE X W m me σ H Q :=
  ⟨A, L, Hz, O, ρ, Qd, Ed, S, hm, fun d v H' q x b r => k d v H' q (S.ex x b) x r, hE⟩
theorem tT.go {mt : MT} {Qd : Bool → Prop} {Q : Bool → Hp → Prop} (S : SE (rc X A L) Hz O ρ σ H) (hm : mt ρ Qd Ed) (hE : ∀ x, Ed x → Bad (rc X A L) O Hz W x)
    (k : ∀ d H', Qd d → SE (rc X A L) Hz O ρ σ H' → Ex (rc X A L) H H' → Q d H') : tT X W mt σ H Q :=
  ⟨A, L, Hz, O, ρ, Qd, Ed, S, hm, fun d H' q x b => k d H' q (S.ex x b) x, hE⟩
theorem DT.by {e : Expr} {mt : MT} {t : TT} (he : PT X e t) (h : ∀ (σ : St) (H : Hp) (A : Addr) (L : LT) (Hz : Hp) (O : Od) (ρ : EnvD) (Qd : Bool → Prop) (Ed : Exc → Prop), SE (rc X A L) Hz O ρ σ H → mt ρ Qd Ed → (∀ x, Ed x → Bad (rc X A L) O Hz W x) →
    t σ H (fun b H1 => Ex (rc X A L) H H1 ∧ Bag (rc X A L) H1 ∧ Qd b)) : DT X W e mt :=
  .mk fun pins s σ H A L Hz O ρ Qd Ed I S hm hE => thn (he.run pins s σ H _ I (h σ H A L Hz O ρ Qd Ed S hm hE)) fun u s1 ⟨H1, I1, x1, b1, q1⟩ => ⟨H1, I1, x1, b1, q1⟩

/-! ### operators -/
def rD (X : Cx) (g : D → D → Option D) : R2 := fun x y H Q => ∃ A L Hz O ρ σ d1 d2 d, SE (rc X A L) Hz O ρ σ H ∧ RB (rc X A L) O H d1 x ∧ RB (rc X A L) O H d2 y ∧ g d1 d2 = some d ∧ ∀ w H1, FQ (rc X A L) O H d w H1 → Q w H1
theorem DO2.op {f : Value → Value → Sem Value} {g : D → D → Option D} (h : DO2 X f g) : OpR X f (rD X g) := by
  intro pins s σ H x y v u Q I rx ry hq
  obtain ⟨A, L, Hz, O, ρ, σ', d1, d2, d, S, h1, h2, e, k⟩ := hq
  refine thn (h pins s σ H A L Hz O (List.replicate σ.length none) x y v u d1 d2 d I ⟨S.bag, S.ext, S.oA, S.oT, fun i s hi => by simp [List.getElem?_replicate] at hi, by simp⟩ rx ry h1 h2 e) fun r s1 ⟨w, H1, I1, r1, q⟩ => ⟨w, H1, I1, r1, k w H1 q⟩
def mBin (g : D → D → Option D) (ma mb : ME) : ME := fun ρ Q E => ma ρ (fun x => mb ρ (fun y => Opt (g x y) Q) E) E
theorem bin_go {g : D → D → Option D} {ma mb : ME} {Qd : D → Prop} {Q : VK} (S : SE (rc X A L) Hz O ρ σ H) (hm : mBin g ma mb ρ Qd Ed) (hE : ∀ x, Ed x → Bad (rc X A L) O Hz W x)
    (k : ∀ w H1 d, Ex (rc X A L) H H1 → Bag (rc X A L) H1 → RF (rc X A L) O H H1 d w → Qd d → Q w H1) : tOp (rD X g) (tE X W .al ma) (tE X W .al mb) σ H Q := by
  refine tE.go S hm hE fun d1 v1 H1 q1 S1 x1 r1 => tE.go S1 q1 hE fun d2 v2 H2 q2 S2 x2 r2 => ?_
  obtain ⟨d, e, q⟩ := q2
  refine ⟨A, L, Hz, O, ρ, σ, d1, d2, d, S2, RM.rb (RM.ex r1 x2 S2.oA) S2.oA, RM.rb r2 S2.oA, e, fun w H3 h3 => ?_⟩
  exact k w H3 d ((x1.trans x2).trans h3.1) h3.2.1 (RF.back h3.2.2 (x1.trans x2) S.oA) q
theorem de_bin {op : Operator} {g : D → D → Option D} {a b : Expr} {ma mb : ME} {pos : Pos} (ho : DO2 X (binaryOp op) g) (ha : DE X W .al a ma) (hb : DE X W .al b mb) : DE X W m (.BinOp a op b pos) (mBin g ma mb) :=
  .by (pe_op ho.op ha hb) fun σ H A L Hz O ρ Qd Ed S hm hE => bin_go S hm hE fun w H1 d x b r q => ⟨d, x, b, RF.rm S.oA r, q⟩
theorem de_cmp {op : CmpOp} {g : D → D → Option D} {a b : Expr} {ma mb : ME} {pos : Pos} (ho : DO2 X (compareOp op) g) (ha : DE X W .al a ma) (hb : DE X W .al b mb) (hm : behindInMarks op b = false) : DE X W m (.Compare a [op] [b] pos) (mBin g ma mb) :=
  .by (pe_cmpR ho.op ha hb hm) fun σ H A L Hz O ρ Qd Ed S hm hE => bin_go S hm hE fun w H1 d x b r q => ⟨d, x, b, RF.rm S.oA r, q⟩
def mOfBl (ma : ME) : MT := fun ρ Q E => ma ρ (fun d => ∃ b, d = .bl b ∧ Q b) E
theorem dt_cmp {op : CmpOp} {g : D → D → Option D} {a b : Expr} {ma mb : ME} {pos : Pos} (ho : DO2 X (compareOp op) g) (ha : DE X W .al a ma) (hb : DE X W .al b mb) (hm : behindInMarks op b = false) : DT X W (.Compare a [op] [b] pos) (mOfBl (mBin g ma mb)) :=
  .by (pt_cmpR ho.op ha hb hm) fun σ H A L Hz O ρ Qd Ed S hm hE => by
    unfold tTest
    refine bin_go S hm hE fun w H1 d x b r q => ?_
    obtain ⟨k, rfl, q⟩ := q
    exact ⟨k, rv_bl r.rv, x, b, q⟩
/-- a op b op' c -/
def mChain (g g' : D → D → Option D) (ma mb mc : ME) : ME := fun ρ Q E => ma ρ (fun x => mb ρ (fun y => Opt (g x y) fun d => ∃ b, d = .bl b ∧ if b = true then mc ρ (fun z => Opt (g' y z) Q) E else Q (.bl false)) E) E
theorem chain_go {g g' : D → D → Option D} {ma mb mc : ME} {Qd : D → Prop} {Q : VK} (S : SE (rc X A L) Hz O ρ σ H) (hm : mChain g g' ma mb mc ρ Qd Ed) (hE : ∀ x, Ed x → Bad (rc X A L) O Hz W x)
    (k : ∀ w H1 d, Ex (rc X A L) H H1 → Bag (rc X A L) H1 → RF (rc X A L) O H H1 d w → Qd d → Q w H1) : tChain (rD X g) (rD X g') (tE X W .al ma) (tE X W .al mb) (tE X W .al mc) σ H Q := by
  refine tE.go S hm hE fun d1 v1 H1 q1 S1 x1 r1 => tE.go S1 q1 hE fun d2 v2 H2 q2 S2 x2 r2 => ?_
  obtain ⟨d, e, b, rfl, q⟩ := q2
  refine ⟨A, L, Hz, O, ρ, σ, d1, d2, .bl b, S2, RM.rb (RM.ex r1 x2 S2.oA) S2.oA, RM.rb r2 S2.oA, e, fun w H3 h3 => ⟨b, rv_bl h3.2.2.rv, ?_⟩⟩
  cases b with
  | false => exact k _ H3 _ ((x1.trans x2).trans h3.1) h3.2.1 (show RF _ _ _ _ (.bl false) _ from mk_bl (O := O) (c := rc X A L) (H := H3)) q
  | true =>
    have S3 := S2.ex h3.1 h3.2.1
    refine tE.go S3 q hE fun d4 v4 H4 q4 S4 x4 r4 => ?_
    obtain ⟨d5, e5, q5⟩ := q4
    refine ⟨A, L, Hz, O, ρ, σ, d2, d4, d5, S4, RM.rb (RM.ex r2 (h3.1.trans x4) S4.oA) S4.oA, RM.rb r4 S4.oA, e5, fun w5 H5 h5 => ?_⟩
    have x5 : Ex (rc X A L) H H4 := ((x1.trans x2).trans h3.1).trans x4
    exact k _ H5 _ (x5.trans h5.1) h5.2.1 (RF.back h5.2.2 x5 S.oA) q5
theorem de_chain {op op' : CmpOp} {g g' : D → D → Option D} {a b c : Expr} {ma mb mc : ME} {pos : Pos} (ho : DO2 X (compareOp op) g) (ho' : DO2 X (compareOp op') g') (ha : DE X W .al a ma) (hb : DE X W .al b mb) (hc : DE X W .al c mc)
    (hm : lastMarks [op, op'] [b, c] = false) : DE X W m (.Compare a [op, op'] [b, c] pos) (mChain g g' ma mb mc) :=
  .by (pe_chain ho.op ho'.op ha hb hc hm) fun σ H A L Hz O ρ Qd Ed S hm hE => chain_go S hm hE fun w H1 d x b r q => ⟨d, x, b, RF.rm S.oA r, q⟩
theorem dt_chain {op op' : CmpOp} {g g' : D → D → Option D} {a b c : Expr} {ma mb mc : ME} {pos : Pos} (ho : DO2 X (compareOp op) g) (ho' : DO2 X (compareOp op') g') (ha : DE X W .al a ma) (hb : DE X W .al b mb) (hc : DE X W .al c mc)
    (hm : lastMarks [op, op'] [b, c] = false) : DT X W (.Compare a [op, op'] [b, c] pos) (mOfBl (mChain g g' ma mb mc)) :=
  .by (pt_chain ho.op ho'.op ha hb hc hm) fun σ H A L Hz O ρ Qd Ed S hm hE => by
    unfold tTest
    refine chain_go S hm hE fun w H1 d x b r q => ?_
    obtain ⟨k, rfl, q⟩ := q
    exact ⟨k, rv_bl r.rv, x, b, q⟩
/-- a unary operator -/
def mUn (g : D → Option D) (ma : ME) : ME := fun ρ Q E => ma ρ (fun x => Opt (g x) Q) E
def rD1 (X : Cx) (g : D → Option D) : V → Hp → VK → Prop := fun x H Q => ∃ A L Hz O ρ σ d1 d, SE (rc X A L) Hz O ρ σ H ∧ RB (rc X A L) O H d1 x ∧ g d1 = some d ∧ ∀ w H1, FQ (rc X A L) O H d w H1 → Q w H1
theorem DO1.op {f : Value → Sem Value} {g : D → Option D} (h : DO1 X f g) : UnR X f (rD1 X g) := by
  intro pins s σ H x v Q I rx hq
  obtain ⟨A, L, Hz, O, ρ, σ', d1, d, S, h1, e, k⟩ := hq
  refine thn (h pins s σ H A L Hz O (List.replicate σ.length none) x v d1 d I ⟨S.bag, S.ext, S.oA, S.oT, fun i s hi => by simp [List.getElem?_replicate] at hi, by simp⟩ rx h1 e) fun r s1 ⟨w, H1, I1, r1, q⟩ => ⟨w, H1, I1, r1, k w H1 q⟩
theorem de_un {op : UnaryOp} {g : D → Option D} {a : Expr} {ma : ME} {pos : Pos} (ho : DO1 X (unaryOp op) g) (ha : DE X W .al a ma) : DE X W m (.UnaryOp op a pos) (mUn g ma) :=
  .by (pe_un ho.op ha) fun σ H A L Hz O ρ Qd Ed S hm hE => by
    refine tE.go S hm hE fun d1 v1 H1 q1 S1 x1 r1 => ?_
    obtain ⟨d, e, q⟩ := q1
    exact ⟨A, L, Hz, O, ρ, σ, d1, d, S1, RM.rb r1 S1.oA, e, fun w H3 h3 => ⟨d, x1.trans h3.1, h3.2.1, RF.rm S.oA (RF.back h3.2.2 x1 S.oA), q⟩⟩

/-! ### tests -/
def mTru (ma : ME) : MT := fun ρ Q E => ma ρ (fun d => Opt (dTru d) Q) E
theorem dt_val {e : Expr} {me : ME} (he : DE X W .al e me) (h : ∀ whole, isTrue e X.env whole = (do let v ← whole; standAt e.pos; holding [v] (truthy v))) : DT X W e (mTru me) :=
  .by (pt_truth he h) fun σ H A L Hz O ρ Qd Ed S hm hE => by
    refine tE.go S hm hE fun d v H1 q S1 x1 r1 => ?_
    obtain ⟨b, e, q⟩ := q
    exact ⟨b, tru_of (RM.rb r1 S1.oA) e, x1, S1.bag, q⟩
def mNotT (ma : MT) : MT := fun ρ Q E => ma ρ (fun b => Q (!b)) E
theorem dt_not {a : Expr} {ma : MT} {pos : Pos} (ha : DT X W a ma) : DT X W (.UnaryOp .Not a pos) (mNotT ma) :=
  .by (pt_not ha) fun σ H A L Hz O ρ Qd Ed S hm hE => tT.go S hm hE fun d H1 q S1 x1 => ⟨x1, S1.bag, q⟩
def mAndT (ma mb : MT) : MT := fun ρ Q E => ma ρ (fun b => if b = true then mb ρ Q E else Q false) E
def mOrT (ma mb : MT) : MT := fun ρ Q E => ma ρ (fun b => if b = true then Q true else mb ρ Q E) E
/-- a test whatever its whole is (and, or) -/
def DW (X : Cx) (W : WX) (e : Expr) (mt : MT) : Prop := PW X e (tT X W mt)
theorem DW.dt {e : Expr} {mt : MT} (h : DW X W e mt) : DT X W e mt := PW.pt h
theorem PW.imp {e : Expr} {t t' : TT} (h : PW X e t) (i : ∀ σ H Q, t' σ H Q → t σ H Q) : PW X e t' := ⟨fun wh pins s σ H Q I hq => h.run wh pins s σ H Q I (i σ H Q hq)⟩
theorem PT.imp {e : Expr} {t t' : TT} (h : PT X e t) (i : ∀ σ H Q, t' σ H Q → t σ H Q) : PT X e t' := ⟨fun pins s σ H Q I hq => h.run pins s σ H Q I (i σ H Q hq)⟩
theorem dw_and1 {a : Expr} {ma : MT} {pos : Pos} (ha : DT X W a ma) : DW X W (.BoolOp .And [a] pos) ma := pw_and1 ha
theorem dw_or1 {a : Expr} {ma : MT} {pos : Pos} (ha : DT X W a ma) : DW X W (.BoolOp .Or [a] pos) ma := pw_or1 ha
theorem dw_and {a b : Expr} {rest : List Expr} {ma mb : MT} {pos : Pos} (ha : DT X W a ma) (hb : DW X W (.BoolOp .And (b :: rest) pos) mb) : DW X W (.BoolOp .And (a :: b :: rest) pos) (mAndT ma mb) :=
  PW.imp (pw_and ha hb) fun σ H Q ⟨A, L, Hz, O, ρ, Qd, Ed, S, hm, k, hE⟩ => by
    refine tT.go S hm hE fun d H1 q S1 x1 => ?_
    cases d with
    | true => exact tT.go S1 q hE fun d2 H2 q2 S2 x2 => k d2 H2 q2 (x1.trans x2) S2.bag
    | false => exact k false H1 q x1 S1.bag
theorem dw_or {a b : Expr} {rest : List Expr} {ma mb : MT} {pos : Pos} (ha : DT X W a ma) (hb : DW X W (.BoolOp .Or (b :: rest) pos) mb) : DW X W (.BoolOp .Or (a :: b :: rest) pos) (mOrT ma mb) :=
  PW.imp (pw_or ha hb) fun σ H Q ⟨A, L, Hz, O, ρ, Qd, Ed, S, hm, k, hE⟩ => by
    refine tT.go S hm hE fun d H1 q S1 x1 => ?_
    cases d with
    | true => exact k true H1 q x1 S1.bag
    | false => exact tT.go S1 q hE fun d2 H2 q2 S2 x2 => k d2 H2 q2 (x1.trans x2) S2.bag
/-- .. as values, by truth -/
def mAndV (ma mb : ME) : ME := fun ρ Q E => ma ρ (fun d => Opt (dTru d) fun b => if b = true then mb ρ Q E else Q d) E
def mOrV (ma mb : ME) : ME := fun ρ Q E => ma ρ (fun d => Opt (dTru d) fun b => if b = true then Q d else mb ρ Q E) E
def mNotV (ma : ME) : ME := fun ρ Q E => ma ρ (fun d => Opt (dTru d) fun b => Q (.bl (!b))) E
theorem de_one {op : BoolOp} {a : Expr} {ma : ME} {pos : Pos} (ha : DE X W m a ma) : DE X W m (.BoolOp op [a] pos) ma := pe_one ha
theorem de_and {a b : Expr} {rest : List Expr} {ma mb : ME} {pos : Pos} (ha : DE X W m a ma) (hb : DE X W m (.BoolOp .And (b :: rest) pos) mb) : DE X W m (.BoolOp .And (a :: b :: rest) pos) (mAndV ma mb) :=
  .by (pe_andT ha hb) fun σ H A L Hz O ρ Qd Ed S hm hE => by
    refine tE.go S hm hE fun d v H1 q S1 x1 r1 => ?_
    obtain ⟨b, e, q⟩ := q
    refine ⟨b, tru_of (RM.rb r1 S1.oA) e, ?_⟩
    cases b with
    | true => exact tE.go S1 q hE fun d2 v2 H2 q2 S2 x2 r2 => ⟨d2, x1.trans x2, S2.bag, RM.back r2 x1 S.oA, q2⟩
    | false => exact ⟨d, x1, S1.bag, r1, q⟩
theorem de_or {a b : Expr} {rest : List Expr} {ma mb : ME} {pos : Pos} (ha : DE X W m a ma) (hb : DE X W m (.BoolOp .Or (b :: rest) pos) mb) : DE X W m (.BoolOp .Or (a :: b :: rest) pos) (mOrV ma mb) :=
  .by (pe_orT ha hb) fun σ H A L Hz O ρ Qd Ed S hm hE => by
    refine tE.go S hm hE fun d v H1 q S1 x1 r1 => ?_
    obtain ⟨b, e, q⟩ := q
    refine ⟨b, tru_of (RM.rb r1 S1.oA) e, ?_⟩
    cases b with
    | false => exact tE.go S1 q hE fun d2 v2 H2 q2 S2 x2 r2 => ⟨d2, x1.trans x2, S2.bag, RM.back r2 x1 S.oA, q2⟩
    | true => exact ⟨d, x1, S1.bag, r1, q⟩
theorem de_not {a : Expr} {ma : ME} {pos : Pos} (ha : DE X W .al a ma) : DE X W m (.UnaryOp .Not a pos) (mNotV ma) :=
  .by (pe_notT ha) fun σ H A L Hz O ρ Qd Ed S hm hE => by
    refine tE.go S hm hE fun d v H1 q S1 x1 r1 => ?_
    obtain ⟨b, e, q⟩ := q
    exact ⟨b, tru_of (RM.rb r1 S1.oA) e, .bl (!b), x1, S1.bag, rm_flat rfl mk_bl, q⟩
def mIfE (mc : MT) (ma mb : ME) : ME := fun ρ Q E => mc ρ (fun b => if b = true then ma ρ Q E else mb ρ Q E) E
theorem de_if {c a b : Expr} {mc : MT} {ma mb : ME} {pos : Pos} (hc : DT X W c mc) (ha : DE X W m a ma) (hb : DE X W m b mb) : DE X W m (.IfExp c a b pos) (mIfE mc ma mb) :=
  .by (pe_ifExp hc ha hb) fun σ H A L Hz O ρ Qd Ed S hm hE => by
    refine tT.go S hm hE fun d H1 q S1 x1 => ?_
    cases d with
    | true => exact tE.go S1 q hE fun d2 v2 H2 q2 S2 x2 r2 => ⟨d2, x1.trans x2, S2.bag, RM.back r2 x1 S.oA, q2⟩
    | false => exact tE.go S1 q hE fun d2 v2 H2 q2 S2 x2 r2 => ⟨d2, x1.trans x2, S2.bag, RM.back r2 x1 S.oA, q2⟩

/-! ### arguments, displays -/
def RMs (m : Md) (c : Rc) (O : Od) (H0 H : Hp) : List D → List V → Prop
  | [], vs => vs = []
  | d :: ds, vs => ∃ v r, vs = v :: r ∧ RM m c O H0 H d v ∧ RMs m c O H0 H ds r
theorem RMs.vl {c : Rc} {H0 : Hp} : ∀ {ds : List D} {vs : List V}, RMs .vl c O H0 H ds vs → RVs c O H ds vs
  | [], _, h => by unfold RVs; exact h
  | d :: ds, _, ⟨v, r, e, h, hs⟩ => by unfold RVs; exact ⟨v, r, e, h, RMs.vl hs⟩
theorem RMs.back {c : Rc} {H0 H1 : Hp} (e : Ex c H0 H1) (oA : OA c O) : ∀ {ds : List D} {vs : List V}, RMs m c O H1 H ds vs → RMs m c O H0 H ds vs
  | [], _, h => h
  | d :: ds, _, ⟨v, r, q, h, hs⟩ => ⟨v, r, q, RM.back h e oA, RMs.back e oA hs⟩
abbrev MA := EnvD → (List D → Prop) → (Exc → Prop) → Prop
def tA (X : Cx) (W : WX) (m : Md) (ma : MA) : TA := fun σ H Q => ∃ A L Hz O ρ Qd Ed, SE (rc X A L) Hz O ρ σ H ∧ ma ρ Qd Ed ∧
  (∀ ds vs H', Qd ds → Ex (rc X A L) H H' → Bag (rc X A L) H' → RMs m (rc X A L) O H H' ds vs → Q vs H') ∧ ∀ x, Ed x → Bad (rc X A L) O Hz W x
def DA (X : Cx) (W : WX) (m : Md) (es : List Expr) (ma : MA) : Prop := PA X es (tA X W m ma)
theorem PA.imp {es : List Expr} {t t' : TA} (h : PA X es t) (i : ∀ σ H Q, t' σ H Q → t σ H Q) : PA X es t' := ⟨fun p pins s σ H Q I hq => h.run p pins s σ H Q I (i σ H Q hq)⟩
def mNil : MA := fun _ Q _ => Q []
def mCons (ma : ME) (mr : MA) : MA := fun ρ Q E => ma ρ (fun d => mr ρ (fun ds => Q (d :: ds)) E) E
theorem da_nil : DA X W m [] mNil := PA.imp pa_nil fun σ H Q ⟨A, L, Hz, O, ρ, Qd, Ed, S, hm, k, hE⟩ => k [] [] H hm .refl S.bag rfl
theorem da_cons {e : Expr} {es : List Expr} {ma : ME} {mr : MA} (ha : DE X W m e ma) (hr : DA X W m es mr) (hs : starEach (e :: es) X.env = (false, eval e X.env) :: starEach es X.env) : DA X W m (e :: es) (mCons ma mr) :=
  PA.imp (pa_cons ha hr hs) fun σ H Q ⟨A, L, Hz, O, ρ, Qd, Ed, S, hm, k, hE⟩ => by
    refine tE.go S hm hE fun d v H1 q S1 x1 r1 => ?_
    refine ⟨A, L, Hz, O, ρ, _, Ed, S1, q, fun ds vs H2 q2 x2 b2 r2 => ?_, hE⟩
    exact k (d :: ds) (v :: vs) H2 q2 (x1.trans x2) b2 ⟨v, vs, rfl, RM.ex r1 x2 S.oA, RMs.back x1 S.oA r2⟩
theorem tA.go {ma : MA} {Qd : List D → Prop} {Q : List V → Hp → Prop} (S : SE (rc X A L) Hz O ρ σ H) (hm : ma ρ Qd Ed) (hE : ∀ x, Ed x → Bad (rc X A L) O Hz W x)
    (k : ∀ ds vs H', Qd ds → SE (rc X A L) Hz O ρ σ H' → Ex (rc X A L) H H' → RMs m (rc X A L) O H H' ds vs → Q vs H') : tA X W m ma σ H Q :=
  ⟨A, L, Hz, O, ρ, Qd, Ed, S, hm, fun d v H' q x b r => k d v H' q (S.ex x b) x r, hE⟩
def mTup (ma : MA) : ME := fun ρ Q E => ma ρ (fun ds => ds.length ≤ lim ∧ Q (.tup ds)) E
def mLst (ma : MA) : ME := fun ρ Q E => ma ρ (fun ds => ds.length ≤ lim ∧ Q (.lst ds)) E
theorem de_tup {es : List Expr} {ma : MA} {k : Nat} {pos : Pos} (ha : DA X W .vl es ma) : DE X W m (.Tuple es k pos) (mTup ma) :=
  .by (pe_tup ha) fun σ H A L Hz O ρ Qd Ed S hm hE => by
    refine tA.go S hm hE fun ds vs H1 q S1 x1 r1 => ?_
    have r := r1.vl
    refine ⟨by rw [r.length, ← lim_eq]; exact q.1, fun p n => ?_⟩
    obtain ⟨h1, h2, h3⟩ := FQ.tup S1 n r
    exact ⟨_, x1.trans h1, h2, RF.rm S.oA (RF.back h3 x1 S.oA), q.2⟩
theorem de_lst {es : List Expr} {ma : MA} {pos : Pos} (ha : DA X W .vl es ma) : DE X W m (.List es pos) (mLst ma) :=
  .by (pe_lst ha) fun σ H A L Hz O ρ Qd Ed S hm hE => by
    refine tA.go S hm hE fun ds vs H1 q S1 x1 r1 => ?_
    have r := r1.vl
    refine ⟨by rw [r.length, ← lim_eq]; exact q.1, fun p n => ?_⟩
    obtain ⟨h1, h2, h3⟩ := FQ.lst S1 n r
    exact ⟨_, x1.trans h1, h2, RF.rm S.oA (RF.back h3 x1 S.oA), q.2⟩

/-! ### subscripts -/
def dIx : D → D → Option D
  | .tup ds, .int i => atI ds i
  | .lst ds, .int i => atI ds i
  | .str z, .int i => (atI z.cps.toList i).map fun c => .str ⟨#[c]⟩
  | .dct ks vs, k => if askK ks k = true then valD ks vs k else none
  | _, _ => none
theorem RVs.atI {c : Rc} {ds : List D} {vs : List V} {i : Int} {d : D} (r : RVs c O H ds vs) (h : L2.atI ds i = some d) : ∃ v, L2.atI vs i = some v ∧ RV c O H d v := by
  unfold L2.atI at h ⊢
  rw [r.length]
  cases e : ixN ds.length i with
  | none => rw [e] at h; cases h
  | some j => rw [e] at h; exact r.get h
def rIxD (X : Cx) : R2 := fun x y H Q => ∃ A L Hz O ρ σ d1 d2 d, SE (rc X A L) Hz O ρ σ H ∧ RB (rc X A L) O H d1 x ∧ RB (rc X A L) O H d2 y ∧ dIx d1 d2 = some d ∧ ∀ w, RV (rc X A L) O H d w → Q w H
theorem atI_mem {α : Type} {xs : List α} {i : Int} {x : α} (h : L2.atI xs i = some x) : x ∈ xs := by
  unfold L2.atI at h
  cases q : ixN xs.length i with
  | none => rw [q] at h; cases h
  | some j => rw [q] at h; exact List.mem_of_getElem? h
theorem ix_d (hu : X.A.units + 100 < cLine) : IxR X (rIxD X) := by
  intro value slice pins s σ H x y v u Q I rx ry hq hs
  obtain ⟨A, L, Hz, O, ρ, σ', d1, d2, d, S, h1, h2, e, k⟩ := hq
  unfold dIx at e
  split at e
  · obtain ⟨a, vs, rfl, s1, r1⟩ := rb_tup h1
    obtain rfl := rb_int h2
    obtain ⟨w, hw, rw'⟩ := r1.atI e
    exact ix_tup value slice pins s σ H _ _ v u Q I rx ry ⟨a, vs, _, w, rfl, rfl, s1, hw, k w rw'⟩ hs
  · obtain ⟨a, vs, rfl, _, s1, r1⟩ := rb_lst h1
    obtain rfl := rb_int h2
    obtain ⟨w, hw, rw'⟩ := r1.atI e
    exact ix_list value slice pins s σ H _ _ v u Q I rx ry ⟨a, vs, _, w, rfl, rfl, .of s1, hw, k w rw'⟩ hs
  · obtain ⟨c, e1, rfl⟩ := opt_map e
    obtain ⟨rfl, l1, o1⟩ := rb_str h1
    obtain rfl := rb_int h2
    refine ix_str value slice pins s σ H _ _ v u Q I rx ry ⟨_, _, c, rfl, rfl, l1, e1, k _ (mk_str (by rw [sizeLine_eq]; show 1 ≤ _; decide) ?_)⟩ hs
    unfold PyData.strOk at o1 ⊢
    have hc := atI_mem e1
    rw [← Array.all_toList] at o1 ⊢
    have := List.all_eq_true.mp o1 c hc
    simpa using this
  · split at e
    · rename_i hk
      obtain ⟨a, ws, rfl, _, hd, r⟩ := rb_dct h1
      obtain ⟨H', o, I', g, back, _, hv, _⟩ := dget I hd r (RB.rvK h2 hk) hk
      obtain ⟨w, ew, rw'⟩ := hv _ e
      subst ew
      obtain rfl : v = Value.ref a := rx
      exact tail_any (dict_typeIs I' g) PySem.F.slot_dict_getitem.lookup (d_getItem (by omega) I' g ry fun w' s3 I3 rw2 => ⟨w, H, back _ I3, rw2, k w rw'⟩) hs
    · cases e
  · cases e
def mIx (ma mb : ME) : ME := fun ρ Q E => ma ρ (fun x => mb ρ (fun y => Opt (dIx x y) Q) E) E
theorem de_ix {a b : Expr} {ma mb : ME} {pos : Pos} (hu : X.A.units + 100 < cLine) (ha : DE X W .al a ma) (hb : DE X W .al b mb) (hs : PlainIx b) : DE X W .vl (.Subscript a b pos) (mIx ma mb) :=
  .by (pe_ix (ix_d hu) ha hb hs) fun σ H A L Hz O ρ Qd Ed S hm hE => by
    refine tE.go S hm hE fun d1 v1 H1 q1 S1 x1 r1 => tE.go S1 q1 hE fun d2 v2 H2 q2 S2 x2 r2 => ?_
    obtain ⟨d, e, q⟩ := q2
    exact ⟨A, L, Hz, O, ρ, σ, d1, d2, d, S2, RM.rb (RM.ex r1 x2 S2.oA) S2.oA, RM.rb r2 S2.oA, e, fun w r => ⟨d, x1.trans x2, S2.bag, r, q⟩⟩
end
end Ev

/-! Ev5: slices, calls of built-ins, calls of defs. -/
namespace Ev
open PySem PySem.Spec L2
open PyProof.Rows hiding St
variable [Tbl]
section
variable {X : Cx} {W : WX} {m : Md} {A : Addr} {L : LT} {Hz : Hp} {O : Od} {ρ : EnvD} {σ : St} {H : Hp} {Ed : Exc → Prop}

/-! ### slices -/
def cutL {α : Type} (xs : List α) (lo hi : Option Int) : List α := (xs.drop (HT.sIx xs.length 0 lo)).take (HT.sIx xs.length xs.length hi - HT.sIx xs.length 0 lo)
theorem RVs.cut {c : Rc} {ds : List D} {vs : List V} {lo hi : Option Int} (r : RVs c O H ds vs) : RVs c O H (cutL ds lo hi) (cutV vs lo hi) := by
  unfold cutL cutV
  rw [r.length]
  exact (r.drop _).take _
def dSl (lo hi : Option Int) : D → Option D
  | .tup ds => some (.tup (cutL ds lo hi))
  | .lst ds => some (.lst (cutL ds lo hi))
  | .str z => some (.str (cutS z lo hi))
  | _ => none
def rSlD (X : Cx) : V → Option Int → Option Int → Hp → VK → Prop := fun x lo hi H Q => ∃ A L Hz O ρ σ d1 d, SE (rc X A L) Hz O ρ σ H ∧ RB (rc X A L) O H d1 x ∧ dSl lo hi d1 = some d ∧ ∀ w H1, FQ (rc X A L) O H d w H1 → Q w H1
theorem cut_whole {α : Type} {xs : List α} {lo hi : Option Int} (h : HT.sIx xs.length 0 lo = 0 ∧ HT.sIx xs.length xs.length hi = xs.length) : cutL xs lo hi = xs := by
  unfold cutL
  rw [h.1, h.2, List.drop_zero, Nat.sub_zero, List.take_length]
theorem strOk_cut {z : Str} {lo hi : Option Int} (h : PyData.strOk z = true) : PyData.strOk (cutS z lo hi) = true := by
  unfold PyData.strOk at h ⊢
  rw [← Array.all_toList] at h ⊢
  rw [List.all_eq_true] at h ⊢
  intro x hx
  unfold cutS at hx
  simp only [] at hx
  exact h x (List.mem_of_mem_drop (List.mem_of_mem_take hx))
theorem sl_d : SlR X (rSlD X) := by
  intro pins s σ H x v vl vu lo hi sl Q I rx hs pl pu h
  obtain ⟨A, L, Hz, O, ρ, σ', d1, d, S, h1, e, k⟩ := h
  unfold dSl at e
  split at e
  · cases e
    obtain ⟨a, vs, rfl, s1, r1⟩ := rv_tupH h1
    refine sl_tupA pins s σ H _ v vl vu lo hi sl Q I rx hs pl pu ⟨a, vs, rfl, .of s1, fun hw => k _ _ ?_, fun _ p n => k _ _ (FQ.tup S n r1.cut)⟩
    rw [r1.length] at hw
    rw [cut_whole hw]
    exact FQ.old S (mk_tup s1 r1)
  · cases e
    obtain ⟨a, vs, rfl, _, s1, r1⟩ := rb_lst h1
    exact sl_list pins s σ H _ v vl vu lo hi sl Q I rx hs pl pu ⟨a, vs, rfl, .of s1, fun p n => k _ _ (FQ.lst S n r1.cut)⟩
  · cases e
    obtain ⟨rfl, l1, o1⟩ := rb_str h1
    exact sl_str pins s σ H _ v vl vu lo hi sl Q I rx hs pl pu ⟨_, rfl, l1, k _ _ (FQ.str S (Nat.le_trans (cutS_length _ _ _) l1) (strOk_cut o1))⟩
  · cases e
abbrev MO := EnvD → (Option Int → Prop) → (Exc → Prop) → Prop
def tO (X : Cx) (W : WX) (mo : MO) : TO := fun σ H Q => ∃ A L Hz O ρ Qd Ed, SE (rc X A L) Hz O ρ σ H ∧ mo ρ Qd Ed ∧
  (∀ i H', Qd i → Ex (rc X A L) H H' → Bag (rc X A L) H' → Q i H') ∧ ∀ x, Ed x → Bad (rc X A L) O Hz W x
def DO (X : Cx) (W : WX) (e : Option Expr) (mo : MO) : Prop := PO X e (tO X W mo)
theorem PO.imp {e : Option Expr} {t t' : TO} (h : PO X e t) (i : ∀ σ H Q, t' σ H Q → t σ H Q) : PO X e t' := ⟨fun pins s σ H Q I hq => h.run pins s σ H Q I (i σ H Q hq)⟩
def mNoPart : MO := fun _ Q _ => Q none
def mPart (me : ME) : MO := fun ρ Q E => me ρ (fun d => ∃ i, d = .int i ∧ Q (some i)) E
theorem do_none : DO X W none mNoPart := PO.imp po_none fun σ H Q ⟨A, L, Hz, O, ρ, Qd, Ed, S, hm, k, hE⟩ => k none H hm .refl S.bag
theorem do_some {e : Expr} {me : ME} (h : DE X W .al e me) : DO X W (some e) (mPart me) := PO.imp (po_some h) fun σ H Q ⟨A, L, Hz, O, ρ, Qd, Ed, S, hm, k, hE⟩ => by
  refine tE.go S hm hE fun d v H1 q S1 x1 r1 => ?_
  obtain ⟨i, rfl, q⟩ := q
  exact ⟨i, rb_int (RM.rb r1 S1.oA), k (some i) H1 q x1 S1.bag⟩
theorem tO.go {mo : MO} {Qd : Option Int → Prop} {Q : Option Int → Hp → Prop} (S : SE (rc X A L) Hz O ρ σ H) (hm : mo ρ Qd Ed) (hE : ∀ x, Ed x → Bad (rc X A L) O Hz W x)
    (k : ∀ i H', Qd i → SE (rc X A L) Hz O ρ σ H' → Ex (rc X A L) H H' → Q i H') : tO X W mo σ H Q :=
  ⟨A, L, Hz, O, ρ, Qd, Ed, S, hm, fun d H' q x b => k d H' q (S.ex x b) x, hE⟩
def mSl (me : ME) (ml mh : MO) : ME := fun ρ Q E => me ρ (fun d => ml ρ (fun lo => mh ρ (fun hi => Opt (dSl lo hi d) Q) E) E) E
theorem de_slice {e : Expr} {lo hi : Option Expr} {me : ME} {ml mh : MO} {pos p2 : Pos} (he : DE X W .al e me) (hl : DO X W lo ml) (hh : DO X W hi mh) : DE X W m (.Subscript e (.Slice lo hi none p2) pos) (mSl me ml mh) :=
  .by (pe_slice sl_d he hl hh) fun σ H A L Hz O ρ Qd Ed S hm hE => by
    refine tE.go S hm hE fun d1 v1 H1 q1 S1 x1 r1 => tO.go S1 q1 hE fun i H2 q2 S2 x2 => tO.go S2 q2 hE fun j H3 q3 S3 x3 => ?_
    obtain ⟨d, e, q⟩ := q3
    refine ⟨A, L, Hz, O, ρ, σ, d1, d, S3, RM.rb (RM.ex r1 (x2.trans x3) S.oA) S.oA, e, fun w H4 h4 => ?_⟩
    have x : Ex (rc X A L) H H3 := (x1.trans x2).trans x3
    exact ⟨d, x.trans h4.1, h4.2.1, RF.rm S.oA (RF.back h4.2.2 x S.oA), q⟩

/-! ### calls of built-ins by values -/
def RBs (c : Rc) (O : Od) (H : Hp) : List D → List V → Prop
  | [], vs => vs = []
  | d :: ds, vs => ∃ v r, vs = v :: r ∧ RB c O H d v ∧ RBs c O H ds r
theorem RMs.rbs {c : Rc} {H0 : Hp} (oA : OA c O) : ∀ {ds : List D} {vs : List V}, RMs m c O H0 H ds vs → RBs c O H ds vs
  | [], _, h => h
  | d :: ds, _, ⟨v, r, e, h, hs⟩ => ⟨v, r, e, RM.rb h oA, RMs.rbs oA hs⟩
def DCall (X : Cx) (f : Value) (g : List D → Option D) : Prop :=
  ∀ (pins : List (Addr × Obj)) (s : Shared) (σ : St) (H : Hp) (A : Addr) (L : LT) (Hz : Hp) (O : Od) (ρ : EnvD) (vs : List V) (us : List Value) (ds : List D) (d : D), Inv X pins σ H s → SE (rc X A L) Hz O ρ σ H → Vals vs us →
    RBs (rc X A L) O H ds vs → g ds = some d → wpAny (model X.prog X.w) X.A (call f us) (EP X pins σ (FQ (rc X A L) O H d)) X.xe s
def rDC (X : Cx) (g : List D → Option D) : List V → Hp → VK → Prop := fun vs H Q => ∃ A L Hz O ρ σ ds d, SE (rc X A L) Hz O ρ σ H ∧ RBs (rc X A L) O H ds vs ∧ g ds = some d ∧ ∀ w H1, FQ (rc X A L) O H d w H1 → Q w H1
theorem DCall.op {f : Value} {g : List D → Option D} (h : DCall X f g) : CallR X f (rDC X g) := by
  intro pins s σ H xs us Q I rx hq
  obtain ⟨A, L, Hz, O, ρ, σ', ds, d, S, h1, e, k⟩ := hq
  refine thn (h pins s σ H A L Hz O (List.replicate σ.length none) xs us ds d I ⟨S.bag, S.ext, S.oA, S.oT, fun i s hi => by simp [List.getElem?_replicate] at hi, by simp⟩ rx h1 e) fun r s1 ⟨w, H1, I1, r1, q⟩ => ⟨w, H1, I1, r1, k w H1 q⟩
def mBlt (g : List D → Option D) (ma : MA) : ME := fun ρ Q E => ma ρ (fun ds => Opt (g ds) Q) E
theorem blt_go {g : List D → Option D} {ma : MA} {Qd : D → Prop} {Q : VK} (S : SE (rc X A L) Hz O ρ σ H) (hm : mBlt g ma ρ Qd Ed) (hE : ∀ x, Ed x → Bad (rc X A L) O Hz W x)
    (k : ∀ w H1 d, Ex (rc X A L) H H1 → Bag (rc X A L) H1 → RF (rc X A L) O H H1 d w → Qd d → Q w H1) : tCB (rDC X g) (tA X W .al ma) σ H Q := by
  refine tA.go S hm hE fun ds vs H1 q1 S1 x1 r1 => ?_
  obtain ⟨d, e, q⟩ := q1
  exact ⟨A, L, Hz, O, ρ, σ, ds, d, S1, RMs.rbs S1.oA r1, e, fun w H3 h3 => k w H3 d (x1.trans h3.1) h3.2.1 (RF.back h3.2.2 x1 S.oA) q⟩
theorem de_blt {x : Str} {id : String} {g : List D → Option D} {e : Expr} {es : List Expr} {ma : MA} {p pos : Pos} (hc : DCall X (.builtin id) g) (hg : Gl X x) (hm : X.mg x = none) (hv : bootBuiltins x = some (.builtin id)) (ha : DA X W .al (e :: es) ma)
    (hn : x ≠ "__name__") (hdb : (x == ("__debug__" : Str)) = false) (he : starEach (e :: es) X.env = (false, eval e X.env) :: starEach es X.env) (hpl : (backTo pos (starEach es X.env)).any (·.1) = false) :
    DE X W m (.Call (.Name x p) (e :: es) [] pos) (mBlt g ma) :=
  .by (pe_callB hc.op hg hm hv ha hn hdb he hpl) fun σ H A L Hz O ρ Qd Ed S hm hE => blt_go S hm hE fun w H1 d x b r q => ⟨d, x, b, RF.rm S.oA r, q⟩
theorem de_bty {x : Str} {T : String} {g : List D → Option D} {e : Expr} {es : List Expr} {ma : MA} {p pos : Pos} (hc : DCall X (.type T) g) (hg : Gl X x) (hm : X.mg x = none) (hv : bootBuiltins x = some (.type T)) (ha : DA X W .al (e :: es) ma)
    (hn : x ≠ "__name__") (hdb : (x == ("__debug__" : Str)) = false) (he : starEach (e :: es) X.env = (false, eval e X.env) :: starEach es X.env) (hpl : (backTo pos (starEach es X.env)).any (·.1) = false) :
    DE X W m (.Call (.Name x p) (e :: es) [] pos) (mBlt g ma) :=
  .by (pe_callTy hc.op hg hm hv ha hn hdb he hpl) fun σ H A L Hz O ρ Qd Ed S hm hE => blt_go S hm hE fun w H1 d x b r q => ⟨d, x, b, RF.rm S.oA r, q⟩
theorem rbs1 {c : Rc} {d : D} {vs : List V} (h : RBs c O H [d] vs) : ∃ v, vs = [v] ∧ RB c O H d v := by
  obtain ⟨v, r, rfl, h, rfl⟩ := h
  exact ⟨v, rfl, h⟩
theorem rbs2 {c : Rc} {d e : D} {vs : List V} (h : RBs c O H [d, e] vs) : ∃ v u, vs = [v, u] ∧ RB c O H d v ∧ RB c O H e u := by
  obtain ⟨v, r, rfl, h, u, r2, rfl, h2, rfl⟩ := h
  exact ⟨v, u, rfl, h, h2⟩

def bLen : List D → Option D
  | [.str z] => some (.int z.length)
  | [.tup ds] => some (.int ds.length)
  | [.lst ds] => some (.int ds.length)
  | [.dct ks _] => some (.int ks.length)
  | _ => none
theorem dc_len : DCall X (.builtin "len") bLen := by
  intro pins s σ H A L Hz O ρ vs us ds d I S r h g
  unfold bLen at g
  split at g
  · cases g
    obtain ⟨v, rfl, h'⟩ := rbs1 h
    obtain ⟨rfl, l, _⟩ := rb_str h'
    exact call_len_str pins s σ H _ us _ I r ⟨_, rfl, l, FQ.int S⟩
  · cases g
    obtain ⟨v, rfl, h'⟩ := rbs1 h
    obtain ⟨a, ws, rfl, s1, r1⟩ := rb_tup h'
    exact call_len_seq pins s σ H _ us _ I r ⟨a, ws, rfl, .inr s1, by rw [r1.length]; exact FQ.int S⟩
  · cases g
    obtain ⟨v, rfl, h'⟩ := rbs1 h
    obtain ⟨a, ws, rfl, _, s1, r1⟩ := rb_lst h'
    exact call_len_seq pins s σ H _ us _ I r ⟨a, ws, rfl, .inl (.of s1), by rw [r1.length]; exact FQ.int S⟩
  · cases g
    obtain ⟨v, rfl, h'⟩ := rbs1 h
    obtain ⟨a, ws, rfl, _, hd, _⟩ := rb_dct h'
    obtain ⟨u, rfl, rx⟩ := vals1 r
    obtain rfl : u = .ref a := rx
    rcases hd with ⟨kvs, h1, _, rfl, rfl⟩ | ⟨kvs, h1, _, rfl, rfl⟩
    · refine d_len I h1 fun t s' I' => ⟨.int kvs.length, H, I', ⟨_, rfl⟩, ?_⟩
      rw [List.length_map]
      exact FQ.int S
    · obtain ⟨z, hd, ys, rel, dd⟩ := dt_rd I.hok h1
      have hl : kvs.length = ys.length := Paired.length rel
      refine call_len_dictH hd dd (by rw [← hl]; rw [sizeLine_eq] at z; omega) ?_
      rw [← hl, List.length_map]
      exact ⟨.int ((kvs.length : Nat) : Int), H, I.tok _, ⟨_, rfl⟩, FQ.int S⟩
  · cases g
def bTuple : List D → Option D
  | [.tup ds] => some (.tup ds)
  | [.lst ds] => some (.tup ds)
  | _ => none
theorem dc_tuple : DCall X (.type "tuple") bTuple := by
  intro pins s σ H A L Hz O ρ vs us ds d I S r h g
  unfold bTuple at g
  split at g
  · cases g
    obtain ⟨v, rfl, h'⟩ := rbs1 h
    obtain ⟨a, ws, rfl, s1, r1⟩ := rv_tupH h'
    exact call_tuple_of pins s σ H _ us _ I r ⟨a, ws, rfl, .inr ⟨.of s1, FQ.old S (mk_tup s1 r1)⟩⟩
  · cases g
    obtain ⟨v, rfl, h'⟩ := rbs1 h
    obtain ⟨a, ws, rfl, _, s1, r1⟩ := rb_lst h'
    exact call_tuple_of pins s σ H _ us _ I r ⟨a, ws, rfl, .inl ⟨.of s1, fun p n => FQ.tup S n r1⟩⟩
  · cases g
def bList : List D → Option D
  | [.tup ds] => some (.lst ds)
  | [.lst ds] => some (.lst ds)
  | _ => none
theorem dc_list : DCall X (.type "list") bList := by
  intro pins s σ H A L Hz O ρ vs us ds d I S r h g
  unfold bList at g
  split at g
  · cases g
    obtain ⟨v, rfl, h'⟩ := rbs1 h
    obtain ⟨a, ws, rfl, s1, r1⟩ := rb_tup h'
    exact call_list_of pins s σ H _ us _ I r ⟨a, ws, rfl, .inr s1, fun p n => FQ.lst S n r1⟩
  · cases g
    obtain ⟨v, rfl, h'⟩ := rbs1 h
    obtain ⟨a, ws, rfl, _, s1, r1⟩ := rb_lst h'
    exact call_list_of pins s σ H _ us _ I r ⟨a, ws, rfl, .inl (.of s1), fun p n => FQ.lst S n r1⟩
  · cases g
def bInt : List D → Option D
  | [.int i] => some (.int i)
  | [.bl b] => some (.int (if b then 1 else 0))
  | _ => none
theorem dc_int : DCall X (.type "int") bInt := by
  intro pins s σ H A L Hz O ρ vs us ds d I S r h g
  unfold bInt at g
  split at g
  · cases g
    obtain ⟨v, rfl, h'⟩ := rbs1 h
    obtain rfl := rb_int h'
    exact call_int1 pins s σ H _ us _ I r (.inl ⟨_, rfl, FQ.int S⟩)
  · cases g
    obtain ⟨v, rfl, h'⟩ := rbs1 h
    obtain rfl := rb_bl h'
    exact call_int1 pins s σ H _ us _ I r (.inr ⟨_, rfl, FQ.int S⟩)
  · cases g
def bAbs : List D → Option D
  | [.int i] => some (.int (if i < 0 then -i else i))
  | _ => none
theorem dc_abs : DCall X (.builtin "abs") bAbs := by
  intro pins s σ H A L Hz O ρ vs us ds d I S r h g
  unfold bAbs at g
  split at g
  · cases g
    obtain ⟨v, rfl, h'⟩ := rbs1 h
    obtain rfl := rb_int h'
    exact call_abs pins s σ H _ us _ I r ⟨_, rfl, FQ.int S⟩
  · cases g
/-- ints out of trees -/
def intsD : List D → Option (List Int)
  | [] => some []
  | .int i :: ds => (intsD ds).map (i :: ·)
  | _ => none
def blsD : List D → Option (List Bool)
  | [] => some []
  | .bl i :: ds => (blsD ds).map (i :: ·)
  | _ => none
theorem intsD_eq : ∀ {ds : List D} {ns : List Int}, intsD ds = some ns → ds = ns.map .int
  | [], ns, h => by cases h; rfl
  | d :: ds, ns, h => by
    unfold intsD at h
    split at h
    · rename_i e; cases e
    · rename_i i r e
      cases e
      obtain ⟨a, h1, rfl⟩ := opt_map h
      rw [intsD_eq h1]; rfl
    · cases h
theorem blsD_eq : ∀ {ds : List D} {ns : List Bool}, blsD ds = some ns → ds = ns.map .bl
  | [], ns, h => by cases h; rfl
  | d :: ds, ns, h => by
    unfold blsD at h
    split at h
    · rename_i e; cases e
    · rename_i i r e
      cases e
      obtain ⟨a, h1, rfl⟩ := opt_map h
      rw [blsD_eq h1]; rfl
    · cases h
def bSum : List D → Option D
  | [.lst ds] => (intsD ds).map fun ns => .int ns.sum
  | [.tup ds] => (intsD ds).map fun ns => .int ns.sum
  | _ => none
theorem dc_sum (hc : X.calm = true) : DCall X (.builtin "sum") bSum := by
  intro pins s σ H A L Hz O ρ vs us ds d I S r h g
  unfold bSum at g
  split at g
  · obtain ⟨ns, e, rfl⟩ := opt_map g
    rw [intsD_eq e] at h
    obtain ⟨v, rfl, h'⟩ := rbs1 h
    obtain ⟨a, ws, rfl, _, s1, r1⟩ := rb_lst h'
    rw [r1.ints] at s1
    exact cr_sum hc pins s σ H _ us _ I r ⟨a, ns, rfl, .of s1, FQ.int S⟩
  · obtain ⟨ns, e, rfl⟩ := opt_map g
    rw [intsD_eq e] at h
    obtain ⟨v, rfl, h'⟩ := rbs1 h
    obtain ⟨a, ws, rfl, s1, r1⟩ := rb_tup h'
    rw [r1.ints] at s1
    exact cr_sumT hc pins s σ H _ us _ I r ⟨a, ns, rfl, s1, FQ.int S⟩
  · cases g
def bAll : List D → Option D
  | [.lst ds] => (blsD ds).map fun ns => .bl (ns.all id)
  | _ => none
theorem dc_all (hc : X.calm = true) : DCall X (.builtin "all") bAll := by
  intro pins s σ H A L Hz O ρ vs us ds d I S r h g
  unfold bAll at g
  split at g
  · obtain ⟨ns, e, rfl⟩ := opt_map g
    rw [blsD_eq e] at h
    obtain ⟨v, rfl, h'⟩ := rbs1 h
    obtain ⟨a, ws, rfl, _, s1, r1⟩ := rb_lst h'
    rw [r1.bls] at s1
    exact cr_all hc pins s σ H _ us _ I r ⟨a, ns, rfl, .of s1, FQ.bl S⟩
  · cases g
def bAny : List D → Option D
  | [.lst ds] => (blsD ds).map fun ns => .bl (ns.any id)
  | _ => none
theorem dc_any (hc : X.calm = true) : DCall X (.builtin "any") bAny := by
  intro pins s σ H A L Hz O ρ vs us ds d I S r h g
  unfold bAny at g
  split at g
  · obtain ⟨ns, e, rfl⟩ := opt_map g
    rw [blsD_eq e] at h
    obtain ⟨v, rfl, h'⟩ := rbs1 h
    obtain ⟨a, ws, rfl, _, s1, r1⟩ := rb_lst h'
    rw [r1.bls] at s1
    exact cr_any hc pins s σ H _ us _ I r ⟨a, ns, rfl, .of s1, FQ.bl S⟩
  · cases g

/-! ### isinstance -/
inductive Cl where
  | int | bool | str | tuple | list | dict
def Cl.nm : Cl → String
  | .int => "int" | .bool => "bool" | .str => "str" | .tuple => "tuple" | .list => "list" | .dict => "dict"
def tyD : D → Option String
  | .non => some "NoneType" | .bl _ => some "bool" | .int _ => some "int" | .str _ => some "str" | .tup _ => some "tuple" | .lst _ => some "list" | .dct _ _ => some "dict"
  | _ => none
def isD (k : Cl) (d : D) : Option Bool := match k, d with
  | _, .bag => none | _, .fn _ => none | _, .ty _ => none
  | .int, .int _ => some true | .int, .bl _ => some true
  | .bool, .bl _ => some true | .str, .str _ => some true | .tuple, .tup _ => some true | .list, .lst _ => some true | .dict, .dct _ _ => some true
  | _, _ => some false
theorem isD_kit {k : Cl} {d : D} {b : Bool} (h : isD k d = some b) : ∃ t, tyD d = some t ∧ kitB t k.nm = some b := by
  cases k <;> cases d <;> first | (cases h; exact ⟨_, rfl, by decide +kernel⟩) | cases h
theorem kit_d {pins : List (Addr × Obj)} {s : Shared} {d : D} {v : V} {u : Value} {t : String} (I : Inv X pins σ H s) (h : RB (rc X A L) O H d v) (r : RelV v u) (e : tyD d = some t) :
    ∃ P : Heap → Prop, PySem.W.KitX X.K u (.type t) P ∧ P s.heap ∧ u ≠ .builtin "__main__.__loader__#opaque" := by
  cases d with
  | non => cases e; rw [rb_non h] at r; exact kit_of I r (.base .non)
  | bl b => cases e; rw [rb_bl h] at r; exact kit_of I r (.base (.bl b))
  | int b => cases e; rw [rb_int h] at r; exact kit_of I r (.base (.int b))
  | str b => cases e; rw [(rb_str h).1] at r; exact kit_of I r (.base (.str b))
  | tup ds =>
    cases e
    obtain ⟨a, vs, rfl, s1, _⟩ := rb_tup h
    rcases s1 with (s1 | ⟨o, s1⟩) | ⟨o, its, n, hk, hc, _⟩
    · exact kit_of I r (.base (.tup s1))
    · exact kit_of I r (.fTuple s1)
    · exact kit_of I r (.kTuple hk hc)
  | lst ds => cases e; obtain ⟨a, vs, rfl, _, s1, _⟩ := rb_lst h; exact kit_of I r (.base (.lst s1))
  | dct ks ds =>
    cases e
    obtain ⟨a, vs, rfl, _, s1, _⟩ := rb_dct h
    rcases s1 with ⟨kvs, s1 | ⟨o, s1⟩, _⟩ | ⟨kvs, s1 | ⟨o, s1⟩, _⟩
    · exact kit_of I r (.base (.dK s1))
    · exact kit_of I r (.fDict s1)
    · exact kit_of I r (.base (.dT s1))
    · cases (show u = Value.ref a from r)
      obtain ⟨_, _, _, xs, _, o, es, ep, h1, h2, _⟩ := (show ObjOk X.prog X.w H s.heap a (.frz o (.dT kvs)) from I.hok a _ s1)
      exact ⟨_, PySem.W.kitx_dict, ⟨o, h1, h2.1⟩, fun z => nomatch z⟩
  | _ => cases e
def rIsD (X : Cx) (k : Cl) : List V → Hp → VK → Prop := fun vs H Q => ∃ A L Hz O ρ σ d v b, vs = [v, .ty k.nm] ∧ SE (rc X A L) Hz O ρ σ H ∧ RB (rc X A L) O H d v ∧ isD k d = some b ∧ Q (.bl b) H
theorem call_isD {k : Cl} : CallR X (.builtin "isinstance") (rIsD X k) := by
  intro pins s σ H xs us Q I r h
  obtain ⟨A, L, Hz, O, ρ, σ', d, v, b, rfl, S, h1, e, q⟩ := h
  obtain ⟨u1, u2, rfl, r1, r2⟩ := vals2 r
  cases (show u2 = Value.type k.nm from r2)
  obtain ⟨t, e1, e2⟩ := isD_kit e
  obtain ⟨P, Z, p, hx⟩ := kit_d I h1 r1 e1
  exact PySem.W.kia_one Z I.kIn p (kit_ty e2) hx fun tk => ⟨.bl b, H, I.tok tk, rfl, q⟩
def mIs (k : Cl) (me : ME) : ME := fun ρ Q E => me ρ (fun d => Opt (isD k d) fun b => Q (.bl b)) E
theorem de_isi {k : Cl} {x y : Str} {e : Expr} {me : ME} {p p2 pos : Pos} (hx : x = "isinstance") (hy : y = Str.ofString k.nm) (hg : Gl X x) (hm : X.mg x = none) (hg2 : Gl X y) (hm2 : X.mg y = none) (he : DE X W .al e me)
    (hs : starEach [e, .Name y p2] X.env = (false, eval e X.env) :: starEach [.Name y p2] X.env) (hs2 : starEach [.Name y p2] X.env = (false, eval (.Name y p2) X.env) :: starEach [] X.env) (hpl : (backTo pos (starEach [.Name y p2] X.env)).any (·.1) = false) :
    DE X W m (.Call (.Name x p) [e, .Name y p2] [] pos) (mIs k me) := by
  subst hx
  have hb : bootBuiltins y = some (.type k.nm) := by subst hy; cases k <;> decide +kernel
  have hn : y ≠ "__name__" := by subst hy; cases k <;> decide
  have hd : (y == ("__debug__" : Str)) = false := by subst hy; cases k <;> decide
  exact .by (pe_callB (call_isD (k := k)) hg hm PyProof.Rows.boot_isinstance (pa_cons he (pa_cons (pe_bltn (v := .ty k.nm) hg2 hm2 hb rfl hn hd) pa_nil hs2) hs) (by decide) (by decide) hs hpl) fun σ H A L Hz O ρ Qd Ed S hm hE => by
    refine tE.go S hm hE fun d v H1 q S1 x1 r1 => ?_
    obtain ⟨b, e, q⟩ := q
    exact ⟨A, L, Hz, O, ρ, σ, d, v, b, rfl, S1, RM.rb r1 S1.oA, e, .bl b, x1, S1.bag, rm_flat rfl mk_bl, q⟩
/-- a tuple of two classes -/
def isD2 (k l : Cl) (d : D) : Option Bool := match isD k d, isD l d with
  | some a, some b => some (a || b)
  | _, _ => none
def rIsD2 (X : Cx) (k l : Cl) : List V → Hp → VK → Prop := fun vs H Q => ∃ A L Hz O ρ σ d v b tp, vs = [v, .ref tp] ∧ H tp = some (.tup [.ty k.nm, .ty l.nm]) ∧ SE (rc X A L) Hz O ρ σ H ∧ RB (rc X A L) O H d v ∧ isD2 k l d = some b ∧ Q (.bl b) H
theorem call_isD2 {k l : Cl} : CallR X (.builtin "isinstance") (rIsD2 X k l) := by
  intro pins s σ H xs us Q I r h
  obtain ⟨A, L, Hz, O, ρ, σ', d, v, b, tp, rfl, hT, S, h1, e, q⟩ := h
  obtain ⟨u1, u2, rfl, r1, r2⟩ := vals2 r
  cases (show u2 = Value.ref tp from r2)
  unfold isD2 at e
  split at e
  · rename_i b1 b2 ek el
    cases e
    obtain ⟨t, e1, e2⟩ := isD_kit ek
    obtain ⟨t', e3, e4⟩ := isD_kit el
    rw [e1] at e3; cases e3
    obtain ⟨P, Z, p, hx⟩ := kit_d I h1 r1 e1
    obtain ⟨_, its, rv, o, g1, g2, n, g3⟩ := (show ObjOk X.prog X.w H s.heap tp (.tup [.ty k.nm, .ty l.nm]) from I.hok tp _ hT)
    have e5 := ClsV.all (.cons (.ty k.nm) (.cons (.ty l.nm) .nil)) rv
    subst e5
    obtain ⟨oc, od, dt, sl⟩ := o
    simp only at g2 g3
    subst g2 g3
    have hk : PySem.W.kitAny X.K (.type t) [Value.type k.nm, Value.type l.nm] = some (b1 || b2) := kitAny_cons (kit_ty e2) (fun h => by
      subst h
      exact kitAny_cons (kit_ty e4) (fun h => by subst h; exact kitAny_nil) fun h => by rw [h]; rfl) fun h => by rw [h]; rfl
    exact PySem.W.kia_tup Z I.kIn p g1 hk hx fun tk => ⟨.bl (b1 || b2), H, I.tok tk, rfl, q⟩
  · cases e
def mIs2 (k l : Cl) (me : ME) : ME := fun ρ Q E => me ρ (fun d => Opt (isD2 k l d) fun b => Q (.bl b)) E
theorem de_isi2 {k l : Cl} {x y z : Str} {e : Expr} {me : ME} {p p2 p3 p4 pos : Pos} {kk : Nat} (hx : x = "isinstance") (hy : y = Str.ofString k.nm) (hz : z = Str.ofString l.nm) (hg : Gl X x) (hm : X.mg x = none) (hg2 : Gl X y) (hm2 : X.mg y = none) (hg3 : Gl X z) (hm3 : X.mg z = none) (he : DE X W .al e me)
    (hs : starEach [e, .Tuple [.Name y p2, .Name z p3] kk p4] X.env = (false, eval e X.env) :: starEach [.Tuple [.Name y p2, .Name z p3] kk p4] X.env)
    (hs2 : starEach [.Tuple [.Name y p2, .Name z p3] kk p4] X.env = (false, eval (.Tuple [.Name y p2, .Name z p3] kk p4) X.env) :: starEach [] X.env)
    (hs3 : starEach [.Name y p2, .Name z p3] X.env = (false, eval (.Name y p2) X.env) :: starEach [.Name z p3] X.env) (hs4 : starEach [.Name z p3] X.env = (false, eval (.Name z p3) X.env) :: starEach [] X.env)
    (hpl : (backTo pos (starEach [.Tuple [.Name y p2, .Name z p3] kk p4] X.env)).any (·.1) = false) :
    DE X W m (.Call (.Name x p) [e, .Tuple [.Name y p2, .Name z p3] kk p4] [] pos) (mIs2 k l me) := by
  subst hx
  have hb : ∀ c : Cl, bootBuiltins (Str.ofString c.nm) = some (.type c.nm) := by intro c; cases c <;> decide +kernel
  have hn : ∀ c : Cl, Str.ofString c.nm ≠ "__name__" := by intro c; cases c <;> decide
  have hd : ∀ c : Cl, (Str.ofString c.nm == ("__debug__" : Str)) = false := by intro c; cases c <;> decide
  subst hy hz
  exact .by (pe_callB (call_isD2 (k := k) (l := l)) hg hm PyProof.Rows.boot_isinstance (pa_cons he (pa_cons (pe_tup (pa_cons (pe_bltn (v := .ty k.nm) hg2 hm2 (hb k) rfl (hn k) (hd k)) (pa_cons (pe_bltn (v := .ty l.nm) hg3 hm3 (hb l) rfl (hn l) (hd l)) pa_nil hs4) hs3)) pa_nil hs2) hs) (by decide) (by decide) hs hpl) fun σ H A L Hz O ρ Qd Ed S hm hE => by
    refine tE.go S hm hE fun d v H1 q S1 x1 r1 => ?_
    obtain ⟨b, e, q⟩ := q
    refine ⟨by show 2 ≤ sizeLine; decide, fun tp n => ?_⟩
    have x2 : Ex (rc X A L) H1 (upd H1 tp (.tup [.ty k.nm, .ty l.nm])) := Kp.new n
    have S2 := S1.ex x2 (S1.bag.new n)
    exact ⟨A, L, Hz, O, ρ, σ, d, v, b, tp, rfl, upd_same, S2, RB.ex (RM.rb r1 S1.oA) x2 S1.oA, e, .bl b, x1.trans x2, S2.bag, rm_flat rfl mk_bl, q⟩
end
end Ev

/-! Ev6: calls of defs by their promises. -/
namespace Ev
open PySem PySem.Spec L2
open PyProof.Rows hiding St
variable [Tbl]

mutual
/-- no list, no dict within -/
def noL : D → Bool
  | .lst _ | .dct _ _ => false
  | .tup ds => noLs ds
  | _ => true
def noLs : List D → Bool
  | [] => true
  | d :: ds => noL d && noLs ds
end
section
variable {c : Rc} {O O' : Od} {H : Hp}
mutual
theorem RV.noL : ∀ (d : D) (v : V), Ev.noL d = true → RV c O H d v → RV c O' H d v
  | .non, _, _, h => by unfold RV at h ⊢; exact h
  | .bl _, _, _, h => by unfold RV at h ⊢; exact h
  | .int _, _, _, h => by unfold RV at h ⊢; exact h
  | .str _, _, _, h => by unfold RV at h ⊢; exact h
  | .bag, _, _, h => by unfold RV at h ⊢; exact h
  | .fn _, _, _, h => by unfold RV at h ⊢; exact h
  | .ty _, _, _, h => by unfold RV at h ⊢; exact h
  | .tup ds, _, n, h => by
    unfold RV at h ⊢
    unfold Ev.noL at n
    obtain ⟨a, vs, e, s, r⟩ := h
    exact ⟨a, vs, e, s, RVs.noL ds vs n r⟩
  | .lst _, _, n, _ => by unfold Ev.noL at n; cases n
  | .dct _ _, _, n, _ => by unfold Ev.noL at n; cases n
theorem RVs.noL : ∀ (ds : List D) (vs : List V), Ev.noLs ds = true → RVs c O H ds vs → RVs c O' H ds vs
  | [], _, _, h => by unfold RVs at h ⊢; exact h
  | d :: ds, _, n, h => by
    unfold RVs at h ⊢
    unfold Ev.noLs at n
    rw [Bool.and_eq_true] at n
    obtain ⟨v, r, e, h, hs⟩ := h
    exact ⟨v, r, e, RV.noL d v n.1 h, RVs.noL ds r n.2 hs⟩
end
/-- what is read now, for a callee that keeps off the bag alone -/
theorem RB.rv0 {d : D} {v : V} (h : RB c O H d v) (oA : OA c O) : RV c (av c) H d v := by
  have an : ∀ b, av c b → O b := oA
  cases d with
  | lst ds =>
    obtain ⟨a, vs, e, n, h1, r⟩ := h
    unfold RV
    exact ⟨a, vs, e, n, h1, r.anti an⟩
  | dct ks ds =>
    obtain ⟨a, vs, e, n, h1, r⟩ := h
    unfold RV
    exact ⟨a, vs, e, n, h1, r.anti an⟩
  | _ => exact RV.anti h an
theorem RBs.rv0 (oA : OA c O) : ∀ {ds : List D} {vs : List V}, RBs c O H ds vs → RVs c (av c) H ds vs
  | [], _, h => by unfold RVs; exact h
  | d :: ds, _, ⟨v, r, e, h, hs⟩ => by unfold RVs; exact ⟨v, r, e, h.rv0 oA, RBs.rv0 oA hs⟩
theorem RVs.rbs (oA : OA c O) : ∀ {ds : List D} {vs : List V}, RVs c O H ds vs → RBs c O H ds vs
  | [], _, h => by unfold RVs at h; exact h
  | d :: ds, _, h => by
    unfold RVs at h
    obtain ⟨v, r, e, h, hs⟩ := h
    exact ⟨v, r, e, RV.rb oA h, RVs.rbs oA hs⟩
theorem RBs.length : ∀ {ds : List D} {vs : List V}, RBs c O H ds vs → vs.length = ds.length
  | [], _, h => by cases h; rfl
  | d :: ds, _, ⟨v, r, e, h, hs⟩ => by subst e; simp [RBs.length hs]
theorem RBs.ex {H' : Hp} (e : Ex c H H') (oA : OA c O) : ∀ {ds : List D} {vs : List V}, RBs c O H ds vs → RBs c O H' ds vs
  | [], _, h => h
  | d :: ds, _, ⟨v, r, q, h, hs⟩ => ⟨v, r, q, RB.ex h e oA, RBs.ex e oA hs⟩
end

/-- what a def is worth, over trees -/
abbrev FS := List D → (D → Prop) → (Exc → Prop) → Prop
def spOf (K : PySem.W.Frag) (mg : Str → Option Value) (S : FS) : Sp := fun vs H Q E => ∃ (A : Addr) (L : LT) (O : Od) (ds : List D) (Qd : D → Prop) (Ed : Exc → Prop),
  OA ⟨K, mg, A, L⟩ O ∧ (∀ b, O b → H b ≠ none) ∧ Bag ⟨K, mg, A, L⟩ H ∧ RVs ⟨K, mg, A, L⟩ O H ds vs ∧ S ds Qd Ed ∧
  (∀ d v H', Qd d → Ex ⟨K, mg, A, L⟩ H H' → Bag ⟨K, mg, A, L⟩ H' → RV ⟨K, mg, A, L⟩ O H' d v → Q v H') ∧
  ∀ x, Ed x → ∀ H' cv dd, Ex ⟨K, mg, A, L⟩ H H' → Bag ⟨K, mg, A, L⟩ H' → RX ⟨K, mg, A, L⟩ O H' x cv dd → E cv dd H'

section
variable {X : Cx} {W : WX} {m : Md} {A : Addr} {L : LT} {Hz : Hp} {O : Od} {ρ : EnvD} {σ : St} {H : Hp} {Ed : Exc → Prop}
/-- arguments of a def: kept ones, or (the flag) some own list that is only lent -/
abbrev MB := EnvD → (List D → Bool → Prop) → (Exc → Prop) → Prop
def RG (c : Rc) (O : Od) (H : Hp) (b : Bool) (ds : List D) (vs : List V) : Prop := if b = true then RBs c O H ds vs else RVs c O H ds vs
theorem RG.rbs {c : Rc} {b : Bool} {ds : List D} {vs : List V} (oA : OA c O) (h : RG c O H b ds vs) : RBs c O H ds vs := by
  cases b with
  | true => exact h
  | false => exact RVs.rbs oA h
def tB2 (X : Cx) (W : WX) (mb : MB) : TA := fun σ H Q => ∃ A L Hz O ρ Qd Ed, SE (rc X A L) Hz O ρ σ H ∧ mb ρ Qd Ed ∧
  (∀ ds b vs H', Qd ds b → Ex (rc X A L) H H' → Bag (rc X A L) H' → RG (rc X A L) O H' b ds vs → Q vs H') ∧ ∀ x, Ed x → Bad (rc X A L) O Hz W x
def DB (X : Cx) (W : WX) (es : List Expr) (mb : MB) : Prop := PA X es (tB2 X W mb)
def nNil : MB := fun _ Q _ => Q [] false
def nCons (ma : ME) (mr : MB) : MB := fun ρ Q E => ma ρ (fun d => mr ρ (fun ds b => Q (d :: ds) b) E) E
def isOwn : Slot → Bool
  | .val _ => false
  | _ => true
def ownAt (i : Nat) (ρ : EnvD) : Bool := match ρ[i]? with
  | some (some s) => isOwn s
  | _ => false
def nName (i : Nat) (mr : MB) : MB := fun ρ Q E => Opt (rdv i ρ) fun d => mr ρ (fun ds b => Q (d :: ds) (ownAt i ρ || b)) E
theorem db_nil : DB X W [] nNil := PA.imp pa_nil fun σ H Q ⟨A, L, Hz, O, ρ, Qd, Ed, S, hm, k, hE⟩ => k [] false [] H hm .refl S.bag (show RG (rc X A L) O H false [] [] from RVs.nil (c := rc X A L) (O := O) (H := H))
theorem db_cons {e : Expr} {es : List Expr} {ma : ME} {mr : MB} (ha : DE X W .vl e ma) (hr : DB X W es mr) (hs : starEach (e :: es) X.env = (false, eval e X.env) :: starEach es X.env) : DB X W (e :: es) (nCons ma mr) :=
  PA.imp (pa_cons ha hr hs) fun σ H Q ⟨A, L, Hz, O, ρ, Qd, Ed, S, hm, k, hE⟩ => by
    refine tE.go S hm hE fun d v H1 q S1 x1 r1 => ?_
    refine ⟨A, L, Hz, O, ρ, _, Ed, S1, q, fun ds b vs H2 q2 x2 b2 r2 => ?_, hE⟩
    refine k (d :: ds) b (v :: vs) H2 q2 (x1.trans x2) b2 ?_
    have r1' : RV (rc X A L) O H2 d v := RM.ex (m := .vl) r1 x2 S.oA
    cases b with
    | true => exact ⟨v, vs, rfl, r1'.rb S.oA, r2⟩
    | false => exact RVs.cons r1' r2
theorem SE.ownAt_val (S : SE (rc X A L) Hz O ρ σ H) {i : Nat} {d : D} {v : V} (h : rdv i ρ = some d) (o : ownAt i ρ = false) (e : σ[i]? = some (some v)) : RV (rc X A L) O H d v := by
  unfold rdv at h
  unfold ownAt at o
  split at h
  · rename_i d' h1
    cases h
    obtain ⟨w, h2, h3⟩ := S.slots _ _ h1
    rw [e] at h2; cases h2
    exact h3
  · rename_i d' h1
    rw [h1] at o; cases o
  · rename_i d' h1
    rw [h1] at o; cases o
  · cases h
theorem db_name {x : Str} {p : Pos} {es : List Expr} {mr : MB} (i : Nat) (hN : X.N[i]? = some x) (hv : Vis X.env.scope x) (hd : (x == ("__debug__" : Str)) = false) (hcd : (x == ("__classdict__" : Str)) = false) (hr : DB X W es mr)
    (hs : starEach (.Name x p :: es) X.env = (false, eval (.Name x p) X.env) :: starEach es X.env) : DB X W (.Name x p :: es) (nName i mr) :=
  PA.imp (pa_cons (pe_var hN hv hd hcd) hr hs) fun σ H Q ⟨A, L, Hz, O, ρ, Qd, Ed, S, hm, k, hE⟩ => by
    obtain ⟨d, h1, q⟩ := hm
    obtain ⟨v, e, r1⟩ := S.var h1
    refine ⟨v, e, A, L, Hz, O, ρ, _, Ed, S, q, fun ds b vs H2 q2 x2 b2 r2 => ?_, hE⟩
    refine k (d :: ds) _ (v :: vs) H2 q2 x2 b2 ?_
    cases o : ownAt i ρ with
    | true => exact ⟨v, vs, rfl, RB.ex r1 x2 S.oA, RG.rbs S.oA r2⟩
    | false =>
      have r1' := (S.ownAt_val h1 o e).kp (x2.kp S.oA)
      cases b with
      | true => exact ⟨v, vs, rfl, r1'.rb S.oA, r2⟩
      | false => exact RVs.cons r1' r2
def noX (x : Exc) : Bool := x.fields.all fun p => noL p.2
def mCall (S : FS) (mb : MB) : ME := fun ρ Q E => mb ρ (fun ds b => S ds (fun d => (b = true → noL d = true) ∧ Q d) (fun x => (b = true → noX x = true) ∧ E x)) E
theorem Bad.exc {c : Rc} {x : Exc} (h : Bad c O Hz W x) {σ : St} {H : Hp} {cv : Value} {dd : Option Addr} (e : Ex c Hz H) (b : Bag c H) (r : RX c O H x cv dd) : W cv dd σ H := h σ H cv dd e b r
theorem RX.noL {c : Rc} {O' : Od} {x : Exc} {cv : Value} {dd : Option Addr} (n : noX x = true) (h : RX c O H x cv dd) : RX c O' H x cv dd := by
  obtain ⟨C, e, m, f⟩ := h
  refine ⟨C, e, m, fun g d hd => ?_⟩
  obtain ⟨p, fs, v, e1, e2, e3, r⟩ := f g d hd
  exact ⟨p, fs, v, e1, e2, e3, r.noL d v (List.all_eq_true.mp n (g, d) hd)⟩
/-- the wish of a call's exceptions -/
def wishC (X : Cx) (A : Addr) (L : LT) (O : Od) (H : Hp) (Ed : Exc → Prop) : XK := fun cv dd H' => ∃ x, Ed x ∧ Ex (rc X A L) H H' ∧ Bag (rc X A L) H' ∧ RX (rc X A L) O H' x cv dd

/-- the wish of all calls' exceptions, at this body: what W wants -/
def wishW (W : WX) : XK := fun cv dd H' => ∀ σ, W cv dd σ H'
theorem de_call {k : Nat} {S : FS} {f : Addr} {fd : FuncData} {ps : List Str} {x : Str} {e : Expr} {es : List Expr} {mb : MB} {p pos : Pos} (F : FnOk X.prog X.w X.K X.mg X.base (CX X.prog X.w) k f fd ps (spOf X.K X.mg S)) (hr : Room k X.A) (tk : Takes X W)
    (hg : Gl X x) (hm : X.mg x = some (.ref f)) (hk : PySem.W.keepIn X.K (.ref f) = true) (hb : Binds X.K fd ps []) (ha : DB X W (e :: es) mb)
    (hdb : (x == ("__debug__" : Str)) = false) (he : starEach (e :: es) X.env = (false, eval e X.env) :: starEach es X.env) (hpl : (backTo pos (starEach es X.env)).any (·.1) = false) :
    DE X W .vl (.Call (.Name x p) (e :: es) [] pos) (mCall S mb) :=
  .by (pe_call (E := wishW W) F hr hg hm hk hb .nil (passes_call tk fun cls d σ H h => h σ) ha hdb he hpl) fun σ H A L Hz O ρ Qd Ed SS hm hE => by
    refine ⟨A, L, Hz, O, ρ, _, Ed, SS, hm, fun ds b vs H1 q x1 b1 r1 => ?_, hE⟩
    have S1 := SS.ex x1 b1
    show spOf X.K X.mg S (vs ++ []) H1 _ _
    rw [List.append_nil]
    cases b with
    | false =>
      refine ⟨A, L, O, ds, _, _, S1.oA, S1.oT, b1, r1, q, fun d v H2 q2 x2 b2 r2 => ?_, fun y hy H2 cv dd x2 b2 r2 σ' => ?_⟩
      · exact ⟨d, x1.trans x2, b2, r2, q2.2⟩
      · exact hE y hy.2 σ' H2 cv dd ((SS.ext.trans x1).trans x2) b2 r2
    | true =>
      have oT : ∀ b, av (rc X A L) b → H1 b ≠ none := fun z hz => S1.oT _ (S1.oA _ hz)
      refine ⟨A, L, av (rc X A L), ds, _, _, fun _ z => z, oT, b1, RBs.rv0 S1.oA r1, q, fun d v H2 q2 x2 b2 r2 => ?_, fun y hy H2 cv dd x2 b2 r2 σ' => ?_⟩
      · exact ⟨d, x1.trans x2, b2, RV.noL d v (q2.1 rfl) r2, q2.2⟩
      · exact hE y hy.2 σ' H2 cv dd ((SS.ext.trans x1).trans x2) b2 (RX.noL (hy.1 rfl) r2)
end
end Ev

/-! Ev7: statements over D: the state with own lists, stores, blocks. -/
namespace Ev
open PySem PySem.Spec L2
open PyProof.Rows hiding St
variable [Tbl]

structure SEnds where
  nx : EnvD → Prop
  rt : D → Prop
  bk : EnvD → Prop
  ct : EnvD → Prop
  ex : Exc → Prop
abbrev MS := EnvD → SEnds → Prop
def ownAddr (ρ : EnvD) (σ : St) (a : Addr) : Prop := ∃ (i : Nat) (s : Slot), ρ[i]? = some (some s) ∧ isOwn s = true ∧ σ[i]? = some (some (.ref a))
def OS (O0 : Od) (ρ : EnvD) (σ : St) : Od := fun a => O0 a ∨ ownAddr ρ σ a
abbrev Gh := List (D × V)
structure SS (c : Rc) (X : Cx) (O0 : Od) (gh : Gh) (ρ : EnvD) (σ : St) (H : Hp) : Prop where
  se : SE c X.H_0 (OS O0 ρ σ) ρ σ H
  o0 : OA c O0
  len : σ.length = ρ.length
  own : ∀ a, ownAddr ρ σ a → ¬ O0 a ∧ ¬ av c a ∧ a ≠ c.L ∧ X.H_0 a = none
  inj : ∀ (i j : Nat) (s t : Slot) (a : Addr), ρ[i]? = some (some s) → isOwn s = true → ρ[j]? = some (some t) → isOwn t = true → σ[i]? = some (some (.ref a)) → σ[j]? = some (some (.ref a)) → i = j
  gh : ∀ g ∈ gh, RV c (OS O0 ρ σ) H g.1 g.2

section
variable {c : Rc} {X : Cx} {O O' O0 : Od} {gh : Gh} {ρ : EnvD} {σ : St} {H H' : Hp}
theorem SlotOk.go {s : Slot} {v : V} (h : SlotOk c O H s v) (k : Kp O H H') (h2 : ∀ b, O' b → O b ∨ H b = none) (ex : Ex c H H') : SlotOk c O' H' s v := by
  cases s with
  | val d => exact RV.go k h2 d v h
  | own ds =>
    obtain ⟨a, vs, e1, n, h1, r⟩ := h
    exact ⟨a, vs, e1, n, ex _ _ h1 (.inl n), RVs.go k h2 ds vs r⟩
  | ownd ks ds =>
    obtain ⟨a, vs, e1, n, h1, r⟩ := h
    exact ⟨a, vs, e1, n, h1.kp ex n, RVs.go k h2 ds vs r⟩
theorem bag_tr (b : Bag c H) : H c.A ≠ none ∧ H c.L ≠ none := by
  obtain ⟨_, _, _, _, _, _, _, _, _, _, _, h1, h2, _⟩ := b
  refine And.intro (fun z => ?_) (fun z => ?_)
  · rw [h1] at z; cases z
  · rw [h2] at z; cases z
theorem SS.ex (S : SS c X O0 gh ρ σ H) (e : Ex c H H') (b : Bag c H') : SS c X O0 gh ρ σ H' :=
  ⟨S.se.ex e b, S.o0, S.len, S.own, S.inj, fun g hg => (S.gh g hg).kp (e.kp S.se.oA)⟩
theorem getSet {α : Type} {l : List (Option α)} {i j : Nat} {x : α} {y : Option α} (h : (l.set i y)[j]? = some (some x)) : (j = i ∧ y = some x ∧ i < l.length) ∨ (j ≠ i ∧ l[j]? = some (some x)) := by
  by_cases e : j = i
  · subst e
    by_cases hl : j < l.length
    · rw [List.getElem?_set_self hl] at h
      exact .inl ⟨rfl, Option.some.inj h, hl⟩
    · rw [List.getElem?_eq_none (by simpa using hl)] at h
      cases h
  · rw [List.getElem?_set_ne (Ne.symm e)] at h
    exact .inr ⟨e, h⟩
theorem setNe {α : Type} {l : List α} {i j : Nat} {y : α} (e : j ≠ i) : (l.set i y)[j]? = l[j]? := List.getElem?_set_ne (Ne.symm e)
/-- a name gets a value that is shared -/
theorem SS.setV (S : SS c X O0 gh ρ σ H) {i : Nat} {d : D} {v : V} (e : Ex c H H') (b : Bag c H') (r : RV c (OS O0 ρ σ) H' d v) : SS c X O0 gh (ρ.set i (some (.val d))) (σ.set i (some v)) H' := by
  have S := S.ex e b
  have sub : ∀ a, ownAddr (ρ.set i (some (.val d))) (σ.set i (some v)) a → ownAddr ρ σ a := by
    rintro a ⟨j, s, h1, h2, h3⟩
    rcases getSet h1 with ⟨rfl, e, _⟩ | ⟨ne, h1⟩
    · cases e; cases h2
    · rw [setNe ne] at h3
      exact ⟨j, s, h1, h2, h3⟩
  have subO : ∀ a, OS O0 (ρ.set i (some (.val d))) (σ.set i (some v)) a → OS O0 ρ σ a := fun a h => h.imp id (sub a)
  refine ⟨⟨S.se.bag, S.se.ext, fun b z => .inl (S.o0 b z), fun a h => S.se.oT a (subO a h), fun j s h => ?_, by simp [S.len]⟩, S.o0, by simp [S.len], fun a h => S.own a (sub a h), fun j k s t a h1 h2 h3 h4 h5 h6 => ?_, fun g hg => (S.gh g hg).anti subO⟩
  · rcases getSet h with ⟨rfl, e, hl⟩ | ⟨ne, h⟩
    · cases e
      exact ⟨v, List.getElem?_set_self (by rw [S.len]; exact hl), r.anti subO⟩
    · obtain ⟨w, h1, h2⟩ := S.se.slots j s h
      exact ⟨w, by rw [setNe ne]; exact h1, h2.go .refl (fun b z => .inl (subO b z)) .refl⟩
  · rcases getSet h1 with ⟨rfl, e, _⟩ | ⟨ne, h1⟩
    · cases e; cases h2
    · rcases getSet h3 with ⟨rfl, e, _⟩ | ⟨ne', h3⟩
      · cases e; cases h4
      · rw [setNe ne] at h5
        rw [setNe ne'] at h6
        exact S.inj j k s t a h1 h2 h3 h4 h5 h6
def slotOf : D → Slot
  | .lst ds => .own ds
  | .dct ks ds => .ownd ks ds
  | d => .val d
/-- a name gets a new list or dict of its own -/
theorem SS.setOwn (S : SS c X O0 gh ρ σ H) {i : Nat} {s0 : Slot} {a : Addr} (e : Ex c H H') (b : Bag c H') (nO : ¬ OS O0 ρ σ a) (n0 : H a = none) (h0 : H' a ≠ none) (ho : isOwn s0 = true)
    (r : SlotOk c (fun b => OS O0 ρ σ b ∨ b = a) H' s0 (.ref a)) : SS c X O0 gh (ρ.set i (some s0)) (σ.set i (some (.ref a))) H' := by
  have sub : ∀ x, ownAddr (ρ.set i (some s0)) (σ.set i (some (.ref a))) x → ownAddr ρ σ x ∨ x = a := by
    rintro x ⟨j, s, h1, h2, h3⟩
    rcases getSet h1 with ⟨rfl, e, hl⟩ | ⟨ne, h1⟩
    · rw [List.getElem?_set_self (by rw [S.len]; exact hl)] at h3
      cases h3
      exact .inr rfl
    · rw [setNe ne] at h3
      exact .inl ⟨j, s, h1, h2, h3⟩
  have subO : ∀ x, OS O0 (ρ.set i (some s0)) (σ.set i (some (.ref a))) x → OS O0 ρ σ x ∨ x = a := fun x h => h.elim (fun z => .inl (.inl z)) fun z => (sub x z).imp .inr id
  have subN : ∀ x, OS O0 (ρ.set i (some s0)) (σ.set i (some (.ref a))) x → OS O0 ρ σ x ∨ H x = none := fun x h => (subO x h).imp id fun z => by rw [z]; exact n0
  have k : Kp (OS O0 ρ σ) H H' := e.kp S.se.oA
  have S' := S.ex e b
  have aA : ¬ av c a := fun z => nO (S.se.oA _ z)
  refine ⟨⟨b, S'.se.ext, fun b z => .inl (S.o0 b z), fun x h => ?_, fun j s h => ?_, by simp [S.len]⟩, S.o0, by simp [S.len], fun x h => ?_, fun j k s t x h1 h2 h3 h4 h5 h6 => ?_, fun g hg => RV.go k subN _ _ (S.gh g hg)⟩
  · rcases subO x h with z | z
    · exact S'.se.oT x z
    · rw [z]; exact h0
  · rcases getSet h with ⟨rfl, e, hl⟩ | ⟨ne, h⟩
    · cases e
      exact ⟨_, List.getElem?_set_self (by rw [S.len]; exact hl), r.go .refl (fun b z => .inl (subO b z)) .refl⟩
    · obtain ⟨w, h1, h2⟩ := S.se.slots j s h
      exact ⟨w, by rw [setNe ne]; exact h1, h2.go k subN e⟩
  · rcases sub x h with z | z
    · exact S.own x z
    · subst z
      exact ⟨fun z => nO (.inl z), aA, fun z => (bag_tr S.se.bag).2 (by rw [← z]; exact n0), ex_none S.se.ext aA n0⟩
  · have tr : ∀ y, ownAddr ρ σ y → y ≠ a := fun y hy z => S.se.oT y (.inr hy) (by rw [z]; exact n0)
    rcases getSet h1 with ⟨rfl, e1, hl⟩ | ⟨ne, g1⟩
    · rw [List.getElem?_set_self (by rw [S.len]; exact hl)] at h5
      cases h5
      rcases getSet h3 with ⟨rfl, e2, _⟩ | ⟨ne', g3⟩
      · rfl
      · rw [setNe ne'] at h6
        exact absurd rfl (tr _ ⟨k, t, g3, h4, h6⟩)
    · rw [setNe ne] at h5
      rcases getSet h3 with ⟨rfl, e2, hl⟩ | ⟨ne', g3⟩
      · rw [List.getElem?_set_self (by rw [S.len]; exact hl)] at h6
        cases h6
        exact absurd rfl (tr _ ⟨j, s, g1, h2, h5⟩)
      · rw [setNe ne'] at h6
        exact S.inj j k s t x g1 h2 g3 h4 h5 h6
theorem SS.setF (S : SS c X O0 gh ρ σ H) {i : Nat} {d : D} {v : V} (e : Ex c H H') (b : Bag c H') (r : RF c (OS O0 ρ σ) H H' d v) : SS c X O0 gh (ρ.set i (some (slotOf d))) (σ.set i (some v)) H' := by
  cases d with
  | lst ds =>
    obtain ⟨a, vs, rfl, nO, n0, h1, r⟩ := r
    exact S.setOwn e b nO n0 (by rw [h1]; intro z; cases z) rfl ⟨a, vs, rfl, fun z => nO (S.se.oA _ z), h1, r⟩
  | dct ks ds =>
    obtain ⟨a, vs, rfl, nO, n0, h1, r⟩ := r
    exact S.setOwn e b nO n0 (dctAt_some h1.at) rfl ⟨a, vs, rfl, fun z => nO (S.se.oA _ z), h1, r⟩
  | _ => exact S.setV e b r

/-! ### freezing: an own list or dict becomes a shared one -/
def frzS : Slot → Slot
  | .val d => .val d
  | .own ds => .val (.lst ds)
  | .ownd ks ds => .val (.dct ks ds)
theorem frz_own (s : Slot) : isOwn (frzS s) = false := by cases s <;> rfl
/-- f tells which names -/
def frzE (f : Nat → Bool) (ρ : EnvD) : EnvD := ρ.mapIdx fun i o => if f i = true then o.map frzS else o
theorem frzE_get {f : Nat → Bool} {i : Nat} {s : Slot} (h : (frzE f ρ)[i]? = some (some s)) : (f i = false ∧ ρ[i]? = some (some s)) ∨ (f i = true ∧ ∃ t, ρ[i]? = some (some t) ∧ s = frzS t) := by
  unfold frzE at h
  rw [List.getElem?_mapIdx] at h
  cases e : ρ[i]? with
  | none => rw [e] at h; cases h
  | some o =>
    rw [e] at h
    have h' : (if f i = true then o.map frzS else o) = some s := Option.some.inj h
    split at h'
    · rename_i hf
      obtain ⟨t, e1, e2⟩ := (show ∃ t, o = some t ∧ frzS t = s by
        cases o with
        | none => cases h'
        | some t => exact ⟨t, rfl, Option.some.inj h'⟩)
      exact .inr ⟨hf, t, by rw [e1], e2.symm⟩
    · rename_i hf
      exact .inl ⟨by simpa using hf, by rw [h']⟩
theorem frz_sub {f : Nat → Bool} {a : Addr} (h : ownAddr (frzE f ρ) σ a) : ∃ (i : Nat) (s : Slot), f i = false ∧ ρ[i]? = some (some s) ∧ isOwn s = true ∧ σ[i]? = some (some (.ref a)) := by
  obtain ⟨i, s, h1, h2, h3⟩ := h
  rcases frzE_get h1 with ⟨hf, h1⟩ | ⟨hf, t, h1, rfl⟩
  · exact ⟨i, s, hf, h1, h2, h3⟩
  · rw [frz_own] at h2; cases h2
theorem SS.frz (S : SS c X O0 gh ρ σ H) (f : Nat → Bool) : SS c X O0 gh (frzE f ρ) σ H := by
  have sub : ∀ a, ownAddr (frzE f ρ) σ a → ownAddr ρ σ a := fun a h => let ⟨i, s, _, h1, h2, h3⟩ := frz_sub h; ⟨i, s, h1, h2, h3⟩
  have subO : ∀ a, OS O0 (frzE f ρ) σ a → OS O0 ρ σ a := fun a h => h.imp id (sub a)
  refine ⟨⟨S.se.bag, S.se.ext, fun b z => .inl (S.o0 b z), fun a h => S.se.oT a (subO a h), fun j s h => ?_, by rw [S.len]; unfold frzE; simp⟩, S.o0, by rw [S.len]; unfold frzE; simp, fun a h => S.own a (sub a h), fun j k s t a h1 h2 h3 h4 h5 h6 => ?_, fun g hg => (S.gh g hg).anti subO⟩
  · rcases frzE_get h with ⟨_, gg⟩ | ⟨hf, t, gg, rfl⟩
    · obtain ⟨w, h1, h2⟩ := S.se.slots j s gg
      exact ⟨w, h1, h2.go .refl (fun b z => .inl (subO b z)) .refl⟩
    · obtain ⟨w, h1, h2⟩ := S.se.slots j t gg
      refine ⟨w, h1, ?_⟩
      -- its address is no longer avoided
      have nO : ∀ a, isOwn t = true → w = .ref a → ¬ OS O0 (frzE f ρ) σ a := by
        rintro a ho rfl (z | z)
        · exact (S.own a ⟨j, t, gg, ho, h1⟩).1 z
        · obtain ⟨i, s, hf', g1, g2, g3⟩ := frz_sub z
          rw [S.inj i j s t a g1 g2 gg ho g3 h1] at hf'
          rw [hf] at hf'; cases hf'
      cases t with
      | val d => exact h2.go .refl (fun b z => .inl (subO b z)) .refl
      | own ds =>
        obtain ⟨a, vs, e1, n, g1, r⟩ := h2
        show RV _ _ _ (.lst ds) _
        unfold RV
        exact ⟨a, vs, e1, nO a rfl e1, g1, r.anti subO⟩
      | ownd ks ds =>
        obtain ⟨a, vs, e1, n, g1, r⟩ := h2
        show RV _ _ _ (.dct ks ds) _
        unfold RV
        exact ⟨a, vs, e1, nO a rfl e1, g1.at, r.anti subO⟩
  · rcases frzE_get h1 with ⟨_, h1⟩ | ⟨_, t', h1, rfl⟩
    · rcases frzE_get h3 with ⟨_, h3⟩ | ⟨_, t', h3, rfl⟩
      · exact S.inj j k s t a h1 h2 h3 h4 h5 h6
      · rw [frz_own] at h4; cases h4
    · rw [frz_own] at h2; cases h2
/-- all of them: nothing but O0 is avoided -/
theorem SS.frzAll (S : SS c X O0 gh ρ σ H) : SE c X.H_0 O0 (frzE (fun _ => true) ρ) σ H := by
  have F := (S.frz fun _ => true).se
  have sub : ∀ a, O0 a → OS O0 (frzE (fun _ => true) ρ) σ a := fun a h => .inl h
  refine ⟨F.bag, F.ext, S.o0, fun a h => F.oT a (sub a h), fun i s h => ?_, F.len⟩
  obtain ⟨v, h1, h2⟩ := F.slots i s h
  exact ⟨v, h1, h2.go .refl (fun b z => .inl (sub b z)) .refl⟩
/-- an own list is changed in its place -/
theorem SS.chg (S : SS c X O0 gh ρ σ H) {i : Nat} {s s' : Slot} {a : Addr} {u o : HO} (hi : ρ[i]? = some (some s)) (hs : isOwn s = true) (hs' : isOwn s' = true) (ha : σ[i]? = some (some (.ref a))) (hu : H a = some u) (mu : Mut (some u))
    (r : SlotOk c (OS O0 ρ σ) (upd H a o) s' (.ref a)) : SS c X O0 gh (ρ.set i (some s')) σ (upd H a o) := by
  obtain ⟨n0, nA, nL, nE⟩ := S.own a ⟨i, s, hi, hs, ha⟩
  have k : Kp (OS O0 ρ σ) H (upd H a o) := Kp.wr hu mu (.inr ⟨i, s, hi, hs, ha⟩)
  have hl : i < ρ.length := (List.getElem?_eq_some_iff.mp hi).1
  have same : ∀ x, ownAddr (ρ.set i (some s')) σ x → ownAddr ρ σ x := by
    rintro x ⟨j, t, h1, h2, h3⟩
    rcases getSet h1 with ⟨rfl, e, _⟩ | ⟨ne, h1⟩
    · exact ⟨j, s, hi, hs, h3⟩
    · exact ⟨j, t, h1, h2, h3⟩
  have subO : ∀ x, OS O0 (ρ.set i (some s')) σ x → OS O0 ρ σ x := fun x h => h.imp id (same x)
  have bag : Bag c (upd H a o) := by
    obtain ⟨ne, b0, b1, b2, ns, h0, h1, h2, h3, h4, h5, hA, hL, hT⟩ := S.se.bag
    have nAA : a ≠ c.A := fun z => nA (.inl z)
    have hno : NT o := by
      cases s' with
      | val d => cases hs'
      | own ds =>
        obtain ⟨a', vs', e1, _, e2, _⟩ := id r
        cases e1
        rw [upd_same] at e2; cases e2
        trivial
      | ownd ks ds =>
        obtain ⟨a', vs', e1, _, e2, _⟩ := id r
        cases e1
        rcases e2 with ⟨kvs, e2, _⟩ | ⟨kvs, e2, _⟩ <;> (rw [upd_same] at e2; cases e2; trivial)
    have hsl : (∀ ps, u ≠ .tbl ps) ∧ ∀ φ, u ≠ .ext φ := by
      obtain ⟨w, g1, g2⟩ := S.se.slots i s hi
      rw [ha] at g1
      cases g1
      cases s with
      | val d => cases hs
      | own ds =>
        obtain ⟨a', vs', e1, _, e2, _⟩ := g2
        cases e1
        rw [hu] at e2; cases e2
        exact ⟨fun _ z => (nomatch z), fun _ z => (nomatch z)⟩
      | ownd ks ds =>
        obtain ⟨a', vs', e1, _, e2, _⟩ := g2
        cases e1
        rcases e2 with ⟨kvs, e2, _⟩ | ⟨kvs, e2, _⟩ <;> (rw [hu] at e2; cases e2; exact ⟨fun _ z => (nomatch z), fun _ z => (nomatch z)⟩)
    exact ⟨ne, b0, b1, b2, ns, h0, h1, h2, h3, h4, h5, by rw [upd_ne nAA.symm]; exact hA, by rw [upd_ne nL.symm]; exact hL, tabs_wr hT hu hsl.1 hsl.2 hno⟩
  refine ⟨⟨bag, fun b p e m => ?_, fun b z => .inl (S.o0 b z), fun x h => ?_, fun j t h => ?_, by simp [S.len]⟩, S.o0, by simp [S.len], fun x h => S.own x (same x h), fun j l t t' x h1 h2 h3 h4 h5 h6 => ?_, fun g hg => ((S.gh g hg).kp k).anti subO⟩
  · have nb : b ≠ a := fun z => by rw [z, nE] at e; cases e
    rw [upd_ne nb]
    exact S.se.ext b p e m
  · by_cases hx : x = a
    · subst hx; rw [upd_same]; intro z; cases z
    · rw [upd_ne hx]; exact S.se.oT x (subO x h)
  · rcases getSet h with ⟨rfl, e, _⟩ | ⟨ne, h⟩
    · cases e
      exact ⟨_, ha, r.go .refl (fun b z => .inl (subO b z)) .refl⟩
    · obtain ⟨w, h1, h2⟩ := S.se.slots j t h
      refine ⟨w, h1, ?_⟩
      have ne' : ∀ y, isOwn t = true → w = .ref y → y ≠ a := by
        rintro y ho rfl rfl
        exact ne (S.inj j i t s y h ho hi hs h1 ha)
      cases t with
      | val d => exact RV.go k (fun b z => .inl (subO b z)) d w h2
      | own ds =>
        obtain ⟨y, vs, e1, n, g1, r⟩ := h2
        exact ⟨y, vs, e1, n, by rw [upd_ne (ne' y rfl e1)]; exact g1, RVs.go k (fun b z => .inl (subO b z)) ds vs r⟩
      | ownd ks ds =>
        obtain ⟨y, vs, e1, n, g1, r⟩ := h2
        refine ⟨y, vs, e1, n, ?_, RVs.go k (fun b z => .inl (subO b z)) ds vs r⟩
        rcases g1 with ⟨kvs, g, e⟩ | ⟨kvs, g, e⟩
        · exact .inl ⟨kvs, by rw [upd_ne (ne' y rfl e1)]; exact g, e⟩
        · exact .inr ⟨kvs, by rw [upd_ne (ne' y rfl e1)]; exact g, e⟩
  · have own1 : ∀ {q : Nat} {t : Slot}, (ρ.set i (some s'))[q]? = some (some t) → isOwn t = true → ∃ t', ρ[q]? = some (some t') ∧ isOwn t' = true := by
      intro q t g1 g2
      rcases getSet g1 with ⟨rfl, e, _⟩ | ⟨ne, g1⟩
      · exact ⟨s, hi, hs⟩
      · exact ⟨t, g1, g2⟩
    obtain ⟨t1, g1, g2⟩ := own1 h1 h2
    obtain ⟨t2, g3, g4⟩ := own1 h3 h4
    exact S.inj j l t1 t2 x g1 g2 g3 g4 h5 h6
end
end Ev

/-! Ev8: the rules for statements. -/
namespace Ev
open PySem PySem.Spec L2
open PyProof.Rows hiding St
variable [Tbl]

structure LK (c : Rc) (X : Cx) (W : WX) (O0 : Od) (gh : Gh) (K : SEnds) (Dn : Ends) : Prop where
  nx : ∀ ρ' σ' H', K.nx ρ' → SS c X O0 gh ρ' σ' H' → Dn.nx σ' H'
  rt : ∀ d v H', K.rt d → Ex c X.H_0 H' → Bag c H' → RV c O0 H' d v → Dn.rt v H'
  bk : ∀ ρ' σ' H', K.bk ρ' → SS c X O0 gh ρ' σ' H' → Dn.bk σ' H'
  ct : ∀ ρ' σ' H', K.ct ρ' → SS c X O0 gh ρ' σ' H' → Dn.ct σ' H'
  ex : ∀ x, K.ex x → Bad c O0 X.H_0 W x
def tS (X : Cx) (W : WX) (m : MS) : TS := fun Dn σ H => ∃ A L O0 gh ρ K, SS (rc X A L) X O0 gh ρ σ H ∧ m ρ K ∧ LK (rc X A L) X W O0 gh K Dn
def DS (X : Cx) (W : WX) (st : Stmt) (m : MS) : Prop := PS X st (tS X W m)
def DSs (X : Cx) (W : WX) (sts : List Stmt) (m : MS) : Prop := PSs X sts (tS X W m)
theorem PS.imp {X : Cx} {st : Stmt} {t t' : TS} (h : PS X st t) (i : ∀ Dn σ H, t' Dn σ H → t Dn σ H) : PS X st t' := ⟨fun pins s σ H Dn I hq => h.run pins s σ H Dn I (i Dn σ H hq)⟩
theorem PSs.imp {X : Cx} {st : List Stmt} {t t' : TS} (h : PSs X st t) (i : ∀ Dn σ H, t' Dn σ H → t Dn σ H) : PSs X st t' := ⟨fun pins s σ H Dn I hq => h.run pins s σ H Dn I (i Dn σ H hq)⟩
section
variable {X : Cx} {W : WX} {A : Addr} {L : LT} {Hz : Hp} {O O0 : Od} {gh : Gh} {ρ : EnvD} {σ : St} {H : Hp} {K : SEnds} {Dn : Ends} {pos : Pos}
theorem Bad.anti {c : Rc} {O O' : Od} {x : Exc} (h : Bad c O' Hz W x) (a : ∀ b, O' b → O b) : Bad c O Hz W x := fun σ H cv dd e b r => h σ H cv dd e b (r.anti a)
theorem LK.exO {c : Rc} (l : LK c X W O0 gh K Dn) : ∀ x, K.ex x → Bad c (OS O0 ρ σ) X.H_0 W x := fun x hx => (l.ex x hx).anti fun b z => .inl z
/-- an expression in a statement -/
theorem tE.st {m : Md} {me : ME} {Qd : D → Prop} {Q : VK} (S : SS (rc X A L) X O0 gh ρ σ H) (hm : me ρ Qd K.ex) (l : LK (rc X A L) X W O0 gh K Dn)
    (k : ∀ d v H', Qd d → SS (rc X A L) X O0 gh ρ σ H' → Ex (rc X A L) H H' → RM m (rc X A L) (OS O0 ρ σ) H H' d v → Q v H') : tE X W m me σ H Q :=
  ⟨A, L, _, _, ρ, Qd, K.ex, S.se, hm, fun d v H' q x b r => k d v H' q (S.ex x b) x r, l.exO⟩
theorem tT.st {mt : MT} {Qd : Bool → Prop} {Q : Bool → Hp → Prop} (S : SS (rc X A L) X O0 gh ρ σ H) (hm : mt ρ Qd K.ex) (l : LK (rc X A L) X W O0 gh K Dn)
    (k : ∀ d H', Qd d → SS (rc X A L) X O0 gh ρ σ H' → Q d H') : tT X W mt σ H Q :=
  ⟨A, L, _, _, ρ, Qd, K.ex, S.se, hm, fun d H' q x b => k d H' q (S.ex x b), l.exO⟩

/-! ### blocks -/
def mSkip : MS := fun ρ K => K.nx ρ
def mSeq (a b : MS) : MS := fun ρ K => a ρ { K with nx := fun ρ' => b ρ' K }
theorem dss_nil : DSs X W [] mSkip := PSs.imp pss_nil fun Dn σ H ⟨A, L, O0, gh, ρ, K, S, h, l⟩ => l.nx ρ σ H h S
theorem dss_cons {st : Stmt} {rest : List Stmt} {a b : MS} (h1 : DS X W st a) (h2 : DSs X W rest b) : DSs X W (st :: rest) (mSeq a b) :=
  PSs.imp (pss_cons h1 h2) fun Dn σ H ⟨A, L, O0, gh, ρ, K, S, h, l⟩ => ⟨A, L, O0, gh, ρ, _, S, h, fun ρ' σ' H' q S' => ⟨A, L, O0, gh, ρ', K, S', q, l⟩, l.rt, l.bk, l.ct, l.ex⟩
theorem dss_one {st : Stmt} {a : MS} (h1 : DS X W st a) : DSs X W [st] a := pss_one h1
theorem ds_pass : DS X W (.Pass pos) mSkip := PS.imp ps_pass fun Dn σ H ⟨A, L, O0, gh, ρ, K, S, h, l⟩ => l.nx ρ σ H h S
def mBrk : MS := fun ρ K => K.bk ρ
def mCnt : MS := fun ρ K => K.ct ρ
theorem ds_break : DS X W (.Break pos) mBrk := PS.imp ps_break fun Dn σ H ⟨A, L, O0, gh, ρ, K, S, h, l⟩ => l.bk ρ σ H h S
theorem ds_continue : DS X W (.Continue pos) mCnt := PS.imp ps_continue fun Dn σ H ⟨A, L, O0, gh, ρ, K, S, h, l⟩ => l.ct ρ σ H h S
def mNever : MS := fun _ _ => False
theorem ds_never {st : Stmt} : DS X W st mNever := PS.imp ps_never fun Dn σ H ⟨A, L, O0, gh, ρ, K, S, h, l⟩ => h.elim
def mEx (me : ME) : MS := fun ρ K => me ρ (fun _ => K.nx ρ) K.ex
theorem ds_expr {e : Expr} {me : ME} (he : DE X W .al e me) (hs : swapsWith e none pos.line X.env = pure false) : DS X W (.Expr e pos) (mEx me) :=
  PS.imp (ps_expr he hs) fun Dn σ H ⟨A, L, O0, gh, ρ, K, S, h, l⟩ => tE.st S h l fun d v H' q S' x r => l.nx ρ σ H' q S'
def mRet (me : ME) : MS := fun ρ K => me (frzE (fun _ => true) ρ) K.rt K.ex
theorem ds_ret {e : Expr} {me : ME} (he : DE X W .vl e me) : DS X W (.Return (some e) pos) (mRet me) :=
  PS.imp (ps_ret he) fun Dn σ H ⟨A, L, O0, gh, ρ, K, S, h, l⟩ => ⟨A, L, _, O0, _, _, _, S.frzAll, h, fun d v H' q x b r => l.rt d v H' q (S.se.ext.trans x) b r, l.ex⟩
def mRetN : MS := fun _ K => K.rt .non
theorem ds_retN : DS X W (.Return none pos) mRetN := PS.imp ps_retN fun Dn σ H ⟨A, L, O0, gh, ρ, K, S, h, l⟩ => l.rt .non .non H h S.se.ext S.se.bag mk_non
def mIf (c : MT) (a b : MS) : MS := fun ρ K => c ρ (fun t => if t = true then a ρ K else b ρ K) K.ex
theorem ds_if {c : Expr} {a b : List Stmt} {mc : MT} {ma mb : MS} (hc : DT X W c mc) (ha : DSs X W a ma) (hb : DSs X W b mb) : DS X W (.If c a b pos) (mIf mc ma mb) :=
  PS.imp (ps_if hc ha hb) fun Dn σ H ⟨A, L, O0, gh, ρ, K, S, h, l⟩ => tT.st S h l fun d H' q S' => by
    cases d with
    | true => exact ⟨A, L, O0, gh, ρ, K, S', q, l⟩
    | false => exact ⟨A, L, O0, gh, ρ, K, S', q, l⟩

/-! ### stores -/
def setE (i : Nat) (s : Slot) (ρ : EnvD) : EnvD := ρ.set i (some s)
/-- x = e, e's list or dict new -/
def mSet (i : Nat) (me : ME) : MS := fun ρ K => me ρ (fun d => K.nx (setE i (slotOf d) ρ)) K.ex
def mSetV (i : Nat) (me : ME) : MS := fun ρ K => me ρ (fun d => K.nx (setE i (.val d) ρ)) K.ex
theorem ds_set {x : Str} {e : Expr} {me : ME} {p : Pos} (i : Nat) (hN : X.N.Nodup) (hi : X.N[i]? = some x) (hx : Loc X.env.scope x) (he : DE X W .fr e me) (hs : swapsWith e (some (.Name x p)) pos.line X.env = pure false) (hf : X.fn x = true ∨ X.env.scope.names.lookup x = some .local) :
    DS X W (.Assign [.Name x p] e pos) (mSet i me) :=
  PS.imp (ps_set hN hi hx he hs hf) fun Dn σ H ⟨A, L, O0, gh, ρ, K, S, h, l⟩ => tE.st S h l fun d v H' q S' x r => l.nx _ _ H' q (S.setF x S'.se.bag r)
theorem ds_setV {x : Str} {e : Expr} {me : ME} {p : Pos} (i : Nat) (hN : X.N.Nodup) (hi : X.N[i]? = some x) (hx : Loc X.env.scope x) (he : DE X W .vl e me) (hs : swapsWith e (some (.Name x p)) pos.line X.env = pure false) (hf : X.fn x = true ∨ X.env.scope.names.lookup x = some .local) :
    DS X W (.Assign [.Name x p] e pos) (mSetV i me) :=
  PS.imp (ps_set hN hi hx he hs hf) fun Dn σ H ⟨A, L, O0, gh, ρ, K, S, h, l⟩ => tE.st S h l fun d v H' q S' x r => l.nx _ _ H' q (S.setV x S'.se.bag r)
/-- x = y, y a name: what y has of its own is shared from here on -/
def only (j : Nat) : Nat → Bool := fun i => i == j
def mMove (i j : Nat) : MS := fun ρ K => Opt (rdv j ρ) fun d => K.nx (setE i (.val d) (frzE (only j) ρ))
theorem frz_rdv {f : Nat → Bool} {j : Nat} {ρ : EnvD} (h : f j = true) : kpv j (frzE f ρ) = rdv j ρ := by
  unfold kpv rdv frzE
  rw [List.getElem?_mapIdx]
  cases e : ρ[j]? with
  | none => rfl
  | some o =>
    simp only [Option.map_some, h, if_true]
    cases o with
    | none => rfl
    | some s => cases s <;> rfl
theorem ds_move {x y : Str} {p p2 : Pos} (i j : Nat) (hN : X.N.Nodup) (hi : X.N[i]? = some x) (hx : Loc X.env.scope x) (hj : X.N[j]? = some y) (hv : Vis X.env.scope y) (hd : (y == ("__debug__" : Str)) = false) (hcd : (y == ("__classdict__" : Str)) = false)
    (hs : swapsWith (.Name y p2) (some (.Name x p)) pos.line X.env = pure false) (hf : X.fn x = true ∨ X.env.scope.names.lookup x = some .local) : DS X W (.Assign [.Name x p] (.Name y p2) pos) (mMove i j) :=
  PS.imp (ps_set hN hi hx (pe_var hj hv hd hcd) hs hf) fun Dn σ H ⟨A, L, O0, gh, ρ, K, S, h, l⟩ => by
    obtain ⟨d, h1, q⟩ := h
    have S1 := S.frz (only j)
    obtain ⟨v, e, r⟩ := S1.se.kpv ((frz_rdv (f := only j) (by unfold only; simp)).trans h1)
    exact ⟨v, e, l.nx _ _ H q (S1.setV .refl S1.se.bag r)⟩
/-- x op= e -/
theorem ds_aug {x : Str} {e : Expr} {me : ME} {op : Operator} {g : D → D → Option D} {p : Pos} (i : Nat) (hN : X.N.Nodup) (hi : X.N[i]? = some x) (hx : Loc X.env.scope x) (he : DE X W .al e me) (ho : DO2 X (inplaceOp op) g) (hf : X.fn x = true ∨ X.env.scope.names.lookup x = some .local) :
    DS X W (.AugAssign (.Name x p) op e pos) (fun ρ K => Opt (kpv i ρ) fun d1 => me ρ (fun d2 => Opt (g d1 d2) fun d => K.nx (setE i (.val d) ρ)) K.ex) :=
  PS.imp (ps_aug hN hi hx he (ti := rD X g) (fun pins s σ H x y v u Q I r1 r2 h => ho.op pins s σ H x y v u Q I r1 r2 h) hf) fun Dn σ H ⟨A, L, O0, gh, ρ, K, S, h, l⟩ => by
    obtain ⟨d1, h1, q⟩ := h
    obtain ⟨v, e, r⟩ := S.se.kpv h1
    refine ⟨v, e, tE.st S q l fun d2 v2 H2 q2 S2 x2 r2 => ?_⟩
    obtain ⟨d, e2, q3⟩ := q2
    refine ⟨A, L, _, _, ρ, σ, d1, d2, d, S2.se, (r.kp (x2.kp S.se.oA)).rb S.se.oA, RM.rb r2 S.se.oA, e2, fun w H3 h3 => ?_⟩
    exact l.nx _ _ H3 q3 (S2.setV h3.1 h3.2.1 h3.2.2.rv)
def mAug (i : Nat) (g : D → D → Option D) (me : ME) : MS := fun ρ K => Opt (kpv i ρ) fun d1 => me ρ (fun d2 => Opt (g d1 d2) fun d => K.nx (setE i (.val d) ρ)) K.ex

/-! ### targets: the item of a loop, an unpacked value -/
abbrev MG := D → EnvD → (EnvD → Prop) → Prop
abbrev MGs := List D → EnvD → (EnvD → Prop) → Prop
def tG (X : Cx) (mg : MG) : TG := fun v σ H Q => ∃ A L O0 gh ρ d Qd, SS (rc X A L) X O0 gh ρ σ H ∧ RV (rc X A L) (OS O0 ρ σ) H d v ∧ mg d ρ Qd ∧ ∀ ρ' σ' H', Qd ρ' → SS (rc X A L) X O0 gh ρ' σ' H' → Q σ' H'
def DG (X : Cx) (t : Expr) (mg : MG) : Prop := PG X t (tG X mg)
def tGs (X : Cx) (mg : MGs) : TGs := fun vs σ H Q => ∃ A L O0 gh ρ ds Qd, SS (rc X A L) X O0 gh ρ σ H ∧ RVs (rc X A L) (OS O0 ρ σ) H ds vs ∧ mg ds ρ Qd ∧ ∀ ρ' σ' H', Qd ρ' → SS (rc X A L) X O0 gh ρ' σ' H' → Q σ' H'
def DGs (X : Cx) (t : List Expr) (mg : MGs) : Prop := PGs X t (tGs X mg)
theorem PG.imp {t : Expr} {g g' : TG} (h : PG X t g) (i : ∀ v σ H Q, g' v σ H Q → g v σ H Q) : PG X t g' := ⟨fun pins s σ H v u Q I r hq => h.run pins s σ H v u Q I r (i v σ H Q hq)⟩
theorem PGs.imp {t : List Expr} {g g' : TGs} (h : PGs X t g) (i : ∀ v σ H Q, g' v σ H Q → g v σ H Q) : PGs X t g' := ⟨fun pins s σ H v u Q I r hq => h.run pins s σ H v u Q I r (i v σ H Q hq)⟩
def gN (i : Nat) : MG := fun d ρ Q => Q (setE i (.val d) ρ)
theorem dg_name {x : Str} {p : Pos} (i : Nat) (hN : X.N.Nodup) (hi : X.N[i]? = some x) (hx : Loc X.env.scope x) (hf : X.fn x = true ∨ X.env.scope.names.lookup x = some .local) : DG X (.Name x p) (gN i) :=
  PG.imp (pg_name hN hi hx hf) fun v σ H Q ⟨A, L, O0, gh, ρ, d, Qd, S, r, q, k⟩ => k _ _ H q (S.setV .refl S.se.bag r)
def gNilD : MGs := fun ds ρ Q => ds = [] ∧ Q ρ
def gConsD (g : MG) (r : MGs) : MGs := fun ds ρ Q => ∃ d ds', ds = d :: ds' ∧ g d ρ (fun ρ' => r ds' ρ' Q)
theorem dgs_nil : DGs X [] gNilD := PGs.imp pgs_nil fun v σ H Q ⟨A, L, O0, gh, ρ, ds, Qd, S, r, ⟨e, q⟩, k⟩ => by
  subst e
  unfold RVs at r
  exact ⟨r, k _ _ H q S⟩
/-- the rest of an unpacking stands as ghosts -/
theorem SS.push {c : Rc} {g : Gh} (S : SS c X O0 gh ρ σ H) (h : ∀ x ∈ g, RV c (OS O0 ρ σ) H x.1 x.2) : SS c X O0 (g ++ gh) ρ σ H :=
  ⟨S.se, S.o0, S.len, S.own, S.inj, fun x hx => (List.mem_append.mp hx).elim (h x) (S.gh x)⟩
theorem SS.drop {c : Rc} {g : Gh} (S : SS c X O0 (g ++ gh) ρ σ H) : SS c X O0 gh ρ σ H := ⟨S.se, S.o0, S.len, S.own, S.inj, fun x hx => S.gh x (List.mem_append_right _ hx)⟩
def zipG : List D → List V → Gh
  | d :: ds, v :: vs => (d, v) :: zipG ds vs
  | _, _ => []
theorem zipG_of {c : Rc} : ∀ {ds : List D} {vs : List V}, RVs c O H ds vs → ∀ x ∈ zipG ds vs, RV c O H x.1 x.2
  | [], vs, _, x, hx => by unfold zipG at hx; cases hx
  | d :: ds, vs, h, x, hx => by
    unfold RVs at h
    obtain ⟨v, r, rfl, h, hs⟩ := h
    unfold zipG at hx
    rcases List.mem_cons.mp hx with rfl | hx
    · exact h
    · exact zipG_of hs x hx
theorem zipG_to {c : Rc} : ∀ {ds : List D} {vs : List V}, vs.length = ds.length → (∀ x ∈ zipG ds vs, RV c O H x.1 x.2) → RVs c O H ds vs
  | [], [], _, _ => .nil
  | d :: ds, v :: vs, l, h => .cons (h (d, v) (by unfold zipG; exact List.mem_cons_self)) (zipG_to (by simpa using l) fun x hx => h x (by unfold zipG; exact List.mem_cons_of_mem _ hx))
  | [], _ :: _, l, _ => by simp at l
  | _ :: _, [], l, _ => by simp at l
theorem dgs_cons {e : Expr} {es : List Expr} {g : MG} {r : MGs} (h1 : DG X e g) (h2 : DGs X es r) (hs : (assignEach (e :: es) X.env).map (·.2) = assign e X.env :: (assignEach es X.env).map (·.2)) : DGs X (e :: es) (gConsD g r) :=
  PGs.imp (pgs_cons h1 h2 hs) fun vs σ H Q ⟨A, L, O0, gh, ρ, ds, Qd, S, r, ⟨d, ds', e, q⟩, k⟩ => by
    subst e
    unfold RVs at r
    obtain ⟨v, vr, rfl, h, hr⟩ := r
    refine ⟨v, vr, rfl, A, L, O0, zipG ds' vr ++ gh, ρ, d, _, S.push (zipG_of hr), h, q, fun ρ' σ' H' q' S' => ?_⟩
    exact ⟨A, L, O0, gh, ρ', ds', Qd, S'.drop, zipG_to hr.length fun x hx => S'.gh x (List.mem_append_left _ hx), q', k⟩
def gTupD (n : Nat) (r : MGs) : MG := fun d ρ Q => ∃ ds, d = .tup ds ∧ ds.length = n ∧ r ds ρ Q
theorem dg_tup {es : List Expr} {k n : Nat} {r : MGs} {p : Pos} (hc : X.calm = true) (h : DGs X es r) (hn : (assignEach es X.env).length = n) (hst : (assignEach es X.env).findIdx? (·.1) = none) : DG X (.Tuple es k p) (gTupD n r) :=
  PG.imp (pg_tup hc h hn hst) fun v σ H Q ⟨A, L, O0, gh, ρ, d, Qd, S, rv, ⟨ds, e, hl, q⟩, k⟩ => by
    subst e
    obtain ⟨a, vs, rfl, hs, r⟩ := rv_tup rv
    exact ⟨a, vs, rfl, hs, by rw [r.length, hl], A, L, O0, gh, ρ, ds, Qd, S, r, q, k⟩
/-- target = value, the value shared -/
def mAsg (g : MG) (me : ME) : MS := fun ρ K => me ρ (fun d => g d ρ K.nx) K.ex
theorem ds_asg {tg e : Expr} {me : ME} {g : MG} (he : DE X W .vl e me) (hg : DG X tg g) (hs : swapsWithSole [tg] e pos.line X.env = pure false) (hw : swappedStores [tg] e X.env = pure none) (h1 : (assignEach [tg] X.env).map (·.2) = [assign tg X.env]) :
    DS X W (.Assign [tg] e pos) (mAsg g me) :=
  PS.imp (ps_asg he hg hs hw h1) fun Dn σ H ⟨A, L, O0, gh, ρ, K, S, h, l⟩ => tE.st S h l fun d v H' q S' x r => ⟨A, L, O0, gh, ρ, d, K.nx, S', r, q, fun ρ' σ' H' q' S'' => l.nx ρ' σ' H' q' S''⟩
end
end Ev

/-! Ev9: what is walked: sequences of any kind, enumerate and zip over them. -/
namespace Ev
open PySem PySem.Spec L2
open PyProof.Rows hiding St
variable [Tbl]

/-- what an iterator is made of -/
inductive Sc where
  | list (a : Addr) | tup (a : Addr) | text (x : Str) (t : Tok)
def Sc.val : Sc → Value
  | .list a => .ref a
  | .tup a => .ref a
  | .text x t => .str x t
def signsV (x : Str) : List V := x.cps.toList.map fun c => V.str ⟨#[c]⟩
def Sc.items (K : PySem.W.Frag) (H : Hp) : Sc → List V → Prop
  | .list a, vs => SqL K H a vs
  | .tup a, vs => SqT K H a vs
  | .text x _, vs => vs = signsV x
def Sc.st : Sc → Addr → Nat → Heap → Prop
  | .list a, it, i, h => h.IsListIter it a i
  | .tup a, it, i, h => h.IsTupleIter it a i
  | .text x t, it, i, h => h.IsStrIter it (strIterType x) x t i
def Sc.obj : Sc → Obj
  | .list a => { cls := .type "list_iterator", data := .fields #[.ref a, .int 0 0] }
  | .tup a => { cls := .type "tuple_iterator", data := .fields #[.ref a, .int 0 0] }
  | .text x t => { cls := .type (strIterType x), data := .fields #[.str x t, .int 0 0] }
def Sc.at? : Sc → List Addr
  | .list a => [a]
  | .tup a => [a]
  | .text _ _ => []
section
variable {X : Cx} {pins : List (Addr × Obj)} {σ : St} {H : Hp} {s : Shared} {sc : Sc} {it : Addr} {i : Nat} {h h' : Heap} {vs ws : List V}
theorem Sc.inj (I : Inv X pins σ H s) (h1 : sc.items X.K H vs) (h2 : sc.items X.K H ws) : vs = ws := by
  cases sc with
  | list a => exact I.list_inj h1 h2
  | tup a => exact I.tuple_inj h1 h2
  | text x t => exact (show vs = _ from h1).trans (show ws = _ from h2).symm
theorem Sc.rcd (st : sc.st it i h) : ∃ o, h.get? it = some o ∧ ∀ v, o.data ≠ .cell v := by
  cases sc with
  | list a => obtain ⟨o, e, _, d⟩ := (show h.IsListIter it a i from st); exact ⟨o, e, fun v z => by rw [d] at z; cases z⟩
  | tup a => obtain ⟨o, e, _, d⟩ := (show h.IsTupleIter it a i from st); exact ⟨o, e, fun v z => by rw [d] at z; cases z⟩
  | text x t => obtain ⟨o, e, _, d⟩ := (show h.IsStrIter it (strIterType x) x t i from st); exact ⟨o, e, fun v z => by rw [d] at z; cases z⟩
theorem Sc.keep (st : sc.st it i h) (k : ∀ o, h.get? it = some o → h'.get? it = some o) : sc.st it i h' := by
  cases sc with
  | list a => exact (show h.IsListIter it a i from st).at k
  | tup a => exact (show h.IsTupleIter it a i from st).at k
  | text x t =>
    obtain ⟨o, e, c, d⟩ := (show h.IsStrIter it (strIterType x) x t i from st)
    exact ⟨o, k o e, c, d⟩
theorem Sc.lt (st : sc.st it i h) : it < h.objs.size := let ⟨_, e, _⟩ := Sc.rcd st; Heap.lt_size e
/-- a record of ours is not where the source stands -/
theorem Sc.apart (I : Inv X pins σ H s) (hi : sc.items X.K H vs) {b : Addr} (f : FpOk X pins H b) : b ∉ sc.at? := by
  have tr : ∀ a u, Rd H a u → b ≠ a := fun a u r e => by
    subst e
    rcases r with r | ⟨o, r⟩ <;> (rw [f.1] at r; cases r)
  have kw : ∀ a o, X.K.lookup a = some o → b ≠ a := fun a o hk e => by
    subst e
    have hb := I.ok.mod.kin b o hk
    rcases f.2.2.2.1 with z | z
    · exact I.ok.noex b o hb z
    · exact absurd (Nat.lt_of_lt_of_le (Heap.lt_size hb) (Nat.le_trans I.ok.bsz z)) (Nat.lt_irrefl _)
  cases sc with
  | list a =>
    intro hm
    obtain rfl : b = a := by simpa [Sc.at?] using hm
    rcases (show SqL X.K H b vs from hi) with r | ⟨o, its, n, hk, _⟩
    · exact tr _ _ r rfl
    · exact kw _ _ hk rfl
  | tup a =>
    intro hm
    obtain rfl : b = a := by simpa [Sc.at?] using hm
    rcases (show SqT X.K H b vs from hi) with r | ⟨o, its, n, hk, _⟩
    · exact tr _ _ r rfl
    · exact kw _ _ hk rfl
  | text x t => intro hm; simp [Sc.at?] at hm
theorem strIter_get {x : Str} {k c : Nat} (h : x.cps[k]? = some c) : (signsV x)[k]? = some (.str ⟨#[c]⟩) := by
  unfold signsV
  rw [List.getElem?_map, Array.getElem?_toList, h]; rfl
/-- what the iterator draws, at this state -/
theorem Sc.draws (I : Inv X pins σ H s) (hc : X.calm = true) (hi : sc.items X.K H vs) (st : sc.st it i s.heap) (hn : it ∉ sc.at?) : ∃ (P : Nat → Value → Prop) (St : Nat → Heap → Prop), Draws X.prog X.w X.A.in1 it (it :: sc.at?) vs.length P St ∧ St i s.heap ∧
    (∀ k v, P k v → ∃ x, vs[k]? = some x ∧ RelV x v) ∧ ∀ k h', St k h' → sc.st it k h' := by
  have hd := I.ok.hd hc
  have hd1 : X.A.in1.handled = none := hd
  cases sc with
  | list a =>
    obtain ⟨its, rv, p, _⟩ := I.list (show SqL X.K H a vs from hi)
    have ne : a ≠ it := fun e => hn (by simp [Sc.at?, e])
    have D := Draws.list (prog := X.prog) (w := X.w) (A := X.A.in1) hd1 it a ne its.toArray
    have e : its.toArray.size = vs.length := by rw [List.size_toArray]; exact rv.length.symm
    rw [e] at D
    refine ⟨_, _, D, ⟨st, p.isList⟩, fun k v hk => ?_, fun k h' q => q.1⟩
    have hk' : its[k]? = some v := by simpa using hk
    have hlt : k < vs.length := by rw [rv.length]; exact (List.getElem?_eq_some_iff.mp hk').1
    obtain ⟨u, hu, ru⟩ := rv.get (List.getElem?_eq_getElem hlt)
    rw [hk'] at hu; cases hu
    exact ⟨_, List.getElem?_eq_getElem hlt, ru⟩
  | tup a =>
    obtain ⟨its, rv, p, _⟩ := I.tuple (show SqT X.K H a vs from hi)
    have ne : a ≠ it := fun e => hn (by simp [Sc.at?, e])
    have D := Draws.tuple (prog := X.prog) (w := X.w) (A := X.A.in1) hd1 it a ne its.toArray
    have e : its.toArray.size = vs.length := by rw [List.size_toArray]; exact rv.length.symm
    rw [e] at D
    refine ⟨_, _, D, ⟨st, p⟩, fun k v hk => ?_, fun k h' q => q.1⟩
    have hk' : its[k]? = some v := by simpa using hk
    have hlt : k < vs.length := by rw [rv.length]; exact (List.getElem?_eq_some_iff.mp hk').1
    obtain ⟨u, hu, ru⟩ := rv.get (List.getElem?_eq_getElem hlt)
    rw [hk'] at hu; cases hu
    exact ⟨_, List.getElem?_eq_getElem hlt, ru⟩
  | text x t =>
    have hv : vs = signsV x := hi
    have D := Draws.text (prog := X.prog) (w := X.w) (A := X.A.in1) hd1 it x t
    have e : x.cps.size = vs.length := by rw [hv]; unfold signsV; simp
    rw [e] at D
    refine ⟨_, _, D, st, fun k v ⟨c, u, h1, h2⟩ => ⟨.str ⟨#[c]⟩, by rw [hv]; exact strIter_get h1, u, h2⟩, fun k h' q => q⟩
theorem Sc.begins (I : Inv X pins σ H s) (hi : sc.items X.K H vs) : ∃ Hh : Heap → Prop, Begins sc.val sc.obj Hh ∧ Hh s.heap := by
  cases sc with
  | list a =>
    obtain ⟨its, rv, p, _⟩ := I.list (show SqL X.K H a vs from hi)
    exact ⟨_, begins_list a its.toArray, p.isList⟩
  | tup a =>
    obtain ⟨its, rv, p, _⟩ := I.tuple (show SqT X.K H a vs from hi)
    exact ⟨_, begins_tuple a its.toArray, p⟩
  | text x t => exact ⟨_, begins_text x t, True.intro⟩
theorem Sc.st0 {it : Addr} (e : h.get? it = some sc.obj) : sc.st it 0 h := by
  cases sc with
  | list a => exact ⟨_, e, rfl, rfl⟩
  | tup a => exact ⟨_, e, rfl, rfl⟩
  | text x t => exact ⟨_, e, rfl, rfl⟩
theorem Sc.ltItems (I : Inv X pins σ H s) (hi : sc.items X.K H vs) : ∀ b ∈ sc.at?, b < s.heap.objs.size := by
  intro b hb
  cases sc with
  | list a =>
    obtain ⟨its, rv, p, _⟩ := I.list (show SqL X.K H a vs from hi)
    obtain rfl : b = a := by simpa [Sc.at?] using hb
    exact p.lt
  | tup a =>
    obtain ⟨its, rv, p, _⟩ := I.tuple (show SqT X.K H a vs from hi)
    obtain rfl : b = a := by simpa [Sc.at?] using hb
    exact p.lt
  | text x t => simp [Sc.at?] at hb
end

/-! ### enumerate -/
def ItE (K : PySem.W.Frag) (sc : Sc) : It :=
  ⟨fun i H => ∃ (vs : List V) (x : V), sc.items K H vs ∧ vs[i]? = some x, fun i H v H' => ∃ T x, v = .ref T ∧ H T = none ∧ H' = upd H T (.tup [.int (i : Nat), x]) ∧ ∀ vs, sc.items K H vs → vs[i]? = some x, fun i H => ∃ vs : List V, sc.items K H vs ∧ vs.length = i⟩
theorem turn_enumS {P : Program} {w : World} {K : PySem.W.Frag} {elts : List Expr} {kk : Nat} {tpos : Pos} (sc : Sc) (e it : Addr) :
    Turn P w K (.Tuple elts kk tpos) (ItE K sc) [e, it] e (fun i h => (∃ old, IsEnum h e it ((i : Nat) : Int) old) ∧ sc.st it i h ∧ e ≠ it) where
  mem := by simp
  obj := fun i h st b hb => by
    obtain ⟨⟨old, he⟩, hs, _⟩ := st
    have e' : b = e ∨ b = it := by simpa using hb
    rcases e' with z | z
    · rw [z]; exact ⟨_, he, fun v q => nomatch q⟩
    · rw [z]; exact Sc.rcd hs
  keep := fun i h h' st k => let ⟨⟨old, he⟩, hi, hne⟩ := st; ⟨⟨old, k e (by simp) _ he⟩, Sc.keep hi fun o q => k it (by simp) o q, hne⟩
  item := by
    intro X hP hw hK hc i pins s σ H E I hf st hg
    subst hP hw hK
    obtain ⟨⟨old, he⟩, hit, hne⟩ := st
    obtain ⟨vs, x, hq, hx⟩ := hg
    have fe := hf e (by simp)
    have fi := hf it (by simp)
    obtain ⟨Pd, Sd, D, hst, hP, hS⟩ := Sc.draws I hc hq hit (Sc.apart I hq fi)
    have hel : e < s.heap.objs.size := Heap.lt_size he
    have hil : it < s.heap.objs.size := Sc.lt hit
    have hlt : i < vs.length := (List.getElem?_eq_some_iff.mp hx).1
    have hef : e ∉ it :: sc.at? := fun hm => by
      rcases List.mem_cons.mp hm with z | z
      · exact hne z
      · exact Sc.apart I hq fe z
    refine wpAny_pyNext_enum_itemC D he hst hlt hne hef fun u h' tk hPu ho hit' hT hsz hk => ?_
    obtain ⟨x', hx', ru⟩ := hP i u hPu
    rw [hx] at hx'; cases hx'
    refine ⟨_, rfl, wpAny_letOwnedTupleGo_enum (s := { s with heap := h', toks := tk + 1 }) ho fun h'' he' sb => ?_⟩
    have hT2 : h''.get? s.heap.objs.size = some { cls := .type "tuple", data := .seq #[.int i tk, u] } := (sb.2 _ (Nat.ne_of_gt hel)).trans hT
    have new : ObjOk X.prog X.w (upd H s.heap.objs.size (.tup [.int (i : Nat), x])) h'' s.heap.objs.size (.tup [.int (i : Nat), x]) :=
      ⟨by show 2 ≤ sizeLine; decide, [.int i tk, u], .cons ⟨_, rfl⟩ (.cons ru .nil), ⟨_, hT2, rfl, _, rfl⟩⟩
    have I1 : Inv X pins σ (upd H s.heap.objs.size (.tup [.int (i : Nat), x])) { s with heap := h'', toks := tk + 1 } :=
      I.turnedNew (ch := [e, it]) (fun b ob hb q => (sb.2 b (fun z => hb (by simp [z]))).trans (hk b ob (fun z => hb (by simp [z])) (fun z => hb (by simp [z])) q)) hf (Nat.le_refl _) new
    refine ⟨.ref s.heap.objs.size, _, I1, rfl, ⟨_, x, rfl, I.hok.fresh (Nat.le_refl _), rfl, fun ys hy => by rw [Sc.inj I hy hq]; exact hx⟩, ⟨⟨u, ?_⟩, Sc.keep (hS _ _ hit') fun o q => (sb.2 it (Ne.symm hne)).trans q, hne⟩, fun b hb => ?_⟩
    · have e1 : ((i + 1 : Nat) : Int) = (i : Int) + 1 := by omega
      rw [e1]; exact he'
    · have hb' : b < s.heap.objs.size := by
        have e' : b = e ∨ b = it := by simpa using hb
        rcases e' with z | z
        · rw [z]; exact hel
        · rw [z]; exact hil
      rw [upd_ne (Nat.ne_of_lt hb')]
      exact (hf b hb).1
  done := by
    intro X hP hw hK hc i pins s σ H E I hf st hg
    subst hP hw hK
    obtain ⟨⟨old, he⟩, hit, hne⟩ := st
    obtain ⟨vs, hq, hx⟩ := hg
    subst hx
    have fi := hf it (by simp)
    obtain ⟨Pd, Sd, D, hst, hP, hS⟩ := Sc.draws I hc hq hit (Sc.apart I hq fi)
    exact wpAny_pyNext_enum_endD D he hst fun h' eb => ⟨rfl, I.turnedL (t' := s.toks) (ch := [e, it]) (fun b o hb q => eb b o (fun z => hb (by simp [z])) q) hf⟩
  self := fun A i s Q E st h => let ⟨⟨_, he⟩, _⟩ := st; wpAny_pyIter_enum he h

/-! ### zip of two -/
def ItZ (K : PySem.W.Frag) (sa sb : Sc) : It :=
  ⟨fun i H => ∃ (xs ys : List V) (x y : V), sa.items K H xs ∧ sb.items K H ys ∧ xs[i]? = some x ∧ ys[i]? = some y,
    fun i H v H' => ∃ T x y, v = .ref T ∧ H T = none ∧ H' = upd H T (.tup [x, y]) ∧ (∀ xs, sa.items K H xs → xs[i]? = some x) ∧ ∀ ys, sb.items K H ys → ys[i]? = some y,
    fun i H => ∃ xs ys : List V, sa.items K H xs ∧ sb.items K H ys ∧ i ≤ xs.length ∧ i ≤ ys.length ∧ (i = xs.length ∨ i = ys.length)⟩
structure ZAp (z TI TO i1 i2 : Addr) : Prop where
  TIz : TI ≠ z
  TOz : TO ≠ z
  TITO : TI ≠ TO
  TIi1 : TI ≠ i1
  TIi2 : TI ≠ i2
  z1 : z ≠ i1
  z2 : z ≠ i2
  T1 : TO ≠ i1
  T2 : TO ≠ i2
  n12 : i1 ≠ i2
theorem zsep {X : Cx} {pins : List (Addr × Obj)} {σ : St} {H : Hp} {s : Shared} {sa sb : Sc} {xs ys : List V} {z TI TO i1 i2 : Addr} (I : Inv X pins σ H s) (ha : sa.items X.K H xs) (hb : sb.items X.K H ys) (A : ZAp z TI TO i1 i2)
    (hf : ∀ b ∈ [z, TI, TO, i1, i2], FpOk X pins H b) : ZipSep2 z TI TO i1 i2 (i1 :: sa.at?) (i2 :: sb.at?) := by
  have f : ∀ {b c : Addr} {sc : Sc} {vs : List V}, b ∈ [z, TI, TO, i1, i2] → sc.items X.K H vs → b ≠ c → b ∉ c :: sc.at? := fun hm hi ne hm' => by
    rcases List.mem_cons.mp hm' with q | q
    · exact ne q
    · exact Sc.apart I hi (hf _ hm) q
  exact ⟨A.TIz, A.TOz, A.TITO, A.TIi1, by simp, f (by simp) ha A.z1, f (by simp) ha A.T1, A.TIi2, by simp, f (by simp) hb A.z2, f (by simp) hb A.T2, f (by simp) hb A.n12, f (by simp) ha (Ne.symm A.n12)⟩
theorem turn_zipS {P : Program} {w : World} {K : PySem.W.Frag} {elts : List Expr} {kk : Nat} {tpos : Pos} {sa sb : Sc} {z TI TO i1 i2 : Addr} (Ap : ZAp z TI TO i1 i2) :
    Turn P w K (.Tuple elts kk tpos) (ItZ K sa sb) [z, TI, TO, i1, i2] z (fun i h => IsZip h z TI TO .none ∧ IsTupOf2 h TI (.ref i1) (.ref i2) ∧ (∃ x y, IsTupOf2 h TO x y) ∧ sa.st i1 i h ∧ sb.st i2 i h) where
  mem := by simp
  obj := fun i h st c hc => by
    obtain ⟨hz, hTI, ⟨x, y, hTO⟩, h1, h2⟩ := st
    have e' : c = z ∨ c = TI ∨ c = TO ∨ c = i1 ∨ c = i2 := by simpa using hc
    rcases e' with q | q | q | q | q
    · rw [q]; exact ⟨_, hz, fun v q => nomatch q⟩
    · rw [q]; exact ⟨_, hTI, fun v q => nomatch q⟩
    · rw [q]; exact ⟨_, hTO, fun v q => nomatch q⟩
    · rw [q]; exact Sc.rcd h1
    · rw [q]; exact Sc.rcd h2
  keep := fun i h h' st k => by
    obtain ⟨hz, hTI, ⟨x, y, hTO⟩, h1, h2⟩ := st
    exact ⟨k z (by simp) _ hz, k TI (by simp) _ hTI, ⟨x, y, k TO (by simp) _ hTO⟩, Sc.keep h1 fun o q => k i1 (by simp) o q, Sc.keep h2 fun o q => k i2 (by simp) o q⟩
  item := by
    intro X hP hw hK hc i pins s σ H E I hf st hg
    subst hP hw hK
    obtain ⟨hz, hTI, ⟨x0, y0, hTO⟩, h1, h2⟩ := st
    obtain ⟨xs, ys, x, y, hqx, hqy, hx, hy⟩ := hg
    have S := zsep I hqx hqy Ap hf
    obtain ⟨P1, S1, D1, st1, hP1, hS1⟩ := Sc.draws I hc hqx h1 (Sc.apart I hqx (hf i1 (by simp)))
    obtain ⟨P2, S2, D2, st2, hP2, hS2⟩ := Sc.draws I hc hqy h2 (Sc.apart I hqy (hf i2 (by simp)))
    have hzl : z < s.heap.objs.size := Heap.lt_size hz
    refine wpAny_pyNext_zipD2_item S D1 D2 hz hTI hTO st1 st2 (List.getElem?_eq_some_iff.mp hx).1 (List.getElem?_eq_some_iff.mp hy).1 fun u u2 h' tk hu hu2 z' TO' h1' h2' hT hsz hk => ?_
    obtain ⟨x', e1, ru⟩ := hP1 i u hu
    obtain ⟨y', e2, ru2⟩ := hP2 i u2 hu2
    rw [hx] at e1; cases e1
    rw [hy] at e2; cases e2
    refine ⟨_, rfl, wpAny_letOwnedTupleGo_zip (s := { s with heap := h', toks := tk }) z' fun h'' z'' sb => ?_⟩
    have hT2 : h''.get? s.heap.objs.size = some { cls := .type "tuple", data := .seq #[u, u2] } := (sb.2 _ (Nat.ne_of_gt hzl)).trans hT
    have new : ObjOk X.prog X.w (upd H s.heap.objs.size (.tup [x, y])) h'' s.heap.objs.size (.tup [x, y]) :=
      ⟨by show 2 ≤ sizeLine; decide, [u, u2], .cons ru (.cons ru2 .nil), ⟨_, hT2, rfl, _, rfl⟩⟩
    have I1 : Inv X pins σ (upd H s.heap.objs.size (.tup [x, y])) { s with heap := h'', toks := tk } :=
      I.turnedNew (t' := tk) (ch := [z, TI, TO, i1, i2]) (fun c o hb q => (sb.2 c (fun q' => hb (by simp [q']))).trans (hk c o (fun q' => hb (by simp [q'])) (fun q' => hb (by simp [q'])) (fun q' => hb (by simp [q'])) (fun q' => hb (by simp [q'])) q)) hf (Nat.le_refl _) new
    refine ⟨.ref s.heap.objs.size, _, I1, rfl, ⟨_, x, y, rfl, I.hok.fresh (Nat.le_refl _), rfl, fun l hl => by rw [Sc.inj I hl hqx]; exact hx, fun l hl => by rw [Sc.inj I hl hqy]; exact hy⟩, ⟨z'', ?_, ⟨u, u2, ?_⟩, ?_, ?_⟩, fun c hcm => ?_⟩
    · exact (sb.2 _ Ap.TIz).trans (hk _ _ Ap.TIz Ap.TITO Ap.TIi1 Ap.TIi2 hTI)
    · exact (sb.2 _ Ap.TOz).trans TO'
    · exact Sc.keep (hS1 _ _ h1') fun o q => (sb.2 _ (Ne.symm Ap.z1)).trans q
    · exact Sc.keep (hS2 _ _ h2') fun o q => (sb.2 _ (Ne.symm Ap.z2)).trans q
    · have hlt : c < s.heap.objs.size := by
        have e' : c = z ∨ c = TI ∨ c = TO ∨ c = i1 ∨ c = i2 := by simpa using hcm
        rcases e' with q | q | q | q | q
        · rw [q]; exact hzl
        · rw [q]; exact Heap.lt_size hTI
        · rw [q]; exact Heap.lt_size hTO
        · rw [q]; exact Sc.lt h1
        · rw [q]; exact Sc.lt h2
      rw [upd_ne (Nat.ne_of_lt hlt)]
      exact (hf c hcm).1
  done := by
    intro X hP hw hK hc i pins s σ H E I hf st hg
    subst hP hw hK
    obtain ⟨hz, hTI, ⟨x0, y0, hTO⟩, h1, h2⟩ := st
    obtain ⟨xs, ys, hqx, hqy, hl1, hl2, hend⟩ := hg
    have S := zsep I hqx hqy Ap hf
    obtain ⟨P1, S1, D1, st1, hP1, hS1⟩ := Sc.draws I hc hqx h1 (Sc.apart I hqx (hf i1 (by simp)))
    obtain ⟨P2, S2, D2, st2, hP2, hS2⟩ := Sc.draws I hc hqy h2 (Sc.apart I hqy (hf i2 (by simp)))
    exact wpAny_pyNext_zipD2_end S D1 D2 hz hTI hTO st1 st2 hl1 hl2 hend fun h' tk hk => ⟨rfl, I.turnedL (t' := tk) (ch := [z, TI, TO, i1, i2]) (fun c o hb q =>
      hk c o (fun q' => hb (by simp [q'])) (fun q' => hb (by simp [q'])) (fun q' => hb (by simp [q'])) (fun q' => hb (by simp [q'])) q) hf⟩
  self := fun A i s Q E st h => wpAny_pyIter_zip st.1 h
end Ev

/-! Ev10: iteration over D: sequences, ranges, enumerate, zip; for loops; comprehensions. -/
namespace Ev
open PySem PySem.Spec L2
open PyProof.Rows hiding St
variable [Tbl]

set_option maxHeartbeats 1000000 in
theorem meets_enum1 {v : Value} {o : Obj} {H : Heap → Prop} (B : Begins v o H) :
    Meets (Builtin.«enumerate.__new__» ⟨[.type "enumerate", v], []⟩) (fun _ R s => H s.heap ∧
      R (.ok (.ret (.ref (s.heap.push o).objs.size))) { s with heap := (s.heap.push o).push { cls := .type "enumerate", data := .fields #[.none, .bool false, .ref s.heap.objs.size, rawInt 0, .none, .none] } }) :=
  .of_wp fun prog w A R s h => by
    obtain ⟨hp, g, d, tk, os⟩ := s; obtain ⟨h1, h⟩ := h
    have hsub := sub_enumerate
    have q1 : ∀ {A' : Around} {E : Value → Shared → Prop} {Q : Value → Shared → Prop}, Q (.ref hp.objs.size) ⟨hp.push o, g, d, tk, os⟩ → wpAny (model prog w) A' (pyIter v) Q E ⟨hp, g, d, tk, os⟩ :=
      fun q => B.iter prog w _ _ ⟨hp, g, d, tk, os⟩ _ h1 q
    wp_walk using q1
    refine wpAny_stack_any fun st => wpAny_pure ?_
    split
    · rename_i c _ _ _ _ _
      cases (c == Value.type "enumerate")
      · wp_walk using q1
        exact ⟨_, rfl, h⟩
      · wp_walk using q1
        exact ⟨_, rfl, h⟩
    · wp_walk using q1
      exact ⟨_, rfl, h⟩
theorem enum_begins1 {prog : Program} {w : World} {A : Around} {E : Value → Shared → Prop} {s : Shared} {v : Value} {o : Obj} {H : Heap → Prop} {Q : Value → Shared → Prop} (B : Begins v o H) (h1 : H s.heap)
    (h : ∀ h', IsEnum h' (s.heap.objs.size + 1) s.heap.objs.size 0 .none → h'.get? s.heap.objs.size = some o → h'.objs.size = s.heap.objs.size + 2 →
      (∀ b o, s.heap.get? b = some o → h'.get? b = some o) → Q (.ref (s.heap.objs.size + 1)) { s with heap := h' }) :
    wpAny (model prog w) A (call (.type "enumerate") [v]) Q E s := by
  refine callType_new F.called_enumerate (by decide) (F.typeCall_enumerate_1 _) (F.newCall_enumerate_1 _) (fun obj => F.args_object_init_2 obj _) F.entry_enumerate_new
    (meets_enum1 B) ⟨h1, ?_⟩
  have hz : (s.heap.push o).objs.size = s.heap.objs.size + 1 := Heap.size_push ..
  show _ ∧ _
  rw [hz]
  have he : IsEnum ((s.heap.push o).push { cls := .type "enumerate", data := .fields #[.none, .bool false, .ref s.heap.objs.size, rawInt 0, .none, .none] }) (s.heap.objs.size + 1) s.heap.objs.size 0 .none := by
    have := Heap.get?_push_size (s.heap.push o) (o := { cls := .type "enumerate", data := .fields #[.none, .bool false, .ref s.heap.objs.size, rawInt 0, .none, .none] }) rfl
    rw [hz] at this; exact this
  refine ⟨⟨_, he, rfl⟩, h _ he (Heap.get?_push_of_some _ (Heap.get?_push_size _ B.free)) (by rw [Heap.size_push, hz]) fun b o x => Heap.get?_push_of_some _ (Heap.get?_push_of_some _ x)⟩

/-! ### what an iteration is worth -/
def New (H H' : Hp) : Prop := (∀ b o, H b = some o → H' b = some o) ∧ ∀ (b : Addr) (ps : Array Value), H' b = some (.tbl ps) → H b = some (.tbl ps)
def IterOk (c : Rc) (gs : Gh) (J : It) (ds : List D) : Prop := ∀ (O : Od) (H : Hp), OA c O → (∀ g ∈ gs, RB c O H g.1 g.2) →
  (∀ i d, ds[i]? = some d → J.go i H ∧ ∀ x H', J.yld i H x H' → New H H' ∧ RV c O H' d x) ∧ J.stop ds.length H
abbrev MI := EnvD → (List D → Prop) → (Exc → Prop) → Prop
def RG2 (m : Md) (c : Rc) (O : Od) (H : Hp) (gs : Gh) : Prop := ∀ g ∈ gs, match m with
  | .al => RB c O H g.1 g.2
  | _ => RV c O H g.1 g.2
def tI (X : Cx) (W : WX) (m : Md) (mi : MI) : TI := fun σ H R => ∃ A L Hz O ρ Qd Ed, SE (rc X A L) Hz O ρ σ H ∧ mi ρ Qd Ed ∧
  (∀ ds gs J H', Qd ds → Ex (rc X A L) H H' → Bag (rc X A L) H' → RG2 m (rc X A L) O H' gs → ds.length ≤ lim → IterOk (rc X A L) gs J ds → R J H') ∧ ∀ x, Ed x → Bad (rc X A L) O Hz W x
def DI (X : Cx) (W : WX) (m : Md) (tg iter : Expr) (mi : MI) : Prop := PI X tg iter (tI X W m mi)
theorem RG2.rb {m : Md} {c : Rc} {O : Od} {H : Hp} {gs : Gh} (oA : OA c O) (h : RG2 m c O H gs) : ∀ g ∈ gs, RB c O H g.1 g.2 := fun g hg => by
  have q := h g hg
  cases m with
  | al => exact q
  | vl => exact RV.rb oA q
  | fr => exact RV.rb oA q
theorem RM.g2 {m : Md} {c : Rc} {O : Od} {H0 H : Hp} {d : D} {v : V} (h : RM m c O H0 H d v) : RG2 m c O H [(d, v)] := fun g hg => by
  obtain rfl : g = (d, v) := by simpa using hg
  cases m with
  | al => exact h
  | vl => exact h
  | fr => exact RF.rv h
section
variable {X : Cx} {W : WX} {m : Md} {A : Addr} {L : LT} {Hz : Hp} {O O0 : Od} {gh : Gh} {ρ : EnvD} {σ : St} {H : Hp} {Ed : Exc → Prop}
def signsD (x : Str) : List D := x.cps.toList.map fun c => D.str ⟨#[c]⟩
/-- the items of a sequence -/
def seqD : D → Option (List D)
  | .tup ds => some ds
  | .lst ds => some ds
  | .str x => some (signsD x)
  | _ => none
/-- a sequence as a source -/
theorem rb_src {c : Rc} {pins : List (Addr × Obj)} {s : Shared} {d : D} {v : V} {u : Value} {ds : List D} (h : RB (rc X A L) O H d v) (r : RelV v u) (e : seqD d = some ds) : ∃ sc : Sc, sc.val = u ∧
    ∀ O' H', OA (rc X A L) O' → RB (rc X A L) O' H' d v → ∃ vs, sc.items X.K H' vs ∧ vs.length = ds.length ∧ ∀ (i : Nat) (d' : D), ds[i]? = some d' → ∃ x, vs[i]? = some x ∧ RV (rc X A L) O' H' d' x := by
  cases d with
  | tup es =>
    cases e
    obtain ⟨a, vs, rfl, s1, r1⟩ := rb_tup h
    refine ⟨.tup a, (show u = Value.ref a from r).symm, fun O' H' oA h' => ?_⟩
    obtain ⟨b, ws, e1, s2, r2⟩ := rb_tup h'
    cases e1
    exact ⟨ws, s2, r2.length, fun i d' hd => r2.get hd⟩
  | lst es =>
    cases e
    obtain ⟨a, vs, rfl, _, s1, r1⟩ := rb_lst h
    refine ⟨.list a, (show u = Value.ref a from r).symm, fun O' H' oA h' => ?_⟩
    obtain ⟨b, ws, e1, _, s2, r2⟩ := rb_lst h'
    cases e1
    exact ⟨ws, .of s2, r2.length, fun i d' hd => r2.get hd⟩
  | str z =>
    cases e
    obtain ⟨rfl, l1, o1⟩ := rb_str h
    obtain ⟨t, rfl⟩ := r
    refine ⟨.text z t, rfl, fun O' H' oA h' => ⟨signsV z, rfl, by unfold signsV signsD; simp, fun i d' hd => ?_⟩⟩
    unfold signsD at hd
    rw [List.getElem?_map] at hd
    obtain ⟨c, hc, rfl⟩ := opt_map hd
    refine ⟨.str ⟨#[c]⟩, by unfold signsV; rw [List.getElem?_map, hc]; rfl, mk_str (by rw [sizeLine_eq]; show 1 ≤ _; decide) ?_⟩
    unfold PyData.strOk at o1 ⊢
    rw [← Array.all_toList] at o1 ⊢
    have := List.all_eq_true.mp o1 c (List.mem_of_getElem? hc)
    simpa using this
  | _ => cases e
theorem src_len {c : Rc} {pins : List (Addr × Obj)} {s : Shared} {sc : Sc} {vs : List V} (I : Inv X pins σ H s) (hi : sc.items X.K H vs) (ht : ∀ x t, sc = .text x t → x.length ≤ sizeLine) : vs.length ≤ lim := by
  rw [lim_eq]
  cases sc with
  | list a => obtain ⟨_, _, _, h⟩ := I.list (show SqL X.K H a vs from hi); exact h
  | tup a => obtain ⟨_, _, _, h⟩ := I.tuple (show SqT X.K H a vs from hi); exact h
  | text x t =>
    have e : vs = signsV x := hi
    subst e
    have := ht x t rfl
    unfold signsV
    rw [List.length_map, Array.length_toList]
    exact this
theorem rb_text {c : Rc} {d : D} {v : V} {u : Value} (h : RB c O H d v) (r : RelV v u) : ∀ x t, u = .str x t → x.length ≤ sizeLine := by
  rintro x t rfl
  cases d with
  | str z =>
    obtain ⟨rfl, l, _⟩ := rb_str h
    obtain ⟨t', e⟩ := r
    cases e
    exact l
  | non => rw [rb_non h] at r; cases r
  | bl b => rw [rb_bl h] at r; cases r
  | int b => rw [rb_int h] at r; obtain ⟨_, e⟩ := r; cases e
  | tup b => obtain ⟨a, _, rfl, _⟩ := rb_tup h; cases r
  | lst b => obtain ⟨a, _, rfl, _⟩ := rb_lst h; cases r
  | dct b e => obtain ⟨a, _, rfl, _⟩ := rb_dct h; cases r
  | bag => have q : RV _ _ _ _ _ := h; unfold RV at q; rw [q] at r; cases r
  | fn b => have q : RV _ _ _ _ _ := h; unfold RV at q; obtain ⟨a, rfl, _⟩ := q; cases r
  | ty b => have q : RV _ _ _ _ _ := h; unfold RV at q; rw [q] at r; cases r
theorem src_text {sc : Sc} (ht : ∀ x t, sc.val = .str x t → x.length ≤ sizeLine) : ∀ x t, sc = .text x t → x.length ≤ sizeLine := by
  rintro x t rfl
  exact ht x t rfl
theorem New.refl {H : Hp} : New H H := ⟨fun _ _ e => e, fun _ _ e => e⟩
theorem New.upd {H : Hp} {p : Addr} {o : HO} (n : H p = none) (ho : NT o := by exact trivial) : New H (L2.upd H p o) := ⟨fun b u e => by rw [upd_ne (ne_of_none e n)]; exact e, fun b ps e => by
  by_cases hb : b = p
  · subst hb
    rw [upd_same] at e
    cases e
    exact ho.elim
  · rw [upd_ne hb] at e
    exact e⟩

/-! ### a sequence itself -/
def mSeqI (me : ME) : MI := fun ρ Q E => me ρ (fun d => Opt (seqD d) Q) E
theorem it_src {tg : Expr} {pins : List (Addr × Obj)} {s : Shared} {R : It → Hp → Prop} {sc : Sc} {vs : List V} {xe : Value → Shared → Prop} (I : Inv X pins σ H s) (hi : sc.items X.K H vs)
    (q : ∀ J : It, (∀ H ws, sc.items X.K H ws → (∀ (i : Nat) (x : V), ws[i]? = some x → J.go i H ∧ ∀ y H', J.yld i H y H' → H' = H ∧ y = x) ∧ J.stop ws.length H) → R J H) :
    wpAny (model X.prog X.w) X.A (pyIter sc.val) (PIE X pins σ tg R) xe s := by
  cases sc with
  | list a =>
    obtain ⟨its, rv, p, hz⟩ := I.list (show SqL X.K H a vs from hi)
    refine wpAny_pyIter_list p.isList ?_
    refine ⟨s.heap.objs.size, [s.heap.objs.size], _, _, H, rfl, I.kept (t' := s.toks) fun b o e => Heap.get?_push_of_some _ e, turn_list a _, ⟨_, Heap.get?_push_size _ rfl, rfl, rfl⟩, fun b hb => ?_, q _ fun H' ws hw => ⟨fun i x hx => ⟨⟨ws, x, hw, hx⟩, fun y H2 hy => ⟨hy.1, by have := hy.2 ws hw; rw [hx] at this; cases this; rfl⟩⟩, ⟨ws, hw, Nat.le_refl _⟩⟩⟩
    have e : b = s.heap.objs.size := by simpa using hb
    subst e
    exact I.fpOk (Nat.le_refl _) (I.hok.fresh (Nat.le_refl _))
  | tup a =>
    obtain ⟨its, rv, p, hz⟩ := I.tuple (show SqT X.K H a vs from hi)
    refine wpAny_pyIter_tuple (show s.heap.IsTuple a its.toArray from p) ?_
    refine ⟨s.heap.objs.size, [s.heap.objs.size], _, _, H, rfl, I.kept (t' := s.toks) fun b o e => Heap.get?_push_of_some _ e, turn_tuple a _, ⟨_, Heap.get?_push_size _ rfl, rfl, rfl⟩, fun b hb => ?_, q _ fun H' ws hw => ⟨fun i x hx => ⟨⟨ws, x, hw, hx⟩, fun y H2 hy => ⟨hy.1, by have := hy.2 ws hw; rw [hx] at this; cases this; rfl⟩⟩, ⟨ws, hw, Nat.le_refl _⟩⟩⟩
    have e : b = s.heap.objs.size := by simpa using hb
    subst e
    exact I.fpOk (Nat.le_refl _) (I.hok.fresh (Nat.le_refl _))
  | text x t =>
    refine wpAny_pyIter_strU ?_
    have hty : strIterType x = "str_ascii_iterator" ∨ strIterType x = "str_iterator" := by
      unfold strIterType
      split
      · exact .inl rfl
      · exact .inr rfl
    refine ⟨s.heap.objs.size, [s.heap.objs.size], _, _, H, rfl, I.kept (t' := s.toks) fun b o e => Heap.get?_push_of_some _ e, turn_str _ x t _ hty, ⟨_, Heap.get?_push_size _ rfl, rfl, rfl⟩, fun b hb => ?_, q _ fun H' ws hw => ?_⟩
    · have e : b = s.heap.objs.size := by simpa using hb
      subst e
      exact I.fpOk (Nat.le_refl _) (I.hok.fresh (Nat.le_refl _))
    · have hw' : ws = signsV x := hw
      subst hw'
      refine ⟨fun i y hy => ?_, ?_⟩
      · unfold signsV at hy
        rw [List.getElem?_map, Array.getElem?_toList] at hy
        obtain ⟨c, hc, rfl⟩ := opt_map hy
        refine ⟨(Array.getElem?_eq_some_iff.mp hc).1, fun z H2 hz => ⟨hz.1, ?_⟩⟩
        obtain ⟨_, c', hc', rfl⟩ := hz
        rw [hc] at hc'; cases hc'
        rfl
      · show x.cps.size ≤ _
        unfold signsV
        simp
theorem di_seq {tg e : Expr} {me : ME} (he : DE X W m e me) : DI X W m tg e (mSeqI me) := by
  refine ⟨fun pins s σ H R I h => ?_⟩
  obtain ⟨A, L, Hz, O, ρ, Qd, Ed, S, hm, k, hE⟩ := h
  refine thn (he.get I S hm hE) fun u s1 ⟨v, H1, d, I1, r1, S1, x1, m1, q1⟩ => ?_
  obtain ⟨ds, e1, q⟩ := q1
  have rb1 : RB (rc X A L) O H1 d v := RM.rb m1 S1.oA
  obtain ⟨sc, rfl, hs⟩ := rb_src (c := rc X A L) (pins := pins) (s := s1) rb1 r1 e1
  obtain ⟨vs, hi, hlen, _⟩ := hs O H1 S1.oA rb1
  have hlim := src_len (c := rc X A L) I1 hi (src_text (rb_text rb1 r1))
  rw [hlen] at hlim
  refine it_src I1 hi fun J hJ => k ds [(d, v)] J H1 q x1 S1.bag (RM.g2 m1) hlim fun O' H' oA hg => ?_
  obtain ⟨ws, hw, hl, hg'⟩ := hs O' H' oA (hg (d, v) (by simp))
  obtain ⟨j1, j2⟩ := hJ H' ws hw
  refine ⟨fun i d' hd => ?_, by rw [← hl]; exact j2⟩
  obtain ⟨x, hx, rx⟩ := hg' i d' hd
  obtain ⟨j3, j4⟩ := j1 i x hx
  exact ⟨j3, fun y H2 hy => by obtain ⟨rfl, rfl⟩ := j4 y H2 hy; exact ⟨.refl, rx⟩⟩

/-! ### range -/
def rngD (lo hi : Int) : List D := (List.range (hi - lo).toNat).map fun k => D.int (lo + (k : Nat))
theorem rng_ok {c : Rc} {lo hi : Int} : IterOk c [] (Itr lo (hi - lo).toNat) (rngD lo hi) := fun O H oA _ => by
  unfold rngD
  refine ⟨fun i d hd => ?_, by show (hi - lo).toNat ≤ _; rw [List.length_map, List.length_range]; exact Nat.le_refl _⟩
  rw [List.getElem?_map] at hd
  obtain ⟨k, hk, rfl⟩ := opt_map hd
  obtain ⟨h1, h2⟩ := List.getElem?_eq_some_iff.mp hk
  rw [List.getElem_range] at h2
  subst h2
  rw [List.length_range] at h1
  exact ⟨h1, fun x H' hx => by obtain ⟨rfl, rfl⟩ := hx; exact ⟨.refl, mk_int⟩⟩
def mRng1 (ma : MA) : MI := fun ρ Q E => ma ρ (fun ds => ∃ j, ds = [.int j] ∧ (-(2 ^ 62) ≤ j ∧ j ≤ 16777216) ∧ Q (rngD 0 j)) E
def mRng2 (ma : MA) : MI := fun ρ Q E => ma ρ (fun ds => ∃ i j, ds = [.int i, .int j] ∧ (-(2 ^ 62) ≤ i ∧ i < 2 ^ 62 ∧ -(2 ^ 62) ≤ j ∧ j < 2 ^ 62 ∧ j - i ≤ 16777216) ∧ Q (rngD i j)) E
theorem PI.imp {tg iter : Expr} {w w' : TI} (h : PI X tg iter w) (i : ∀ σ H R, w' σ H R → w σ H R) : PI X tg iter w' := ⟨fun pins s σ H R I hq => h.run pins s σ H R I (i σ H R hq)⟩
theorem di_rng1 {tg a : Expr} {ma : MA} {p pos : Pos} (hg : Gl X "range") (hm : X.mg "range" = none) (ha : DA X W .al [a] ma) (hs : starEach [a] X.env = [(false, eval a X.env)]) : DI X W m tg (.Call (.Name "range" p) [a] [] pos) (mRng1 ma) :=
  PI.imp (pi_range1 hg hm ha hs) fun σ H R ⟨A, L, Hz, O, ρ, Qd, Ed, S, hm, k, hE⟩ => by
    refine tA.go S hm hE fun ds vs H1 q S1 x1 r1 => ?_
    obtain ⟨j, rfl, ⟨h1, h2⟩, q⟩ := q
    obtain ⟨v, rfl, r⟩ := rbs1 (RMs.rbs S1.oA r1)
    obtain rfl := rb_int r
    have := rng_ok (c := rc X A L) (lo := 0) (hi := j)
    rw [Int.sub_zero] at this
    exact ⟨j, rfl, h1, by omega, k _ [] _ H1 q x1 S1.bag (fun g hg => by simp at hg) (by unfold rngD; rw [List.length_map, List.length_range]; show _ ≤ 16777216; omega) this⟩
theorem di_rng2 {tg a b : Expr} {ma : MA} {p pos : Pos} (hg : Gl X "range") (hm : X.mg "range" = none) (ha : DA X W .al [a, b] ma) (hs : starEach [a, b] X.env = [(false, eval a X.env), (false, eval b X.env)]) (hs2 : starEach [b] X.env = [(false, eval b X.env)]) :
    DI X W m tg (.Call (.Name "range" p) [a, b] [] pos) (mRng2 ma) :=
  PI.imp (pi_range2 hg hm ha hs hs2) fun σ H R ⟨A, L, Hz, O, ρ, Qd, Ed, S, hm, k, hE⟩ => by
    refine tA.go S hm hE fun ds vs H1 q S1 x1 r1 => ?_
    obtain ⟨i, j, rfl, hb, q⟩ := q
    obtain ⟨v, u, rfl, r, r'⟩ := rbs2 (RMs.rbs S1.oA r1)
    obtain rfl := rb_int r
    obtain rfl := rb_int r'
    exact ⟨i, j, rfl, ⟨hb.1, hb.2.1, hb.2.2.1, hb.2.2.2.1⟩, k _ [] _ H1 q x1 S1.bag (fun g hg => by simp at hg) (by unfold rngD; rw [List.length_map, List.length_range]; show _ ≤ 16777216; omega) rng_ok⟩

/-! ### enumerate -/
def enumFrom (k : Nat) : List D → List D
  | [] => []
  | d :: ds => .tup [.int k, d] :: enumFrom (k + 1) ds
theorem enumFrom_get : ∀ {ds : List D} {k i : Nat} {e : D}, (enumFrom k ds)[i]? = some e → ∃ d, ds[i]? = some d ∧ e = .tup [.int ((k + i : Nat) : Int), d]
  | [], k, i, e, h => by simp [enumFrom] at h
  | d :: ds, k, 0, e, h => by
    simp [enumFrom] at h
    exact ⟨d, rfl, by rw [← h]; rfl⟩
  | d :: ds, k, i + 1, e, h => by
    have h' : (enumFrom (k + 1) ds)[i]? = some e := by simpa [enumFrom] using h
    obtain ⟨d', h1, h2⟩ := enumFrom_get h'
    exact ⟨d', by simpa using h1, by rw [h2, show k + 1 + i = k + (i + 1) by omega]⟩
theorem enumFrom_length : ∀ (ds : List D) (k : Nat), (enumFrom k ds).length = ds.length
  | [], k => rfl
  | d :: ds, k => by simp [enumFrom, enumFrom_length ds (k + 1)]
def mEnum (me : ME) : MI := fun ρ Q E => me ρ (fun d => Opt (seqD d) fun ds => Q (enumFrom 0 ds)) E
theorem rv_pair {c : Rc} {p : Addr} {d1 d2 : D} {x y : V} (n : H p = none) (h1 : RV c O H d1 x) (h2 : RV c O H d2 y) : RV c O (upd H p (.tup [x, y])) (.tup [d1, d2]) (.ref p) :=
  mk_tup upd_same ((RVs.cons h1 (.one h2)).kp (Kp.new n))
theorem di_enum {e : Expr} {elts : List Expr} {kk : Nat} {tpos p pos : Pos} {me : ME} (hg : Gl X "enumerate") (hm : X.mg "enumerate" = none) (he : DE X W m e me) (hs : starEach [e] X.env = [(false, eval e X.env)]) :
    DI X W m (.Tuple elts kk tpos) (.Call (.Name "enumerate" p) [e] [] pos) (mEnum me) := by
  refine ⟨fun pins s σ H R I h => ?_⟩
  obtain ⟨A, L, Hz, O, ρ, Qd, Ed, S, hmm, k, hE⟩ := h
  refine Call_ (ld_blt I hg hm boot_enumerate (PyProof.Rows.callWith_type1 (thn ((pa_cons he pa_nil hs).run pos pins s σ H (fun vs H1 => ∃ v d, vs = [v] ∧ SE (rc X A L) Hz O ρ σ H1 ∧ Ex (rc X A L) H H1 ∧ RM m (rc X A L) O H H1 d v ∧ Opt (seqD d) fun ds => Qd (enumFrom 0 ds)) I
    (tE.go S hmm hE fun d v H1 q S1 x1 r1 => ⟨v, d, rfl, S1, x1, r1, q⟩)) fun us s1 ⟨vs, H1, I1, r1, q1⟩ => ?_) hs rfl))
  obtain ⟨v, d, rfl, S1, x1, m1, ds, e1, q⟩ := q1
  obtain ⟨u, rfl, rv⟩ := vals1 r1
  have rb1 : RB (rc X A L) O H1 d v := RM.rb m1 S1.oA
  obtain ⟨sc, rfl, hsc⟩ := rb_src (c := rc X A L) (pins := pins) (s := s1) rb1 rv e1
  obtain ⟨ws, hi, hlen, _⟩ := hsc O H1 S1.oA rb1
  have hlim := src_len (c := rc X A L) I1 hi (src_text (rb_text rb1 rv))
  rw [hlen] at hlim
  obtain ⟨Hh, B, hB⟩ := Sc.begins I1 hi
  refine enum_begins1 B hB fun h' hen hit hsz hk => wpAny_pyIter_enum hen ?_
  have I2 : Inv X pins σ H1 { s1 with heap := h' } := I1.kept (t' := s1.toks) hk
  refine ⟨s1.heap.objs.size + 1, [s1.heap.objs.size + 1, s1.heap.objs.size], _, _, H1, rfl, I2, turn_enumS sc (s1.heap.objs.size + 1) s1.heap.objs.size, ⟨⟨.none, hen⟩, Sc.st0 hit, Nat.succ_ne_self _⟩, fun b hb => ?_, k _ [(d, v)] _ H1 q x1 S1.bag (RM.g2 m1) (by rw [enumFrom_length]; exact hlim) fun O' H' oA hg => ?_⟩
  · have e' : b = s1.heap.objs.size + 1 ∨ b = s1.heap.objs.size := by simpa using hb
    have hle : s1.heap.objs.size ≤ b := by
      rcases e' with z | z
      · rw [z]; exact Nat.le_add_right _ _
      · rw [z]; exact Nat.le_refl _
    exact I1.fpOk hle (I1.hok.fresh hle)
  · obtain ⟨xs, hx, hl, hget⟩ := hsc O' H' oA (hg (d, v) (by simp))
    refine ⟨fun i e hd => ?_, ⟨xs, hx, by rw [enumFrom_length, hl]⟩⟩
    obtain ⟨d', hd', rfl⟩ := enumFrom_get hd
    obtain ⟨x, hx1, rx⟩ := hget i d' hd'
    refine ⟨⟨xs, x, hx, hx1⟩, fun y H2 hy => ?_⟩
    obtain ⟨T, x', rfl, nT, rfl, hh⟩ := hy
    have := hh xs hx
    rw [hx1] at this; cases this
    refine ⟨New.upd nT, ?_⟩
    rw [Nat.zero_add]
    exact rv_pair nT mk_int rx

/-! ### zip -/
def zipD : List D → List D → List D
  | a :: as, b :: bs => .tup [a, b] :: zipD as bs
  | _, _ => []
theorem zipD_get : ∀ {as bs : List D} {i : Nat} {e : D}, (zipD as bs)[i]? = some e → ∃ a b, as[i]? = some a ∧ bs[i]? = some b ∧ e = .tup [a, b]
  | [], bs, i, e, h => by simp [zipD] at h
  | a :: as, [], i, e, h => by simp [zipD] at h
  | a :: as, b :: bs, 0, e, h => by
    simp [zipD] at h
    exact ⟨a, b, rfl, rfl, h.symm⟩
  | a :: as, b :: bs, i + 1, e, h => by
    have h' : (zipD as bs)[i]? = some e := by simpa [zipD] using h
    obtain ⟨x, y, h1, h2, h3⟩ := zipD_get h'
    exact ⟨x, y, by simpa using h1, by simpa using h2, h3⟩
theorem zipD_length : ∀ (as bs : List D), (zipD as bs).length = min as.length bs.length
  | [], bs => by simp [zipD]
  | a :: as, [] => by simp [zipD]
  | a :: as, b :: bs => by simp [zipD, zipD_length as bs]
def mZip (ma mb : ME) : MI := fun ρ Q E => ma ρ (fun x => mb ρ (fun y => Opt (seqD x) fun as => Opt (seqD y) fun bs => Q (zipD as bs)) E) E
theorem zap {N : Nat} : ZAp (N + 4) (N + 2) (N + 3) N (N + 1) :=
  ⟨show (N + 2 : Nat) ≠ N + 4 by omega, show (N + 3 : Nat) ≠ N + 4 by omega, show (N + 2 : Nat) ≠ N + 3 by omega, show (N + 2 : Nat) ≠ N by omega, show (N + 2 : Nat) ≠ N + 1 by omega, show (N + 4 : Nat) ≠ N by omega, show (N + 4 : Nat) ≠ N + 1 by omega, show (N + 3 : Nat) ≠ N by omega, show (N + 3 : Nat) ≠ N + 1 by omega, show (N : Nat) ≠ N + 1 by omega⟩
theorem di_zip {e e2 : Expr} {elts : List Expr} {kk : Nat} {tpos p pos : Pos} {ma mb : ME} (hg : Gl X "zip") (hm : X.mg "zip" = none) (ha : DE X W m e ma) (hb : DE X W m e2 mb)
    (hs : starEach [e, e2] X.env = (false, eval e X.env) :: starEach [e2] X.env) (hs2 : starEach [e2] X.env = (false, eval e2 X.env) :: starEach [] X.env) (hpl : (backTo pos (starEach [e2] X.env)).any (·.1) = false) :
    DI X W m (.Tuple elts kk tpos) (.Call (.Name "zip" p) [e, e2] [] pos) (mZip ma mb) := by
  refine ⟨fun pins s σ H R I h => ?_⟩
  obtain ⟨A, L, Hz, O, ρ, Qd, Ed, S, hmm, k, hE⟩ := h
  refine Call_ (ld_blt I hg hm PyProof.Rows.boot_zip (PyProof.Rows.callWith_type1 (thn ((pa_cons ha (pa_cons hb pa_nil hs2) hs).run pos pins s σ H (fun vs H1 => ∃ v d v2 d2, vs = [v, v2] ∧ SE (rc X A L) Hz O ρ σ H1 ∧ Ex (rc X A L) H H1 ∧ RM m (rc X A L) O H H1 d v ∧ RM m (rc X A L) O H H1 d2 v2 ∧ Opt (seqD d) fun as => Opt (seqD d2) fun bs => Qd (zipD as bs)) I
    (tE.go S hmm hE fun d v H1 q S1 x1 r1 => tE.go S1 q hE fun d2 v2 H2 q2 S2 x2 r2 => ⟨v, d, v2, d2, rfl, S2, x1.trans x2, RM.ex r1 x2 S2.oA, RM.back r2 x1 S.oA, q2⟩)) fun us s1 ⟨vs, H1, I1, r1, q1⟩ => ?_) hs hpl))
  obtain ⟨v, d, v2, d2, rfl, S1, x1, m1, m2, as, e1, bs, e2', q⟩ := q1
  obtain ⟨u, u2, rfl, rv, rv2⟩ := vals2 r1
  have rb1 : RB (rc X A L) O H1 d v := RM.rb m1 S1.oA
  have rb2 : RB (rc X A L) O H1 d2 v2 := RM.rb m2 S1.oA
  obtain ⟨sa, rfl, hsa⟩ := rb_src (c := rc X A L) (pins := pins) (s := s1) rb1 rv e1
  obtain ⟨sb, rfl, hsb⟩ := rb_src (c := rc X A L) (pins := pins) (s := s1) rb2 rv2 e2'
  obtain ⟨ws, hi, hlen, _⟩ := hsa O H1 S1.oA rb1
  have hlim := src_len (c := rc X A L) I1 hi (src_text (rb_text rb1 rv))
  rw [hlen] at hlim
  obtain ⟨ws2, hi2, _, _⟩ := hsb O H1 S1.oA rb2
  obtain ⟨Ha, Ba, hBa⟩ := Sc.begins I1 hi
  obtain ⟨Hb, Bb, hBb⟩ := Sc.begins I1 hi2
  refine zip_begins2 Ba Bb hBa hBb fun h' hz hTI hTO hit1 hit2 hsz hk => wpAny_pyIter_zip hz ?_
  have I2 : Inv X pins σ H1 { s1 with heap := h' } := I1.kept (t' := s1.toks) hk
  refine ⟨s1.heap.objs.size + 4, [s1.heap.objs.size + 4, s1.heap.objs.size + 2, s1.heap.objs.size + 3, s1.heap.objs.size, s1.heap.objs.size + 1], _, _, H1, rfl, I2, turn_zipS (sa := sa) (sb := sb) zap, ⟨hz, hTI, ⟨_, _, hTO⟩, Sc.st0 hit1, Sc.st0 hit2⟩, fun c hcm => ?_, k _ [(d, v), (d2, v2)] _ H1 q x1 S1.bag (fun g hg => ?_) (by rw [zipD_length]; omega) fun O' H' oA hg => ?_⟩
  · have e' : c = s1.heap.objs.size + 4 ∨ c = s1.heap.objs.size + 2 ∨ c = s1.heap.objs.size + 3 ∨ c = s1.heap.objs.size ∨ c = s1.heap.objs.size + 1 := by simpa using hcm
    have hle : s1.heap.objs.size ≤ c := by
      rcases e' with z | z | z | z | z
      · rw [z]; exact Nat.le_add_right _ _
      · rw [z]; exact Nat.le_add_right _ _
      · rw [z]; exact Nat.le_add_right _ _
      · rw [z]; exact Nat.le_refl _
      · rw [z]; exact Nat.le_add_right _ _
    exact I1.fpOk hle (I1.hok.fresh hle)
  · have hg' : g = (d, v) ∨ g = (d2, v2) := by simpa using hg
    rcases hg' with rfl | rfl
    · exact RM.g2 m1 _ (by simp)
    · exact RM.g2 m2 _ (by simp)
  · obtain ⟨xs, hx, hl, hget⟩ := hsa O' H' oA (hg (d, v) (by simp))
    obtain ⟨ys, hy, hl2, hget2⟩ := hsb O' H' oA (hg (d2, v2) (by simp))
    refine ⟨fun i e hd => ?_, ⟨xs, ys, hx, hy, by rw [zipD_length, hl]; omega, by rw [zipD_length, hl2]; omega, by rw [zipD_length, hl, hl2]; omega⟩⟩
    obtain ⟨a', b', ha', hb', rfl⟩ := zipD_get hd
    obtain ⟨x, hx1, rx⟩ := hget i a' ha'
    obtain ⟨y, hy1, ry⟩ := hget2 i b' hb'
    refine ⟨⟨xs, ys, x, y, hx, hy, hx1, hy1⟩, fun z H2 hz => ?_⟩
    obtain ⟨T, x', y', rfl, nT, rfl, hh, hh2⟩ := hz
    have e3 := hh xs hx
    have e4 := hh2 ys hy
    rw [hx1] at e3; cases e3
    rw [hy1] at e4; cases e4
    exact ⟨New.upd nT, rv_pair nT rx ry⟩
end
end Ev

/-! Ev11: for, while, list comprehensions, methods of own lists, defs. -/
namespace Ev
open PySem PySem.Spec L2
open PyProof.Rows hiding St
variable [Tbl]
section
variable {X : Cx} {W : WX} {m : Md} {A : Addr} {L : LT} {Hz : Hp} {O O0 : Od} {gh : Gh} {ρ : EnvD} {σ : St} {H H' : Hp} {Ed : Exc → Prop} {K : SEnds} {Dn : Ends} {pos : Pos}

theorem Bag.newH {c : Rc} (b : Bag c H) (n : New H H') : Bag c H' := by
  obtain ⟨ne, b0, b1, b2, ns, h0, h1, h2, h3, h4, h5, hA, hL, hT⟩ := b
  exact ⟨ne, b0, b1, b2, ns, h0, h1, h2, h3, h4, h5, n.1 _ _ hA, n.1 _ _ hL, LamX.Tabs.ext hT n.1⟩
theorem New.ex {c : Rc} (n : New H H') : Ex c H H' := fun b o h _ => n.1 b o h
theorem RVs.of_get {c : Rc} {ds : List D} {i : Nat} (h : ¬ i < ds.length) : ds.drop i = [] := List.drop_eq_nil_of_le (by omega)

/-! ### for -/
def forE (g : MG) (b : MS) : List D → EnvD → SEnds → Prop
  | [], ρ, K => K.nx ρ
  | d :: ds, ρ, K => g d ρ fun ρ1 => b ρ1 { K with nx := fun ρ' => forE g b ds ρ' K, ct := fun ρ' => forE g b ds ρ' K, bk := K.nx }
def mFor (f : Nat → Bool) (mi : MI) (g : MG) (b : MS) : MS := fun ρ K => mi (frzE f ρ) (fun ds => forE g b ds (frzE f ρ) K) K.ex
theorem ds_for {tg iter : Expr} {body : List Stmt} {mi : MI} {g : MG} {b : MS} (f : Nat → Bool) (hp : PassesOwn (model X.prog X.w) X.A X.env X.xe) (hc : X.calm = true) (hi : DI X W .vl tg iter mi) (hg : DG X tg g) (hb : DSs X W body b)
    (hs : ∀ x, foldedSetIterable iter X.env x = pure x) : DS X W (.For tg iter body [] pos) (mFor f mi g b) :=
  PS.imp (ps_for hp hc hi hg hb hs) fun Dn σ H ⟨A, L, O0, gh, ρ, K, S, h, l⟩ => by
    have S0 := S.frz f
    refine ⟨A, L, _, _, _, _, K.ex, S0.se, h, fun ds gs J H1 q x1 b1 hg _ hJ => ?_, l.exO⟩
    have S1 := (S0.ex x1 b1).push (g := gs) fun x hx => hg x hx
    refine ⟨fun i n σ H => n = ds.length - i ∧ i ≤ ds.length ∧ ∃ ρ, SS (rc X A L) X O0 (gs ++ gh) ρ σ H ∧ forE g b (ds.drop i) ρ K, ⟨_, rfl, Nat.zero_le _, _, S1, q⟩, ?_⟩
    rintro i n σ2 H2 ⟨rfl, hi, ρ2, S2, q2⟩
    obtain ⟨j1, j2⟩ := hJ _ H2 S2.se.oA fun x hx => RV.rb S2.se.oA (S2.gh x (List.mem_append_left _ hx))
    by_cases hlt : i < ds.length
    · obtain ⟨jg, jy⟩ := j1 i _ (List.getElem?_eq_getElem hlt)
      refine .inr ⟨jg, fun σ' H' => i + 1 ≤ ds.length ∧ ∃ ρ, SS (rc X A L) X O0 (gs ++ gh) ρ σ' H' ∧ forE g b (ds.drop (i + 1)) ρ K, fun σ' H' hN => ⟨_, by omega, rfl, hN⟩, fun x H3 hy => ?_⟩
      obtain ⟨n3, r3⟩ := jy x H3 hy
      have S3 := S2.ex n3.ex (S2.se.bag.newH n3)
      rw [List.drop_eq_getElem_cons hlt] at q2
      refine ⟨A, L, O0, gs ++ gh, ρ2, _, _, S3, r3, q2, fun ρ4 σ4 H4 q4 S4 => ⟨A, L, O0, gs ++ gh, ρ4, _, S4, q4, ?_⟩⟩
      exact ⟨fun ρ' σ' H' q' S' => ⟨hlt, ρ', S', q'⟩, l.rt, fun ρ' σ' H' q' S' => l.nx ρ' σ' H' q' S'.drop, fun ρ' σ' H' q' S' => ⟨hlt, ρ', S', q'⟩, l.ex⟩
    · have e : i = ds.length := by omega
      subst e
      rw [List.drop_length] at q2
      exact .inl ⟨j2, l.nx ρ2 σ2 H2 q2 S2.drop⟩

/-! ### while -/
def whileN (c : MT) (b : MS) : Nat → EnvD → SEnds → Prop
  | 0, _, _ => False
  | n + 1, ρ, K => c ρ (fun t => if t = true then b ρ { K with nx := fun ρ' => whileN c b n ρ' K, ct := fun ρ' => whileN c b n ρ' K, bk := K.nx } else K.nx ρ) K.ex
def mWhile (c : MT) (b : MS) : MS := fun ρ K => ∃ n, whileN c b n ρ K
theorem ds_while {c : Expr} {body : List Stmt} {mc : MT} {b : MS} (hp : PassesOwn (model X.prog X.w) X.A X.env X.xe) (hc : DT X W c mc) (hb : DSs X W body b) : DS X W (.While c body [] pos) (mWhile mc b) :=
  PS.imp (ps_while hp hc hb) fun Dn σ H ⟨A, L, O0, gh, ρ, K, S, ⟨n, h⟩, l⟩ => by
    refine ⟨fun n σ H => ∃ ρ, SS (rc X A L) X O0 gh ρ σ H ∧ whileN mc b n ρ K, ⟨n, ρ, S, h⟩, ?_⟩
    rintro n σ2 H2 ⟨ρ2, S2, q2⟩
    cases n with
    | zero => exact False.elim q2
    | succ n =>
      refine tT.st S2 q2 l fun t H3 q3 S3 => ?_
      cases t with
      | true =>
        refine ⟨fun σ' H' => ∃ ρ, SS (rc X A L) X O0 gh ρ σ' H' ∧ whileN mc b n ρ K, fun σ' H' hN => ⟨n, Nat.lt_succ_self n, hN⟩, A, L, O0, gh, ρ2, _, S3, q3, ?_⟩
        exact ⟨fun ρ' σ' H' q' S' => ⟨ρ', S', q'⟩, l.rt, fun ρ' σ' H' q' S' => l.nx ρ' σ' H' q' S', fun ρ' σ' H' q' S' => ⟨ρ', S', q'⟩, l.ex⟩
      | false => exact l.nx ρ2 σ2 H3 q3 S3

/-! ### methods of own lists -/
def ownD : Slot → Option (List D)
  | .own ds => some ds
  | _ => none
def ownL (i : Nat) (ρ : EnvD) : Option (List D) := match ρ[i]? with
  | some (some (.own ds)) => some ds
  | _ => none
theorem ownL_get {i : Nat} {ds : List D} (h : ownL i ρ = some ds) : ρ[i]? = some (some (.own ds)) := by
  unfold ownL at h
  split at h
  · rename_i e; cases h; exact e
  · cases h
theorem SS.list {c : Rc} (S : SS c X O0 gh ρ σ H) {i : Nat} {ds : List D} (h : ownL i ρ = some ds) : ∃ a vs, σ[i]? = some (some (.ref a)) ∧ H a = some (.lst vs) ∧ RVs c (OS O0 ρ σ) H ds vs ∧ ¬ av c a := by
  obtain ⟨v, h1, a, vs, rfl, n, h2, r⟩ := S.se.slots i _ (ownL_get h)
  exact ⟨a, vs, h1, h2, r, n⟩
theorem SS.chgL {c : Rc} (S : SS c X O0 gh ρ σ H) {i : Nat} {ds es : List D} {a : Addr} {vs us : List V} (h : ownL i ρ = some ds) (h1 : σ[i]? = some (some (.ref a))) (h2 : H a = some (.lst vs)) (r : RVs c (OS O0 ρ σ) H es us) :
    SS c X O0 gh (setE i (.own es) ρ) σ (upd H a (.lst us)) := by
  have hi := ownL_get h
  have ow : OS O0 ρ σ a := .inr ⟨i, _, hi, rfl, h1⟩
  exact S.chg hi rfl rfl h1 h2 trivial ⟨a, us, rfl, (S.own a ⟨i, _, hi, rfl, h1⟩).2.1, upd_same, r.kp (Kp.wr h2 trivial ow)⟩
theorem tyL {c : Rc} (hK : c.K = X.K) {a : Addr} {vs : List V} (h : H a = some (.lst vs)) : tyV X.K "list" (.ref a) H := .inl ⟨rfl, vs, .of h⟩
/-- the receiver an own list, the arguments kept -/
theorem bm_go {i : Nat} {ma : MA} {Qd : List D → Prop} {r : V → List V → Hp → VK → Prop} {Q : VK} {ds : List D} (S : SS (rc X A L) X O0 gh ρ σ H) (ho : ownL i ρ = some ds) (hm : ma ρ Qd K.ex) (l : LK (rc X A L) X W O0 gh K Dn)
    (k : ∀ es us a vs H1, Qd es → SS (rc X A L) X O0 gh ρ σ H1 → RVs (rc X A L) (OS O0 ρ σ) H1 es us → σ[i]? = some (some (.ref a)) → H1 a = some (.lst vs) → RVs (rc X A L) (OS O0 ρ σ) H1 ds vs → r (.ref a) us H1 Q) :
    tBM X.K "list" r (tVar i) (tA X W .vl ma) σ H Q := by
  obtain ⟨a, vs, h1, h2, _, nA⟩ := S.list ho
  refine ⟨.ref a, h1, tyL (c := rc X A L) rfl h2, A, L, _, _, ρ, Qd, K.ex, S.se, hm, fun es us H1 q x b rs => ?_, l.exO⟩
  have S1 := S.ex x b
  obtain ⟨a', vs', h1', h2', r2, _⟩ := S1.list ho
  rw [h1] at h1'; cases h1'
  exact k es us a vs' H1 q S1 rs.vl h1 h2' r2
def mAppend (i : Nat) (ma : MA) : MS := fun ρ K => Opt (ownL i ρ) fun ds => ma ρ (fun es => ∃ d, es = [d] ∧ ds.length < lim ∧ K.nx (setE i (.own (ds ++ [d])) ρ)) K.ex
theorem ds_append {e : Expr} {ma : MA} (i : Nat) (hp : PE X e (tBM X.K "list" rAppend (tVar i) (tA X W .vl ma))) (hs : swapsWith e none pos.line X.env = pure false) : DS X W (.Expr e pos) (mAppend i ma) :=
  PS.imp (ps_expr hp hs) fun Dn σ H ⟨A, L, O0, gh, ρ, K, S, ⟨ds, ho, h⟩, l⟩ => bm_go S ho h l fun es us a vs H1 q S1 ru h1 h2 rv => by
    obtain ⟨d, rfl, hl, q⟩ := q
    obtain ⟨u, rfl, hu⟩ : ∃ u, us = [u] ∧ RV (rc X A L) (OS O0 ρ σ) H1 d u := by
      unfold RVs at ru
      obtain ⟨v, r, rfl, h, hs⟩ := ru
      unfold RVs at hs
      subst hs
      exact ⟨v, rfl, h⟩
    exact ⟨a, vs, u, rfl, rfl, h2, by rw [rv.length, ← lim_eq]; exact hl, l.nx _ _ _ q (S1.chgL ho h1 h2 (rv.append (.one hu)))⟩
def mExtend (i : Nat) (ma : MA) : MS := fun ρ K => Opt (ownL i ρ) fun ds => ma ρ (fun es => ∃ fs, es = [.lst fs] ∧ ds.length + fs.length ≤ lim ∧ K.nx (setE i (.own (ds ++ fs)) ρ)) K.ex
theorem ds_extend {e : Expr} {ma : MA} (i : Nat) (hp : PE X e (tBM X.K "list" rExtend (tVar i) (tA X W .vl ma))) (hs : swapsWith e none pos.line X.env = pure false) : DS X W (.Expr e pos) (mExtend i ma) :=
  PS.imp (ps_expr hp hs) fun Dn σ H ⟨A, L, O0, gh, ρ, K, S, ⟨ds, ho, h⟩, l⟩ => bm_go S ho h l fun es us a vs H1 q S1 ru h1 h2 rv => by
    obtain ⟨fs, rfl, hl, q⟩ := q
    unfold RVs at ru
    obtain ⟨v, r, rfl, h, hs⟩ := ru
    unfold RVs at hs
    subst hs
    obtain ⟨b, ws, rfl, _, hb, rw'⟩ := rv_lst h
    exact ⟨a, b, vs, ws, rfl, rfl, h2, hb, by rw [rv.length, rw'.length, ← lim_eq]; exact hl, l.nx _ _ _ q (S1.chgL ho h1 h2 (rv.append rw'))⟩
/-- y = x.pop() -/
def mPop (j i : Nat) : MS := fun ρ K => Opt (ownL i ρ) fun ds => Opt ds.getLast? fun d => K.nx (setE j (.val d) (setE i (.own ds.dropLast) ρ))
theorem last_get {α : Type} (ds : List α) : ds[ds.length - 1]? = ds.getLast? := by rw [List.getLast?_eq_getElem?]
theorem RVs.dropLast {c : Rc} {ds : List D} {vs : List V} (r : RVs c O H ds vs) : RVs c O H ds.dropLast vs.dropLast := by
  rw [List.dropLast_eq_take, List.dropLast_eq_take, r.length]
  exact r.take _
theorem ds_pop {x : Str} {e : Expr} {p : Pos} (j i : Nat) (hN : X.N.Nodup) (hj : X.N[j]? = some x) (hx : Loc X.env.scope x) (hf : X.fn x = true ∨ X.env.scope.names.lookup x = some .local)
    (hp : PE X e (tBM0 X.K "list" rPop (tVar i))) (hs : swapsWith e (some (.Name x p)) pos.line X.env = pure false) : DS X W (.Assign [.Name x p] e pos) (mPop j i) :=
  PS.imp (ps_set hN hj hx hp hs hf) fun Dn σ H ⟨A, L, O0, gh, ρ, K, S, ⟨ds, ho, d, hd, h⟩, l⟩ => by
    obtain ⟨a, vs, h1, h2, r, nA⟩ := S.list ho
    rw [← last_get] at hd
    obtain ⟨v, hv, rv⟩ := r.get hd
    refine ⟨.ref a, h1, tyL (c := rc X A L) rfl h2, a, vs, v, rfl, rfl, h2, by rw [r.length]; exact hv, ?_⟩
    have ow : OS O0 ρ σ a := .inr ⟨i, _, ownL_get ho, rfl, h1⟩
    have S1 := S.chgL ho h1 h2 r.dropLast
    refine l.nx _ _ _ h (S1.setV .refl S1.se.bag ?_)
    have kk : Kp (OS O0 ρ σ) H (upd H a (.lst vs.dropLast)) := Kp.wr h2 trivial ow
    refine (rv.kp kk).anti fun b z => z.imp id ?_
    rintro ⟨q, t, g1, g2, g3⟩
    rcases getSet g1 with ⟨rfl, e, _⟩ | ⟨ne, g1⟩
    · exact ⟨q, _, ownL_get ho, rfl, g3⟩
    · exact ⟨q, t, g1, g2, g3⟩

/-! ### list comprehensions, one clause -/
/-- the names of the block forgotten -/
def wipeE (ρ : EnvD) : List Nat → EnvD
  | [] => ρ
  | v :: vs => (wipeE ρ vs).set v none
abbrev WF : WX := fun _ _ _ _ => False
theorem wipeE_get {i : Nat} {s : Slot} : ∀ {vs : List Nat} {ρ : EnvD}, (wipeE ρ vs)[i]? = some (some s) → ρ[i]? = some (some s) ∧ i ∉ vs
  | [], ρ, h => ⟨h, by simp⟩
  | v :: vs, ρ, h => by
    unfold wipeE at h
    by_cases hi : i = v
    · subst hi
      by_cases hl : i < (wipeE ρ vs).length
      · rw [List.getElem?_set_self hl] at h; cases h
      · rw [List.getElem?_eq_none (by simpa using hl)] at h; cases h
    · rw [List.getElem?_set_ne (Ne.symm hi)] at h
      obtain ⟨h1, h2⟩ := wipeE_get h
      exact ⟨h1, by simp only [List.mem_cons, not_or]; exact ⟨hi, h2⟩⟩
theorem wipe_get {i : Nat} : ∀ {vs : List Nat} {σ : St}, i ∉ vs → (wipe σ vs)[i]? = σ[i]?
  | [], σ, _ => rfl
  | v :: vs, σ, h => by
    simp only [List.mem_cons, not_or] at h
    unfold wipe
    rw [List.getElem?_set_ne (Ne.symm h.1)]
    exact wipe_get h.2
theorem wipeE_length (ρ : EnvD) : ∀ vs, (wipeE ρ vs).length = ρ.length
  | [] => rfl
  | v :: vs => by show ((wipeE ρ vs).set v none).length = _; rw [List.length_set, wipeE_length ρ vs]
theorem SE.wipe {c : Rc} (S : SE c Hz O ρ σ H) (vs : List Nat) : SE c Hz O (wipeE ρ vs) (L2.wipe σ vs) H :=
  ⟨S.bag, S.ext, S.oA, S.oT, fun i s h => by
    obtain ⟨h1, h2⟩ := wipeE_get h
    obtain ⟨v, g1, g2⟩ := S.slots i s h1
    exact ⟨v, by rw [wipe_get h2]; exact g1, g2⟩, by rw [L2.wipe_length, wipeE_length, S.len]⟩
theorem wipe_set {i : Nat} {x : Option V} : ∀ {vs : List Nat} {σ : St}, i ∈ vs → L2.wipe (σ.set i x) vs = L2.wipe σ vs
  | [], σ, h => by simp at h
  | v :: vs, σ, h => by
    show (L2.wipe (σ.set i x) vs).set v none = (L2.wipe σ vs).set v none
    by_cases hm : i ∈ vs
    · rw [wipe_set hm]
    · have hv : i = v := by
        rcases List.mem_cons.mp h with e | e
        · exact e
        · exact absurd e hm
      subst hv
      apply List.ext_getElem?
      intro j
      by_cases hj : j = i
      · subst hj
        rw [List.getElem?_set, List.getElem?_set]
        simp only [if_true, L2.wipe_length, List.length_set, ite_true]
        try rfl
        try (simp)
      · rw [List.getElem?_set_ne (Ne.symm hj), List.getElem?_set_ne (Ne.symm hj)]
        by_cases hjv : j ∈ vs
        · have aux : ∀ (ws : List Nat) (τ : St), j ∈ ws → (L2.wipe τ ws)[j]? = if j < τ.length then some none else none := by
            intro ws
            induction ws with
            | nil => intro τ h; simp at h
            | cons w ws ih =>
              intro τ h
              show ((L2.wipe τ ws).set w none)[j]? = _
              by_cases hw : w = j
              · subst hw
                rw [List.getElem?_set]
                simp only [if_true, L2.wipe_length]
              · rw [List.getElem?_set_ne hw]
                rcases List.mem_cons.mp h with e | e
                · exact absurd e.symm hw
                · exact ih τ e
          rw [aux vs _ hjv, aux vs _ hjv, List.length_set]
        · rw [wipe_get hjv, wipe_get hjv, List.getElem?_set_ne (Ne.symm hj)]
theorem SE.setV {c : Rc} (S : SE c Hz O ρ σ H) {i : Nat} {d : D} {v : V} (r : RV c O H d v) : SE c Hz O (setE i (.val d) ρ) (σ.set i (some v)) H :=
  ⟨S.bag, S.ext, S.oA, S.oT, fun j s h => by
    rcases getSet h with ⟨rfl, e, hl'⟩ | ⟨ne, h⟩
    · cases e
      exact ⟨v, List.getElem?_set_self (by rw [S.len]; exact hl'), r⟩
    · obtain ⟨w, h1, h2⟩ := S.slots j s h
      exact ⟨w, by rw [setNe ne]; exact h1, h2⟩, by unfold setE; simp [S.len]⟩
/-- own lists are where they were -/
def Nw (ρ : EnvD) (σ : St) (ρ' : EnvD) (σ' : St) : Prop := ∀ (i : Nat) (s : Slot), ρ'[i]? = some (some s) → isOwn s = true → ρ[i]? = some (some s) ∧ σ'[i]? = σ[i]?
theorem Nw.refl : Nw ρ σ ρ σ := fun _ _ h _ => ⟨h, rfl⟩
theorem Nw.trans {ρ1 ρ2 : EnvD} {σ1 σ2 : St} (h : Nw ρ σ ρ1 σ1) (h' : Nw ρ1 σ1 ρ2 σ2) : Nw ρ σ ρ2 σ2 := fun i s e o => by
  obtain ⟨e1, e2⟩ := h' i s e o
  obtain ⟨e3, e4⟩ := h i s e1 o
  exact ⟨e3, e2.trans e4⟩
theorem Nw.set {i : Nat} {d : D} {x : Option V} : Nw ρ σ (setE i (.val d) ρ) (σ.set i x) := fun j s e o => by
  rcases getSet e with ⟨rfl, e1, _⟩ | ⟨ne, e1⟩
  · cases e1; cases o
  · exact ⟨e1, setNe ne⟩
theorem Nw.wipe {vs : List Nat} : Nw ρ σ (wipeE ρ vs) (L2.wipe σ vs) := fun i s e o => by
  obtain ⟨h1, h2⟩ := wipeE_get e
  exact ⟨h1, wipe_get h2⟩
/-- targets within a block: the block's names (at vs) alone are stored -/
def tG1 (X : Cx) (vs : List Nat) (mg : MG) : TG := fun v σ H Q => ∃ A L Hz O ρ d Qd, SE (rc X A L) Hz O ρ σ H ∧ RV (rc X A L) O H d v ∧ mg d ρ Qd ∧
  ∀ ρ' σ', Qd ρ' → SE (rc X A L) Hz O ρ' σ' H → L2.wipe σ' vs = L2.wipe σ vs → Nw ρ σ ρ' σ' → Q σ' H
def DG1 (X : Cx) (vs : List Nat) (t : Expr) (mg : MG) : Prop := PG X t (tG1 X vs mg)
def tGs1 (X : Cx) (vs : List Nat) (mg : MGs) : TGs := fun us σ H Q => ∃ A L Hz O ρ ds Qd, SE (rc X A L) Hz O ρ σ H ∧ RVs (rc X A L) O H ds us ∧ mg ds ρ Qd ∧
  ∀ ρ' σ', Qd ρ' → SE (rc X A L) Hz O ρ' σ' H → L2.wipe σ' vs = L2.wipe σ vs → Nw ρ σ ρ' σ' → Q σ' H
def DGs1 (X : Cx) (vs : List Nat) (t : List Expr) (mg : MGs) : Prop := PGs X t (tGs1 X vs mg)
theorem dg1_name {vs : List Nat} {x : Str} {p : Pos} (i : Nat) (hN : X.N.Nodup) (hi : X.N[i]? = some x) (hx : Loc X.env.scope x) (hm : i ∈ vs) (hf : X.fn x = true ∨ X.env.scope.names.lookup x = some .local) : DG1 X vs (.Name x p) (gN i) :=
  PG.imp (pg_name hN hi hx hf) fun v σ H Q ⟨A, L, Hz, O, ρ, d, Qd, S, r, q, k⟩ => k _ _ q (S.setV r) (wipe_set hm) .set
theorem dgs1_nil {vs : List Nat} : DGs1 X vs [] gNilD := PGs.imp pgs_nil fun v σ H Q ⟨A, L, Hz, O, ρ, ds, Qd, S, r, ⟨e, q⟩, k⟩ => by
  subst e
  unfold RVs at r
  exact ⟨r, k _ _ q S rfl .refl⟩
theorem dgs1_cons {vs : List Nat} {e : Expr} {es : List Expr} {g : MG} {r : MGs} (h1 : DG1 X vs e g) (h2 : DGs1 X vs es r) (hs : (assignEach (e :: es) X.env).map (·.2) = assign e X.env :: (assignEach es X.env).map (·.2)) : DGs1 X vs (e :: es) (gConsD g r) :=
  PGs.imp (pgs_cons h1 h2 hs) fun us σ H Q ⟨A, L, Hz, O, ρ, ds, Qd, S, r, ⟨d, ds', e, q⟩, k⟩ => by
    subst e
    unfold RVs at r
    obtain ⟨v, vr, rfl, h, hr⟩ := r
    refine ⟨v, vr, rfl, A, L, Hz, O, ρ, d, _, S, h, q, fun ρ' σ' q' S' hw hn => ?_⟩
    exact ⟨A, L, Hz, O, ρ', ds', Qd, S', hr, q', fun ρ2 σ2 q2 S2 hw2 hn2 => k ρ2 σ2 q2 S2 (hw2.trans hw) (hn.trans hn2)⟩
theorem dg1_tup {vs : List Nat} {es : List Expr} {k n : Nat} {r : MGs} {p : Pos} (hc : X.calm = true) (h : DGs1 X vs es r) (hn : (assignEach es X.env).length = n) (hst : (assignEach es X.env).findIdx? (·.1) = none) : DG1 X vs (.Tuple es k p) (gTupD n r) :=
  PG.imp (pg_tup hc h hn hst) fun v σ H Q ⟨A, L, Hz, O, ρ, d, Qd, S, rv, ⟨ds, e, hl, q⟩, kk⟩ => by
    subst e
    obtain ⟨a, us, rfl, hs, r⟩ := rv_tup rv
    exact ⟨a, us, rfl, hs, by rw [r.length, hl], A, L, Hz, O, ρ, ds, Qd, S, r, q, kk⟩
def DTs (X : Cx) (W : WX) (ifs : List Expr) (mt : MT) : Prop := PTs X ifs (tT X W mt)
def mYes : MT := fun _ Q _ => Q true
theorem PTs.imp {ifs : List Expr} {t t' : TT} (h : PTs X ifs t) (i : ∀ σ H Q, t' σ H Q → t σ H Q) : PTs X ifs t' := ⟨fun pins s σ H Q I hq => h.run pins s σ H Q I (i σ H Q hq)⟩
theorem dts_nil : DTs X W [] mYes := PTs.imp pts_nil fun σ H Q ⟨A, L, Hz, O, ρ, Qd, Ed, S, hm, k, hE⟩ => k true H hm .refl S.bag
theorem dts_one {c : Expr} {mt : MT} (h : DT X W c mt) : DTs X W [c] mt := pts_one h
def lcE (vs : List Nat) (mg : MG) (mt : MT) (me : ME) : List D → EnvD → List D → (List D → Prop) → Prop
  | [], ρ, acc, Q => Q acc
  | d :: ds, ρ, acc, Q => mg d (wipeE ρ vs) fun ρ1 => mt ρ1 (fun b => if b = true then me ρ1 (fun y => lcE vs mg mt me ds ρ (acc ++ [y]) Q) (fun _ => False) else lcE vs mg mt me ds ρ acc Q) (fun _ => False)
def mLc (vs : List Nat) (mi : MI) (mg : MG) (mt : MT) (me : ME) : ME := fun ρ Q E => mi ρ (fun ds => lcE vs mg mt me ds ρ [] fun ys => Q (.lst ys)) E
theorem lc_go {vs : List Nat} {mi : MI} {mg : MG} {mt : MT} {me : ME} {Qd : D → Prop} {Q : VK} (S : SE (rc X A L) Hz O ρ σ H) (hm : mLc vs mi mg mt me ρ Qd Ed) (hE : ∀ x, Ed x → Bad (rc X A L) O Hz W x)
    (k : ∀ w H1 d, Ex (rc X A L) H H1 → Bag (rc X A L) H1 → RF (rc X A L) O H H1 d w → Qd d → Q w H1) : tLc (tI X W .al mi) (tG1 X vs mg) (tT X WF mt) (tE X WF .vl me) vs σ H Q := by
  refine ⟨A, L, Hz, O, ρ, _, Ed, S, hm, fun ds gs J H1 q x1 b1 hg hlim hJ => ?_, hE⟩
  intro Dl nD
  have S1 := S.ex x1 b1
  have nO : ¬ O Dl := oNew S1 nD
  have nA : ¬ av (rc X A L) Dl := fun z => nO (S.oA _ z)
  -- the avoided ones, with the new list
  have oo : ∀ b, (O b ∨ b = Dl) → O b ∨ H1 b = none := fun b z => z.imp id fun e => by rw [e]; exact nD
  have SD : ∀ H2, Ex (rc X A L) (upd H1 Dl (.lst [])) H2 → True := fun _ _ => trivial
  -- the state within the block, whatever stands at the new list
  let Ok : Hp → Prop := fun H2 => SE (rc X A L) Hz (fun b => O b ∨ b = Dl) ρ σ H2 ∧ Ex (rc X A L) H1 H2 ∧ ∀ g ∈ gs, RB (rc X A L) (fun b => O b ∨ b = Dl) H2 g.1 g.2
  have slotN : ∀ {s : Slot} {v : V} {o : HO}, SlotOk (rc X A L) O H1 s v → SlotOk (rc X A L) (fun b => O b ∨ b = Dl) (upd H1 Dl o) s v := fun h => h.go (Kp.new nD) oo (Kp.new nD)
  have ok0 : Ok (upd H1 Dl (.lst [])) := by
    refine ⟨⟨b1.new nD, S1.ext.trans (Kp.new nD), fun b z => .inl (S1.oA b z), fun b hb => ?_, fun i s h => ?_, S1.len⟩, Kp.new nD, fun g hg' => ?_⟩
    · rcases hb with hb | rfl
      · intro z
        by_cases e : b = Dl
        · subst e; rw [upd_same] at z; cases z
        · rw [upd_ne e] at z; exact S1.oT b hb z
      · rw [upd_same]; intro z; cases z
    · obtain ⟨v, h1, h2⟩ := S1.slots i s h
      exact ⟨v, h1, slotN h2⟩
    · have r : RB (rc X A L) O H1 g.1 g.2 := hg g hg'
      cases e : g.1 with
      | lst es =>
        rw [e] at r
        obtain ⟨a, ws, e1, n, h1, r⟩ := r
        exact ⟨a, ws, e1, n, by rw [upd_ne (ne_of_none h1 nD)]; exact h1, RVs.go (Kp.new nD) oo _ _ r⟩
      | dct ks es =>
        rw [e] at r
        obtain ⟨a, ws, e1, n, h1, r⟩ := r
        exact ⟨a, ws, e1, n, dctAt_kp (Kp.new (O := fun _ => False) nD) (fun z => z) h1, RVs.go (Kp.new nD) oo _ _ r⟩
      | _ =>
        rw [e] at r
        exact RV.go (Kp.new nD) oo _ _ (show RV (rc X A L) O H1 _ g.2 from r)
  refine ⟨fun i n H2 => n = ds.length - i ∧ i ≤ ds.length ∧ Ok H2 ∧ ∃ acc us, acc.length ≤ i ∧ H2 Dl = some (.lst us) ∧ RVs (rc X A L) (fun b => O b ∨ b = Dl) H2 acc us ∧ lcE vs mg mt me (ds.drop i) ρ acc fun ys => Qd (.lst ys),
    ⟨_, rfl, Nat.zero_le _, ok0, [], [], Nat.le_refl _, upd_same, .nil, q⟩, ?_⟩
  rintro i n H2 ⟨rfl, hi, ⟨S2, x2, g2⟩, acc, us, ha, hD, racc, q2⟩
  obtain ⟨j1, j2⟩ := hJ _ H2 S2.oA g2
  by_cases hlt : i < ds.length
  · obtain ⟨jg, jy⟩ := j1 i _ (List.getElem?_eq_getElem hlt)
    refine .inr ⟨jg, fun H' => i + 1 ≤ ds.length ∧ Ok H' ∧ ∃ acc us, acc.length ≤ i + 1 ∧ H' Dl = some (.lst us) ∧ RVs (rc X A L) (fun b => O b ∨ b = Dl) H' acc us ∧ lcE vs mg mt me (ds.drop (i + 1)) ρ acc fun ys => Qd (.lst ys), fun H' hN => ⟨_, by omega, rfl, hN⟩, fun x H3 hy => ?_⟩
    obtain ⟨n3, r3⟩ := jy x H3 hy
    have b3 := S2.bag.newH n3
    have S3 := S2.ex n3.ex b3
    have x3 := x2.trans (n3.ex (c := rc X A L))
    have g3 : ∀ g ∈ gs, RB (rc X A L) (fun b => O b ∨ b = Dl) H3 g.1 g.2 := fun g h => RB.ex (g2 g h) n3.ex S2.oA
    have hD3 := n3.1 _ _ hD
    have racc3 := racc.kp (n3.ex.kp S2.oA)
    rw [List.drop_eq_getElem_cons hlt] at q2
    refine ⟨A, L, Hz, _, wipeE ρ vs, _, _, S3.wipe vs, r3, q2, fun ρ4 σ4 q4 S4 hw _ => ⟨hw.trans ?_, A, L, Hz, _, ρ4, _, _, S4, q4, fun b H5 q5 x5 b5 => ?_, fun _ z => z.elim⟩⟩
    · have idem : ∀ (ws : List Nat) (τ : St), (∀ v ∈ ws, v ∈ vs) → L2.wipe (L2.wipe τ ws) vs = L2.wipe τ vs := by
        intro ws
        induction ws with
        | nil => intro τ _; rfl
        | cons w ws ih =>
          intro τ h
          show L2.wipe ((L2.wipe τ ws).set w none) vs = _
          rw [wipe_set (h w List.mem_cons_self)]
          exact ih τ fun v hv => h v (List.mem_cons_of_mem _ hv)
      exact idem vs σ fun v hv => hv
    · have S5 := S3.ex x5 b5
      have x5' := x3.trans x5
      have g5 : ∀ g ∈ gs, RB (rc X A L) (fun b => O b ∨ b = Dl) H5 g.1 g.2 := fun g h => RB.ex (g3 g h) x5 S3.oA
      have hD5 := x5 _ _ hD3 (.inl nA)
      have racc5 := racc3.kp (x5.kp S3.oA)
      cases b with
      | false => exact ⟨hlt, ⟨S5, x5', g5⟩, acc, us, by omega, hD5, racc5, q5⟩
      | true =>
        refine ⟨A, L, Hz, _, ρ4, _, _, S4.ex x5 b5, q5, fun y w H6 q6 x6 b6 r6 => ?_, fun _ z => z.elim⟩
        have S6 := S5.ex x6 b6
        have hD6 := x6 _ _ hD5 (.inl nA)
        have racc6 := racc5.kp (x6.kp S5.oA)
        have up : Kp (fun b => O b ∨ b = Dl) H6 (upd H6 Dl (.lst (us ++ [w]))) := Kp.wr hD6 trivial (.inr rfl)
        have exu : Ex (rc X A L) H1 (upd H6 Dl (.lst (us ++ [w]))) := fun b o e m => by
          have nb : b ≠ Dl := fun z => by rw [z, nD] at e; cases e
          rw [upd_ne nb]
          exact (x5'.trans x6) b o e m
        refine ⟨us, hD6, by have := racc6.length; have := hlim; rw [lim_eq] at this; omega, hlt, ⟨⟨?_, S1.ext.trans exu, fun b z => .inl (S.oA b z), fun b hb => ?_, fun j s h => ?_, S.len⟩, exu, fun g h => ?_⟩, acc ++ [y], us ++ [w], by simp; omega, upd_same, (racc6.append (.one r6)).kp up, q6⟩
        · obtain ⟨ne, c0, c1, c2, ns, h0, h1, h2, h3, h4, h5, hA, hLL, hT⟩ := S6.bag
          have nAA : A ≠ Dl := fun z => nA (.inl z.symm)
          have nL : (rc X A L).L ≠ Dl := fun z => (bag_tr b1).2 (by rw [z]; exact nD)
          exact ⟨ne, c0, c1, c2, ns, h0, h1, h2, h3, h4, h5, by rw [upd_ne nAA]; exact hA, by rw [upd_ne nL]; exact hLL, tabs_wr hT hD6 (fun _ z => by cases z) (fun _ z => by cases z) trivial⟩
        · by_cases e : b = Dl
          · subst e; rw [upd_same]; intro z; cases z
          · rw [upd_ne e]; exact S6.oT b hb
        · obtain ⟨v, h1, h2⟩ := S6.slots j s h
          refine ⟨v, h1, ?_⟩
          have nd : ∀ a u, H6 a = some u → (∃ v, σ[j]? = some (some v) ∧ v = .ref a ∧ isOwn s = true) → a ≠ Dl := by
            rintro a u hu ⟨v', hv', rfl, ho⟩ rfl
            obtain ⟨w', g1, g2⟩ := S1.slots j s h
            rw [hv'] at g1; cases g1
            cases s with
            | val d => cases ho
            | own ds => obtain ⟨a', vs', e1, _, e2, _⟩ := g2; cases e1; rw [nD] at e2; cases e2
            | ownd ks ds => obtain ⟨a', vs', e1, _, e2, _⟩ := g2; cases e1; exact dctAt_some e2.at nD
          cases s with
          | val d => exact RV.kp (show RV _ _ _ d v from h2) up
          | own ds =>
            obtain ⟨a, ws, e1, n, e2, r⟩ := h2
            exact ⟨a, ws, e1, n, by rw [upd_ne (nd a _ e2 ⟨v, h1, e1, rfl⟩)]; exact e2, r.kp up⟩
          | ownd ks ds =>
            obtain ⟨a, ws, e1, n, e2, r⟩ := h2
            refine ⟨a, ws, e1, n, ?_, r.kp up⟩
            rcases e2 with ⟨kvs, e2, e3⟩ | ⟨kvs, e2, e3⟩
            · exact .inl ⟨kvs, by rw [upd_ne (nd a _ e2 ⟨v, h1, e1, rfl⟩)]; exact e2, e3⟩
            · exact .inr ⟨kvs, by rw [upd_ne (nd a _ e2 ⟨v, h1, e1, rfl⟩)]; exact e2, e3⟩
        · have r : RB (rc X A L) (fun b => O b ∨ b = Dl) H6 g.1 g.2 := RB.ex (g5 g h) x6 S5.oA
          have r1 : RB (rc X A L) O H1 g.1 g.2 := hg g h
          cases e : g.1 with
          | lst es =>
            rw [e] at r r1
            obtain ⟨a, ws, e1, n, h1, r⟩ := r
            obtain ⟨a', ws', e1', _, h1', _⟩ := r1
            rw [e1] at e1'; cases e1'
            exact ⟨a, ws, e1, n, by rw [upd_ne (ne_of_none h1' nD)]; exact h1, r.kp up⟩
          | dct ks es =>
            rw [e] at r r1
            obtain ⟨a, ws, e1, n, h1, r⟩ := r
            obtain ⟨a', ws', e1', _, h1', _⟩ := r1
            rw [e1] at e1'; cases e1'
            have na : a ≠ Dl := fun z => dctAt_some h1' (by rw [z]; exact nD)
            refine ⟨a, ws, e1, n, ?_, r.kp up⟩
            rcases h1 with ⟨kvs, h1 | ⟨o, h1⟩, z, h2⟩ | ⟨kvs, h1 | ⟨o, h1⟩, z, h2⟩
            · exact .inl ⟨kvs, .inl (by rw [upd_ne na]; exact h1), fun q => by rw [upd_ne na]; exact z q, h2⟩
            · exact .inl ⟨kvs, .inr ⟨o, by rw [upd_ne na]; exact h1⟩, fun q => by rw [upd_ne na]; exact z q, h2⟩
            · exact .inr ⟨kvs, .inl (by rw [upd_ne na]; exact h1), fun q => by rw [upd_ne na]; exact z q, h2⟩
            · exact .inr ⟨kvs, .inr ⟨o, by rw [upd_ne na]; exact h1⟩, fun q => by rw [upd_ne na]; exact z q, h2⟩
          | _ =>
            rw [e] at r
            exact RV.kp (show RV (rc X A L) (fun b => O b ∨ b = Dl) H6 _ g.2 from r) up
  · have e : i = ds.length := by omega
    subst e
    rw [List.drop_length] at q2
    refine .inl ⟨j2, k _ _ (.lst acc) (x1.trans x2) S2.bag ⟨Dl, us, rfl, nO, ex_none x1 nA nD, hD, racc⟩ q2⟩
end
end Ev

/-! Ev12: list comprehensions. -/
namespace Ev
open PySem PySem.Spec L2
open PyProof.Rows hiding St
variable [Tbl]
section
variable {X : Cx} {W : WX} {m : Md} {A : Addr} {L : LT} {Hz : Hp} {O O0 : Od} {gh : Gh} {ρ : EnvD} {σ : St} {H H' : Hp} {Ed : Exc → Prop} {K : SEnds} {Dn : Ends} {pos spos : Pos}
theorem de_lc {elt tg iter : Expr} {ifs : List Expr} {scope : Scope} {own : List (Str × Nat)} {mi : MI} {mg : MG} {mt : MT} {me : ME} (hc : X.calm = true) (hN : X.N.Nodup) (hi : DI X W .al tg iter mi) (ok : BlkOk X.N X.env.scope scope own)
    (hg : ∀ (s : Shared) (H : Hp) (C : Addr) (cl : List (Str × Addr)) (fp : List Addr), DG1 (X.blk s H scope (compEnvC scope cl C X.env) fp) (own.map (·.2)) tg mg) (ht : ∀ (s : Shared) (H : Hp) (C : Addr) (cl : List (Str × Addr)) (fp : List Addr), DTs (X.blk s H scope (compEnvC scope cl C X.env) fp) WF ifs mt)
    (he : ∀ (s : Shared) (H : Hp) (C : Addr) (cl : List (Str × Addr)) (fp : List Addr), DE (X.blk s H scope (compEnvC scope cl C X.env) fp) WF .vl elt me) (hs : ∀ x, foldedSetIterable iter X.env x = pure x := by intro _; rfl) :
    DE X W .fr (.ListComp elt [⟨tg, iter, ifs, 0⟩] scope pos) (mLc (own.map (·.2)) mi mg mt me) :=
  .by (pe_lc (wi := tI X W .al mi) (g := tG1 X (own.map fun p : Str × Nat => p.2) mg) (tt := tT X WF mt) (te := tE X WF .vl me) hc hN hi ok hg ht he hs) fun σ H A L Hz O ρ Qd Ed S hm hE => lc_go S hm hE fun w H1 d x b r q => ⟨d, x, b, r, q⟩
theorem ds_setLc {y : Str} {py : Pos} {elt tg iter : Expr} {ifs : List Expr} {scope : Scope} {own : List (Str × Nat)} {mi : MI} {mg : MG} {mt : MT} {me : ME} (i : Nat) (hc : X.calm = true) (hN : X.N.Nodup) (hy : X.N[i]? = some y) (hyl : X.env.scope.names.lookup y = some .local)
    (hsw : swapsWith (.ListComp elt [⟨tg, iter, ifs, 0⟩] scope pos) (some (.Name y py)) spos.line X.env = pure true) (hi : DI X W .al tg iter mi) (ok : BlkOk X.N X.env.scope scope own)
    (hg : ∀ (s : Shared) (H : Hp) (C : Addr) (cl : List (Str × Addr)) (fp : List Addr), DG1 (X.blk s H scope (compEnvC scope cl C X.env) fp) (own.map (·.2)) tg mg) (ht : ∀ (s : Shared) (H : Hp) (C : Addr) (cl : List (Str × Addr)) (fp : List Addr), DTs (X.blk s H scope (compEnvC scope cl C X.env) fp) WF ifs mt)
    (he : ∀ (s : Shared) (H : Hp) (C : Addr) (cl : List (Str × Addr)) (fp : List Addr), DE (X.blk s H scope (compEnvC scope cl C X.env) fp) WF .vl elt me) (hs : ∀ x, foldedSetIterable iter X.env x = pure x := by intro _; rfl) :
    DS X W (.Assign [.Name y py] (.ListComp elt [⟨tg, iter, ifs, 0⟩] scope pos) spos) (mSet i (mLc (own.map (·.2)) mi mg mt me)) :=
  PS.imp (ps_setLc (wi := tI X W .al mi) (g := tG1 X (own.map fun p : Str × Nat => p.2) mg) (tt := tT X WF mt) (te := tE X WF .vl me) hc hN hy hyl hsw hi ok hg ht he hs) fun Dn σ H ⟨A, L, O0, gh, ρ, K, S, h, l⟩ =>
    show tLc (tI X W .al mi) (tG1 X (own.map fun p : Str × Nat => p.2) mg) (tT X WF mt) (tE X WF .vl me) (own.map fun p : Str × Nat => p.2) σ H (fun w H1 => Dn.nx (σ.set i (some w)) H1) from lc_go S.se h l.exO fun w H1 d x b r q => l.nx _ _ H1 q (S.setF x b r)
end
end Ev

/-! Ev13: a def of the text. -/
namespace Ev
open PySem PySem.Spec L2
open PyProof.Rows hiding St
variable [Tbl]
def startE (N : List Str) (ds : List D) : EnvD := ds.map (fun d => some (.val d)) ++ List.replicate (N.length - ds.length) none
def endsE (Q : D → Prop) (E : Exc → Prop) : SEnds := ⟨fun _ => Q .non, Q, fun _ => False, fun _ => False, E⟩
abbrev WC (E : XK) : WX := fun cls d _ H => E cls d H
theorem startE_get {N : List Str} : ∀ {ds : List D} {n i : Nat} {s : Slot}, (ds.map (fun d => some (Slot.val d)) ++ List.replicate n none)[i]? = some (some s) → ∃ d, ds[i]? = some d ∧ s = .val d
  | [], n, i, s, h => by simp [List.getElem?_replicate] at h
  | d :: ds, n, 0, s, h => by simp at h; exact ⟨d, rfl, h.symm⟩
  | d :: ds, n, i + 1, s, h => by
    have h' : (ds.map (fun d => some (Slot.val d)) ++ List.replicate n none)[i]? = some (some s) := by simpa using h
    obtain ⟨e, h1, h2⟩ := startE_get (N := N) h'
    exact ⟨e, by simpa using h1, h2⟩
theorem start_get : ∀ {vs : List V} {n i : Nat} {v : V}, vs[i]? = some v → (vs.map some ++ List.replicate n (none : Option V))[i]? = some (some v)
  | [], n, i, v, h => by simp at h
  | u :: vs, n, 0, v, h => by simp at h; simp [h]
  | u :: vs, n, i + 1, v, h => by
    have := start_get (vs := vs) (n := n) (i := i) (v := v) (by simpa using h)
    simpa using this
section
variable {P : Program} {w : World} {K : PySem.W.Frag} {mg : Str → Option Value} {base : Heap}
theorem okD {x qual : Str} {st : Stmt} {f : Addr} {fd : FuncData} {N ps : List Str} {k : Nat} {S : FS} {m : MS} (F : Fun K x qual st f fd) (Sc : FnScope N ps (defScope st))
    (hS : ∀ ds Q E, S ds Q E → ds.length = ps.length ∧ m (startE N ds) (endsE Q E))
    (hb : ∀ (cdv : Value) (A : Around) (outer : List Env) (s : Shared) (H : Hp) (E : XK), Room k (A.deeper (envOfC qual (defScope st) s.heap.objs.size f cdv)) →
      DSs (cxOf (L2.CX P w) P w K mg base N qual (defScope st) f cdv A outer s H E) (WC E) (defBody st) m) : FnOk P w K mg base (L2.CX P w) (k + 1) f fd ps (spOf K mg S) := by
  refine F.okX Sc (fun vs H Q E h => ?_) (fun cdv A outer s H vs Q E hr h => ?_)
  · obtain ⟨A, L, O, ds, Qd, Ed, oA, oT, b, r, hs, _⟩ := h
    rw [r.length]
    exact (hS _ _ _ hs).1
  · obtain ⟨Ad, L, O, ds, Qd, Ed, oA, oT, b, r, hs, k1, k2⟩ := h
    obtain ⟨hlen, hm⟩ := hS _ _ _ hs
    have hlen' := r.length
    refine ⟨_, hb cdv A outer s H E hr, Ad, L, O, [], startE N ds, endsE Qd Ed, ?_, hm, ?_⟩
    · have no : ∀ a, ¬ ownAddr (startE N ds) (L2.start N vs) a := by
        rintro a ⟨i, s, h1, h2, _⟩
        obtain ⟨d, _, rfl⟩ := startE_get (N := N) h1
        cases h2
      refine ⟨⟨b, .refl, fun b z => .inl (oA b z), fun c hc => ?_, fun i s h => ?_, ?_⟩, oA, ?_, fun a h => (no a h).elim, fun i j s t a h1 h2 _ _ h5 _ => (no a ⟨i, s, h1, h2, h5⟩).elim, fun g hg => by simp at hg⟩
      · rcases hc with hc | hc
        · exact oT c hc
        · exact (no c hc).elim
      · obtain ⟨d, h1, rfl⟩ := startE_get (N := N) h
        obtain ⟨v, h2, h3⟩ := r.get h1
        refine ⟨v, start_get h2, ?_⟩
        show RV _ _ _ d v
        exact RV.anti h3 fun c hc => hc.elim id fun z => (no c z).elim
      · unfold L2.start startE; simp [hlen']
      · unfold L2.start startE; simp [hlen']
    · refine ⟨fun ρ' σ' H' q S' => ?_, fun d v H' q x b' r' => k1 d v H' q x b' r', fun _ _ _ z => z.elim, fun _ _ _ z => z.elim, fun y hy σ' H' cv dd x b' r' => k2 y hy H' cv dd x b' r'⟩
      exact k1 .non .non H' q S'.se.ext S'.se.bag mk_non
end
end Ev

/-! Ev14: the rules as the printer writes them. -/
namespace Ev
open PySem PySem.Spec L2
open PyProof.Rows hiding St
variable [Tbl]
/-- builtin names that no line of the text stores -/
structure Bi (mg : Str → Option Value) : Prop where
  len : mg "len" = none
  range : mg "range" = none
  tuple : mg "tuple" = none
  list : mg "list" = none
  int : mg "int" = none
  bool : mg "bool" = none
  str : mg "str" = none
  dict : mg "dict" = none
  set : mg "set" = none
  isinstance : mg "isinstance" = none
  sorted : mg "sorted" = none
  enumerate : mg "enumerate" = none
  zip : mg "zip" = none
  all : mg "all" = none
  any : mg "any" = none
  sum : mg "sum" = none
  min : mg "min" = none
  max : mg "max" = none
  abs : mg "abs" = none
  repr : mg "repr" = none
/-- a def of the text, by its name -/
structure Df (P : Program) (w : World) (K : PySem.W.Frag) (mg : Str → Option Value) (base : Heap) (k : Nat) (x : Str) (S : FS) : Prop where
  ex : ∃ (f : Addr) (fd : FuncData) (ps : List Str), FnOk P w K mg base (L2.CX P w) k f fd ps (spOf K mg S) ∧ mg x = some (.ref f) ∧ PySem.W.keepIn K (.ref f) = true ∧ Binds K fd ps []
abbrev DfX (X : Cx) (k : Nat) (x : Str) (S : FS) : Prop := Df X.prog X.w X.K X.mg X.base k x S
section
variable {X : Cx} {W : WX} {m : Md} {pos : Pos}
theorem xv {x : Str} (i : Nat) (hN : X.N[i]? = some x := by rfl) (hv : Vis X.env.scope x := by first | exact Or.inl rfl | exact Or.inr (Or.inl rfl) | exact Or.inr (Or.inr rfl)) (hd : (x == ("__debug__" : Str)) = false := by decide) (hcd : (x == ("__classdict__" : Str)) = false := by decide) : DE X W .al (.Name x pos) (mVar i) := de_var i hN hv hd hcd
theorem xk {x : Str} (i : Nat) (hN : X.N[i]? = some x := by rfl) (hv : Vis X.env.scope x := by first | exact Or.inl rfl | exact Or.inr (Or.inl rfl) | exact Or.inr (Or.inr rfl)) (hd : (x == ("__debug__" : Str)) = false := by decide) (hcd : (x == ("__classdict__" : Str)) = false := by decide) : DE X W .vl (.Name x pos) (mKp i) := de_kp i hN hv hd hcd
theorem xfn {k : Nat} {x : Str} {S : FS} (G : DfX X k x S) (hg : Gl X x := by rfl) (hd : (x == ("__debug__" : Str)) = false := by decide) : DE X W m (.Name x pos) (mC (.fn x)) := by
  obtain ⟨f, fd, ps, _, hm, _⟩ := G.ex
  exact de_fn hg hm hd
theorem xs {x : Str} {j pos} (h : (decide (x.length ≤ 16777216) && PyData.strOk x) = true := by decide +kernel) : DE X W m (.Constant (.str x) j pos) (mC (.str x)) := de_str h
/-- arguments -/
theorem a0 : DA X W m [] mNil := da_nil
theorem ac {e : Expr} {es : List Expr} {ma : ME} {mr : MA} (ha : DE X W m e ma) (hr : DA X W m es mr) (hs : starEach (e :: es) X.env = (false, eval e X.env) :: starEach es X.env := by rfl) : DA X W m (e :: es) (mCons ma mr) := da_cons ha hr hs
theorem b0 : DB X W [] nNil := db_nil
theorem bc {e : Expr} {es : List Expr} {ma : ME} {mr : MB} (ha : DE X W .vl e ma) (hr : DB X W es mr) (hs : starEach (e :: es) X.env = (false, eval e X.env) :: starEach es X.env := by rfl) : DB X W (e :: es) (nCons ma mr) := db_cons ha hr hs
theorem bn {x : Str} {p : Pos} {es : List Expr} {mr : MB} (i : Nat) (hr : DB X W es mr) (hN : X.N[i]? = some x := by rfl) (hv : Vis X.env.scope x := by first | exact Or.inl rfl | exact Or.inr (Or.inl rfl) | exact Or.inr (Or.inr rfl)) (hd : (x == ("__debug__" : Str)) = false := by decide) (hcd : (x == ("__classdict__" : Str)) = false := by decide)
    (hs : starEach (.Name x p :: es) X.env = (false, eval (.Name x p) X.env) :: starEach es X.env := by rfl) : DB X W (.Name x p :: es) (nName i mr) := db_name i hN hv hd hcd hr hs
theorem xcall {k : Nat} {S : FS} {x : Str} {e : Expr} {es : List Expr} {mb : MB} {p : Pos} (G : DfX X k x S) (hr : Room k X.A) (tk : Takes X W) (ha : DB X W (e :: es) mb)
    (hg : Gl X x := by rfl) (hdb : (x == ("__debug__" : Str)) = false := by decide) (he : starEach (e :: es) X.env = (false, eval e X.env) :: starEach es X.env := by rfl) (hpl : (backTo pos (starEach es X.env)).any (·.1) = false := by rfl) :
    DE X W .vl (.Call (.Name x p) (e :: es) [] pos) (mCall S mb) := by
  obtain ⟨f, fd, ps, F, hm, hk, hb⟩ := G.ex
  exact de_call F hr tk hg hm hk hb ha hdb he hpl
theorem xblt {x : Str} {id : String} {g : List D → Option D} {e : Expr} {es : List Expr} {ma : MA} {p : Pos} (hc : DCall X (.builtin id) g) (hm : X.mg x = none) (hg : Gl X x) (hv : bootBuiltins x = some (.builtin id)) (hn : x ≠ "__name__") (hdb : (x == ("__debug__" : Str)) = false) (ha : DA X W .al (e :: es) ma)
    (he : starEach (e :: es) X.env = (false, eval e X.env) :: starEach es X.env := by rfl) (hpl : (backTo pos (starEach es X.env)).any (·.1) = false := by rfl) : DE X W m (.Call (.Name x p) (e :: es) [] pos) (mBlt g ma) := de_blt hc hg hm hv ha hn hdb he hpl
theorem xbty {x : Str} {T : String} {g : List D → Option D} {e : Expr} {es : List Expr} {ma : MA} {p : Pos} (hc : DCall X (.type T) g) (hm : X.mg x = none) (hg : Gl X x) (hv : bootBuiltins x = some (.type T)) (hn : x ≠ "__name__") (hdb : (x == ("__debug__" : Str)) = false) (ha : DA X W .al (e :: es) ma)
    (he : starEach (e :: es) X.env = (false, eval e X.env) :: starEach es X.env := by rfl) (hpl : (backTo pos (starEach es X.env)).any (·.1) = false := by rfl) : DE X W m (.Call (.Name x p) (e :: es) [] pos) (mBlt g ma) := de_bty hc hg hm hv ha hn hdb he hpl
theorem xlen {e : Expr} {es : List Expr} {ma : MA} {p : Pos} (B : Bi X.mg) (ha : DA X W .al (e :: es) ma) (hg : Gl X "len" := by rfl)
    (he : starEach (e :: es) X.env = (false, eval e X.env) :: starEach es X.env := by rfl) (hpl : (backTo pos (starEach es X.env)).any (·.1) = false := by rfl) : DE X W m (.Call (.Name "len" p) (e :: es) [] pos) (mBlt bLen ma) :=
  xblt (dc_len) B.len hg (by decide +kernel) (by decide) (by decide) ha he hpl
theorem xtuple {e : Expr} {es : List Expr} {ma : MA} {p : Pos} (B : Bi X.mg) (ha : DA X W .al (e :: es) ma) (hg : Gl X "tuple" := by rfl)
    (he : starEach (e :: es) X.env = (false, eval e X.env) :: starEach es X.env := by rfl) (hpl : (backTo pos (starEach es X.env)).any (·.1) = false := by rfl) : DE X W m (.Call (.Name "tuple" p) (e :: es) [] pos) (mBlt bTuple ma) :=
  xbty (dc_tuple) B.tuple hg (by decide +kernel) (by decide) (by decide) ha he hpl
theorem xlist {e : Expr} {es : List Expr} {ma : MA} {p : Pos} (B : Bi X.mg) (ha : DA X W .al (e :: es) ma) (hg : Gl X "list" := by rfl)
    (he : starEach (e :: es) X.env = (false, eval e X.env) :: starEach es X.env := by rfl) (hpl : (backTo pos (starEach es X.env)).any (·.1) = false := by rfl) : DE X W m (.Call (.Name "list" p) (e :: es) [] pos) (mBlt bList ma) :=
  xbty (dc_list) B.list hg (by decide +kernel) (by decide) (by decide) ha he hpl
theorem xint {e : Expr} {es : List Expr} {ma : MA} {p : Pos} (B : Bi X.mg) (ha : DA X W .al (e :: es) ma) (hg : Gl X "int" := by rfl)
    (he : starEach (e :: es) X.env = (false, eval e X.env) :: starEach es X.env := by rfl) (hpl : (backTo pos (starEach es X.env)).any (·.1) = false := by rfl) : DE X W m (.Call (.Name "int" p) (e :: es) [] pos) (mBlt bInt ma) :=
  xbty (dc_int) B.int hg (by decide +kernel) (by decide) (by decide) ha he hpl
theorem xabs {e : Expr} {es : List Expr} {ma : MA} {p : Pos} (B : Bi X.mg) (ha : DA X W .al (e :: es) ma) (hg : Gl X "abs" := by rfl)
    (he : starEach (e :: es) X.env = (false, eval e X.env) :: starEach es X.env := by rfl) (hpl : (backTo pos (starEach es X.env)).any (·.1) = false := by rfl) : DE X W m (.Call (.Name "abs" p) (e :: es) [] pos) (mBlt bAbs ma) :=
  xblt (dc_abs) B.abs hg (by decide +kernel) (by decide) (by decide) ha he hpl
theorem xsum {e : Expr} {es : List Expr} {ma : MA} {p : Pos} (B : Bi X.mg) (ha : DA X W .al (e :: es) ma) (hc : X.calm = true := by rfl) (hg : Gl X "sum" := by rfl)
    (he : starEach (e :: es) X.env = (false, eval e X.env) :: starEach es X.env := by rfl) (hpl : (backTo pos (starEach es X.env)).any (·.1) = false := by rfl) : DE X W m (.Call (.Name "sum" p) (e :: es) [] pos) (mBlt bSum ma) :=
  xblt (dc_sum hc) B.sum hg (by decide +kernel) (by decide) (by decide) ha he hpl
theorem xall {e : Expr} {es : List Expr} {ma : MA} {p : Pos} (B : Bi X.mg) (ha : DA X W .al (e :: es) ma) (hc : X.calm = true := by rfl) (hg : Gl X "all" := by rfl)
    (he : starEach (e :: es) X.env = (false, eval e X.env) :: starEach es X.env := by rfl) (hpl : (backTo pos (starEach es X.env)).any (·.1) = false := by rfl) : DE X W m (.Call (.Name "all" p) (e :: es) [] pos) (mBlt bAll ma) :=
  xblt (dc_all hc) B.all hg (by decide +kernel) (by decide) (by decide) ha he hpl
theorem xany {e : Expr} {es : List Expr} {ma : MA} {p : Pos} (B : Bi X.mg) (ha : DA X W .al (e :: es) ma) (hc : X.calm = true := by rfl) (hg : Gl X "any" := by rfl)
    (he : starEach (e :: es) X.env = (false, eval e X.env) :: starEach es X.env := by rfl) (hpl : (backTo pos (starEach es X.env)).any (·.1) = false := by rfl) : DE X W m (.Call (.Name "any" p) (e :: es) [] pos) (mBlt bAny ma) :=
  xblt (dc_any hc) B.any hg (by decide +kernel) (by decide) (by decide) ha he hpl
theorem xisi {k : Cl} {y : Str} {e : Expr} {me : ME} {p p2 : Pos} (B : Bi X.mg) (he : DE X W .al e me) (hm2 : X.mg y = none) (hy : y = Str.ofString k.nm := by rfl) (hg : Gl X "isinstance" := by rfl) (hg2 : Gl X y := by rfl)
    (hs : starEach [e, .Name y p2] X.env = (false, eval e X.env) :: starEach [.Name y p2] X.env := by rfl) (hs2 : starEach [.Name y p2] X.env = (false, eval (.Name y p2) X.env) :: starEach [] X.env := by rfl) (hpl : (backTo pos (starEach [.Name y p2] X.env)).any (·.1) = false := by rfl) :
    DE X W m (.Call (.Name "isinstance" p) [e, .Name y p2] [] pos) (mIs k me) := de_isi rfl hy hg B.isinstance hg2 hm2 he hs hs2 hpl
end
end Ev

/-! Ev15: freezing at a statement, parallel stores. -/
namespace Ev
open PySem PySem.Spec L2
open PyProof.Rows hiding St
variable [Tbl]
section
variable {X : Cx} {W : WX} {m : Md} {A : Addr} {L : LT} {Hz : Hp} {O O' O0 : Od} {gh : Gh} {ρ : EnvD} {σ : St} {H H0 H1 H' : Hp} {Ed : Exc → Prop} {K : SEnds} {Dn : Ends} {pos : Pos}
def mFrz (f : Nat → Bool) (m : MS) : MS := fun ρ K => m (frzE f ρ) K
theorem ds_frz {st : Stmt} {m : MS} (f : Nat → Bool) (h : DS X W st m) : DS X W st (mFrz f m) :=
  PS.imp h fun Dn σ H ⟨A, L, O0, gh, ρ, K, S, hm, l⟩ => ⟨A, L, O0, gh, frzE f ρ, K, S.frz f, hm, l⟩
/-! ### several values, each new or kept -/
def SF (c : Rc) (O : Od) (H0 H : Hp) : Slot → V → Prop
  | .val d, v => RV c O H d v
  | .own ds, v => RF c O H0 H (.lst ds) v
  | .ownd ks ds, v => RF c O H0 H (.dct ks ds) v
def gO (O : Od) : Slot → V → Od
  | .own _, .ref a => fun b => O b ∨ b = a
  | .ownd _ _, .ref a => fun b => O b ∨ b = a
  | _, _ => O
theorem gO_sub {s : Slot} {v : V} : ∀ b, O b → gO O s v b := by
  intro b h
  cases s <;> cases v <;> first | exact h | exact .inl h
theorem RF.anti {c : Rc} {d : D} {v : V} (h : RF c O H0 H d v) (a : ∀ b, O' b → O b) : RF c O' H0 H d v := by
  cases d with
  | lst ds =>
    obtain ⟨x, vs, e, n, n0, h1, r⟩ := h
    exact ⟨x, vs, e, fun z => n (a _ z), n0, h1, r.anti fun b z => z.imp (a b) id⟩
  | dct ks ds =>
    obtain ⟨x, vs, e, n, n0, h1, r⟩ := h
    exact ⟨x, vs, e, fun z => n (a _ z), n0, h1, r.anti fun b z => z.imp (a b) id⟩
  | _ => exact RV.anti h a
theorem SF.anti {c : Rc} {s : Slot} {v : V} (h : SF c O H0 H s v) (a : ∀ b, O' b → O b) : SF c O' H0 H s v := by
  cases s with
  | val d => exact RV.anti h a
  | own ds => exact RF.anti (show RF c O H0 H (.lst ds) v from h) a
  | ownd ks ds => exact RF.anti (show RF c O H0 H (.dct ks ds) v from h) a
theorem SF.of_fr {c : Rc} {d : D} {v : V} (h : RF c O H0 H d v) : SF c O H0 H (slotOf d) v := by
  cases d <;> exact h
theorem gO_new {c : Rc} {s : Slot} {v : V} (h : SF c O H0 H s v) : ∀ b, gO O s v b → O b ∨ (H0 b = none ∧ H b ≠ none) := by
  intro b g
  cases s with
  | val d => exact .inl g
  | own ds =>
    obtain ⟨x, vs, rfl, n, n0, h1, r⟩ := h
    rcases g with g | rfl
    · exact .inl g
    · exact .inr ⟨n0, by rw [h1]; intro z; cases z⟩
  | ownd ks ds =>
    obtain ⟨x, vs, rfl, n, n0, h1, r⟩ := h
    rcases g with g | rfl
    · exact .inl g
    · exact .inr ⟨n0, dctAt_some h1.at⟩
theorem SE.grow (S : SE (rc X A L) Hz O ρ σ H) {s : Slot} {v : V} (x : Ex (rc X A L) H H1) (b : Bag (rc X A L) H1) (r : SF (rc X A L) O H H1 s v) : SE (rc X A L) Hz (gO O s v) ρ σ H1 := by
  have S1 := S.ex x b
  have g := gO_new r
  refine ⟨b, S1.ext, fun y z => gO_sub _ (S.oA y z), fun y hy => ?_, fun i t h => ?_, S.len⟩
  · rcases g y hy with z | z
    · exact S1.oT y z
    · exact z.2
  · obtain ⟨w, h1, h2⟩ := S.slots i t h
    exact ⟨w, h1, h2.go (x.kp S.oA) (fun y hy => (g y hy).imp id And.left) x⟩
theorem own_set {i : Nat} {s : Slot} {v : V} (hl : σ.length = ρ.length) : ∀ x, OS O0 (ρ.set i (some s)) (σ.set i (some v)) x → gO (OS O0 ρ σ) s v x := by
  rintro x (h | ⟨j, t, h1, h2, h3⟩)
  · exact gO_sub _ (.inl h)
  · rcases getSet h1 with ⟨rfl, e, hj⟩ | ⟨ne, h1⟩
    · cases e
      rw [List.getElem?_set_self (by rw [hl]; exact hj)] at h3
      cases h3
      cases s with
      | val d => cases h2
      | own ds => exact .inr rfl
      | ownd ks ds => exact .inr rfl
    · rw [setNe ne] at h3
      exact gO_sub _ (.inr ⟨j, t, h1, h2, h3⟩)
theorem SS.setS {c : Rc} (S : SS c X O0 gh ρ σ H) {i : Nat} {s : Slot} {v : V} (e : Ex c H H') (b : Bag c H') (r : SF c (OS O0 ρ σ) H H' s v) : SS c X O0 gh (ρ.set i (some s)) (σ.set i (some v)) H' := by
  cases s with
  | val d => exact S.setV e b r
  | own ds => exact S.setF (d := .lst ds) e b r
  | ownd ks ds => exact S.setF (d := .dct ks ds) e b r
/-- values one after the other, from H to H' -/
def Chn (c : Rc) : Od → Hp → Hp → List Slot → List V → Prop
  | _, H, H', [], vs => vs = [] ∧ Ex c H H'
  | O, H, H', s :: ss, vs => ∃ v r H1, vs = v :: r ∧ Ex c H H1 ∧ Bag c H1 ∧ SF c O H H1 s v ∧ Chn c (gO O s v) H1 H' ss r
abbrev MF := EnvD → (List Slot → Prop) → (Exc → Prop) → Prop
def tFs (X : Cx) (W : WX) (mf : MF) : TA := fun σ H Q => ∃ A L Hz O ρ Qd Ed, SE (rc X A L) Hz O ρ σ H ∧ mf ρ Qd Ed ∧
  (∀ ss vs H', Qd ss → Bag (rc X A L) H' → Chn (rc X A L) O H H' ss vs → Q vs H') ∧ ∀ x, Ed x → Bad (rc X A L) O Hz W x
def DFs (X : Cx) (W : WX) (es : List Expr) (mf : MF) : Prop := PA X es (tFs X W mf)
def fNil : MF := fun _ Q _ => Q []
def fFr (me : ME) (mr : MF) : MF := fun ρ Q E => me ρ (fun d => mr ρ (fun ss => Q (slotOf d :: ss)) E) E
def fVl (me : ME) (mr : MF) : MF := fun ρ Q E => me ρ (fun d => mr ρ (fun ss => Q (.val d :: ss)) E) E
theorem f0 : DFs X W [] fNil := PA.imp pa_nil fun σ H Q ⟨A, L, Hz, O, ρ, Qd, Ed, S, hm, k, hE⟩ => k [] [] H hm S.bag ⟨rfl, .refl⟩
theorem ff {e : Expr} {es : List Expr} {me : ME} {mr : MF} (he : DE X W .fr e me) (hr : DFs X W es mr) (hs : starEach (e :: es) X.env = (false, eval e X.env) :: starEach es X.env := by rfl) : DFs X W (e :: es) (fFr me mr) :=
  PA.imp (pa_cons he hr hs) fun σ H Q ⟨A, L, Hz, O, ρ, Qd, Ed, S, hm, k, hE⟩ => by
    refine tE.go S hm hE fun d v H1 q S1 x1 r1 => ?_
    have r1 : SF (rc X A L) O H H1 (slotOf d) v := SF.of_fr r1
    exact ⟨A, L, Hz, _, ρ, _, Ed, S.grow x1 S1.bag r1, q, fun ss vs H2 q2 b2 c2 => k _ _ H2 q2 b2 ⟨v, vs, H1, rfl, x1, S1.bag, r1, c2⟩, fun y hy => (hE y hy).anti gO_sub⟩
theorem fv {e : Expr} {es : List Expr} {me : ME} {mr : MF} (he : DE X W .vl e me) (hr : DFs X W es mr) (hs : starEach (e :: es) X.env = (false, eval e X.env) :: starEach es X.env := by rfl) : DFs X W (e :: es) (fVl me mr) :=
  PA.imp (pa_cons he hr hs) fun σ H Q ⟨A, L, Hz, O, ρ, Qd, Ed, S, hm, k, hE⟩ => by
    refine tE.go S hm hE fun d v H1 q S1 x1 r1 => ?_
    have r1 : SF (rc X A L) O H H1 (.val d) v := r1
    exact ⟨A, L, Hz, _, ρ, _, Ed, S.grow x1 S1.bag r1, q, fun ss vs H2 q2 b2 c2 => k _ _ H2 q2 b2 ⟨v, vs, H1, rfl, x1, S1.bag, r1, c2⟩, fun y hy => (hE y hy).anti gO_sub⟩
/-- stored one after the other -/
def setsE : List Nat → List Slot → EnvD → EnvD
  | i :: is, s :: ss, ρ => setsE is ss (setE i s ρ)
  | _, _, ρ => ρ
def setsV : List Nat → List V → St → St
  | i :: is, v :: vs, σ => setsV is vs (σ.set i (some v))
  | _, _, σ => σ
theorem SS.sets {c : Rc} : ∀ (is : List Nat) (ss : List Slot) (vs : List V) {ρ : EnvD} {σ : St} {H H' : Hp}, SS c X O0 gh ρ σ H → Bag c H' → Chn c (OS O0 ρ σ) H H' ss vs → ss.length = is.length → SS c X O0 gh (setsE is ss ρ) (setsV is vs σ) H'
  | [], [], vs, ρ, σ, H, H', S, b, ch, _ => by
    obtain ⟨rfl, x⟩ := ch
    exact S.ex x b
  | i :: is, s :: ss, vs, ρ, σ, H, H', S, b, ch, hl => by
    obtain ⟨v, r, H1, rfl, x1, b1, r1, ch⟩ := ch
    have S1 := S.setS (i := i) x1 b1 r1
    refine SS.sets is ss r S1 b ?_ (by simpa using hl)
    exact Chn.anti (own_set S.len) ch
  | [], _ :: _, _, _, _, _, _, _, _, _, hl => by simp at hl
  | _ :: _, [], _, _, _, _, _, _, _, _, hl => by simp at hl
where
  Chn.anti {c : Rc} : ∀ {ss : List Slot} {vs : List V} {O O' : Od} {H H' : Hp}, (∀ b, O' b → O b) → Chn c O H H' ss vs → Chn c O' H H' ss vs
  | [], vs, O, O', H, H', a, h => h
  | s :: ss, vs, O, O', H, H', a, ⟨v, r, H1, e, x, b, f, h⟩ => ⟨v, r, H1, e, x, b, f.anti a, Chn.anti (fun y hy => by
      cases s <;> cases v <;> first | exact a y hy | exact hy.imp (a y) id) h⟩
def mPar (is : List Nat) (mf : MF) : MS := fun ρ K => mf ρ (fun ss => ss.length = is.length ∧ K.nx (setsE is ss ρ)) K.ex
theorem ds_par {x y : Str} {a b : Expr} {mf : MF} {px py pt : Pos} {kt k2 pt2} (i j : Nat) (hc : X.calm = true) (hN : X.N.Nodup) (hi : X.N[i]? = some x) (hj : X.N[j]? = some y) (hij : i ≠ j)
    (hx : X.env.scope.names.lookup x = some .local) (hy : X.env.scope.names.lookup y = some .local) (ha : DFs X W [a, b] mf)
    (hw : swappedStores [.Tuple [.Name x px, .Name y py] kt pt] (.Tuple [a, b] k2 pt2) X.env = pure (some [x, y]))
    (hs : swapsWithSole [.Tuple [.Name x px, .Name y py] kt pt] (.Tuple [a, b] k2 pt2) pos.line X.env = pure false := by rfl) :
    DS X W (.Assign [.Tuple [.Name x px, .Name y py] kt pt] (.Tuple [a, b] k2 pt2) pos) (mPar [i, j] mf) :=
  PS.imp (ps_par hc hN hi hj hij hx hy ha hw hs) fun Dn σ H ⟨A, L, O0, gh, ρ, K, S, h, l⟩ => by
    refine ⟨A, L, _, _, ρ, _, K.ex, S.se, h, fun ss vs H' q b' ch => ?_, l.exO⟩
    have S' := SS.sets [i, j] ss vs S b' ch q.1
    match ss, q.1 with
    | [s, t], _ =>
      obtain ⟨v, r, H1, rfl, _, _, _, ch⟩ := ch
      obtain ⟨u, r, H2, rfl, _, _, _, ch⟩ := ch
      obtain ⟨rfl, _⟩ := ch
      exact ⟨v, u, rfl, l.nx _ _ _ q.2 S'⟩
theorem ds_par3 {x y z : Str} {a b d : Expr} {mf : MF} {px py pz pt : Pos} {kt k2 pt2} (i j n : Nat) (hc : X.calm = true) (hN : X.N.Nodup) (hi : X.N[i]? = some x) (hj : X.N[j]? = some y) (hn : X.N[n]? = some z) (hij : i ≠ j) (hil : i ≠ n) (hjl : j ≠ n)
    (hx : X.env.scope.names.lookup x = some .local) (hy : X.env.scope.names.lookup y = some .local) (hz : X.env.scope.names.lookup z = some .local) (ha : DFs X W [a, b, d] mf)
    (hw : swappedStores [.Tuple [.Name x px, .Name y py, .Name z pz] kt pt] (.Tuple [a, b, d] k2 pt2) X.env = pure (some [x, y, z]))
    (hs : swapsWithSole [.Tuple [.Name x px, .Name y py, .Name z pz] kt pt] (.Tuple [a, b, d] k2 pt2) pos.line X.env = pure false := by rfl) :
    DS X W (.Assign [.Tuple [.Name x px, .Name y py, .Name z pz] kt pt] (.Tuple [a, b, d] k2 pt2) pos) (mPar [i, j, n] mf) :=
  PS.imp (ps_par3 hc hN hi hj hn hij hil hjl hx hy hz ha hw hs) fun Dn σ H ⟨A, L, O0, gh, ρ, K, S, h, l⟩ => by
    refine ⟨A, L, _, _, ρ, _, K.ex, S.se, h, fun ss vs H' q b' ch => ?_, l.exO⟩
    have S' := SS.sets [i, j, n] ss vs S b' ch q.1
    match ss, q.1 with
    | [s, t, t'], _ =>
      obtain ⟨v, r, H1, rfl, _, _, _, ch⟩ := ch
      obtain ⟨u, r, H2, rfl, _, _, _, ch⟩ := ch
      obtain ⟨u', r, H2, rfl, _, _, _, ch⟩ := ch
      obtain ⟨rfl, _⟩ := ch
      exact ⟨v, u, u', rfl, l.nx _ _ _ q.2 S'⟩
/-- not swapped: the tuple is made, then unpacked into the names -/
def gNs (K : PySem.W.Frag) (is : List Nat) : TG := fun v σ H Q => ∃ a us, v = .ref a ∧ SqT K H a us ∧ us.length = is.length ∧ Q (setsV is us σ) H
def gsV : List Nat → TGs
  | [] => fun us σ H Q => us = [] ∧ Q σ H
  | i :: is => fun us σ H Q => ∃ u r, us = u :: r ∧ gsV is r (σ.set i (some u)) H Q
theorem gs0 : PGs X [] (gsV []) := PGs.imp pgs_nil fun v σ H Q h => h
theorem gs1 {x : Str} {p : Pos} {es : List Expr} {is : List Nat} (i : Nat) (hN : X.N.Nodup) (hi : X.N[i]? = some x) (hx : Loc X.env.scope x) (hf : X.fn x = true ∨ X.env.scope.names.lookup x = some .local) (h2 : PGs X es (gsV is)) (hs : (assignEach (.Name x p :: es) X.env).map (·.2) = assign (.Name x p) X.env :: (assignEach es X.env).map (·.2)) : PGs X (.Name x p :: es) (gsV (i :: is)) :=
  PGs.imp (pgs_cons (pg_name hN hi hx hf) h2 hs) fun us σ H Q ⟨u, r, e, q⟩ => ⟨u, r, e, q⟩
theorem gsV_of : ∀ (is : List Nat) (us : List V) (σ : St) (H : Hp) (Q : St → Hp → Prop), us.length = is.length → Q (setsV is us σ) H → gsV is us σ H Q
  | [], [], σ, H, Q, _, q => ⟨rfl, q⟩
  | i :: is, u :: us, σ, H, Q, hl, q => ⟨u, us, rfl, gsV_of is us _ H Q (by simpa using hl) q⟩
  | [], _ :: _, _, _, _, hl, _ => by simp at hl
  | _ :: _, [], _, _, _, hl, _ => by simp at hl
theorem Chn.len {c : Rc} : ∀ {ss : List Slot} {vs : List V} {O : Od} {H H' : Hp}, Chn c O H H' ss vs → vs.length = ss.length
  | [], _, _, _, _, ⟨rfl, _⟩ => rfl
  | _ :: _, _, _, _, _, ⟨_, _, _, rfl, _, _, _, h⟩ => by simp [Chn.len h]
theorem Chn.exH {c : Rc} : ∀ {ss : List Slot} {vs : List V} {O : Od} {H H' H2 : Hp}, Chn c O H H' ss vs → Ex c H' H2 → Chn c O H H2 ss vs
  | [], _, _, _, _, _, ⟨e, x⟩, y => ⟨e, x.trans y⟩
  | _ :: _, _, _, _, _, _, ⟨v, r, H1, e, x, b, f, h⟩, y => ⟨v, r, H1, e, x, b, f, Chn.exH h y⟩
theorem ds_parN {tgs es : List Expr} {mf : MF} {kt k2 : Nat} {pt pt2 : Pos} (is : List Nat) (hc : X.calm = true) (hg : PGs X tgs (gsV is)) (hn : (assignEach tgs X.env).length = is.length) (hst : (assignEach tgs X.env).findIdx? (·.1) = none) (ha : DFs X W es mf)
    (hs : swapsWithSole [.Tuple tgs kt pt] (.Tuple es k2 pt2) pos.line X.env = pure false) (hw : swappedStores [.Tuple tgs kt pt] (.Tuple es k2 pt2) X.env = pure none) (h1 : (assignEach [.Tuple tgs kt pt] X.env).map (·.2) = [assign (.Tuple tgs kt pt) X.env]) (hz : is.length ≤ 1000) :
    DS X W (.Assign [.Tuple tgs kt pt] (.Tuple es k2 pt2) pos) (mPar is mf) :=
  PS.imp (ps_asg (pe_tup ha) (pg_tup hc hg hn hst) hs hw h1) fun Dn σ H ⟨A, L, O0, gh, ρ, K, S, h, l⟩ => by
    refine ⟨A, L, _, _, ρ, _, K.ex, S.se, h, fun ss vs H' q b' ch => ?_, l.exO⟩
    have hvl : vs.length = is.length := ch.len.trans q.1
    refine ⟨by rw [hvl, sizeLine_eq]; omega, fun p hp => ?_⟩
    have S' := SS.sets (H' := upd H' p (.tup vs)) is ss vs S (b'.new hp) (ch.exH (Kp.new hp)) q.1
    exact ⟨p, vs, rfl, .inl (.inl upd_same), hvl, gsV_of is vs σ _ _ hvl (l.nx _ _ _ q.2 S')⟩
end
end Ev

/-! Ev16: more of the printer's rules: methods of own lists, op=, global data, calls of a local that holds a def. -/
namespace Ev
open PySem PySem.Spec L2
open PyProof.Rows hiding St
variable [Tbl]
section
variable {X : Cx} {W : WX} {m : Md} {pos : Pos}
theorem r65 {k : Nat} {A : Around} (h : Room k A) : A.units + 65 < cLine := by have := h.un; omega
theorem r64 {k : Nat} {A : Around} (h : Room k A) : A.units + 64 < cLine := by have := h.un; omega
/-! ### methods -/
theorem xappend {o : Str} {a : Expr} {ma : MA} {p apos cpos : Pos} (i : Nat) (ha : DA X W .vl [a] ma) (hN : X.N[i]? = some o := by rfl) (hv : Vis X.env.scope o := by first | exact Or.inl rfl | exact Or.inr (Or.inl rfl) | exact Or.inr (Or.inr rfl)) (hd : (o == ("__debug__" : Str)) = false := by decide) (hcd : (o == ("__classdict__" : Str)) = false := by decide)
    (hbase : attributeBase (.Name o p) "append" X.env (eval (.Name o p) X.env) = eval (.Name o p) X.env := by rfl)
    (hfew : ((backTo cpos (starEach [a] X.env)).all (fun x => !x.1) && (backToKw cpos (keywordEach [] X.env)).all (fun x => x.1.isSome) && decide ([a].length + ([] : List Keyword).length + (if ([] : List Keyword).isEmpty then 0 else 1) < 30)) = true := by rfl)
    (hline : (apos.endLine == cpos.line) = true := by rfl) (hs : starEach [a] X.env = (false, eval a X.env) :: starEach [] X.env := by rfl) (hplain : (backTo cpos (starEach [] X.env)).any (·.1) = false := by rfl)
    (hsw : swapsWith (.Call (.Attribute (.Name o p) "append" apos) [a] [] cpos) none pos.line X.env = pure false := by rfl) : DS X W (.Expr (.Call (.Attribute (.Name o p) "append" apos) [a] [] cpos) pos) (mAppend i ma) :=
  ds_append i (pe_bm PySem.F.plainAttrs_list PySem.F.slot_list_append PySem.F.type_list_append mt_append (pe_var hN hv hd hcd) ha hbase hfew hline hs hplain) hsw
theorem xextend {o : Str} {a : Expr} {ma : MA} {p apos cpos : Pos} (i : Nat) (ha : DA X W .vl [a] ma) (hN : X.N[i]? = some o := by rfl) (hv : Vis X.env.scope o := by first | exact Or.inl rfl | exact Or.inr (Or.inl rfl) | exact Or.inr (Or.inr rfl)) (hd : (o == ("__debug__" : Str)) = false := by decide) (hcd : (o == ("__classdict__" : Str)) = false := by decide)
    (hbase : attributeBase (.Name o p) "extend" X.env (eval (.Name o p) X.env) = eval (.Name o p) X.env := by rfl)
    (hfew : ((backTo cpos (starEach [a] X.env)).all (fun x => !x.1) && (backToKw cpos (keywordEach [] X.env)).all (fun x => x.1.isSome) && decide ([a].length + ([] : List Keyword).length + (if ([] : List Keyword).isEmpty then 0 else 1) < 30)) = true := by rfl)
    (hline : (apos.endLine == cpos.line) = true := by rfl) (hs : starEach [a] X.env = (false, eval a X.env) :: starEach [] X.env := by rfl) (hplain : (backTo cpos (starEach [] X.env)).any (·.1) = false := by rfl)
    (hsw : swapsWith (.Call (.Attribute (.Name o p) "extend" apos) [a] [] cpos) none pos.line X.env = pure false := by rfl) : DS X W (.Expr (.Call (.Attribute (.Name o p) "extend" apos) [a] [] cpos) pos) (mExtend i ma) :=
  ds_extend i (pe_bm PySem.F.plainAttrs_list PySem.F.slot_list_extend PySem.F.type_list_extend mt_extend (pe_var hN hv hd hcd) ha hbase hfew hline hs hplain) hsw
theorem xpop {x o : Str} {p p2 apos cpos : Pos} (j i : Nat) (hnd : X.N.Nodup) (hj : X.N[j]? = some x) (hx : Loc X.env.scope x) (hf : X.fn x = true ∨ X.env.scope.names.lookup x = some .local) (hN : X.N[i]? = some o := by rfl) (hv : Vis X.env.scope o := by first | exact Or.inl rfl | exact Or.inr (Or.inl rfl) | exact Or.inr (Or.inr rfl)) (hd : (o == ("__debug__" : Str)) = false := by decide) (hcd : (o == ("__classdict__" : Str)) = false := by decide)
    (hbase : attributeBase (.Name o p) "pop" X.env (eval (.Name o p) X.env) = eval (.Name o p) X.env := by rfl) (hline : (apos.endLine == cpos.line) = true := by rfl)
    (hsw : swapsWith (.Call (.Attribute (.Name o p) "pop" apos) [] [] cpos) (some (.Name x p2)) pos.line X.env = pure false := by rfl) : DS X W (.Assign [.Name x p2] (.Call (.Attribute (.Name o p) "pop" apos) [] [] cpos) pos) (mPop j i) :=
  ds_pop j i hnd hj hx hf (pe_bm0 PySem.F.plainAttrs_list PySem.F.slot_list_pop PySem.F.type_list_pop mt_pop (pe_var hN hv hd hcd) hbase hline) hsw
theorem xmove {x y : Str} {p p2 : Pos} (i j : Nat) (hN : X.N.Nodup) (hi : X.N[i]? = some x) (hx : Loc X.env.scope x) (hj : X.N[j]? = some y) (hf : X.fn x = true ∨ X.env.scope.names.lookup x = some .local)
    (hv : Vis X.env.scope y := by first | exact Or.inl rfl | exact Or.inr (Or.inl rfl) | exact Or.inr (Or.inr rfl)) (hd : (y == ("__debug__" : Str)) = false := by decide) (hcd : (y == ("__classdict__" : Str)) = false := by decide)
    (hs : swapsWith (.Name y p2) (some (.Name x p)) pos.line X.env = pure false := by rfl) : DS X W (.Assign [.Name x p] (.Name y p2) pos) (mMove i j) := ds_move i j hN hi hx hj hv hd hcd hs hf
theorem xg1 {vs : List Nat} {x : Str} {p : Pos} (i : Nat) (hN : X.N.Nodup) (hi : X.N[i]? = some x := by rfl) (hx : Loc X.env.scope x := by first | exact Or.inl rfl | exact Or.inr rfl) (hm : i ∈ vs := by decide) (hf : X.fn x = true ∨ X.env.scope.names.lookup x = some .local := by first | exact Or.inr rfl | exact Or.inl rfl) : DG1 X vs (.Name x p) (gN i) := dg1_name i hN hi hx hm hf
theorem xgs {x : Str} {p : Pos} {es : List Expr} {is : List Nat} (i : Nat) (hN : X.N.Nodup) (h2 : PGs X es (gsV is)) (hi : X.N[i]? = some x := by rfl) (hx : Loc X.env.scope x := by first | exact Or.inl rfl | exact Or.inr rfl) (hf : X.fn x = true ∨ X.env.scope.names.lookup x = some .local := by first | exact Or.inl rfl | exact Or.inr rfl)
    (hs : (assignEach (.Name x p :: es) X.env).map (·.2) = assign (.Name x p) X.env :: (assignEach es X.env).map (·.2) := by rfl) : PGs X (.Name x p :: es) (gsV (i :: is)) := gs1 i hN hi hx hf h2 hs
theorem ds_setLcV {y : Str} {py spos : Pos} {elt tg iter : Expr} {ifs : List Expr} {scope : Scope} {own : List (Str × Nat)} {mi : MI} {mg : MG} {mt : MT} {me : ME} (i : Nat) (hc : X.calm = true) (hN : X.N.Nodup) (hy : X.N[i]? = some y) (hyl : X.env.scope.names.lookup y = some .local)
    (hsw : swapsWith (.ListComp elt [⟨tg, iter, ifs, 0⟩] scope pos) (some (.Name y py)) spos.line X.env = pure true) (hi : DI X W .al tg iter mi) (ok : BlkOk X.N X.env.scope scope own)
    (hg : ∀ (s : Shared) (H : Hp) (C : Addr) (cl : List (Str × Addr)) (fp : List Addr), DG1 (X.blk s H scope (compEnvC scope cl C X.env) fp) (own.map (·.2)) tg mg) (ht : ∀ (s : Shared) (H : Hp) (C : Addr) (cl : List (Str × Addr)) (fp : List Addr), DTs (X.blk s H scope (compEnvC scope cl C X.env) fp) WF ifs mt)
    (he : ∀ (s : Shared) (H : Hp) (C : Addr) (cl : List (Str × Addr)) (fp : List Addr), DE (X.blk s H scope (compEnvC scope cl C X.env) fp) WF .vl elt me) (hs : ∀ x, foldedSetIterable iter X.env x = pure x := by intro _; rfl) :
    DS X W (.Assign [.Name y py] (.ListComp elt [⟨tg, iter, ifs, 0⟩] scope pos) spos) (mSetV i (mLc (own.map (·.2)) mi mg mt me)) :=
  PS.imp (ps_setLc (wi := tI X W .al mi) (g := tG1 X (own.map fun p : Str × Nat => p.2) mg) (tt := tT X WF mt) (te := tE X WF .vl me) hc hN hy hyl hsw hi ok hg ht he hs) fun Dn σ H ⟨A, L, O0, gh, ρ, K, S, h, l⟩ =>
    show tLc (tI X W .al mi) (tG1 X (own.map fun p : Str × Nat => p.2) mg) (tT X WF mt) (tE X WF .vl me) (own.map fun p : Str × Nat => p.2) σ H (fun w H1 => Dn.nx (σ.set i (some w)) H1) from lc_go S.se h l.exO fun w H1 d x b r q => l.nx _ _ H1 q (S.setV x b r.rv)
theorem xisi2 {k l : Cl} {y z : Str} {e : Expr} {me : ME} {p p2 p3 p4 : Pos} {kk : Nat} (B : Bi X.mg) (he : DE X W .al e me) (hm2 : X.mg y = none) (hm3 : X.mg z = none) (hy : y = Str.ofString k.nm := by rfl) (hz : z = Str.ofString l.nm := by rfl) (hg : Gl X "isinstance" := by rfl) (hg2 : Gl X y := by rfl) (hg3 : Gl X z := by rfl)
    (hs : starEach [e, .Tuple [.Name y p2, .Name z p3] kk p4] X.env = (false, eval e X.env) :: starEach [.Tuple [.Name y p2, .Name z p3] kk p4] X.env := by rfl)
    (hs2 : starEach [.Tuple [.Name y p2, .Name z p3] kk p4] X.env = (false, eval (.Tuple [.Name y p2, .Name z p3] kk p4) X.env) :: starEach [] X.env := by rfl)
    (hs3 : starEach [.Name y p2, .Name z p3] X.env = (false, eval (.Name y p2) X.env) :: starEach [.Name z p3] X.env := by rfl) (hs4 : starEach [.Name z p3] X.env = (false, eval (.Name z p3) X.env) :: starEach [] X.env := by rfl)
    (hpl : (backTo pos (starEach [.Tuple [.Name y p2, .Name z p3] kk p4] X.env)).any (·.1) = false := by rfl) :
    DE X W m (.Call (.Name "isinstance" p) [e, .Tuple [.Name y p2, .Name z p3] kk p4] [] pos) (mIs2 k l me) := de_isi2 rfl hy hz hg B.isinstance hg2 hm2 hg3 hm3 he hs hs2 hs3 hs4 hpl
/-! ### op= -/
def dAddI : D → D → Option D
  | .int a, .int b => some (.int (a + b))
  | .str a, .str b => if a.length + b.length ≤ lim then some (.str (a ++ b)) else none
  | _, _ => none
theorem do_iadd : DO2 X (inplaceOp .Add) dAddI := by
  intro pins s σ H A L Hz O ρ x y v u d1 d2 d I S rx ry h1 h2 g
  unfold dAddI at g
  split at g
  · cases g
    obtain rfl := rb_int h1
    obtain rfl := rb_int h2
    exact iop_add pins s σ H _ _ v u _ I rx ry ⟨_, _, rfl, rfl, FQ.int S⟩
  · split at g
    · rename_i hl
      cases g
      obtain ⟨rfl, l1, o1⟩ := rb_str h1
      obtain ⟨rfl, l2, o2⟩ := rb_str h2
      rw [lim_eq] at hl
      exact iop_add_str pins s σ H _ _ v u _ I rx ry ⟨_, _, rfl, rfl, hl, FQ.str S (by rw [length_append]; exact hl) (strOk_append o1 o2)⟩
    · cases g
  · cases g
def dSubI : D → D → Option D
  | .int a, .int b => some (.int (a - b))
  | _, _ => none
theorem do_isub : DO2 X (inplaceOp .Sub) dSubI := by
  intro pins s σ H A L Hz O ρ x y v u d1 d2 d I S rx ry h1 h2 g
  unfold dSubI at g
  split at g
  · cases g
    obtain rfl := rb_int h1
    obtain rfl := rb_int h2
    exact iop_sub pins s σ H _ _ v u _ I rx ry ⟨_, _, rfl, rfl, FQ.int S⟩
  · cases g
def dModI : D → D → Option D
  | .int a, .int b => if 0 < b then some (.int (a % b)) else none
  | _, _ => none
theorem do_imod : DO2 X (inplaceOp .Mod) dModI := by
  intro pins s σ H A L Hz O ρ x y v u d1 d2 d I S rx ry h1 h2 g
  unfold dModI at g
  split at g
  · split at g
    · cases g
      obtain rfl := rb_int h1
      obtain rfl := rb_int h2
      exact iop_mod pins s σ H _ _ v u _ I rx ry ⟨_, _, rfl, rfl, by assumption, FQ.int S⟩
    · cases g
  · cases g
/-! ### data of the module -/
/-- a name of the module that holds the data d -/
structure Gd (K : PySem.W.Frag) (mg : Str → Option Value) (x : Str) (d : D) : Prop where
  ex : ∃ u v, mg x = some u ∧ RelV v u ∧ ∀ (c : Rc) (O : Od) (H : Hp), c.K = K → RV c O H d v ∧ ∀ H0, RF c O H0 H d v
theorem xglob {x : Str} {d : D} (G : Gd X.K X.mg x d) (hg : Gl X x := by rfl) (hd : (x == ("__debug__" : Str)) = false := by decide) : DE X W m (.Name x pos) (mC d) := by
  obtain ⟨u, v, hm, r, h⟩ := G.ex
  exact .by (pe_glob hg hm r hd) fun σ H A L Hz O ρ Qd Ed S q hE => ⟨d, .refl, S.bag, RF.rm S.oA ((h (rc X A L) O H rfl).2 H), q⟩
theorem Gd.int {K : PySem.W.Frag} {mg : Str → Option Value} {x : Str} {i : Int} {t : Tok} (h : mg x = some (.int i t)) : Gd K mg x (.int i) := ⟨_, .int i, h, ⟨t, rfl⟩, fun c O H _ => ⟨mk_int, fun H0 => (show RV c O H (.int i) (.int i) from mk_int)⟩⟩
theorem Gd.str {K : PySem.W.Frag} {mg : Str → Option Value} {x i : Str} {t : Tok} (h : mg x = some (.str i t)) (ok : (decide (i.length ≤ 16777216) && PyData.strOk i) = true) : Gd K mg x (.str i) := by
  rw [Bool.and_eq_true, decide_eq_true_eq] at ok
  have l : i.length ≤ sizeLine := by rw [sizeLine_eq]; exact ok.1
  exact ⟨_, .str i, h, ⟨t, rfl⟩, fun c O H _ => ⟨mk_str l ok.2, fun H0 => (show RV c O H (.str i) (.str i) from mk_str l ok.2)⟩⟩
/-! ### a local that holds a def -/
abbrev Tb := List (Str × FS)
def mCallL (T : Tb) (i : Nat) (mb : MB) : ME := fun ρ Q E => ∃ g S, kpv i ρ = some (.fn g) ∧ (g, S) ∈ T ∧ mCall S mb ρ Q E
structure DfT (P : Program) (w : World) (K : PySem.W.Frag) (mg : Str → Option Value) (base : Heap) (k : Nat) (T : Tb) : Prop where
  all : ∀ g S, (g, S) ∈ T → Df P w K mg base k g S
abbrev DfTX (X : Cx) (k : Nat) (T : Tb) : Prop := DfT X.prog X.w X.K X.mg X.base k T
theorem xcallL {k : Nat} {T : Tb} {x : Str} {e : Expr} {es : List Expr} {mb : MB} {p : Pos} (i : Nat) (G : DfTX X k T) (hr : Room k X.A) (tk : Takes X W) (ha : DB X W (e :: es) mb) (hN : X.N[i]? = some x := by rfl) (hv : Vis X.env.scope x := by first | exact Or.inl rfl | exact Or.inr (Or.inl rfl) | exact Or.inr (Or.inr rfl))
    (hdb : (x == ("__debug__" : Str)) = false := by decide) (hcd : (x == ("__classdict__" : Str)) = false := by decide) (he : starEach (e :: es) X.env = (false, eval e X.env) :: starEach es X.env := by rfl) (hpl : (backTo pos (starEach es X.env)).any (·.1) = false := by rfl) :
    DE X W .vl (.Call (.Name x p) (e :: es) [] pos) (mCallL T i mb) := by
  refine ⟨fun pins s σ H Q I hq => ?_⟩
  obtain ⟨A, L, Hz, O, ρ, Qd, Ed, SS, ⟨g, S, h1, hT, hm⟩, k1, hE⟩ := hq
  obtain ⟨f, fd, ps, F, hmg, hk, hb⟩ := (G.all g S hT).ex
  obtain ⟨v, hv1, hv2⟩ := SS.kpv h1
  have hv2 : ∃ a, v = .ref a ∧ X.mg g = some (.ref a) := by unfold RV at hv2; exact hv2
  obtain ⟨a, rfl, ha2⟩ := hv2
  rw [hmg] at ha2
  cases ha2
  refine (pe_callL (i := i) (E := wishW W) (ps := ps) F hr hN hv hk hb .nil (passes_call tk fun cls d σ H h => h σ) ha hdb hcd he hpl).run pins s σ H Q I ⟨hv1, ?_⟩
  refine ⟨A, L, Hz, O, ρ, _, Ed, SS, hm, fun ds b vs H1 q x1 b1 r1 => ?_, hE⟩
  have S1 := SS.ex x1 b1
  show spOf X.K X.mg S (vs ++ []) H1 _ _
  rw [List.append_nil]
  cases b with
  | false =>
    refine ⟨A, L, O, ds, _, _, S1.oA, S1.oT, b1, r1, q, fun d v H2 q2 x2 b2 r2 => ?_, fun y hy H2 cv dd x2 b2 r2 σ' => ?_⟩
    · exact k1 d v H2 q2.2 (x1.trans x2) b2 r2
    · exact hE y hy.2 σ' H2 cv dd ((SS.ext.trans x1).trans x2) b2 r2
  | true =>
    have oT : ∀ b, av (rc X A L) b → H1 b ≠ none := fun z hz => S1.oT _ (S1.oA _ hz)
    refine ⟨A, L, av (rc X A L), ds, _, _, fun _ z => z, oT, b1, RBs.rv0 S1.oA r1, q, fun d v H2 q2 x2 b2 r2 => ?_, fun y hy H2 cv dd x2 b2 r2 σ' => ?_⟩
    · exact k1 d v H2 q2.2 (x1.trans x2) b2 (RV.noL d v (q2.1 rfl) r2)
    · exact hE y hy.2 σ' H2 cv dd ((SS.ext.trans x1).trans x2) b2 (RX.noL (hy.1 rfl) r2)
end
end Ev

/-! Ev17: set(xs) of a list of ints, its order known to the table (turned from the tuple's). -/
namespace L2
open PySem PySem.Spec PyProof.Rows
section
variable {P : Program} {w : World} {A : Around} {E : Value → Shared → Prop} {s : Shared}
set_option maxRecDepth 100000 in
set_option maxHeartbeats 3200000 in
theorem call_set_lstI {l : Addr} {items : Array Value} (ns : List Int) {Q : Value → Shared → Prop} (hh : A.handled = none) (hl : s.heap.IsList l items) (hit : IntsAre items.toList ns) (hb : ns.length + 1 < scanBound)
    (h : ∀ (h' : Heap) (tk c : Nat), SetR w h' s.heap.objs.size (fun j => decide (j ∈ ns)) c → c ≤ ns.length → (∀ b o, s.heap.get? b = some o → h'.get? b = some o) → Q (.ref s.heap.objs.size) { s with heap := h', toks := tk }) :
    wpAny (model P w) A (call (.type "set") [.ref l]) Q E s := by
  have hisz : items.size = ns.length := by
    have q := IntsAre.length hit
    rw [Array.length_toList] at q
    exact q
  obtain ⟨c, tl, hmro⟩ := F.called_set.mro
  have hmade := F.called_set.made
  have hsub := F.called_set.sub
  refine wpAny_call (codeAny_of_tree ?_)
  show wpAny _ _ (callAny (.type "set") _) _ _ _
  refine wpAny_pure ⟨Code.quiet_builtin _ (by decide +kernel), codeAny_builtin F.entry_type_call ?_⟩
  rw [Around.under_plain (weight_type_call_type "set" [.ref l] []) rfl]
  have h1 := F.called_set.notType
  have h2 := F.called_set.canCreate
  have hct := F.typeCall_set_1 (.ref l)
  repeat (any_goals (first | assumption | wp_step))

  refine codeAny_mono (code_set_led1 (.ref l) (E := E) (Q₁ := fun obj s₁ => obj = .ref s.heap.objs.size ∧ s₁ = { s with heap := s.heap.push { cls := .type "set", dict := none, data := .set #[] 0 (.fresh 0 0 (!w.params.followText "set-order")) } }) ⟨rfl, rfl⟩) fun r s₁ hr => ?_
  cases r with
  | error e => exact hr
  | ok fl =>
    cases fl with
    | ret obj =>
      obtain ⟨rfl, rfl⟩ := hr
      have hS : (s.heap.push { cls := .type "set", dict := none, data := .set #[] 0 (.fresh 0 0 (!w.params.followText "set-order")) }).get? s.heap.objs.size = some { cls := .type "set", dict := none, data := .set #[] 0 (.fresh 0 0 (!w.params.followText "set-order")) } := Heap.get?_push_size _ rfl
      have hT : Shared.TypeIs { s with heap := s.heap.push { cls := .type "set", dict := none, data := .set #[] 0 (.fresh 0 0 (!w.params.followText "set-order")) } } (.ref s.heap.objs.size) "set" := ⟨_, hS, rfl⟩
      have hli := F.called_set.init.lookup
      have hbi := F.called_set.init.bind (.ref s.heap.objs.size)
      repeat (any_goals (first | assumption | wp_step))

      refine codeAny_mono (codeAny_call_builtin (R := wants (fun r s₂ => r = .none ∧ ∃ h' tk c, s₂ = { s with heap := h', toks := tk } ∧ SetR w h' s.heap.objs.size (fun j => decide (j ∈ ns)) c ∧ c ≤ ns.length ∧
          (∀ b o, s.heap.get? b = some o → h'.get? b = some o)) E) F.called_set.init.plain F.entry_set_init (check_set_init_1 hT ?_)) fun r₂ s₂ hr₂ => ?_
      · obtain ⟨ol, hol, hcl, nl, hdl⟩ := hl
        obtain ⟨ocls, odict, odata, oslots⟩ := ol
        simp only at hcl hdl
        subst hcl; subst hdl
        have hol' : (s.heap.push { cls := .type "set", dict := none, data := .set #[] 0 (.fresh 0 0 (!w.params.followText "set-order")) }).get? l = some { cls := .type "list", dict := odict, data := .seq items nl, slots := oslots } := Heap.get?_push_of_some _ hol
        have hsls := F.sub_list_set
        have hslf := F.sub_list_frozenset
        have hne : (Value.type "list" == Value.type "dict") = false := by decide
        have hl1 : (s.heap.push { cls := .type "set", dict := none, data := .set #[] 0 (.fresh 0 0 (!w.params.followText "set-order")) }).IsList l items := ⟨_, hol', rfl, nl, rfl⟩
        unfold Builtin.«set.__init__» noKeywords Builtin.Frozenset.updateFrom
        generalize hPI : pyIter = PI
        wp_walk
        subst hPI

        refine wpAny_pyIter_list hl1 ?_
        refine wpAny_bind (wpAny_runValue ?_)
        have hlS : l < s.heap.objs.size := Heap.lt_size hol
        have hh3 : A.in1.in1.in1.handled = none := by simp [hh]
        have hz1 : (s.heap.push { cls := .type "set", dict := none, data := .set #[] 0 (.fresh 0 0 (!w.params.followText "set-order")) }).objs.size = s.heap.objs.size + 1 := Heap.size_push ..
        have hneI : l ≠ (s.heap.push { cls := .type "set", dict := none, data := .set #[] 0 (.fresh 0 0 (!w.params.followText "set-order")) }).objs.size := by
          rw [Heap.size_push]; exact Nat.ne_of_lt (Nat.lt_succ_of_lt hlS)
        have hSf : s.heap.objs.size ∉ [(s.heap.push { cls := .type "set", dict := none, data := .set #[] 0 (.fresh 0 0 (!w.params.followText "set-order")) }).objs.size, l] := by
          rw [Heap.size_push]; simp only [List.mem_cons, List.mem_singleton, List.not_mem_nil, or_false, not_or]
          exact ⟨Nat.ne_of_lt (Nat.lt_succ_self _), Nat.ne_of_gt hlS⟩
        have hval : ∀ (i : Nat) (v : Value), items[i]? = some v → ∃ k t, ns[i]? = some k ∧ v = .int k t := fun i v hv => by
          have hi : i < ns.length := by rw [← hisz]; exact (Array.getElem?_eq_some_iff.mp hv).1
          obtain ⟨t, e⟩ := PyProof.Rows.IntsAre.int_at hit i v (by rw [Array.getElem?_toList]; exact hv)
          refine ⟨ns[i], t, List.getElem?_eq_getElem hi, ?_⟩
          rw [e, List.getD_eq_getElem?_getD, List.getElem?_eq_getElem hi] <;> rfl
        refine set_update_ints ((Walks.list hh3 _ l hneI items).toS) s.heap.objs.size
          hSf ns hisz hb hval (items.size - 0) 0 _ (by omega) (Nat.zero_le _)
          ⟨⟨_, Heap.get?_push_size _ rfl, rfl, rfl⟩, (hl1.push _)⟩ ?hS0 ?hR
        case hS0 =>
          have hget : ((s.heap.push { cls := .type "set", dict := none, data := .set #[] 0 (.fresh 0 0 (!w.params.followText "set-order")) }).push { cls := .type "list_iterator", data := .fields #[.ref l, .int 0 0] }).get? s.heap.objs.size
              = some { cls := .type "set", dict := none, data := .set #[] 0 (.fresh 0 0 (!w.params.followText "set-order")) } := Heap.get?_push_of_some _ hS
          exact ⟨0, Nat.le_refl 0, setR_new_at hget⟩
        case hR =>
          intro s' c' hm hc' hS'
          obtain ⟨h', g2, d', tk', os'⟩ := s'
          have eg : g2 = s.gens := hm.gens
          have ed : d' = s.drawn := hm.drawn
          have eo : os' = s.os := hm.os
          subst eg; subst ed; subst eo
          show wpAny _ _ _ _ _ _
          refine wpAny_pure ?_
          show wpAny _ _ (ret Value.none) _ _ _
          rw [hisz] at hc'
          refine wpAny_pure ⟨rfl, h', tk', c', rfl, hS', hc', fun b o e => ?_⟩
          have hb0 : b < s.heap.objs.size := Heap.lt_size e
          have hb1 : b ≠ s.heap.objs.size := Nat.ne_of_lt hb0
          have hb2 : b ≠ (s.heap.push { cls := .type "set", dict := none, data := .set #[] 0 (.fresh 0 0 (!w.params.followText "set-order")) }).objs.size := by
            rw [Heap.size_push]; exact Nat.ne_of_lt (Nat.lt_succ_of_lt hb0)
          exact hm.heap b o (by simp only [List.mem_cons, List.mem_singleton, List.not_mem_nil, or_false, not_or]; exact ⟨hb1, hb2⟩) (Heap.get?_push_of_some _ (Heap.get?_push_of_some _ e))

      · cases r₂ with
        | error e => exact hr₂
        | ok fl₂ =>
          cases fl₂ with
          | ret r =>
            obtain ⟨rfl, h', tk, c', rfl, hS', hc', hk'⟩ := hr₂
            repeat (any_goals (first | assumption | wp_step))
            exact h _ _ _ hS' hc' hk'
          | _ => exact hr₂.elim
    | _ => exact hr.elim

end
end L2

/-! Ev18: calls that answer by a relation; sorted. -/
namespace Ev
open PySem PySem.Spec L2
open PyProof.Rows hiding St
variable [Tbl]
open PySem.W (dataLe AllAlike EachIs dataLt)
section
variable {X : Cx} {W : WX} {m : Md} {A : Addr} {L : LT} {Hz : Hp} {O O0 : Od} {ρ : EnvD} {σ : St} {H : Hp} {Ed : Exc → Prop} {pos : Pos} {pins : List (Addr × Obj)} {s : Shared}
/-! ### calls by a relation -/
abbrev RS := List D → (D → Prop) → Prop
def DCallR (X : Cx) (f : Value) (r : RS) : Prop :=
  ∀ (pins : List (Addr × Obj)) (s : Shared) (σ : St) (H : Hp) (A : Addr) (L : LT) (Hz : Hp) (O : Od) (ρ : EnvD) (vs : List V) (us : List Value) (ds : List D) (Qd : D → Prop), Inv X pins σ H s → SE (rc X A L) Hz O ρ σ H → Vals vs us →
    RBs (rc X A L) O H ds vs → r ds Qd → wpAny (model X.prog X.w) X.A (call f us) (EP X pins σ fun w H1 => ∃ d, Qd d ∧ FQ (rc X A L) O H d w H1) X.xe s
def rDR (X : Cx) (r : RS) : List V → Hp → VK → Prop := fun vs H Q => ∃ A L Hz O ρ σ ds Qd, SE (rc X A L) Hz O ρ σ H ∧ RBs (rc X A L) O H ds vs ∧ r ds Qd ∧ ∀ d w H1, Qd d → FQ (rc X A L) O H d w H1 → Q w H1
theorem DCallR.op {f : Value} {r : RS} (h : DCallR X f r) : CallR X f (rDR X r) := by
  intro pins s σ H xs us Q I rx hq
  obtain ⟨A, L, Hz, O, ρ, σ', ds, Qd, S, h1, e, k⟩ := hq
  refine thn (h pins s σ H A L Hz O (List.replicate σ.length none) xs us ds Qd I ⟨S.bag, S.ext, S.oA, S.oT, fun i s hi => by simp [List.getElem?_replicate] at hi, by simp⟩ rx h1 e) fun r s1 ⟨w, H1, I1, r1, d, q, fq⟩ => ⟨w, H1, I1, r1, k d w H1 q fq⟩
def mBltR (r : RS) (ma : MA) : ME := fun ρ Q E => ma ρ (fun ds => r ds Q) E
theorem bltR_go {r : RS} {ma : MA} {Qd : D → Prop} {Q : VK} (S : SE (rc X A L) Hz O ρ σ H) (hm : mBltR r ma ρ Qd Ed) (hE : ∀ x, Ed x → Bad (rc X A L) O Hz W x)
    (k : ∀ w H1 d, Ex (rc X A L) H H1 → Bag (rc X A L) H1 → RF (rc X A L) O H H1 d w → Qd d → Q w H1) : tCB (rDR X r) (tA X W .al ma) σ H Q := by
  refine tA.go S hm hE fun ds vs H1 q1 S1 x1 r1 => ?_
  exact ⟨A, L, Hz, O, ρ, σ, ds, Qd, S1, RMs.rbs S1.oA r1, q1, fun d w H3 q h3 => k w H3 d (x1.trans h3.1) h3.2.1 (RF.back h3.2.2 x1 S.oA) q⟩
theorem de_bltR {x : Str} {id : String} {r : RS} {e : Expr} {es : List Expr} {ma : MA} {p : Pos} (hc : DCallR X (.builtin id) r) (hg : Gl X x) (hm : X.mg x = none) (hv : bootBuiltins x = some (.builtin id)) (ha : DA X W .al (e :: es) ma)
    (hn : x ≠ "__name__") (hdb : (x == ("__debug__" : Str)) = false) (he : starEach (e :: es) X.env = (false, eval e X.env) :: starEach es X.env) (hpl : (backTo pos (starEach es X.env)).any (·.1) = false) :
    DE X W m (.Call (.Name x p) (e :: es) [] pos) (mBltR r ma) :=
  .by (pe_callB hc.op hg hm hv ha hn hdb he hpl) fun σ H A L Hz O ρ Qd Ed S hm hE => bltR_go S hm hE fun w H1 d x b r q => ⟨d, x, b, RF.rm S.oA r, q⟩

/-! ### sorted -/
def encD (d : D) : PyData := (toPD d).getD .none
def leD : D → D → Bool := dataLe false encD
/-- xs can be sorted -/
def CanSort (ds : List D) : Prop := (∃ ps, toPDs ds = some ps) ∧ AllAlike (ds.map encD) ∧ PySem.W.Sortable (ds.map encD) ∧ (∀ d ∈ ds, (encD d).depth ≤ 64) ∧ ds.length ≤ lim
/-- es is xs, sorted -/
def IsSort (ds es : List D) : Prop := es.Perm ds ∧ es.Pairwise fun x y => leD x y = true
theorem toPDs_map : ∀ {ds : List D} {ps : List PyData}, toPDs ds = some ps → ∀ d ∈ ds, toPD d = some (encD d)
  | [], ps, h, d, hd => by simp at hd
  | e :: ds, ps, h, d, hd => by
    unfold toPDs at h
    cases q : toPD e with
    | none => rw [q] at h; cases h
    | some a =>
      cases q2 : toPDs ds with
      | none => rw [q, q2] at h; cases h
      | some b =>
        rcases List.mem_cons.mp hd with rfl | hd
        · unfold encD; rw [q]; rfl
        · exact toPDs_map q2 d hd
theorem RVs.zip {c : Rc} : ∀ {ds : List D} {vs : List V}, RVs c O H ds vs → ∃ bs : List (D × V), bs.map (·.1) = ds ∧ bs.map (·.2) = vs ∧ ∀ b ∈ bs, RV c O H b.1 b.2
  | [], vs, h => by unfold RVs at h; subst h; exact ⟨[], rfl, rfl, fun b hb => by simp at hb⟩
  | d :: ds, vs, h => by
    unfold RVs at h
    obtain ⟨v, r, rfl, h, hs⟩ := h
    obtain ⟨bs, rfl, rfl, hb⟩ := RVs.zip hs
    exact ⟨(d, v) :: bs, rfl, rfl, fun b hb' => by
      rcases List.mem_cons.mp hb' with rfl | hb'
      · exact h
      · exact hb b hb'⟩
theorem RVs.unzip {c : Rc} : ∀ {bs : List (D × V)}, (∀ b ∈ bs, RV c O H b.1 b.2) → RVs c O H (bs.map (·.1)) (bs.map (·.2))
  | [], _ => .nil
  | b :: bs, h => .cons (h b List.mem_cons_self) (RVs.unzip fun x hx => h x (List.mem_cons_of_mem _ hx))
theorem each_vals : ∀ {bs : List (D × V)} {us : List Value}, Vals (bs.map (·.2)) us → EachIs (fun u (b : D × V) => RelV b.2 u) us bs
  | [], us, h => by cases h; exact .nil
  | b :: bs, us, h => by
    cases h with
    | cons r t => exact .cons r (each_vals t)
theorem vals_each : ∀ {bs : List (D × V)} {us : List Value}, EachIs (fun u (b : D × V) => RelV b.2 u) us bs → Vals (bs.map (·.2)) us
  | [], us, h => by cases h; exact .nil
  | b :: bs, us, h => by
    cases h with
    | cons r t => exact .cons r (vals_each t)
theorem EachIs.go {α β : Type} {R S : α → β → Prop} (k : ∀ a b, R a b → S a b) : ∀ {as : List α} {bs : List β}, EachIs R as bs → EachIs S as bs
  | _, _, .nil => .nil
  | _, _, .cons h t => .cons (k _ _ h) (EachIs.go k t)
theorem each_mem2 {α β : Type} {R : α → β → Prop} : ∀ {as : List α} {bs : List β}, EachIs R as bs → EachIs (fun a b => R a b ∧ b ∈ bs) as bs
  | _, _, .nil => .nil
  | _, _, .cons h t => .cons ⟨h, List.mem_cons_self⟩ (EachIs.go (fun a b z => ⟨z.1, List.mem_cons_of_mem _ z.2⟩) (each_mem2 t))
theorem each_mapR {α β γ : Type} {R : α → γ → Prop} (f : β → γ) : ∀ {as : List α} {bs : List β}, EachIs (fun a b => R a (f b)) as bs → EachIs R as (bs.map f)
  | _, _, .nil => .nil
  | _, _, .cons h t => .cons h (each_mapR f t)
theorem le_tot {β : Type} (k : β → PyData) : PySem.W.TotalLe (dataLe false k) := PySem.W.sortLe_total _ _ _
theorem sorted_run {u : Value} {bs : List (D × V)} {Q : VK} (I : Inv X pins σ H s)
    (hcol : ∀ (E' : Value → Shared → Prop) (Q' : List Value → Shared → Prop), (∀ us h' tk, (∀ b o, s.heap.get? b = some o → h'.get? b = some o) → Vals (bs.map (·.2)) us → Q' us { s with heap := h', toks := tk }) → wpAny (model X.prog X.w) X.A.in1 (collect u) Q' E' s)
    (hd : ∀ b ∈ bs, Dp X.K H b.2 (encD b.1)) (hs : CanSort (bs.map (·.1))) (hu : X.A.units + 100 < cLine)
    (k : ∀ (es : List (D × V)) (p : Addr), es.Perm bs → (es.map (·.1)).Pairwise (fun x y => leD x y = true) → H p = none → Q (.ref p) (upd H p (.lst (es.map (·.2))))) :
    wpAny (model X.prog X.w) X.A (call (.builtin "sorted") [u]) (EP X pins σ Q) X.xe s := by
  obtain ⟨_, hal, hso, hdp, hln⟩ := hs
  refine Calls.call_function_entry kind_sorted plain_sorted entry_sorted (args_sorted1 _) ?_
  unfold Builtin.«sorted»
  refine wpAny_bind (m := checkCount "sorted" 1 1 _) (wpAny_pure ?_)
  refine wpAny_bind (hcol _ _ fun us h' tk hk hv => ?_)
  have hlen : us.length = bs.length := by rw [← hv.length, List.length_map]
  have hL : us.length ≤ sizeLine := by rw [hlen, ← lim_eq]; simpa using hln
  refine wpAny_bind (wpAny_newList ?_ hL)
  have I2 : Inv X pins σ H { s with heap := h', toks := tk } := I.kept hk
  have hoL : (h'.push (seqObj "list" us.toArray 0)).get? h'.objs.size = some (seqObj "list" us.toArray 0) := Heap.get?_push_size _ rfl
  have ev := each_mem2 (each_vals hv)
  have er0 : EachIs (fun (u : Value) (b : D × V) => ∃ as, Reads h' u (encD b.1) as) us bs := EachIs.go (fun a b z => Dp.reads I2 _ _ _ (hd b z.2) z.1) ev
  have old : ∀ b o, h'.get? b = some o → (PySem.W.sortingHeap (h'.push (seqObj "list" us.toArray 0)) h'.objs.size us).get? b = some o := fun b o e =>
    PySem.W.sortingHeap_old (Nat.ne_of_lt (Heap.lt_size e)) (Heap.get?_push_of_some _ e)
  have er : EachIs (fun (u : Value) (b : D × V) => ∃ as, Reads (PySem.W.sortingHeap (h'.push (seqObj "list" us.toArray 0)) h'.objs.size us) u (encD b.1) as) us bs := EachIs.go (fun a b ⟨as, r⟩ => ⟨as, PyProof.Rows.Reads.keeps old r⟩) er0
  have hmap : (bs.map (·.1)).map encD = bs.map fun b => encD b.1 := by rw [List.map_map]; rfl
  rw [hmap] at hal hso
  have so := PySem.W.sortVals_data (enc := fun b : D × V => encD b.1) false (each_vals hv) er hal
  refine wpAny_bind (wpAny_holding (wpAny_call_entry slot_list_sort ⟨_, hoL, rfl⟩ entry_list_sort (PySem.W.list_sort_vals (κ := PySem.W.dataKind (PySem.W.sortingHeap (h'.push (seqObj "list" us.toArray 0)) h'.objs.size us) (bs.map fun b => encD b.1)) hoL
    (PySem.W.SortsAt.data (s := { s with heap := PySem.W.sortingHeap (h'.push (seqObj "list" us.toArray 0)) h'.objs.size us, toks := tk }) (each_mapR (R := fun u d => ∃ as, Reads (PySem.W.sortingHeap (h'.push (seqObj "list" us.toArray 0)) h'.objs.size us) u d as) (fun b : D × V => encD b.1) er) hal hso ?_) hL ⟨_, rfl, ?_⟩) (args_list_sort _)))
  · intro d hdm
    obtain ⟨b, hb, rfl⟩ := List.mem_map.mp hdm
    have := hdp b.1 (List.mem_map.mpr ⟨b, hb, rfl⟩)
    show X.A.units + _ + _ + (encD b.1).depth < cLine
    omega
  · obtain ⟨c, hc⟩ := sortedHeap_at (vs := us) (out := (PySem.W.sortVals (PySem.W.dataKind (PySem.W.sortingHeap (h'.push (seqObj "list" us.toArray 0)) h'.objs.size us) (bs.map fun b => encD b.1)) false us us).toArray) hoL
    have hp : H h'.objs.size = none := I2.hok.fresh (Nat.le_refl _)
    have hso2 := vals_each so
    refine wpAny_pure ⟨_, rfl, .ref h'.objs.size, _, I2.laid (t' := tk) (a := h'.objs.size) (o := .lst ((bs.mergeSort (dataLe false fun b : D × V => encD b.1)).map (·.2))) (fun b o e => ?_) (Nat.le_refl _) ⟨?_, _, c, hso2, hc⟩, rfl, k _ _ (List.mergeSort_perm _ _) ?_ hp⟩
    · have hlt := Heap.lt_size e
      exact (PyProof.Rows.sortedHeap_old (Nat.ne_of_lt hlt) (by rw [size_push']; exact Nat.lt_succ_of_lt hlt)).trans (Heap.get?_push_of_some _ e)
    · rw [List.length_map, List.length_mergeSort, ← hlen]; exact hL
    · rw [List.pairwise_map]
      exact List.pairwise_mergeSort (fun a b c => (le_tot _).trans a b c) (fun a b => by have := (le_tot fun b : D × V => encD b.1).total a b; simpa using this) bs
def rSorted0 : RS := fun ds Q => ∃ xs, (ds = [.lst xs] ∨ ds = [.tup xs]) ∧ CanSort xs ∧ ∀ es, IsSort xs es → Q (.lst es)
theorem dps_zip {c : Rc} {bs : List (D × V)} (h : ∀ b ∈ bs, RV c O H b.1 b.2) {ps : List PyData} (e : toPDs (bs.map (·.1)) = some ps) : ∀ b ∈ bs, Dp c.K H b.2 (encD b.1) := fun b hb =>
  (dp_of b.1 b.2 _ (h b hb) (toPDs_map e b.1 (List.mem_map.mpr ⟨b, hb, rfl⟩))).1
theorem sort_out {bs es : List (D × V)} {c : Rc} (S : SE (rc X A L) Hz O ρ σ H) (hb : ∀ b ∈ bs, RV (rc X A L) O H b.1 b.2) {p : Addr} (hp : es.Perm bs) (ho : (es.map (·.1)).Pairwise fun x y => leD x y = true) (hn : H p = none) {Qd : D → Prop} (q : ∀ es, IsSort (bs.map (·.1)) es → Qd (.lst es)) :
    ∃ d, Qd d ∧ FQ (rc X A L) O H d (.ref p) (upd H p (.lst (es.map (·.2)))) :=
  ⟨.lst (es.map (·.1)), q _ ⟨hp.map _, ho⟩, FQ.lst S hn (RVs.unzip fun b h => hb b (hp.mem_iff.mp h))⟩
theorem dc_sorted (hu : X.A.units + 100 < cLine) : DCallR X (.builtin "sorted") rSorted0 := by
  intro pins s σ H A L Hz O ρ vs us ds Qd I S r h ⟨xs, hx, cs, q⟩
  rcases hx with rfl | rfl
  · obtain ⟨v, rfl, h'⟩ := rbs1 h
    obtain ⟨a, ws, rfl, _, s1, r1⟩ := rb_lst h'
    obtain ⟨bs, rfl, rfl, hb⟩ := r1.zip
    obtain ⟨ps, hps⟩ := cs.1
    rw [Vals.ref1 r]
    obtain ⟨its, rv, pl, hz⟩ := I.list (.inl (.of s1))
    obtain ⟨o, ho, hc, n, hd⟩ := pl.isList
    exact sorted_run I (fun E' Q' hq => wpAny_collect_seq a (.inl rfl) ho hc hd (fun h' k => hq _ h' s.toks k (by simpa using rv)) (by have := rv.length; simp only [List.size_toArray]; omega)) (dps_zip hb hps) cs hu fun es p hp ho hn => sort_out (c := rc X A L) S hb hp ho hn q
  · obtain ⟨v, rfl, h'⟩ := rbs1 h
    obtain ⟨a, ws, rfl, s1, r1⟩ := rb_tup h'
    obtain ⟨bs, rfl, rfl, hb⟩ := r1.zip
    obtain ⟨ps, hps⟩ := cs.1
    rw [Vals.ref1 r]
    obtain ⟨its, rv, ⟨o, ho, hc, n, hd⟩, hz⟩ := I.tuple s1
    exact sorted_run I (fun E' Q' hq => wpAny_collect_seq a (.inr rfl) ho hc hd (fun h' k => hq _ h' s.toks k (by simpa using rv)) (by have := rv.length; simp only [List.size_toArray]; omega)) (dps_zip hb hps) cs hu fun es p hp ho hn => sort_out (c := rc X A L) S hb hp ho hn q
end
end Ev

/-! Ev19: min, max, sorted(set(xs)), len(set(xs)). -/
namespace Ev
open PySem PySem.Spec L2
open PyProof.Rows hiding St
variable [Tbl]
open PySem.W (dataLe AllAlike EachIs dataLt)
section
variable {X : Cx} {W : WX} {m : Md} {A : Addr} {L : LT} {Hz : Hp} {O O0 : Od} {ρ : EnvD} {σ : St} {H : Hp} {Ed : Exc → Prop} {pos : Pos} {pins : List (Addr × Obj)} {s : Shared}
theorem leD_eq (x y : D) : leD x y = !dataLt (encD y) (encD x) := rfl
theorem dataLt_irr (a : PyData) : dataLt a a = false := by
  have t := (le_tot (fun x : PyData => x)).total a a
  have e1 : dataLe false (fun x : PyData => x) a a = !dataLt a a := rfl
  rw [e1] at t
  simpa using t
theorem dataLt_asym {a b : PyData} (h : dataLt a b = true) : dataLt b a = false := by
  have t := (le_tot (fun x : PyData => x)).total a b
  have e1 : dataLe false (fun x : PyData => x) a b = !dataLt b a := rfl
  have e2 : dataLe false (fun x : PyData => x) b a = !dataLt a b := rfl
  rw [e1, e2, h] at t
  simpa using t
theorem dataLe_trans {a b c : PyData} (h1 : dataLt b a = false) (h2 : dataLt c b = false) : dataLt c a = false := by
  have t := (le_tot (fun x : PyData => x)).trans a b c
  have e1 : dataLe false (fun x : PyData => x) a b = !dataLt b a := rfl
  have e2 : dataLe false (fun x : PyData => x) b c = !dataLt c b := rfl
  have e3 : dataLe false (fun x : PyData => x) a c = !dataLt c a := rfl
  rw [e1, e2, e3, h1, h2] at t
  simpa using t
theorem minD_spec : ∀ (xs : List PyData) (x : PyData), PySem.W.minD x xs ∈ x :: xs ∧ ∀ y ∈ x :: xs, dataLt y (PySem.W.minD x xs) = false
  | [], x => ⟨by simp [PySem.W.minD], fun y hy => by
      have : y = x := by simpa using hy
      subst this
      exact dataLt_irr _⟩
  | z :: xs, x => by
    have ih := minD_spec xs (if dataLt z x then z else x)
    have e : PySem.W.minD x (z :: xs) = PySem.W.minD (if dataLt z x then z else x) xs := rfl
    rw [e]
    refine ⟨?_, fun y hy => ?_⟩
    · have := ih.1
      rcases List.mem_cons.mp this with h | h
      · rw [h]; split <;> simp
      · simp [h]
    · have h0 := ih.2 _ List.mem_cons_self
      rcases List.mem_cons.mp hy with rfl | hy
      · by_cases hz : dataLt z y = true
        · rw [if_pos hz] at h0 ⊢
          exact dataLe_trans h0 (dataLt_asym hz)
        · rw [if_neg hz] at h0 ⊢; exact h0
      · rcases List.mem_cons.mp hy with rfl | hy
        · by_cases hz : dataLt y x = true
          · rw [if_pos hz] at h0 ⊢; exact h0
          · rw [if_neg hz] at h0 ⊢
            exact dataLe_trans h0 (by simpa using hz)
        · exact ih.2 y (List.mem_cons_of_mem _ hy)
theorem maxD_spec : ∀ (xs : List PyData) (x : PyData), PySem.W.maxD x xs ∈ x :: xs ∧ ∀ y ∈ x :: xs, dataLt (PySem.W.maxD x xs) y = false
  | [], x => ⟨by simp [PySem.W.maxD], fun y hy => by
      have : y = x := by simpa using hy
      subst this
      exact dataLt_irr _⟩
  | z :: xs, x => by
    have ih := maxD_spec xs (if dataLt x z then z else x)
    have e : PySem.W.maxD x (z :: xs) = PySem.W.maxD (if dataLt x z then z else x) xs := rfl
    rw [e]
    refine ⟨?_, fun y hy => ?_⟩
    · have := ih.1
      rcases List.mem_cons.mp this with h | h
      · rw [h]; split <;> simp
      · simp [h]
    · have h0 := ih.2 _ List.mem_cons_self
      rcases List.mem_cons.mp hy with rfl | hy
      · by_cases hz : dataLt y z = true
        · rw [if_pos hz] at h0 ⊢
          exact dataLe_trans (dataLt_asym hz) h0
        · rw [if_neg hz] at h0 ⊢; exact h0
      · rcases List.mem_cons.mp hy with rfl | hy
        · by_cases hz : dataLt x y = true
          · rw [if_pos hz] at h0 ⊢; exact h0
          · rw [if_neg hz] at h0 ⊢
            exact dataLe_trans (by simpa using hz) h0
        · exact ih.2 y (List.mem_cons_of_mem _ hy)
/-- neither a list nor a dict itself -/
def atomD : D → Bool
  | .lst _ | .dct _ _ => false
  | _ => true
theorem RV.atom {c : Rc} {H0 : Hp} {d : D} {v : V} (f : atomD d = true) (h : RV c O H d v) : RF c O H0 H d v := by
  cases d <;> first | exact h | cases f
/-- least and greatest -/
def CanCmp (xs : List D) : Prop := xs ≠ [] ∧ (∃ ps, toPDs xs = some ps) ∧ PySem.W.AlikeAll (xs.map encD) ∧ (∀ d ∈ xs, (encD d).depth ≤ 64 ∧ atomD d = true)
def rMinS : RS := fun ds Q => ∃ xs, (ds = [.lst xs] ∨ ds = [.tup xs]) ∧ CanCmp xs ∧ ∀ d ∈ xs, (∀ e ∈ xs, leD d e = true) → Q d
def rMaxS : RS := fun ds Q => ∃ xs, (ds = [.lst xs] ∨ ds = [.tup xs]) ∧ CanCmp xs ∧ ∀ d ∈ xs, (∀ e ∈ xs, leD e d = true) → Q d
theorem depthAll_le : ∀ {ps : List PyData} {n : Nat}, (∀ p ∈ ps, p.depth ≤ n) → PyData.depthAll ps ≤ n
  | [], n, _ => by unfold PyData.depthAll; omega
  | p :: ps, n, h => by
    unfold PyData.depthAll
    have h1 := h p List.mem_cons_self
    have h2 := depthAll_le fun q hq => h q (List.mem_cons_of_mem _ hq)
    omega
theorem toPDs_enc : ∀ {ds : List D} {ps : List PyData}, toPDs ds = some ps → ps = ds.map encD
  | [], ps, h => by unfold toPDs at h; cases h; rfl
  | e :: ds, ps, h => by
    unfold toPDs at h
    cases q : toPD e with
    | none => rw [q] at h; cases h
    | some a =>
      cases q2 : toPDs ds with
      | none => rw [q, q2] at h; cases h
      | some b =>
        rw [q, q2] at h; cases h
        rw [toPDs_enc q2]
        unfold encD
        simp [q]
theorem best_out {bs : List (D × V)} {us : List Value} (I : Inv X pins σ H s) (hb : ∀ b ∈ bs, RV (rc X A L) O H b.1 b.2) (S : SE (rc X A L) Hz O ρ σ H) {ps : List PyData} (hps : toPDs (bs.map (·.1)) = some ps) (al : PySem.W.AlikeAll ((bs.map (·.1)).map encD)) (hat : ∀ d ∈ bs.map (·.1), (encD d).depth ≤ 64 ∧ atomD d = true)
    (rv : Vals (bs.map (·.2)) us) {i : Nat} {v : Value} {h' : Heap} {tk : Nat} {as : List Addr} {g : PyData} (hv : us[i]? = some v) (hr : Reads h' v g as) (k : ∀ b o, s.heap.get? b = some o → h'.get? b = some o) (hg : g ∈ (bs.map (·.1)).map encD) {Qd : D → Prop} (q : ∀ d ∈ bs.map (·.1), encD d = g → Qd d) :
    EP X pins σ (fun w H1 => ∃ d, Qd d ∧ FQ (rc X A L) O H d w H1) v { s with heap := h', toks := tk } := by
  have hlen := rv.length
  have hi : i < bs.length := by
    have := (List.getElem?_eq_some_iff.mp hv).1
    simp at hlen; omega
  obtain ⟨u, hu, ru⟩ := rv.get (i := i) (x := bs[i].2) (by simp [hi])
  rw [hv] at hu; cases hu
  have mb : bs[i] ∈ bs := List.getElem_mem hi
  have md : bs[i].1 ∈ bs.map (·.1) := List.mem_map.mpr ⟨_, mb, rfl⟩
  obtain ⟨as2, hr2⟩ := Dp.reads I _ _ _ (dps_zip hb hps _ mb) ru
  have hr2 := PySem.W.reads_keeps k hr2
  have ee := PySem.W.alike_unique _ _ _ _ _ (al.1 _ (List.mem_map.mpr ⟨_, md, rfl⟩) _ hg) hr2 hr
  exact ⟨bs[i].2, H, I.kept k, ru, bs[i].1, q _ md ee, .refl, S.bag, RV.atom (hat _ md).2 (hb _ mb)⟩
theorem dc_min (hc : X.calm = true) (hu : X.A.units + 100 < cLine) : DCallR X (.builtin "min") rMinS := by
  intro pins s σ H A L Hz O ρ vs us ds Qd I S r h ⟨xs, hx, ⟨ne, ⟨ps, hps⟩, al, hat⟩, q⟩
  have main : ∀ (bs : List (D × V)), (∀ b ∈ bs, RV (rc X A L) O H b.1 b.2) → bs.map (·.1) = xs → ∀ (us' : List Value), Vals (bs.map (·.2)) us' → ∀ {i : Nat} {v : Value} {h' : Heap} {tk : Nat} {as : List Addr} {x : PyData} {r : List PyData}, xs.map encD = x :: r → us'[i]? = some v → Reads h' v (PySem.W.minD x r) as → (∀ b o, s.heap.get? b = some o → h'.get? b = some o) →
      EP X pins σ (fun w H1 => ∃ d, Qd d ∧ FQ (rc X A L) O H d w H1) v { s with heap := h', toks := tk } := by
    intro bs hb e us' rv i v h' tk as x r ex hv hr k
    subst e
    obtain ⟨g1, g2⟩ := minD_spec r x
    refine best_out I hb S hps al hat rv hv hr k (by rw [ex]; exact g1) fun d hd e => q d hd fun y hy => ?_
    rw [leD_eq, e, g2 _ (by rw [← ex]; exact List.mem_map.mpr ⟨y, hy, rfl⟩)]; rfl
  have hdp : X.A.units + 1 + PyData.depthAll (xs.map encD) < cLine := by
    have := depthAll_le (ps := xs.map encD) (n := 64) fun p hp => by
      obtain ⟨d, hd, rfl⟩ := List.mem_map.mp hp
      exact (hat d hd).1
    omega
  have hpe := toPDs_enc hps
  obtain ⟨x, r', ex⟩ : ∃ x r, xs.map encD = x :: r := by
    cases xs with
    | nil => exact absurd rfl ne
    | cons y ys => exact ⟨_, _, rfl⟩
  rcases hx with rfl | rfl
  · obtain ⟨v, rfl, h'⟩ := rbs1 h
    obtain ⟨a, ws, rfl, _, s1, r1⟩ := rb_lst h'
    obtain ⟨bs, e1, rfl, hb⟩ := r1.zip
    rw [Vals.ref1 r]
    obtain ⟨its, rv, pl, hz⟩ := I.list (.inl (.of s1))
    obtain ⟨as, hra⟩ := Dp.readsAll I _ _ _ (dps_of _ _ _ r1 hps).1 rv
    rw [hpe, ex] at hra
    exact PySem.W.min_list_data (I.ok.hd hc) pl.isList (by simpa using hra) (by rw [← ex]; exact al) (by rw [← ex]; exact hdp) fun i v h2 tk as2 hv hr k => main bs hb e1 its rv ex (by simpa using hv) hr k
  · obtain ⟨v, rfl, h'⟩ := rbs1 h
    obtain ⟨a, ws, rfl, s1, r1⟩ := rb_tup h'
    obtain ⟨bs, e1, rfl, hb⟩ := r1.zip
    rw [Vals.ref1 r]
    obtain ⟨its, rv, ht, hz⟩ := I.tuple s1
    obtain ⟨as, hra⟩ := Dp.readsAll I _ _ _ (dps_of _ _ _ r1 hps).1 rv
    rw [hpe, ex] at hra
    exact PySem.W.min_tuple_data (I.ok.hd hc) ht (by simpa using hra) (by rw [← ex]; exact al) (by rw [← ex]; exact hdp) fun i v h2 tk as2 hv hr k => main bs hb e1 its rv ex (by simpa using hv) hr k
theorem dc_max (hc : X.calm = true) (hu : X.A.units + 100 < cLine) : DCallR X (.builtin "max") rMaxS := by
  intro pins s σ H A L Hz O ρ vs us ds Qd I S r h ⟨xs, hx, ⟨ne, ⟨ps, hps⟩, al, hat⟩, q⟩
  have main : ∀ (bs : List (D × V)), (∀ b ∈ bs, RV (rc X A L) O H b.1 b.2) → bs.map (·.1) = xs → ∀ (us' : List Value), Vals (bs.map (·.2)) us' → ∀ {i : Nat} {v : Value} {h' : Heap} {tk : Nat} {as : List Addr} {x : PyData} {r : List PyData}, xs.map encD = x :: r → us'[i]? = some v → Reads h' v (PySem.W.maxD x r) as → (∀ b o, s.heap.get? b = some o → h'.get? b = some o) →
      EP X pins σ (fun w H1 => ∃ d, Qd d ∧ FQ (rc X A L) O H d w H1) v { s with heap := h', toks := tk } := by
    intro bs hb e us' rv i v h' tk as x r ex hv hr k
    subst e
    obtain ⟨g1, g2⟩ := maxD_spec r x
    refine best_out I hb S hps al hat rv hv hr k (by rw [ex]; exact g1) fun d hd e => q d hd fun y hy => ?_
    rw [leD_eq, e, g2 _ (by rw [← ex]; exact List.mem_map.mpr ⟨y, hy, rfl⟩)]; rfl
  have hdp : X.A.units + 1 + PyData.depthAll (xs.map encD) < cLine := by
    have := depthAll_le (ps := xs.map encD) (n := 64) fun p hp => by
      obtain ⟨d, hd, rfl⟩ := List.mem_map.mp hp
      exact (hat d hd).1
    omega
  have hpe := toPDs_enc hps
  obtain ⟨x, r', ex⟩ : ∃ x r, xs.map encD = x :: r := by
    cases xs with
    | nil => exact absurd rfl ne
    | cons y ys => exact ⟨_, _, rfl⟩
  rcases hx with rfl | rfl
  · obtain ⟨v, rfl, h'⟩ := rbs1 h
    obtain ⟨a, ws, rfl, _, s1, r1⟩ := rb_lst h'
    obtain ⟨bs, e1, rfl, hb⟩ := r1.zip
    rw [Vals.ref1 r]
    obtain ⟨its, rv, pl, hz⟩ := I.list (.inl (.of s1))
    obtain ⟨as, hra⟩ := Dp.readsAll I _ _ _ (dps_of _ _ _ r1 hps).1 rv
    rw [hpe, ex] at hra
    exact PySem.W.max_list_data (I.ok.hd hc) pl.isList (by simpa using hra) (by rw [← ex]; exact al) (by rw [← ex]; exact hdp) fun i v h2 tk as2 hv hr k => main bs hb e1 its rv ex (by simpa using hv) hr k
  · obtain ⟨v, rfl, h'⟩ := rbs1 h
    obtain ⟨a, ws, rfl, s1, r1⟩ := rb_tup h'
    obtain ⟨bs, e1, rfl, hb⟩ := r1.zip
    rw [Vals.ref1 r]
    obtain ⟨its, rv, ht, hz⟩ := I.tuple s1
    obtain ⟨as, hra⟩ := Dp.readsAll I _ _ _ (dps_of _ _ _ r1 hps).1 rv
    rw [hpe, ex] at hra
    exact PySem.W.max_tuple_data (I.ok.hd hc) ht (by simpa using hra) (by rw [← ex]; exact al) (by rw [← ex]; exact hdp) fun i v h2 tk as2 hv hr k => main bs hb e1 its rv ex (by simpa using hv) hr k
/-- of two ints -/
def bMax2 : List D → Option D
  | [.int i, .int j] => some (.int (if j > i then j else i))
  | _ => none
def bMin2 : List D → Option D
  | [.int i, .int j] => some (.int (if j < i then j else i))
  | _ => none
theorem dc_max2 (hc : X.calm = true) : DCall X (.builtin "max") bMax2 := by
  intro pins s σ H A L Hz O ρ vs us ds d I S r h g
  unfold bMax2 at g
  split at g
  · cases g
    obtain ⟨v, u, rfl, h1, h2⟩ := rbs2 h
    obtain rfl := rb_int h1
    obtain rfl := rb_int h2
    exact call_max2 hc pins s σ H _ us _ I r ⟨_, _, rfl, FQ.int S⟩
  · cases g
theorem dc_min2 (hc : X.calm = true) : DCall X (.builtin "min") bMin2 := by
  intro pins s σ H A L Hz O ρ vs us ds d I S r h g
  unfold bMin2 at g
  split at g
  · cases g
    obtain ⟨v, u, rfl, h1, h2⟩ := rbs2 h
    obtain rfl := rb_int h1
    obtain rfl := rb_int h2
    exact call_min2 hc pins s σ H _ us _ I r ⟨_, _, rfl, FQ.int S⟩
  · cases g
end
end Ev

/-! Ev20: dicts of one's own: new, written, sorted; sorted(set(xs)). -/
namespace Ev
open PySem PySem.Spec L2
open PyProof.Rows hiding St
variable [Tbl]
section
variable {X : Cx} {W : WX} {m : Md} {A : Addr} {L : LT} {Hz : Hp} {O O0 : Od} {gh : Gh} {ρ : EnvD} {σ : St} {H : Hp} {Ed : Exc → Prop} {K : SEnds} {Dn : Ends} {pos : Pos} {pins : List (Addr × Obj)} {s : Shared}
theorem r100 {k : Nat} {A : Around} (h : Room k A) : A.units + 100 < cLine := by have := h.un; omega
theorem de_dnew : DE X W m (.Dict [] [] pos) (mC (.dct [] [])) :=
  .by pe_dnewK fun σ H A L Hz O ρ Qd Ed S q hE p hp => by
    have x : Ex (rc X A L) H (upd H p (.dK [])) := Kp.new hp
    have rf : RF (rc X A L) O H (upd H p (.dK [])) (.dct [] []) (.ref p) := ⟨p, [], rfl, oNew S hp, hp, .inl ⟨[], upd_same, rfl, rfl⟩, .nil⟩
    exact ⟨_, x, S.bag.new hp, RF.rm S.oA rf, q⟩
/-! ### x[k] = v -/
def putKs (ks : List D) (k : D) : List D := if hasK ks k = true then ks else ks ++ [k]
def putVs (ks vs : List D) (k v : D) : List D := if hasK ks k = true then List.zipWith (fun k0 v0 => if dkOf k0 = dkOf k then v else v0) ks vs else vs ++ [v]
def ownDct (i : Nat) (ρ : EnvD) : Option (List D × List D) := match ρ[i]? with
  | some (some (.ownd ks vs)) => some (ks, vs)
  | _ => none
theorem ownDct_get {i : Nat} {ks vs : List D} (h : ownDct i ρ = some (ks, vs)) : ρ[i]? = some (some (.ownd ks vs)) := by
  unfold ownDct at h
  split at h
  · rename_i e; cases h; exact e
  · cases h
def mDput (i : Nat) (mk mv : ME) : MS := fun ρ K => mv ρ (fun v => Opt (ownDct i ρ) fun kv => mk ρ (fun k => askK kv.1 k = true ∧ kv.1.length < lim ∧ K.nx (setE i (.ownd (putKs kv.1 k) (putVs kv.1 kv.2 k v)) ρ)) K.ex) K.ex
theorem any_map {α β : Type} {f : α → β} {p : β → Bool} (l : List α) : (l.map f).any p = l.any fun x => p (f x) := by
  induction l with
  | nil => rfl
  | cons x l ih => simp [ih]
theorem put_one {c : Rc} {kvs : List (Key × V)} {k : Key} {vs : List D} {d : D} {v : V} (r : RVs c O H vs (kvs.map (·.2))) (hv : RV c O H d v) :
    (putK kvs k v).map (fun p => keyD p.1) = putKs (kvs.map fun p => keyD p.1) (keyD k) ∧ RVs c O H (putVs (kvs.map fun p => keyD p.1) vs (keyD k) d) ((putK kvs k v).map (·.2)) := by
  have e : hasK (kvs.map fun p => keyD p.1) (keyD k) = kvs.any fun kv => decide (kv.1 = k) := by
    unfold hasK
    rw [any_map]
    congr 1
    funext p
    rw [dkOf_keyD, dkOf_keyD]
    simp
  unfold putK putKs putVs
  rw [e]
  by_cases h : (kvs.any fun kv => decide (kv.1 = k)) = true
  · simp only [h, if_true]
    refine ⟨?_, ?_⟩
    · rw [List.map_map]
      apply List.map_congr_left
      intro p _
      simp only [Function.comp]
      split
      · rename_i q; rfl
      · rfl
    · clear h e
      induction kvs generalizing vs with
      | nil =>
        cases vs with
        | nil => exact .nil
        | cons x r' => unfold RVs at r; obtain ⟨_, _, e, _⟩ := r; cases e
      | cons p kvs ih =>
        cases vs with
        | nil => unfold RVs at r; cases r
        | cons x vs =>
          unfold RVs at r
          obtain ⟨v0, r', e, h0, hs⟩ := r
          rw [List.map_cons] at e
          cases e
          simp only [List.map_cons, List.zipWith_cons_cons]
          refine RVs.cons ?_ (ih hs)
          by_cases q : p.1 = k
          · rw [if_pos (by rw [q]), if_pos q]; exact hv
          · rw [if_neg (fun z => q (by rw [dkOf_keyD, dkOf_keyD] at z; cases z; rfl)), if_neg q]; exact h0
  · simp only [h, if_false, Bool.false_eq_true]
    exact ⟨by rw [List.map_append]; rfl, by rw [List.map_append]; exact r.append (.one hv)⟩
theorem put_tup {c : Rc} {kvs : List (List Key × V)} {k : List Key} {vs : List D} {d : D} {v : V} (r : RVs c O H vs (kvs.map (·.2))) (hv : RV c O H d v) :
    (putK kvs k v).map (fun p => D.tup (p.1.map keyD)) = putKs (kvs.map fun p => D.tup (p.1.map keyD)) (.tup (k.map keyD)) ∧ RVs c O H (putVs (kvs.map fun p => D.tup (p.1.map keyD)) vs (.tup (k.map keyD)) d) ((putK kvs k v).map (·.2)) := by
  have e : hasK (kvs.map fun p => D.tup (p.1.map keyD)) (.tup (k.map keyD)) = kvs.any fun kv => decide (kv.1 = k) := by
    unfold hasK
    rw [any_map]
    congr 1
    funext p
    rw [dkOf_keysD, dkOf_keysD]
    simp
  unfold putK putKs putVs
  rw [e]
  by_cases h : (kvs.any fun kv => decide (kv.1 = k)) = true
  · simp only [h, if_true]
    refine ⟨?_, ?_⟩
    · rw [List.map_map]
      apply List.map_congr_left
      intro p _
      simp only [Function.comp]
      split
      · rename_i q; rfl
      · rfl
    · clear h e
      induction kvs generalizing vs with
      | nil =>
        cases vs with
        | nil => exact .nil
        | cons x r' => unfold RVs at r; obtain ⟨_, _, e, _⟩ := r; cases e
      | cons p kvs ih =>
        cases vs with
        | nil => unfold RVs at r; cases r
        | cons x vs =>
          unfold RVs at r
          obtain ⟨v0, r', e, h0, hs⟩ := r
          rw [List.map_cons] at e
          cases e
          simp only [List.map_cons, List.zipWith_cons_cons]
          refine RVs.cons ?_ (ih hs)
          by_cases q : p.1 = k
          · rw [if_pos (by rw [q]), if_pos q]; exact hv
          · rw [if_neg (fun z => q (by rw [dkOf_keysD, dkOf_keysD] at z; cases z; rfl)), if_neg q]; exact h0
  · simp only [h, if_false, Bool.false_eq_true]
    exact ⟨by rw [List.map_append]; rfl, by rw [List.map_append]; exact r.append (.one hv)⟩
theorem ds_dput {x : Str} {e value : Expr} {mk mv : ME} {p pos' : Pos} (i : Nat) (hu : X.A.units + 100 < cLine) (hk : DE X W .al e mk) (hv : DE X W .vl value mv) (hN : X.N[i]? = some x) (hvs : Vis X.env.scope x) (hd : (x == ("__debug__" : Str)) = false) (hcd : (x == ("__classdict__" : Str)) = false)
    (hs : swapsWith value (some (.Subscript (.Name x p) e pos')) pos.line X.env = pure false) : DS X W (.Assign [.Subscript (.Name x p) e pos'] value pos) (mDput i mk mv) := by
  refine ⟨fun pins s σ H Dn I h => ?_⟩
  obtain ⟨A, L, O0, gh, ρ, K, S, h, l⟩ := h
  refine wpAny_Assign_Subscript (thn (hv.run pins s σ H (fun v H1 => ∃ d, SS (rc X A L) X O0 gh ρ σ H1 ∧ RV (rc X A L) (OS O0 ρ σ) H1 d v ∧ Opt (ownDct i ρ) fun kv => mk ρ (fun k => askK kv.1 k = true ∧ kv.1.length < lim ∧ K.nx (setE i (.ownd (putKs kv.1 k) (putVs kv.1 kv.2 k d)) ρ)) K.ex) I
    (tE.st S h l fun d v H' q S' x r => ⟨d, S', r, q⟩)) fun r s1 ⟨v, H1, I1, rv, d, S1, hr, ⟨ks, vs⟩, hO, q1⟩ => ?_) hs
  obtain ⟨w, hw1, a, ws, rfl, nA, hdo, hrs⟩ := S1.se.slots i _ (ownDct_get hO)
  refine thn ((pe_var (pos := p) hN hvs hd hcd).run pins s1 σ H1 (fun w' H2 => w' = .ref a ∧ H2 = H1) I1 ⟨_, hw1, rfl, rfl⟩) fun u s2 ⟨w', H2, I2, rx, ew, eH⟩ => ?_
  subst ew eH
  refine thn (hk.run pins s2 σ H2 (fun y H3 => ∃ k, SS (rc X A L) X O0 gh ρ σ H3 ∧ Ex (rc X A L) H2 H3 ∧ RB (rc X A L) (OS O0 ρ σ) H3 k y ∧ askK ks k = true ∧ ks.length < lim ∧ K.nx (setE i (.ownd (putKs ks k) (putVs ks vs k d)) ρ)) I2
    (tE.st S1 q1 l fun k y H' q S' x r => ⟨k, S', x, r, q⟩)) fun iv s3 ⟨y, H3, I3, ry, k, S3, x3, rk, hask, hlen, q3⟩ => ?_
  obtain rfl : u = Value.ref a := rx
  have hdo3 := hdo.kp x3 nA
  have hrs3 := hrs.kp (x3.kp S1.se.oA)
  have hr3 := hr.kp (x3.kp S1.se.oA)
  have rk := RB.rvK rk hask
  have hown : OS O0 ρ σ a := .inr ⟨i, _, ownDct_get hO, rfl, hw1⟩
  have hsome : ∃ kk, dkOf k = some kk := by
    unfold askK at hask
    rw [Bool.and_eq_true] at hask
    exact Option.isSome_iff_exists.mp hask.1
  obtain ⟨kk, hkk⟩ := hsome
  -- the two endings
  have finK : ∀ (J : Hp) (kvs : List (Key × V)) (k0 : Key), Inv X pins σ J s3 → J a = some (.dK kvs) → (∀ o, upd J a o = upd H3 a o) → Mut (H3 a) → ks = kvs.map (fun p => keyD p.1) → ws = kvs.map (·.2) → k = keyD k0 →
      wpAny (model X.prog X.w) X.A (setItem (.ref a) iv r) (fun _ s4 => SP X pins Dn .next s4) X.xe s3 := by
    intro J kvs k0 IJ hJ hup hmut e1 e2 e3
    subst e1 e2 e3
    obtain rfl := rv_keyD rk
    have hl : kvs.length < sizeLine := by rw [← lim_eq]; simpa using hlen
    refine d_setItem (by omega) IJ (.inl ⟨kvs, k0, hJ, rfl, hl, rfl⟩) ry rv fun s4 I4 => ?_
    obtain ⟨g1, g2⟩ := put_one (k := k0) (v := v) hrs3 hr3
    rw [hup] at I4
    obtain ⟨u0, hu0⟩ : ∃ u0, H3 a = some u0 := by
      cases z : H3 a with
      | none => rw [z] at hmut; exact hmut.elim
      | some u0 => exact ⟨u0, rfl⟩
    rw [hu0] at hmut
    refine ⟨σ, _, I4, l.nx _ _ _ q3 (S3.chg (ownDct_get hO) rfl rfl hw1 hu0 hmut ⟨a, _, rfl, nA, .inl ⟨_, upd_same, g1.symm, rfl⟩, g2.kp (Kp.wr hu0 hmut hown)⟩)⟩
  have finT : ∀ (J : Hp) (kvs : List (List Key × V)) (k0 : List Key), Inv X pins σ J s3 → J a = some (.dT kvs) → (∀ o, upd J a o = upd H3 a o) → (∀ b, b ≠ a → J b = H3 b) → Mut (H3 a) → ks = kvs.map (fun p => D.tup (p.1.map keyD)) → ws = kvs.map (·.2) → k = .tup (k0.map keyD) →
      wpAny (model X.prog X.w) X.A (setItem (.ref a) iv r) (fun _ s4 => SP X pins Dn .next s4) X.xe s3 := by
    intro J kvs k0 IJ hJ hup hoth hmut e1 e2 e3
    subst e1 e2 e3
    obtain ⟨b, rfl, hb⟩ := rv_keyT rk
    obtain ⟨u0, hu0⟩ : ∃ u0, H3 a = some u0 := by
      cases z : H3 a with
      | none => rw [z] at hmut; exact hmut.elim
      | some u0 => exact ⟨u0, rfl⟩
    rw [hu0] at hmut
    have nb : b ≠ a := fun z => by
      rw [z] at hb
      rw [hu0] at hb
      cases hb
      exact hmut
    have hl : kvs.length < sizeLine := by rw [← lim_eq]; simpa using hlen
    refine d_setItem (by omega) IJ (.inr ⟨kvs, k0, b, hJ, rfl, by rw [hoth b nb]; exact hb, hl, rfl⟩) ry rv fun s4 I4 => ?_
    obtain ⟨g1, g2⟩ := put_tup (k := k0) (v := v) hrs3 hr3
    rw [hup] at I4
    refine ⟨σ, _, I4, l.nx _ _ _ q3 (S3.chg (ownDct_get hO) rfl rfl hw1 hu0 hmut ⟨a, _, rfl, nA, .inr ⟨_, upd_same, g1.symm, rfl⟩, g2.kp (Kp.wr hu0 hmut hown)⟩)⟩
  rcases hdo3 with ⟨kvs, h0, e1, e2⟩ | ⟨kvs, h0, e1, e2⟩
  · cases kk with
    | one k0 => exact finK H3 kvs k0 I3 h0 (fun _ => rfl) (by rw [h0]; trivial) e1 e2 (dkOf_one hkk)
    | tup k0 =>
      have e0 : kvs = [] := ask_nil (f := fun p : Key × V => keyD p.1) (by rw [← e1]; exact hask) fun p => by unfold kindK; rw [dkOf_keyD, hkk]
      subst e0
      exact finT (upd H3 a (.dT [])) [] k0 (invToT I3 h0) upd_same (fun o => upd_upd) (fun b nb => upd_ne nb) (by rw [h0]; trivial) e1 e2 (dkOf_tup hkk)
  · cases kk with
    | tup k0 => exact finT H3 kvs k0 I3 h0 (fun _ => rfl) (fun _ _ => rfl) (by rw [h0]; trivial) e1 e2 (dkOf_tup hkk)
    | one k0 =>
      have e0 : kvs = [] := ask_nil (f := fun p : List Key × V => D.tup (p.1.map keyD)) (by rw [← e1]; exact hask) fun p => by unfold kindK; rw [dkOf_keysD, hkk]
      subst e0
      exact finK (upd H3 a (.dK [])) [] k0 (invToK I3 h0) upd_same (fun o => upd_upd) (by rw [h0]; trivial) e1 e2 (dkOf_one hkk)
/-! ### a dict's keys, gathered -/
def keyOkD : D → Bool
  | .str x => decide (x.length ≤ 16777216) && PyData.strOk x
  | _ => true
def keyOk2 : D → Bool
  | .tup ds => ds.all keyOkD
  | d => keyOkD d
theorem rv_of_key {c : Rc} {k : Key} (h : keyOkD (keyD k) = true) : RV c O H (keyD k) (kV k) := by
  cases k with
  | inl i => exact mk_int
  | inr x =>
    unfold keyD keyOkD at h
    rw [Bool.and_eq_true, decide_eq_true_eq] at h
    exact mk_str (by rw [sizeLine_eq]; exact h.1) h.2
theorem rvs_of_keys {c : Rc} : ∀ {k : List Key}, (k.map keyD).all keyOkD = true → RVs c O H (k.map keyD) (k.map kV)
  | [], _ => .nil
  | k :: ks, h => by
    simp only [List.map_cons, List.all_cons, Bool.and_eq_true] at h
    exact .cons (rv_of_key h.1) (rvs_of_keys h.2)
theorem pairs_vals {P : Program} {w : World} : ∀ {es : List DictEntry} {kvs : List (Key × V)} {vs : List (Key × Value)}, Pairs (mixKind P w) es vs → KV kvs vs → Vals (kvs.map fun p => kV p.1) (es.map (·.key))
  | [], kvs, vs, h, k => by
    cases h; cases k; exact .nil
  | e :: es, kvs, vs, h, k => by
    cases h with
    | cons h1 h1b h2 =>
      cases k with
      | cons k1 k2 =>
        rename_i p kvs
        refine .cons ?_ (pairs_vals h2 k2)
        show RelV (kV p.1) e.key
        rw [k1.1]
        exact relV_key h1
theorem list_of_items {es : Array DictEntry} {acc : Array Value} (h : ItemsOf (fun i v => ∃ en : DictEntry, es[i]? = some en ∧ v = en.key) acc es.size) : acc.toList = es.toList.map (·.key) := by
  apply List.ext_getElem?
  intro j
  rw [List.getElem?_map, Array.getElem?_toList, Array.getElem?_toList]
  cases hj : acc[j]? with
  | none =>
    have h1 := Array.getElem?_eq_none_iff.mp hj
    rw [Array.getElem?_eq_none (by rw [← h.1]; exact h1)]; rfl
  | some v =>
    obtain ⟨en, hen, hv⟩ := h.2 j v hj
    rw [hen, hv]; rfl
theorem vals_keys_of {P : Program} {w : World} : ∀ {xs : List (List Key × Addr × Value)}, Vals ((xs.map fun x => x.2.1).map V.ref) ((xs.map (entryOfKey (tupleKind (mixKind P w)))).map (·.key))
  | [] => .nil
  | x :: xs => .cons rfl (vals_keys_of (xs := xs))
theorem zip_keysT {c : Rc} : ∀ {kvs : List (List Key × V)} {xs : List (List Key × Addr × Value)}, KT H kvs xs → (kvs.map fun p => D.tup (p.1.map keyD)).all keyOk2 = true → RVs c O H (kvs.map fun p => D.tup (p.1.map keyD)) ((xs.map fun x => x.2.1).map V.ref)
  | _, _, .nil, _ => .nil
  | _, _, .cons h t, ok => by
    simp only [List.map_cons, List.all_cons, Bool.and_eq_true] at ok
    refine .cons ?_ (zip_keysT t ok.2)
    exact mk_tup h.2.1 (rvs_of_keys ok.1)
theorem zip_keysK {c : Rc} : ∀ {kvs : List (Key × V)}, (kvs.map fun p => keyD p.1).all keyOk2 = true → RVs c O H (kvs.map fun p => keyD p.1) (kvs.map fun p => kV p.1)
  | [], _ => .nil
  | p :: kvs, ok => by
    simp only [List.map_cons, List.all_cons, Bool.and_eq_true] at ok
    refine .cons (rv_of_key ?_) (zip_keysK ok.2)
    have := ok.1
    cases h : p.1 <;> rw [h] at this <;> exact this
theorem dct_keys {c : Rc} {a : Addr} {ks : List D} {ws : List V} (I : Inv X pins σ H s) (hd : DctAt H a ks ws) (ok : ks.all keyOk2 = true) (A' : Around) (hh : A'.handled = none) : ∃ vs, RVs c O H ks vs ∧ ks.length ≤ lim ∧
    ∀ (E' : Value → Shared → Prop) (Q' : List Value → Shared → Prop), (∀ us h' tk, (∀ b o, s.heap.get? b = some o → h'.get? b = some o) → Vals vs us → Q' us { s with heap := h', toks := tk }) → wpAny (model X.prog X.w) A' (collect (.ref a)) Q' E' s := by
  rcases hd with ⟨kvs, h1, _, rfl, rfl⟩ | ⟨kvs, h1, _, rfl, rfl⟩
  · obtain ⟨hl, lo, vs, kv, o, es, ep, ho, hx, hdt, hko, hp, nd⟩ := dk_rd I.hok h1
    have pv := pairs_vals hp kv
    have hsz : es.size ≤ sizeLine := by
      have := pv.length
      simp at this
      omega
    refine ⟨_, zip_keysK ok, by rw [lim_eq]; simpa using hl, fun E' Q' hq => ?_⟩
    refine PySem.W.kdu_collect (kdl_raw lo hx hdt) hh ho hsz fun h' tk acc hk hit => ?_
    exact hq _ h' tk hk (by rw [list_of_items hit]; exact pv)
  · obtain ⟨hl, lo, xs, kt, o, es, ep, ho, hx, hdt, he, nd⟩ := (show ObjOk X.prog X.w H s.heap a (.dT kvs) from h1.ok I.hok)
    have hsz : es.size ≤ sizeLine := by
      have l1 : es.size = xs.length := size_of_entries he
      have l2 : kvs.length = xs.length := Paired.length kt
      omega
    refine ⟨_, zip_keysT kt ok, by rw [lim_eq]; simpa using hl, fun E' Q' hq => ?_⟩
    refine PySem.W.kdu_collect (kdl_raw lo hx hdt) hh ho hsz fun h' tk acc hk hit => ?_
    exact hq _ h' tk hk (by rw [list_of_items hit, he]; exact vals_keys_of)
def rSorted : RS := fun ds Q => ∃ xs, (ds = [.lst xs] ∨ ds = [.tup xs] ∨ ∃ vs, ds = [.dct xs vs] ∧ xs.all keyOk2 = true) ∧ CanSort xs ∧ ∀ es, IsSort xs es → Q (.lst es)
theorem dc_sortedA (hc : X.calm = true) (hu : X.A.units + 100 < cLine) : DCallR X (.builtin "sorted") rSorted := by
  intro pins s σ H A L Hz O ρ vs us ds Qd I S r h ⟨xs, hx, cs, q⟩
  rcases hx with rfl | rfl | ⟨dv, rfl, ok⟩
  · exact dc_sorted hu pins s σ H A L Hz O ρ vs us _ Qd I S r h ⟨xs, .inl rfl, cs, q⟩
  · exact dc_sorted hu pins s σ H A L Hz O ρ vs us _ Qd I S r h ⟨xs, .inr rfl, cs, q⟩
  · obtain ⟨v, rfl, h'⟩ := rbs1 h
    obtain ⟨a, ws, rfl, _, hd, _⟩ := rb_dct h'
    obtain ⟨kv, rk, _, hcol⟩ := dct_keys (c := rc X A L) (O := O) I hd ok X.A.in1 (I.ok.hd hc)
    obtain ⟨bs, rfl, rfl, hb⟩ := rk.zip
    obtain ⟨ps, hps⟩ := cs.1
    rw [Vals.ref1 r]
    exact sorted_run I hcol (dps_zip hb hps) cs hu fun es p hp ho hn => sort_out (c := rc X A L) S hb hp ho hn q
theorem xsorted {e : Expr} {es : List Expr} {ma : MA} {p : Pos} (B : Bi X.mg) (hu : X.A.units + 100 < cLine) (ha : DA X W .al (e :: es) ma) (hc : X.calm = true := by rfl) (hg : Gl X "sorted" := by rfl)
    (he : starEach (e :: es) X.env = (false, eval e X.env) :: starEach es X.env := by rfl) (hpl : (backTo pos (starEach es X.env)).any (·.1) = false := by rfl) : DE X W m (.Call (.Name "sorted" p) (e :: es) [] pos) (mBltR rSorted ma) :=
  de_bltR (dc_sortedA hc hu) hg B.sorted (by decide +kernel) ha (by decide) (by decide) he hpl
theorem xmin {e : Expr} {es : List Expr} {ma : MA} {p : Pos} (B : Bi X.mg) (hu : X.A.units + 100 < cLine) (ha : DA X W .al (e :: es) ma) (hc : X.calm = true := by rfl) (hg : Gl X "min" := by rfl)
    (he : starEach (e :: es) X.env = (false, eval e X.env) :: starEach es X.env := by rfl) (hpl : (backTo pos (starEach es X.env)).any (·.1) = false := by rfl) : DE X W m (.Call (.Name "min" p) (e :: es) [] pos) (mBltR rMinS ma) :=
  de_bltR (dc_min hc hu) hg B.min (by decide +kernel) ha (by decide) (by decide) he hpl
theorem xmax {e : Expr} {es : List Expr} {ma : MA} {p : Pos} (B : Bi X.mg) (hu : X.A.units + 100 < cLine) (ha : DA X W .al (e :: es) ma) (hc : X.calm = true := by rfl) (hg : Gl X "max" := by rfl)
    (he : starEach (e :: es) X.env = (false, eval e X.env) :: starEach es X.env := by rfl) (hpl : (backTo pos (starEach es X.env)).any (·.1) = false := by rfl) : DE X W m (.Call (.Name "max" p) (e :: es) [] pos) (mBltR rMaxS ma) :=
  de_bltR (dc_max hc hu) hg B.max (by decide +kernel) ha (by decide) (by decide) he hpl
theorem xmin2 {e : Expr} {es : List Expr} {ma : MA} {p : Pos} (B : Bi X.mg) (ha : DA X W .al (e :: es) ma) (hc : X.calm = true := by rfl) (hg : Gl X "min" := by rfl)
    (he : starEach (e :: es) X.env = (false, eval e X.env) :: starEach es X.env := by rfl) (hpl : (backTo pos (starEach es X.env)).any (·.1) = false := by rfl) : DE X W m (.Call (.Name "min" p) (e :: es) [] pos) (mBlt bMin2 ma) :=
  xblt (dc_min2 hc) B.min hg (by decide +kernel) (by decide) (by decide) ha he hpl
theorem xmax2 {e : Expr} {es : List Expr} {ma : MA} {p : Pos} (B : Bi X.mg) (ha : DA X W .al (e :: es) ma) (hc : X.calm = true := by rfl) (hg : Gl X "max" := by rfl)
    (he : starEach (e :: es) X.env = (false, eval e X.env) :: starEach es X.env := by rfl) (hpl : (backTo pos (starEach es X.env)).any (·.1) = false := by rfl) : DE X W m (.Call (.Name "max" p) (e :: es) [] pos) (mBlt bMax2 ma) :=
  xblt (dc_max2 hc) B.max hg (by decide +kernel) (by decide) (by decide) ha he hpl
theorem xdput {x : Str} {e value : Expr} {mk mv : ME} {p pos' : Pos} (i : Nat) (hu : X.A.units + 100 < cLine) (hk : DE X W .al e mk) (hv : DE X W .vl value mv) (hN : X.N[i]? = some x := by rfl) (hvs : Vis X.env.scope x := by first | exact Or.inl rfl | exact Or.inr (Or.inl rfl) | exact Or.inr (Or.inr rfl)) (hd : (x == ("__debug__" : Str)) = false := by decide) (hcd : (x == ("__classdict__" : Str)) = false := by decide)
    (hs : swapsWith value (some (.Subscript (.Name x p) e pos')) pos.line X.env = pure false := by rfl) : DS X W (.Assign [.Subscript (.Name x p) e pos'] value pos) (mDput i mk mv) := ds_dput i hu hk hv hN hvs hd hcd hs
/-! ### sorted(set(xs)), len(set(xs)): ints -/
/-- the ints of xs, each once, rising -/
def IsSet (ns os : List Int) : Prop := os.Pairwise (· < ·) ∧ ∀ k, k ∈ os ↔ k ∈ ns
def mSortSet (me : ME) : ME := fun ρ Q E => me ρ (fun d => ∃ ns : List Int, (d = .lst (ns.map .int) ∨ d = .tup (ns.map .int)) ∧ ns.length < 64 ∧ ∀ os, IsSet ns os → Q (.lst (os.map .int))) E
theorem ints_vals : ∀ {ns : List Int} {us : List Value}, Vals (ns.map V.int) us → IntsAre us ns
  | [], _, .nil => .nil
  | n :: ns, _, .cons r t => by
    obtain ⟨tk, rfl⟩ := r
    exact .cons n tk (ints_vals t)
theorem xsortset {a : Expr} {me : ME} {p p2 q : Pos} (B : Bi X.mg) (hu : X.A.units + 100 < cLine) (ha : DE X W .al a me) (hc : X.calm = true := by rfl) (hg : Gl X "sorted" := by rfl) (hg2 : Gl X "set" := by rfl)
    (na : starEach [a] X.env = (false, eval a X.env) :: starEach [] X.env := by rfl) (hs1 : starEach [.Call (.Name "set" p2) [a] [] q] X.env = (false, eval (.Call (.Name "set" p2) [a] [] q) X.env) :: starEach [] X.env := by rfl) :
    DE X W m (.Call (.Name "sorted" p) [.Call (.Name "set" p2) [a] [] q] [] pos) (mSortSet me) := by
  refine .mk fun pins s σ H A L Hz O ρ Qd Ed I S hm hE => ?_
  refine Call_ (ld_blt I hg B.sorted (show bootBuiltins "sorted" = some (.builtin "sorted") from by decide +kernel) ?_)
  refine PyProof.Rows.callWith_builtin1 (PyProof.Rows.args_cons ?_ hs1) hs1 rfl
  refine Call_ (ld_blt I hg2 B.set PyProof.Rows.boot_set ?_)
  refine PyProof.Rows.callWith_type1 (PyProof.Rows.args_cons (thn (ha.get I S hm hE) fun u s1 z => PyProof.Rows.args_nil ?_) na) na rfl
  obtain ⟨v, H1, d, I1, r1, S1, x1, m1, ns, hd, hl, q1⟩ := z
  -- behind the set
  have fin : ∀ (h' : Heap) (tk c : Nat), SetR X.w h' s1.heap.objs.size (fun j => decide (j ∈ ns)) c → c ≤ ns.length → (∀ b o, s1.heap.get? b = some o → h'.get? b = some o) →
      wpAny (model X.prog X.w) X.A (call (.builtin "sorted") [.ref s1.heap.objs.size]) (fun u s1 => ∃ v H1 d, Inv X pins σ H1 s1 ∧ RelV v u ∧ Ex (rc X A L) H H1 ∧ Bag (rc X A L) H1 ∧ RM m (rc X A L) O H H1 d v ∧ Qd d) X.xe { s1 with heap := h', toks := tk } := by
    intro h' tk c R hc' k
    have hn : H1 s1.heap.objs.size = none := I1.hok.fresh (Nat.le_refl _)
    have I2 : Inv X pins σ (upd H1 s1.heap.objs.size (SetO X.w s1.heap.objs.size (fun j => decide (j ∈ ns)) c)) { s1 with heap := h', toks := tk } := I1.laid (t' := tk) k (Nat.le_refl _) (setO_new R)
    refine thn (cr_sortedSet hc pins _ σ _ [.ref s1.heap.objs.size] [.ref s1.heap.objs.size] (fun w H3 => ∃ os p, IsSet ns os ∧ w = .ref p ∧ (upd H1 s1.heap.objs.size (SetO X.w s1.heap.objs.size (fun j => decide (j ∈ ns)) c)) p = none ∧ H3 = upd (upd H1 s1.heap.objs.size (SetO X.w s1.heap.objs.size (fun j => decide (j ∈ ns)) c)) p (.lst (os.map V.int))) I2 (.cons rfl .nil)
      ⟨_, _, c, rfl, upd_same, by omega, fun os p h1 h2 _ hp => ⟨os, p, ⟨h1, fun k => by rw [h2 k, decide_eq_true_eq]⟩, rfl, hp, rfl⟩⟩) fun u2 s2 ⟨w, H3, I3, r3, os, p, hos, ew, hp, eH⟩ => ?_
    subst ew eH
    have x2 : Ex (rc X A L) H1 (upd H1 s1.heap.objs.size (SetO X.w s1.heap.objs.size (fun j => decide (j ∈ ns)) c)) := Kp.new hn
    have S2 := S1.ex x2 (S1.bag.new hn)
    obtain ⟨f1, f2, f3⟩ := FQ.lst (ds := os.map .int) (vs := os.map V.int) S2 hp RVs.of_ints
    refine ⟨_, _, _, I3, r3, (x1.trans x2).trans f1, f2, ?_, q1 os hos⟩
    exact RF.rm S.oA (RF.back f3 (x1.trans x2) S.oA)
  have hb : ns.length + 1 < scanBound := by unfold scanBound; omega
  rcases hd with rfl | rfl
  · obtain ⟨b, ws, rfl, _, h1, r⟩ := rb_lst (RM.rb m1 S1.oA)
    cases r1
    obtain ⟨its, rv, pl, hz⟩ := I1.list (.inl (.of h1))
    rw [r.ints] at rv
    exact call_set_lstI ns (I1.ok.hd hc) pl.isList (by simpa using ints_vals rv) hb fun h' tk c R hc' k => PyProof.Rows.args_nil (fin h' tk c R hc' k)
  · obtain ⟨b, ws, rfl, h1, r⟩ := rb_tup (RM.rb m1 S1.oA)
    cases r1
    obtain ⟨its, rv, ht, hz⟩ := I1.tuple h1
    rw [r.ints] at rv
    exact call_set_tupI ns (I1.ok.hd hc) ht (by simpa using ints_vals rv) hb fun h' tk c R hc' k => PyProof.Rows.args_nil (fin h' tk c R hc' k)
end
end Ev

set_option maxHeartbeats 2000000
/-! EvX1: own errors over ValueError whose __init__ says super().__init__(..) and stores its fields: made (raw heaps). -/
namespace PySem
namespace EvX
open PySem.W PySem.Calls PyProof.Rows PySem.HandSPX
def eA1 (f : Str) (p1 p2 : Pos) : Arguments := { posonlyargs := [], args := [{ arg := "self", annotation := none, pos := p1 }, { arg := f, annotation := none, pos := p2 }], vararg := none, kwonlyargs := [], kw_defaults := [], kwarg := none, defaults := [] }
def eSup (es : List Expr) (p0 p1 p2 p4 p5 : Pos) : Stmt := .Expr (.Call (.Attribute (.Call (.Name "super" p0) [] [] p1) "__init__" p2) es [] p4) p5
def eSet (f : Str) (q1 q2 q3 q4 : Pos) : Stmt := .Assign [.Attribute (.Name "self" q1) f q2] (.Name f q3) q4
def eS1 (f : Str) : Scope := { kind := .function, names := [("self", .local), (f, .local), ("__class__", .free), ("super", .globalImplicit)], isGenerator := false, isCoroutine := false, more := [] }
/-- what the module's top has laid of an error class at C (instances' fields fs), its __init__ at fI -/
structure Er (P : Program) (K : Frag) (mg : Str → Option Value) (C fI cda cc : Addr) (qual : Str) (params : Arguments) (body : List Stmt) (scope : Scope) (fs : List Str) : Prop where
  cls : ∃ nm q N bs bm sn sub ab col dd k0 k1 k2 k3 k5, K.lookup C = some (excClassObj nm q C N bs bm true sn sub ab col dd k0 k1 k2 k3 k5 "ValueError.__new__") ∧ refsVE bm = true
  sa : findIn K (.ref C) "__setattr__" = some (some (.builtin "object.__setattr__"))
  noN : ∀ f ∈ fs, findIn K (.ref C) f = some none
  iC : findIn K (.ref C) "__init__" = some (some (.ref fI))
  tC : typeIn K (.ref fI) = some (.type "function")
  fn : ∃ (oc : Value) (od : Option Addr) (kV doc pm : Value) (an : Option Addr) (ct : Value) (osl : Array (Option Value)), K.lookup fI = some ⟨oc, od, .func (ksFn "__init__" qual params body scope .none kV doc pm an (.ref cda) ct cc), osl⟩ ∧ codeIn K (.ref cda) qual = true
  cod : ∃ (ccl : Value) (cdd : Option Addr) (vs : Array Value) (ccs : Array (Option Value)) (file : Str) (tf : Tok), K.lookup cda = some ⟨ccl, cdd, .fields vs, ccs⟩ ∧ vs[2]? = some (.str file tf) ∧ ((P.main.file : Str) == file) = true
  cel : ∃ (cl : Value) (cld : Option Addr) (csl : Array (Option Value)), K.lookup cc = some ⟨cl, cld, .cell (some (.ref C)), csl⟩
  sup : ks_superIn K C C "__init__" = some (some (.builtin "ValueError.__init__"))
  suV : subIn K (.ref C) (.type "ValueError") = some true
  suC : mroIn K C (.ref C) = some true
  opq : nsIn K cStatics "thirdparty.any" = some none
  sp : mg "super" = none
  top : (P.main.scope.names.lookup ("super" : Str)).isSome = false
theorem boot_super : bootBuiltins "super" = some (.type "super") := by decide +kernel
section
variable {prog : Program} {w : World} {M : Model} {A : Around} {E : Value → Shared → Prop} {h : Heap} {g : Array GenState} {d : Drawn} {t : Nat} {os : OsState}
theorem ldE {M : Model} {A : Around} {E : Value → Shared → Prop} {s : Shared} {env : Env} {x : Str} {pos : Pos} {m : Str → Option Value} {v : Value} {Q : Value → Shared → Prop} (hn : s.heap.Ns env.locals m) (hv : m x = some v) (h : Q v s)
    (hk : env.scope.kind = .function) (hl : env.kindOf x = some .local) (hd : (x == ("__debug__" : Str)) = false) : wpAny M A (eval (.Name x pos) env) Q E s := wpAny_Name (wpAny_loadName_local hk hl hn hv h) hd
theorem mw_call {u e C N t0 : Addr} {nm q : Str} {bs bm : List Value} {hdct : Bool} {sn : List Str} {sub : List Value} {ab : Bool} {col : Option Bool} {dd : Option Addr} {k0 k1 k2 k3 k5 : Option Value} {rest : List Value} {Q : Value → Shared → Prop}
    (hC : h.get? C = some (excClassObj nm q C N bs bm hdct sn sub ab col dd k0 k1 k2 k3 k5 "ValueError.__new__")) (he : h.get? e = some (excO C t0)) (hu : h.get? u = some (kxs_mw "ValueError.__init__" e)) (hrest : rest.length ≤ sizeLine)
    (hq : ∀ h' t1, (∀ b o, b ≠ e → h.get? b = some o → h'.get? b = some o) → h'.get? e = some (excO C t1) → Q .none ⟨h', g, d, t, os⟩) :
    wpAny (model prog w) A (call (.ref u) rest) Q E ⟨h, g, d, t, os⟩ := by
  refine wpAny_call (codeAny_of_tree ?_)
  show wpAny _ A.in1 (callAny (.ref u) ⟨rest, []⟩) _ _ _
  simp only [callAny]
  refine wpAny_bind (wpAny_load hu ?_)
  simp only [kxs_mw, show (Value.type "method-wrapper" == Value.type "method" || Value.type "method-wrapper" == Value.type "builtin_function_or_method" || Value.type "method-wrapper" == Value.type "method-wrapper") = true by decide, if_true]
  refine KFB.if_so (by decide) ?_
  refine wpAny_bind (check_bound_init F.excBase_ValueError.toExcCallFacts hC he rfl ?_)
  refine wpAny_bind (wpAny_pure (wpAny_pure ?_))
  refine ⟨plainId_quiet F.excBase_ValueError.init.plain _, codeAny_builtin F.excBase_ValueError.initEntry ?_⟩
  exact exc_init_tree (cls := .ref C) (t0 := t0) (dv := none) (c2 := .none) (c3 := .none) (b4 := .bool false) he hrest fun h' k e' _ => hq h' _ k e'
theorem sup_stmt {C fI cda cc L x t0 : Addr} {qual : Str} {params : Arguments} {body : List Stmt} {sc : Scope} {fs : List Str} {K : Frag} {mg mb m : Str → Option Value} {es : List Expr} {vs : List Value} {p0 p1 p2 p4 p5 : Pos} {Q : Flow → Shared → Prop}
    (T : Er prog K mg C fI cda cc qual params body sc fs) (X : K.In h) (glob : h.Ns mainGlobals mg) (blt : h.Ns builtinsNs mb) (hbt : mb "super" = bootBuiltins "super") (hx : h.get? x = some (excO C t0)) (ns : h.Ns L m) (hself : m "self" = some (.ref x))
    (hk : sc.kind = .function) (hks : sc.names.lookup ("super" : Str) = some .globalImplicit) (hkc : sc.names.lookup ("__class__" : Str) = some .free) (hka : sc.names.lookup ("self" : Str) = some .local) (hpa : ∃ ar, (params.posonlyargs ++ params.args).head? = some ar ∧ ar.arg = "self")
    (hplain : (backTo p4 (starEach es (ksEnv qual sc L fI (.ref cda) cc))).any (·.1) = false) (hvs : vs.length ≤ sizeLine)
    (hev : ∀ (u : Addr) (s' : Shared) (Q' : Args → Shared → Prop), s'.heap.Ns L m → Q' ⟨vs, []⟩ s' → wpAny (model prog w) A (evalArgs (.ref u) true (backTo p4 (starEach es (ksEnv qual sc L fI (.ref cda) cc))) []) Q' E s')
    {pl : Sem Bool} (hcall : eval (.Call (.Attribute (.Call (.Name "super" p0) [] [] p1) "__init__" p2) es [] p4) (ksEnv qual sc L fI (.ref cda) cc) = (do
      let ov ← attributeBase (.Call (.Name "super" p0) [] [] p1) "__init__" (ksEnv qual sc L fI (.ref cda) cc) (eval (.Call (.Name "super" p0) [] [] p1) (ksEnv qual sc L fI (.ref cda) cc))
      standAt p2.atName
      let (fn, first) ← holding [ov] (getMethod ov "__init__" pl)
      callWith p4 fn first (backTo p4 (starEach es (ksEnv qual sc L fI (.ref cda) cc))) []))
    (hint : interactive (ksEnv qual sc L fI (.ref cda) cc) = false) (hsw : swapsWith (.Call (.Attribute (.Call (.Name "super" p0) [] [] p1) "__init__" p2) es [] p4) none p5.line (ksEnv qual sc L fI (.ref cda) cc) = pure false)
    (hq : ∀ h' tk t1, (∀ b o, b ≠ x → h.get? b = some o → h'.get? b = some o) → h'.get? x = some (excO C t1) → Q .next ⟨h', g, d, tk, os⟩) :
    _root_.PySem.wpAt (model prog w) A (.func body (ksEnv qual sc L fI (.ref cda) cc)) (exec (eSup es p0 p1 p2 p4 p5) (ksEnv qual sc L fI (.ref cda) cc)) Q E ⟨h, g, d, t, os⟩ := by
  obtain ⟨nm, q, N, bs, bm, sn, sub, ab, col, dd, k0, k1, k2, k3, k5, hC, hbm⟩ := T.cls
  obtain ⟨oc, od, kV, doc, pm, an, ct, osl, ho, hcd⟩ := T.fn
  obtain ⟨ccl, cdd, cvs, ccs, file, tf, hcod, hv2, hfile⟩ := T.cod
  obtain ⟨cl, cld, csl, hcel⟩ := T.cel
  obtain ⟨ar, hpa, har⟩ := hpa
  have hcl : clsIn K C = some { name := nm, bases := bs, mro := .ref C :: bm, ns := N, qualname := q, hasDict := true, slotNames := sn, subclasses := sub, abstract := ab, collection := col, hasDel := false } := by unfold clsIn; rw [hC] <;> rfl
  have hxC : x ≠ C := by
    rintro rfl
    have e := X _ _ hC
    rw [hx] at e
    cases e
  unfold eSup
  refine ks_wpAt_Expr_any (ks_wpAt_MethodCall ?_ hcall) hint hsw
  refine ks_wpAt_super_base (env := ksEnv qual sc L fI (.ref cda) cc) hks hkc rfl rfl (X _ _ ho) rfl hpa rfl (X _ _ hcod) rfl hv2 hfile T.top ?_
  refine ks_loadName_global hk hks (loadGlobal_builtin (env := ksEnv qual sc L fI (.ref cda) cc) glob T.sp blt (hbt.trans boot_super) ⟨rfl, ?_⟩)
  refine wpAny_loadName_free hk hkc rfl ⟨_, X _ _ hcel, rfl⟩ ?_
  rw [har]
  refine wpAny_loadName_local hk hka ns hself ?_
  refine ks_wpAny_isType_cls (X _ _ hC) rfl ⟨rfl, ?_⟩
  refine ks_wpAny_call_super (X _ _ hC) rfl hx rfl (fun c e => by cases e) (looks_mroIn X T.suC) (fun h1 hso k1' => ?_)
  have X1 : K.In h1 := X.keeps k1'
  have hx1 := k1' _ _ hx
  have I1 : InstAt h1 x (excO C t0) C none := ⟨hx1, rfl, rfl, trivial⟩
  have hm := T.sup
  unfold ks_superIn at hm
  rw [hcl, Option.bind_some] at hm
  refine kxs_getMethod kxs_ValueError hso (looks_opaque X1 T.opq) (l₀ := .ref C :: bm) ?_ rfl X1 hm (I1.type.andThen (looks_subIn X1 T.suV)) hxC rfl ?_
  · exact fun A Q E s k q => wpAny_bind ((looks_clsIn X1 hcl) A _ E s k (wpAny_pure q))
  · refine kxs_callWith (i := "ValueError.__init__") (x := x) hplain (hev _ _ _ ?_ ⟨Heap.get?_push_at rfl rfl, ?_⟩)
    · obtain ⟨oL, es', ep, hL, r⟩ := ns
      exact ⟨oL, es', ep, Heap.get?_push_of_some _ (k1' _ _ hL), r⟩
    · refine mw_call (Heap.get?_push_of_some _ (X1 _ _ hC)) (Heap.get?_push_of_some _ hx1) (Heap.get?_push_at rfl rfl) hvs fun h' t1 k2' e2 => ?_
      exact hq h' _ t1 (fun b o hb e => k2' b o hb (Heap.get?_push_of_some _ (k1' b o e))) e2
end
/-- the text of an __init__ with one field -/
structure ErB1 (qual : Str) (params : Arguments) (body : List Stmt) (sc : Scope) (f : Str) : Prop where
  ex : ∃ (p0 p1 p2 p3 p4 p5 q1 q2 q3 q4 : Pos) (pl : Sem Bool), body = [eSup [.Name f p3] p0 p1 p2 p4 p5, eSet f q1 q2 q3 q4] ∧ ∀ (L fI cda cc : Addr),
    eval (.Call (.Attribute (.Call (.Name "super" p0) [] [] p1) "__init__" p2) [.Name f p3] [] p4) (ksEnv qual sc L fI (.ref cda) cc) = (do
      let ov ← attributeBase (.Call (.Name "super" p0) [] [] p1) "__init__" (ksEnv qual sc L fI (.ref cda) cc) (eval (.Call (.Name "super" p0) [] [] p1) (ksEnv qual sc L fI (.ref cda) cc))
      standAt p2.atName
      let (fn, first) ← holding [ov] (getMethod ov "__init__" pl)
      callWith p4 fn first (backTo p4 (starEach [.Name f p3] (ksEnv qual sc L fI (.ref cda) cc))) []) ∧
    interactive (ksEnv qual sc L fI (.ref cda) cc) = false ∧
    swapsWith (.Call (.Attribute (.Call (.Name "super" p0) [] [] p1) "__init__" p2) [.Name f p3] [] p4) none p5.line (ksEnv qual sc L fI (.ref cda) cc) = pure false ∧
    starEach [.Name f p3] (ksEnv qual sc L fI (.ref cda) cc) = [(false, eval (.Name f p3) (ksEnv qual sc L fI (.ref cda) cc))] ∧
    swapsWith (.Name f q3) (some (.Attribute (.Name "self" q1) f q2)) q4.line (ksEnv qual sc L fI (.ref cda) cc) = pure false
  kind : sc.kind = .function
  sup : sc.names.lookup ("super" : Str) = some .globalImplicit
  cls : sc.names.lookup ("__class__" : Str) = some .free
  slf : sc.names.lookup ("self" : Str) = some .local
  fld : sc.names.lookup f = some .local
  nc : ∀ x ∈ sc.names, x.2 ≠ .cell
  co : sc.isCoroutine = false
  gen : sc.isGenerator = false
  hd : ∃ ar, (params.posonlyargs ++ params.args).head? = some ar ∧ ar.arg = "self"
  bind : ∀ (s : Shared) (kV doc pm : Value) (an : Option Addr) (cda cc : Addr) (ct x v : Value), BindsTo s (ksFn "__init__" qual params body sc .none kV doc pm an (.ref cda) ct cc) ⟨[x, v], []⟩ [("self", x), (f, v)]
  ns : f ≠ "self"
  nd : (f == ("__debug__" : Str)) = false
section
variable {prog : Program} {w : World} {A : Around} {R : Result → Shared → Prop}
theorem Ns.keeps2 {h h' : Heap} {L : Addr} {m : Str → Option Value} (hn : h.Ns L m) (k : ∀ o, h.get? L = some o → h'.get? L = some o) : h'.Ns L m := by
  obtain ⟨oL, es, ep, hL, r⟩ := hn
  exact ⟨oL, es, ep, k _ hL, r⟩
theorem er_init1 {C fI cda cc x t0 : Addr} {qual : Str} {params : Arguments} {body : List Stmt} {sc : Scope} {f : Str} {K : Frag} {mg mb : Str → Option Value} {v : Value} {s : Shared} (T : Er prog K mg C fI cda cc qual params body sc [f]) (B : ErB1 qual params body sc f) (X : K.In s.heap) (hlim : s.heap.NoLimit)
    (glob : s.heap.Ns mainGlobals mg) (blt : s.heap.Ns builtinsNs mb) (hbt : mb "super" = bootBuiltins "super") (hx : s.heap.get? x = some (excO C t0)) (hnx : K.lookup x = none) (hroom : A.depth < recursionLimit)
    (hq : ∀ h' tk dx t1, (∀ b o, b ≠ x → s.heap.get? b = some o → h'.get? b = some o) → h'.get? x = some { cls := .ref C, dict := some dx, data := .fields #[.ref t1, .none, .none, .none, .bool false, .none] } → s.heap.objs.size ≤ dx → dx ≠ x → h'.Ns1 dx (fun y => if y = f then some v else none) →
      R (.ok (.ret .none)) { s with heap := h', toks := tk }) :
    codeAny (model prog w) A (.call (.ref fI) ⟨[.ref x, v], []⟩) R s := by
  obtain ⟨oc, od, kV, doc, pm, an, ct, osl, ho, hcd⟩ := T.fn
  obtain ⟨nm, q, N, bs, bm, sn, sub, ab, col, dd, k0, k1, k2, k3, k5, hC, hbm⟩ := T.cls
  have hcl : clsIn K C = some { name := nm, bases := bs, mro := .ref C :: bm, ns := N, qualname := q, hasDict := true, slotNames := sn, subclasses := sub, abstract := ab, collection := col, hasDel := false } := by unfold clsIn; rw [hC] <;> rfl
  obtain ⟨p0, p1, p2, p3, p4, p5, q1, q2, q3, q4, pl, eb, he⟩ := B.ex
  have hns : (f == ("self" : Str)) = false := by simpa using B.ns
  refine ks_codeAny_call_defAt (fd := ksFn "__init__" qual params body sc .none kV doc pm an (.ref cda) ct cc) (body := body) (binds := [("self", .ref x), (f, v)]) hroom (X _ _ ho) rfl hlim (codeRec_of X hcd) rfl (B.bind _ _ _ _ _ _ _ _ _ _) B.nc (fun y hy => ?_) (fun h0 hn k => ?_) B.co B.gen B.kind
  · rcases List.mem_cons.mp hy with rfl | hy
    · exact B.slf
    · obtain rfl := List.mem_singleton.mp hy
      exact B.fld
  · have hxL : s.heap.objs.size ≠ x := Nat.ne_of_gt (Heap.lt_size hx)
    obtain ⟨e1, e2, e3, e4, e5⟩ := he s.heap.objs.size fI cda cc
    have mself : (fun y => ([("self", Value.ref x), (f, v)] : List (Str × Value)).reverse.lookup y) "self" = some (.ref x) := by
      have : (("self" : Str) == f) = false := by simpa using fun e => B.ns e.symm
      simp [List.lookup, this]
    have mfld : (fun y => ([("self", Value.ref x), (f, v)] : List (Str × Value)).reverse.lookup y) f = some v := by simp [List.lookup]
    have hn : h0.Ns s.heap.objs.size (fun y => ([("self", Value.ref x), (f, v)] : List (Str × Value)).reverse.lookup y) := hn
    generalize (fun y => ([("self", Value.ref x), (f, v)] : List (Str × Value)).reverse.lookup y) = m at hn mself mfld
    have X0 := X.keeps k
    show _root_.PySem.wpAt _ _ _ (execs body (ksEnv qual sc s.heap.objs.size fI (.ref cda) cc)) _ _ _
    conv => arg 4; rw [eb]
    refine ks_wpAt_execs_cons (sup_stmt (m := m) (vs := [v]) (mb := mb) T X0 (glob.keeps k) (blt.keeps k) hbt (k _ _ hx) hn mself B.kind B.sup B.cls B.slf B.hd (by rw [e4]; rfl) (by rw [sizeLine_eq]; show 1 ≤ 16777216; decide) (fun u s' Q' hn' hq' => ?_) e1 e2 e3 fun h1 tk1 t1 k1' hx1 => ?_)
    · rw [e4]
      exact evalArgs_plain (spliced_cons (ldE hn' mfld (spliced_nil hq') B.kind B.fld B.nd))
    · have hn1 : h1.Ns s.heap.objs.size m := Ns.keeps2 hn fun o e => k1' _ _ hxL e
      have X1 : K.In h1 := fun a o e => by
        have hxa : a ≠ x := by
          rintro rfl
          rw [hnx] at e
          cases e
        exact k1' _ _ hxa (X0 _ _ e)
      refine wpAt_of_wpAny ?_
      refine wpAny_execs_cons (plainObj_wpAny_Assign_Attribute (ldE hn1 mfld (ldE hn1 mself ?_ B.kind B.slf (by decide)) B.kind B.fld B.nd) e5)
      refine set_plain X1 (ox := excO C t1) (od := none) ⟨hx1, rfl, rfl, trivial⟩ T.sa ?_
      refine exc_osa X1 hx1 hcl (show refsVE (.ref C :: bm) = true from hbm) rfl (T.noN f List.mem_cons_self) (fun h3 tk3 dx k3' dn dne hx3 hn3 => ?_)
      show wpAny _ _ (execs _ _) _ _ _
      refine wpAny_execs_nil (hq h3 tk3 dx t1 (fun b o hb e => k3' b o hb (k1' b o hb (k b o e))) hx3 ?_ dne hn3)
      obtain ⟨oL, es, ep, hL, r⟩ := hn1
      exact Nat.le_trans (Nat.le_of_lt (Heap.lt_size hL)) dn
/-- an instance made, its one field set -/
structure Made (h h' : Heap) (e C d : Addr) (m : Str → Option Value) : Prop where
  keep : ∀ b o, h.get? b = some o → h'.get? b = some o
  new : h.objs.size ≤ e
  obj : ∃ oe vs, h'.get? e = some oe ∧ oe.cls = .ref C ∧ oe.dict = some d ∧ oe.data = .fields vs ∧ vs[1]? = some .none
  dbig : h.objs.size ≤ d
  dne : d ≠ e
  ns : h'.Ns1 d m
theorem er_made1 {C fI cda cc : Addr} {qual : Str} {params : Arguments} {body : List Stmt} {sc : Scope} {f : Str} {K : Frag} {mg mb : Str → Option Value} {v : Value} {s : Shared} (T : Er prog K mg C fI cda cc qual params body sc [f]) (B : ErB1 qual params body sc f) (X : K.In s.heap) (hlim : s.heap.NoLimit)
    (glob : s.heap.Ns mainGlobals mg) (blt : s.heap.Ns builtinsNs mb) (hbt : mb "super" = bootBuiltins "super") (hroom : A.depth + 1 < recursionLimit)
    (hq : ∀ h' tk e d, Made s.heap h' e C d (fun y => if y = f then some v else none) → R (.ok (.ret (.ref e))) { s with heap := h', toks := tk }) :
    codeAny (model prog w) A (.call (.ref C) ⟨[v], []⟩) R s := by
  obtain ⟨nm, q, N, bs, bm, sn, sub, ab, col, dd, k0, k1, k2, k3, k5, hC, hbm⟩ := T.cls
  obtain ⟨hp, g, dr, tk, os⟩ := s
  have k : ∀ b o, hp.get? b = some o → ((hp.push (kdv_tup [v])).push (excO C hp.objs.size)).get? b = some o := fun b o e => Heap.get?_push_of_some _ (Heap.get?_push_of_some _ e)
  have hget : ((hp.push (kdv_tup [v])).push (excO C hp.objs.size)).get? (hp.objs.size + 1) = some (excO C hp.objs.size) := by heap_get
  have hnx : K.lookup (hp.objs.size + 1) = none := by
    cases e : K.lookup (hp.objs.size + 1) with
    | none => rfl
    | some o =>
      have z : hp.get? (hp.objs.size + 1) = some o := X _ _ e
      exact absurd (Nat.lt_of_succ_lt (Heap.lt_size z)) (Nat.lt_irrefl _)
  refine call_own F.excBase_ValueError (fun X => refsVE_contains X bm hbm) (X _ _ hC) (looks_findIn X T.iC) (fun self => bind_fn X self T.tC) (by rw [sizeLine_eq]; show 1 ≤ 16777216; decide) ?_
  refine er_init1 (mb := mb) (s := ⟨(hp.push (kdv_tup [v])).push (excO C hp.objs.size), g, dr, tk, os⟩) T B (X.keeps k) (hlim.keeps k) (glob.keeps k) (blt.keeps k) hbt hget hnx ?_ fun h' tk' dx t1 k' hx dn dne hns => ?_
  · show A.depth + 1 < recursionLimit
    exact hroom
  · have old : ∀ b o, hp.get? b = some o → h'.get? b = some o := fun b o e => k' b o (Nat.ne_of_lt (Nat.lt_succ_of_lt (Heap.lt_size e))) (k b o e)
    have z : hp.objs.size + 1 + 1 ≤ dx := by
      first
        | (simpa only [Heap.size_push] using dn)
        | exact dn
        | (have q := dn; rw [Heap.size_push, Heap.size_push] at q; exact q)
    exact ⟨rfl, hq h' tk' (hp.objs.size + 1) dx ⟨old, Nat.le_succ _, ⟨_, _, hx, rfl, rfl, rfl, rfl⟩, Nat.le_trans (Nat.le_trans (Nat.le_succ _) (Nat.le_succ _)) z, dne, hns⟩⟩
end
end EvX
end PySem

set_option maxHeartbeats 2000000
/-! EvX0: the lambda made and handed on, no other table made (turned from HandS.Lambda). -/
namespace LamX
open PySem PySem.Spec PyProof.Rows L2
section
variable {X : Cx} {pins : List (Addr × Obj)} {σ : L2.St} {H : Hp} {s : Shared}
theorem lam_make3 {T : List (Addr × Str)} {c P : Addr} {params : Arguments} {body : Expr} {scope : Scope} {pos : Pos} {E : Value → Shared → Prop} {Q : Value → Shared → Prop} (I : Inv X pins σ H s) (TB : TabB X.base X.mg c P) (hcode : X.env.code = .ref c)
    (hm : (P, X.env.qual ++ "<lambda>") ∈ T) (hu : ∀ p ∈ T, p.1 = P → p.2 = X.env.qual ++ "<lambda>") (hT : Tabs T H) (hdef : defaultsOf params X.env = ([], [])) (hfree : ∀ y ∈ scope.names, y.2 = .free → ∃ c, X.env.cells.lookup y.1 = some c)
    (h : ∀ (f c' : Addr) (pm ctv : Value) (H1 : Hp) (s' : Shared), Inv X pins σ H1 s' → (ExtN H H1 ∧ ∀ (b : Addr) (o : HO), b ≠ P → H b = some o → H1 b = some o) → Tabs T H1 →
      s'.heap.get? f = some (PySem.W.kla_obj "<lambda>" (X.env.qual ++ "<lambda>") params body scope (cloFrom X.env.cells scope.names []) pm c' ctv) → H1 f = none → f ∉ frs X.stack → H1 c' = some (CodeO c' (X.env.qual ++ "<lambda>")) → Q (.ref f) s') :
    wpAny (model X.prog X.w) X.A (eval (.Lambda params body scope pos) X.env) Q E s := by
  obtain ⟨ps, hP, ht, ha⟩ := hT _ hm
  refine PySem.W.kla_eval hdef ?_
  have bP : s.heap.BuiltinsAt X.mg P := TB.bm.keeps I.bk
  have hP' : s.heap.get? P = some { cls := .none, data := .fields ps } := I.hok P _ hP
  have nofr : ∀ f, s.heap.objs.size ≤ f → f ∉ frs X.stack := fun f hf z => by
    rcases List.mem_cons.mp (I.stkSub _ z) with e | e
    · have h1 := I.lt
      rw [← e] at h1
      exact Nat.lt_irrefl _ (Nat.lt_of_lt_of_le h1 hf)
    · exact I.nofs hf e
  cases hc : codeAmong pos ps.toList with
  | none =>
    refine PySem.W.kla_makeFunction (mg := X.mg) (c := c) (P := P) (ps := ps) (closure_ok hfree) I.ok.glob (I.mod.glob.keeps I.bk) hcode (TB.code.keeps I.bk) hP' ht hc TB.gP bP fun c' ctv h' tk hx hge hlt hrec htb => ?_
    obtain ⟨c2, oc, vs, t, e2, hoc, hd, hv⟩ := hrec
    cases e2
    have hsz : s.heap.objs.size ≤ h'.objs.size := Nat.le_trans hge (Nat.le_of_lt hlt)
    have nC : H c' = none := I.hok.fresh hge
    have I1 := inv_table (t' := tk) (more := #[rawInt pos.line, rawInt pos.col, .ref c']) (h' := h'.push (PySem.W.kla_obj "<lambda>" (X.env.qual ++ "<lambda>") params body scope (cloFrom X.env.cells scope.names []) ((X.mg "__name__").getD .none) c' ctv)) I hP
      (fun b o hb e => Heap.get?_push_of_some _ (hx b o hb e)) (Heap.get?_push_of_some _ htb) hge ⟨oc, vs, t, Heap.get?_push_of_some _ hoc, hd, hv⟩
    have hE : ExtN H (upd (upd H P (.tbl (ps ++ #[rawInt pos.line, rawInt pos.col, .ref c']))) c' (CodeO c' (X.env.qual ++ "<lambda>"))) := fun b o e n => by
      rw [upd_ne (ne_of_none e nC), upd_ne (fun z => n ps (Option.some.inj (e.symm.trans (by rw [z]; exact hP))))]
      exact e
    have hE2 : ∀ (b : Addr) (o : HO), b ≠ P → H b = some o → (upd (upd H P (.tbl (ps ++ #[rawInt pos.line, rawInt pos.col, .ref c']))) c' (CodeO c' (X.env.qual ++ "<lambda>"))) b = some o := fun b o hb e => by
      rw [upd_ne (ne_of_none e nC), upd_ne hb]
      exact e
    have eL : (ps ++ #[rawInt pos.line, rawInt pos.col, .ref c']).toList = ps.toList ++ [rawInt pos.line, rawInt pos.col, .ref c'] := by simp
    refine h h'.objs.size c' ((X.mg "__name__").getD .none) ctv _ _ I1 ⟨hE, hE2⟩ (fun p hp => ?_) (Heap.get?_push_size _ rfl) ?_ (nofr _ hsz) upd_same
    · by_cases hb : p.1 = P
      · rw [hu p hp hb, hb]
        refine ⟨_, by rw [upd_ne (ne_of_none hP nC), upd_same], by rw [eL]; exact PySem.TriplesOk_snoc _ _ _ _ ht, fun p' cv hcv => ?_⟩
        rw [eL] at hcv
        rcases among_app _ ht hcv with z | z
        · obtain ⟨c0, e1, e2⟩ := ha p' cv z
          exact ⟨c0, e1, hE _ _ e2 codeO_ne⟩
        · exact ⟨c', z, upd_same⟩
      · obtain ⟨ps', a1, a2, a3⟩ := hT p hp
        refine ⟨ps', by rw [upd_ne (ne_of_none a1 nC), upd_ne hb]; exact a1, a2, fun p' cv hcv => ?_⟩
        obtain ⟨c0, e1, e2⟩ := a3 p' cv hcv
        exact ⟨c0, e1, hE _ _ e2 codeO_ne⟩
    · have n1 : h'.objs.size ≠ c' := Nat.ne_of_gt hlt
      have n2 : h'.objs.size ≠ P := Nat.ne_of_gt (Nat.lt_of_lt_of_le (Heap.lt_size hP') hsz)
      rw [upd_ne n1, upd_ne n2]
      exact I.hok.fresh hsz
  | some cv =>
    obtain ⟨c', e, hco⟩ := ha pos cv hc
    subst e
    refine PySem.W.kla_makeFunctionHit (mg := X.mg) (c := c) (P := P) (ps := ps) (closure_ok hfree) I.ok.glob (I.mod.glob.keeps I.bk) hcode (TB.code.keeps I.bk) hP' ht hc bP fun ctv h' tk hx hsz => ?_
    have I1 : Inv X pins σ H { s with heap := h'.push (PySem.W.kla_obj "<lambda>" (X.env.qual ++ "<lambda>") params body scope (cloFrom X.env.cells scope.names []) ((X.mg "__name__").getD .none) c' ctv), toks := tk } := I.kept fun b o e => Heap.get?_push_of_some _ (hx b o e)
    exact h h'.objs.size c' ((X.mg "__name__").getD .none) ctv H _ I1 ⟨ExtN.refl H, fun b o _ e => e⟩ hT (Heap.get?_push_size _ rfl) (I.hok.fresh hsz) (nofr _ hsz) hco
end
def tLam3 (T : List (Addr × Str)) (P : Addr) (TT : (XK → Hp → VK → Prop) → Hp → VK → Prop) (t : XK → TE) : TE := fun σ H Q => Tabs T H ∧ ∀ H1, (ExtN H H1 ∧ ∀ (b : Addr) (o : HO), b ≠ P → H b = some o → H1 b = some o) → Tabs T H1 → TT (fun E H' Q' => t E σ H' Q') H1 Q
section
variable {X : Cx}
/-- x(lambda: body) -/
theorem pe_lamcall3 {T : List (Addr × Str)} {TT : (XK → Hp → VK → Prop) → Hp → VK → Prop} {x a : Str} {g c P : Addr} {k : Nat} {pg : Arguments} {bg : List Stmt} {sg : Scope} {dV kV doc pm cdv ct oc : Value} {an od : Option Addr} {osl : Array (Option Value)} {Ng : List Str}
    {params : Arguments} {body : Expr} {scope : Scope} {t : XK → TE} {p lpos pos : Pos} (hg : Gl X x) (hm : X.mg x = some (.ref g)) (hk : PySem.W.keepIn X.K (.ref g) = true)
    (lk : X.K.lookup g = some ⟨oc, od, .func (PySem.W.fnOf x x pg bg sg dV kV doc pm an cdv ct), osl⟩) (hcg : PySem.W.codeIn X.K cdv x = true) (hb : L2.Binds X.K (PySem.W.fnOf x x pg bg sg dV kV doc pm an cdv ct) [a] []) (Sg : FnScope Ng [a] sg) (hNg : Ng[0]? = some a) (hva : Vis sg a)
    (hG : GivesTo X Ng x sg g cdv bg a (X.env.qual ++ "<lambda>") TT)
    (TB : TabB X.base X.mg c P) (hcode : X.env.code = .ref c) (hmT : (P, X.env.qual ++ "<lambda>") ∈ T) (hu : ∀ p ∈ T, p.1 = P → p.2 = X.env.qual ++ "<lambda>") (hr : Room (k + 2) X.A) (L : LamS X.env.scope scope) (hdef : defaultsOf params X.env = ([], []))
    (hbind : ∀ (q : Str) (cl : List (Str × Addr)) (pm cv ctv : Value), bindArgs (PySem.W.kla_fn "<lambda>" q params body scope cl pm cv ctv) ⟨[], []⟩ = pure [])
    (hbody : ∀ (A : Around) (outer : List Env) (s : Shared) (H : Hp) (E : XK) (f c' : Addr), Room k (A.deeper (lamEnv X scope s.heap.objs.size f c')) → PE (lamCx X A outer s H E scope f c') body (t E))
    (hdb : (x == ("__debug__" : Str)) = false := by decide) (hd : (a == ("__debug__" : Str)) = false := by decide) (hcd : (a == ("__classdict__" : Str)) = false := by decide) :
    PE X (.Call (.Name x p) [.Lambda params body scope lpos] [] pos) (tLam3 T P TT t) := by
  refine ⟨fun pins s σ H Q I h => ?_⟩
  obtain ⟨hT, h⟩ := h
  refine wpAny_Call_Name_kw (ld_glob I hg hm ?_ hdb)
  refine PySem.W.callWith_K (h₀ := X.base) I.ok.mod.kin hk ?_ (by rfl) (by rfl)
  show wpAny _ _ (spliced ((false, eval (.Lambda params body scope lpos) X.env) :: backTo pos (starEach [] X.env))) _ _ s
  refine Calls.spliced_cons (lam_make3 I TB hcode hmT hu hT hdef (L.has I.ok) fun f c' pm' ctv H1 s' I1 eN T1 hf hfn hfr hco => ?_)
  refine Calls.spliced_nil ⟨I1.kIn, ?_⟩
  have rc : codeAny (model X.prog X.w) X.A (.call (.ref g) ⟨[.ref f], []⟩) (CR C8.CX0 X.stack X.prog X.w H1 s' Q C8.E0) s' := by
    refine run_ofS (N := Ng) (ps := [a]) (us := [.ref f]) (vs := [.ref f]) lk hcg Sg hr I1.env0 (hb s' [.ref f] I1.kIn rfl) (.cons rfl .nil) rfl fun hr' => ?_
    obtain ⟨t', ht', hq'⟩ := hG f c' s' H1 Q (fun E H' Q' => t E σ H' Q') (fun W pn xe E p1 p2 tk hW => pe_act (i := 0) I1 L hf hfn hfr (hbind _ _ _ _ _) tk hW hr' (fun A outer s H hr2 => hbody A outer s H E f c' hr2) hNg hva hd hcd) hco (h H1 eN T1)
    exact ⟨t', ht'.nox, hq'⟩
  refine wpAny_call (codeAny_mono rc fun r s2 hq => ?_)
  cases r with
  | error e => exact (show False from hq).elim
  | ok fl =>
    cases fl with
    | ret u => exact I1.after hq
    | next => exact False.elim hq
    | brk => exact False.elim hq
    | cont => exact False.elim hq
end
end LamX

/-! EvX2: raise of own errors. -/
namespace Ev
open PySem PySem.Spec L2
open PyProof.Rows hiding St
variable [Tbl]
open EvX (Er ErB1)
/-- an own error class of one field -/
structure ErC (P : Program) (K : PySem.W.Frag) (mg : Str → Option Value) (nm f : Str) : Prop where
  ex : ∃ (C fI cda cc : Addr) (qual : Str) (params : Arguments) (body : List Stmt) (sc : Scope), mg nm = some (.ref C) ∧ Er P K mg C fI cda cc qual params body sc [f] ∧ ErB1 qual params body sc f ∧
    PySem.W.keepIn K (.ref C) = true ∧ PySem.W.subIn K (.ref C) (.type "BaseException") = some true ∧ PySem.W.typeIn K (.ref C) = some (.type "type")
theorem relO_fld {f : Str} {v : V} {v' : Value} (r : RelV v v') (g : Str) : RelO (List.lookup g [(f, v)]) (if g = f then some v' else none) := by
  by_cases hw : g = f
  · subst hw
    rw [if_pos rfl]
    have q : List.lookup g [(g, v)] = some v := by simp [List.lookup]
    rw [q]
    exact r
  · rw [if_neg hw]
    have qw : (g == f) = false := by simpa using hw
    have q2 : List.lookup g [(f, v)] = none := by simp [List.lookup, qw]
    rw [q2]
    trivial
section
variable {X : Cx} {W : WX} {m : Md} {pos : Pos}
/-- nm(e) -/
def tMkE (C : Addr) (f : Str) (ta : TA) : St → Hp → XK → Prop := fun σ H Q => ta σ H fun vs H1 => ∃ v, vs = [v] ∧ ∀ d, H1 d = none → Q (.ref C) (some d) (upd H1 d (.xd [(f, v)]))
theorem pmk_er {C fI cda cc : Addr} {qual : Str} {params : Arguments} {body : List Stmt} {sc : Scope} {nm f : Str} {a : Expr} {ta : TA} {p pos : Pos} {k : Nat} (gC : X.mg nm = some (.ref C)) (T : Er X.prog X.K X.mg C fI cda cc qual params body sc [f]) (B : ErB1 qual params body sc f)
    (kC : PySem.W.keepIn X.K (.ref C) = true) (exC : PySem.W.subIn X.K (.ref C) (.type "BaseException") = some true) (tyC : PySem.W.typeIn X.K (.ref C) = some (.type "type")) (hr : Room k X.A) (ha : PA X [a] ta) (hg : Gl X nm) (hd : (nm == ("__debug__" : Str)) = false)
    (he : starEach (a :: []) X.env = (false, eval a X.env) :: starEach [] X.env) (hpl : (backTo pos (starEach [] X.env)).any (·.1) = false) :
    PMk X (.Call (.Name nm p) [a] [] pos) (tMkE C f ta) := by
  intro pins s σ H Q I h
  refine wpAny_Call_Name_kw (ld_glob I hg gC ?_ hd)
  refine PySem.W.callWith_K (h₀ := X.base) I.ok.mod.kin kC (thn (ha.run pos pins s σ H _ I h) fun us s1 hh => ?_) he hpl
  obtain ⟨vs, H1, I1, r1, v, ev, q1⟩ := hh
  subst ev
  refine ⟨I1.kIn, ?_⟩
  cases r1 with
  | cons rv rn =>
    rename_i v' us'
    cases rn
    show wpAny _ _ (call (.ref C) [v']) _ _ _
    have hlim := I1.nolimit
    obtain ⟨mb, hmb1, hmb2⟩ := I1.mod.blt
    have gl : s1.heap.Ns mainGlobals X.mg := I1.mod.glob.keeps I1.bk
    have bl : s1.heap.Ns builtinsNs mb := hmb1.keeps I1.bk
    have hbt : mb "super" = bootBuiltins "super" := hmb2 _ (by decide)
    obtain ⟨hp, g, dr, tk, os⟩ := s1
    refine wpAny_call (EvX.er_made1 T B I1.kIn hlim gl bl hbt (by have := hr.dp; omega) fun h' tk' e d M => ?_)
    show MkP X pins σ Q (.ref e) ⟨h', g, dr, tk', os⟩
    obtain ⟨oe, fv, hoe, hc, hdd, hdat, h1⟩ := M.obj
    have hns := M.ns
    obtain ⟨G', g1, g2⟩ := restrict h' fun b => decide (b ≠ e)
    have gk : ∀ b, b ≠ e → G'.get? b = h'.get? b := fun b hb => g1 b (decide_eq_true hb)
    have ge : G'.get? e = none := g2 e (by simp)
    have old : ∀ b o, hp.get? b = some o → G'.get? b = some o := fun b o q => (gk b (Nat.ne_of_lt (Nat.lt_of_lt_of_le (Heap.lt_size q) M.new))).trans (M.keep b o q)
    have ob : ObjOk X.prog X.w (upd H1 d (.xd [(f, v)])) G' d (.xd [(f, v)]) :=
      ⟨_, hns.at (fun o q => (gk d M.dne).trans q), fun f => relO_fld rv f⟩
    have J : Inv X pins σ (upd H1 d (.xd [(f, v)])) ⟨G', g, dr, tk', os⟩ := I1.laid (t' := tk') old M.dbig ob
    refine ⟨e, oe, fv, ⟨G', g, dr, tk', os⟩, _, .ref C, some d, rfl, J, fun b o q => ?_, ge, hoe, ⟨hc, hdd⟩, hdat, h1, ?_, rfl, I1.bare, raises_own exC tyC, q1 d (I1.hok.fresh M.dbig)⟩
    · by_cases hb : b = e
      · have q' : G'.get? b = some o := q
        rw [hb, ge] at q'; cases q'
      · exact (gk b hb).symm.trans q
    · rw [upd_ne (Ne.symm M.dne)]
      exact I1.hok.fresh M.new
def mRaise (nm f : Str) (me : ME) : MS := fun ρ K => me (frzE (fun _ => true) ρ) (fun d => K.ex ⟨nm, [(f, d)]⟩) K.ex
theorem xraise {nm f : Str} {a : Expr} {me : ME} {p cpos : Pos} {k : Nat} (T : ErC X.prog X.K X.mg nm f) (hr : Room k X.A) (tk : Takes X W) (ha : DE X W .vl a me) (hc : X.calm = true := by rfl) (hg : Gl X nm := by rfl) (hd : (nm == ("__debug__" : Str)) = false := by decide)
    (he : starEach (a :: []) X.env = (false, eval a X.env) :: starEach [] X.env := by rfl) (hpl : (backTo cpos (starEach [] X.env)).any (·.1) = false := by rfl) :
    DS X W (.Raise (some (.Call (.Name nm p) [a] [] cpos)) none pos) (mRaise nm f me) := by
  obtain ⟨C, fI, cda, cc, qual, params, body, sc, gC, E, B, kC, exC, tyC⟩ := T.ex
  refine PS.imp (ps_raise hc tk (pmk_er gC E B kC exC tyC hr (pa_cons ha pa_nil he) hg hd he hpl)) fun Dn σ H ⟨A, L, O0, gh, ρ, K, S, h, l⟩ => ?_
  refine ⟨A, L, _, O0, _, _, _, S.frzAll, h, fun d v H' q x b r => ?_, l.ex⟩
  refine ⟨v, rfl, fun dx hdx => ?_⟩
  refine l.ex _ q σ _ (.ref C) (some dx) ((S.se.ext.trans x).trans (Kp.new hdx)) (b.new hdx) ⟨C, rfl, gC, fun g d' hm => ?_⟩
  obtain ⟨rfl, rfl⟩ : g = f ∧ d' = d := by simpa using hm
  exact ⟨dx, [(g, v)], v, rfl, upd_same, by simp [List.lookup], RV.kp r (Kp.new hdx)⟩
end
end Ev

/-! EvX3: try: return (told, act()) / except E as e: return (refused, e.why), the act a lambda. -/
namespace Ev
open PySem PySem.Spec L2
open PyProof.Rows hiding St
open LamX (GivesTo CodeO tLam Tabs TabB LamS lamCx lamEnv ExtN)
variable [Tbl]
def TTheard (CS : Addr) (told refd fld : Str) : (XK → Hp → VK → Prop) → Hp → VK → Prop := fun tl H Q =>
  tl (fun cls d H' => cls = .ref CS ∧ ∃ (dd : Addr) (fs : List (Str × V)) (v : V), d = some dd ∧ H' dd = some (.xd fs) ∧ fs.lookup fld = some v ∧ ∀ p, H' p = none → Q (.ref p) (upd H' p (.tup [.str refd, v]))) H
    (fun v H1 => [V.str told, v].length ≤ sizeLine ∧ ∀ p, H1 p = none → Q (.ref p) (upd H1 p (.tup [.str told, v])))
section
variable {X : Cx}
theorem takes_len {X : Cx} {W : WX} (tk : Takes X W) : Takes X (fun cls d σ H => σ.length = X.N.length → W cls d σ H) := fun u s' ⟨a, B, sI, pins, σ, H, cls, d, e, I, nb, up, sky, na, os, ag, w⟩ =>
  tk u s' ⟨a, B, sI, pins, σ, H, cls, d, e, I, nb, up, sky, na, os, ag, w I.len⟩
theorem heard_gives {Ng : List Str} {x a e n q told refd fld : Str} {sg : Scope} {g CS : Addr} {cdg : Value} {j1 j2 k1 k2 : Nat} {p1 p2 p3 p4 p5 p6 p7 p8 p9 pa pb pc pd : Pos} (hge : sg.names.lookup e = some .globalImplicit) (hme : X.mg e = some (.ref CS)) (hde : (e == ("__debug__" : Str)) = false)
    (XF : XfC X.K CS) (hno : PySem.W.findIn X.K (.ref CS) fld = some none) (te : PySem.W.exmOne X.K (.ref CS) (.ref CS) = some true) (hN : Ng.Nodup) (hn : Ng[1]? = some n) (hln : sg.names.lookup n = some .local) (hnd : (n == ("__debug__" : Str)) = false) (hnc : (n == ("__classdict__" : Str)) = false)
    (h0 : ∀ f : Addr, (L2.start Ng [V.ref f])[0]? = some (some (V.ref f))) (hlen : 2 ≤ Ng.length) (hb : ∀ env : Env, attributeBase (.Name n p8) fld env (eval (.Name n p8) env) = eval (.Name n p8) env) :
    GivesTo X Ng x sg g cdg [.Try [.Return (some (.Tuple [.Constant (.str told) j1 p1, .Call (.Name a p2) [] [] p3] k1 p4)) p5] [.ExceptHandler (some (.Name e p6)) (some n) [.Return (some (.Tuple [.Constant (.str refd) j2 p7, .Attribute (.Name n p8) fld p9] k2 pa)) pb] pc] [] [] pd] a q (TTheard CS told refd fld) := by
  intro f c' s H Q tl act hc h
  have hgl : Gl (cxOf C8.CX0 X.prog X.w X.K X.mg X.base Ng x sg g cdg X.A X.stack s H C8.E0).nox e := hge
  refine ⟨_, pss_one (ps_try_as (X := (cxOf C8.CX0 X.prog X.w X.K X.mg X.base Ng x sg g cdg X.A X.stack s H C8.E0).nox) (c := .ref CS) (i := 1) (Wout := fun _ _ _ _ => False)
      (tb := fun W D σ H => ∃ Ech : XK, (∀ cls d σ' H', σ'.length = Ng.length → Ech cls d H' → W cls d σ' H') ∧ σ[0]? = some (some (.ref f)) ∧ H c' = some (CodeO c' q) ∧ tl Ech H fun v H1 => [V.str told, v].length ≤ sizeLine ∧ ∀ p, H1 p = none → D.rt (.ref p) (upd H1 p (.tup [.str told, v])))
      (ts := fun ax cls d => tRet (tTup (tCons (tC (.str refd)) (tCons (tXf ax cls d CS fld (tVar 1)) tNil))))
      rfl rfl hN hn hln ⟨hgl, hde, .inl hme⟩ LamX.takes0 (fun W pn xe tk _ => ?_) (fun ax oe cls d pn hz hf => ?_)), ?_⟩
  · refine ⟨fun pins s' σ H' D I h' => ?_⟩
    obtain ⟨Ech, hW, h1, h2, h3⟩ := h'
    have tk2 := takes_len tk
    have hp := act _ pn xe Ech p2 p3 tk2 fun cls d σ' H' he hl => hW cls d σ' H' hl he
    have hq := pss_one (ps_ret (pos := p5) (pe_tup (x1 := k1) (pos := p4) (pa_cons (pe_str (x := told) (j := j1) (pos := p1)) (pa_cons hp pa_nil))))
    refine hq.run pins s' σ H' D I ?_
    exact ⟨h1, h2, h3⟩
  · exact pss_one (ps_ret (pe_tup (pa_cons pe_str (pa_cons (pe_xf XF hno hz hf (pe_var hn (.inl hln) hnd hnc) (hb _)) pa_nil))))
  · refine ⟨_, fun cls d σ' H' hl he => ?_, h0 f, hc, h⟩
    obtain ⟨ec, dd, fs, v, ed, hd, hv, hQ⟩ := he
    subst ec ed
    refine ⟨true, te, fun _ ax hax => ?_, fun z => by cases z⟩
    show tTup _ _ _ _
    have hi : (σ'.set 1 (some (V.ref ax)))[1]? = some (some (V.ref ax)) := List.getElem?_set_self (by rw [hl]; omega)
    exact ⟨_, hi, rfl, rfl, dd, fs, v, rfl, hd, hv, by rw [sizeLine_eq]; show 2 ≤ 16777216; decide, hQ⟩
end
/-- a def of the text: try: return (told, act()) / except nm as e: return (refd, e.fld) -/
structure Hd (K : PySem.W.Frag) (mg : Str → Option Value) (x nm fld told refd : Str) : Prop where
  ex : ∃ (g CS : Addr) (pg : Arguments) (bg : List Stmt) (sg : Scope) (dV kV doc pm cdv ct oc : Value) (an od : Option Addr) (osl : Array (Option Value)) (Ng : List Str) (a : Str),
    mg x = some (.ref g) ∧ mg nm = some (.ref CS) ∧ PySem.W.keepIn K (.ref g) = true ∧ K.lookup g = some ⟨oc, od, .func (PySem.W.fnOf x x pg bg sg dV kV doc pm an cdv ct), osl⟩ ∧ PySem.W.codeIn K cdv x = true ∧
    L2.Binds K (PySem.W.fnOf x x pg bg sg dV kV doc pm an cdv ct) [a] [] ∧ FnScope Ng [a] sg ∧ Ng[0]? = some a ∧ Vis sg a ∧ (a == ("__debug__" : Str)) = false ∧ (a == ("__classdict__" : Str)) = false ∧
    ∀ (X : Cx) (q : Str), X.K = K → X.mg = mg → GivesTo X Ng x sg g cdv bg a q (TTheard CS told refd fld)
/-- where lambdas of the def of this code object are made -/
structure Lm (base : Heap) (mg : Str → Option Value) (cd : Value) (qual : Str) : Prop where
  ex : ∃ (c P : Addr), cd = .ref c ∧ TabB base mg c P ∧ (P, qual ++ "<lambda>") ∈ Tbl.tt ∧ ∀ p ∈ Tbl.tt, p.1 = P → p.2 = qual ++ "<lambda>"
def mHeard (nm fld told refd : Str) (mb : ME) : ME := fun ρ Q E => mb ρ (fun d => Q (.tup [.str told, d])) (fun x => x.cls = nm ∧ ∃ d, x.fields = [(fld, d)] ∧ Q (.tup [.str refd, d]))
theorem ex_tab {c : Rc} {H H1 : Hp} {P : Addr} {q : Str} (t : TbOk H) (hP : (P, q) ∈ Tbl.tt) (e : ∀ (b : Addr) (o : HO), b ≠ P → H b = some o → H1 b = some o) : Ex c H H1 := fun b o hb m => by
  by_cases h : b = P
  · subst h
    obtain ⟨ps, h2, _⟩ := t _ hP
    rw [hb] at h2
    cases h2
    rcases m with m | m
    · exact absurd (.inr (List.mem_map.mpr ⟨_, hP, rfl⟩)) m
    · exact absurd trivial m
  · exact e b o h hb
section
variable {X : Cx} {W : WX} {m : Md} {pos : Pos}
theorem str_two {told : Str} (h : (decide (told.length ≤ 16777216) && PyData.strOk told) = true) {c : Rc} {O : Od} {H : Hp} : RV c O H (.str told) (.str told) := by
  rw [Bool.and_eq_true, decide_eq_true_eq] at h
  exact mk_str (by rw [sizeLine_eq]; exact h.1) h.2
theorem xheard {x nm fld told refd : Str} {params : Arguments} {body : Expr} {scope : Scope} {mb : ME} {p lpos : Pos} {k : Nat} (G : Hd X.K X.mg x nm fld told refd) (Lx : Lm X.base X.mg X.env.code X.env.qual) (hr : Room (k + 2) X.A)
    (hbody : ∀ (A : Around) (outer : List Env) (s : Shared) (H : Hp) (E : XK) (f c' : Addr), Room k (A.deeper (lamEnv X scope s.heap.objs.size f c')) → DE (lamCx X A outer s H E scope f c') (WC E) .vl body mb)
    (hL : LamX.lamSB X.env.scope scope = true) (hg : Gl X x := by rfl) (hdef : defaultsOf params X.env = ([], []) := by rfl)
    (hbind : ∀ (q : Str) (cl : List (Str × Addr)) (pm cv ctv : Value), bindArgs (PySem.W.kla_fn "<lambda>" q params body scope cl pm cv ctv) ⟨[], []⟩ = pure [] := by intros; rfl) (hdb : (x == ("__debug__" : Str)) = false := by decide)
    (ht : (decide (told.length ≤ 16777216) && PyData.strOk told) = true := by decide +kernel) (hf : (decide (refd.length ≤ 16777216) && PyData.strOk refd) = true := by decide +kernel) :
    DE X W .vl (.Call (.Name x p) [.Lambda params body scope lpos] [] pos) (mHeard nm fld told refd mb) := by
  obtain ⟨g, CS, pg, bg, sg, dV, kV, doc, pm, cdv, ct, oc, an, od, osl, Ng, a, hm, hCS, hk, lk, hcg, hb, Sg, hNg, hva, had, hac, hG⟩ := G.ex
  obtain ⟨c, P, hcode, TB, hmT, hu⟩ := Lx.ex
  refine .by (LamX.pe_lamcall3 (T := Tbl.tt) (t := fun E => tE X (WC E) .vl mb) hg hm hk lk hcg hb Sg hNg hva (hG X _ rfl rfl) TB hcode hmT hu hr (LamX.lamS_by hL) hdef hbind (fun A outer s H E f c' hr2 => hbody A outer s H E f c' hr2) hdb had hac) fun σ H A L Hz O ρ Qd Ed S hm hE => ?_
  obtain ⟨_, _, _, _, _, _, _, _, _, _, _, _, _, hT⟩ := id S.bag
  refine ⟨hT, fun H1 e1 t1 => ?_⟩
  have x1 : Ex (rc X A L) H H1 := ex_tab hT hmT e1.2
  have b1 : Bag (rc X A L) H1 := by
    obtain ⟨ne, b0, b1, b2, ns, h0, h1, h2, h3, h4, h5, hA, hL, hT⟩ := id S.bag
    refine ⟨ne, b0, b1, b2, ns, h0, h1, h2, h3, h4, h5, e1.1 _ _ hA (fun ps z => by cases z), e1.1 _ _ hL (fun ps z => by cases z), t1⟩
  have S1 := S.ex x1 b1
  -- the body, from here
  refine ⟨A, L, H1, O, ρ, _, _, ⟨S1.bag, .refl, S1.oA, S1.oT, S1.slots, S1.len⟩, hm, fun d v H2 q x2 b2 r2 => ?_, fun y hy σ' H2 cv dd x2 b2 r2 => ?_⟩
  · refine ⟨by rw [sizeLine_eq]; show 2 ≤ 16777216; decide, fun p hp => ?_⟩
    have r2 : RV (rc X A L) O H2 d v := r2
    refine ⟨_, (x1.trans x2).trans (Kp.new hp), b2.new hp, ?_, q⟩
    exact mk_tup upd_same ((RVs.cons (str_two ht) (.one r2)).kp (Kp.new hp))
  · obtain ⟨hc, d, hfd, q⟩ := hy
    obtain ⟨C, ec, emg, hfl⟩ := r2
    subst ec
    rw [hc] at emg
    have emg : X.mg nm = some (.ref C) := emg
    rw [hCS] at emg
    cases emg
    obtain ⟨ax, fs, v, e1, e2, e3, r⟩ := hfl fld d (by rw [hfd]; exact List.mem_cons_self)
    refine ⟨rfl, ax, fs, v, e1, e2, e3, fun p hp => ?_⟩
    refine ⟨_, (x1.trans x2).trans (Kp.new hp), b2.new hp, ?_, q⟩
    exact mk_tup upd_same ((RVs.cons (str_two hf) (.one r)).kp (Kp.new hp))
end
end Ev

/-! EvX6: try: body / except (C1, C2) as n: suite. -/
namespace Ev
open PySem PySem.Spec L2
open PyProof.Rows hiding St
theorem flying_push {B : Heap} {l : List Env} {a : Addr} {Z : Obj → Prop} {h : Heap} {o : Obj} (f : HandSPX.FlyingZ B l a Z h) : HandSPX.FlyingZ B l a Z (h.push o) := by
  obtain ⟨hkb, hen, hl, oe, vs, T, oT, ts, he, hz, hd, h1, hnT, hTe, hT, hdT, h3⟩ := f
  exact ⟨fun b o hb => Heap.get?_push_of_some _ (hkb b o hb), hen, hl.of_keeps (fun b o hb hnf => ⟨o, Heap.get?_push_of_some _ hb, rfl⟩), oe, vs, T, oT, ts, Heap.get?_push_of_some _ he, hz, hd, h1, hnT, hTe, Heap.get?_push_of_some _ hT, hdT, h3⟩
theorem upTo_push {h h' : Heap} {o : Obj} (u : h.UpToSlots h') : h.UpToSlots (h'.push o) := fun b ob hb hnf => by
  obtain ⟨sl, e⟩ := u b ob hb hnf
  exact ⟨sl, Heap.get?_push_of_some _ e⟩
/-- what the clause 'except (c1, c2) as n' wishes of an exception of the body: slot i is n's -/
def wAs2 (K : PySem.W.Frag) (c1 c2 : Value) (i : Nat) (ts : Addr → Value → Option Addr → TS) (D : Ends) : WX := fun cls d σ H =>
  PySem.W.exmAny K cls [c1, c2] = some true ∧ ∀ a, H a = none → ts a cls d { nx := fun σ' H' => D.nx (σ'.set i none) H', rt := D.rt, bk := fun σ' H' => D.bk (σ'.set i none) H', ct := fun σ' H' => D.ct (σ'.set i none) H' } (σ.set i (some (.ref a))) H
section
variable {X : Cx} {x1 x2 n : Str} {c1 c2 : Value} {i : Nat} {body suite : List Stmt} {b₀ : Stmt} {np1 np2 tp pos pos' : Pos} {tb : WX → TS} {ts : Addr → Value → Option Addr → TS}
theorem ps_try_as2 {kk} (hs : X.stack = X.env :: X.outer) (hf : X.env.frame = some X.env.locals) (hN : X.N.Nodup) (hi : X.N[i]? = some n) (hln : X.env.kindOf n = some .local) (hc1 : Names X x1 c1) (hc2 : Names X x2 c2)
    (hb : ∀ (W : WX) (pn : List (Addr × Obj)) (xe : Value → Shared → Prop), Takes (X.tr pn xe) W → PassesOwn (model X.prog X.w) X.A X.env xe → PSs (X.tr pn xe) body (tb W))
    (hsu : ∀ (a : Addr) (oe : Obj) (cls : Value) (d : Option Addr) (pn : List (Addr × Obj)), Zc cls d oe → (∃ vs, oe.data = .fields vs) → PSs (X.suite a ((a, oe) :: pn)) (b₀ :: suite) (ts a cls d)) :
    PS X (.Try body [.ExceptHandler (some (.Tuple [.Name x1 np1, .Name x2 np2] kk tp)) (some n) (b₀ :: suite) pos'] [] [] pos) (fun D σ H => tb (wAs2 X.K c1 c2 i ts D) D σ H) := by
  refine ⟨fun pins s σ H D I h => ?_⟩
  have ok := I.ok
  have hfr : X.A.frames = some (X.env :: X.outer) := by rw [ok.frames, hs]
  have hloc : Loc X.env.scope n := .inl hln
  refine wpAny_Try_except ?_
  refine wpAny_mono ((hb (wAs2 X.K c1 c2 i ts D) (X.pn ++ pins) (fun e s₁ => wpAny (model X.prog X.w) X.A (noteFrame e X.env) (fun _ s₂ => wpAny (model X.prog X.w) X.A (setFlight e none) (fun _ s₃ =>
    wpAny (model X.prog X.w) X.A (handleBy e X.env [.ExceptHandler (some (.Tuple [.Name x1 np1, .Name x2 np2] kk tp)) (some n) (b₀ :: suite) pos']) (SP X pins D) X.xe s₃) X.xe s₂) X.xe s₁) (fun u s' xx => ?_) PassesOwn.looking).run [] s σ H D (I.toTry _) h) (fun f s1 hsp => ?_) (fun e s1 he => he)
  · obtain ⟨a, B, sI, pins', σ', H', cls, d, rfl, J', nb, up, sky, na, os, ag, hb1, hyes⟩ := xx
    have J : Inv X pins σ' H' sI := J'.ofTry ok
    have sky' : Sky B (X.env :: X.outer) a (Zc cls d) X.env.locals s'.heap := by rw [← hs]; exact sky
    show wpAny (model X.prog X.w) X.A (noteFrame (.ref a) X.env) _ _ _
    refine Sky.land Zc.steady hfr hf sky' fun h3 fl3 up3 => ?_
    have J3 : Inv X pins σ' H' { s' with heap := h3 } := J.landed nb fl3.1 (up.trans up3) os ag
    obtain ⟨oe3, vs3, he3, hz3, hd3⟩ := fl3.there
    have notFr : ∀ {h : Heap} {o : Obj} {vs : Array Value}, h.FunFrames B (X.env :: X.outer) → h.get? a = some o → o.data = .fields vs → a ∉ frs (X.env :: X.outer) := fun {h o vs} ff e dd hm => by
      obtain ⟨_, o', e', hnf⟩ := ff.mem hm
      rw [e] at e'; cases e'
      exact hnf _ dd
    have nfr := notFr fl3.2.2.1 he3 hd3
    have nL : a ≠ X.env.locals := fun z => nfr (List.mem_filterMap.mpr ⟨X.env, List.mem_cons_self, by rw [hf, z]⟩)
    have nF : a ∉ X.fs := fun hm => by
      obtain ⟨e, he, q⟩ := List.mem_filterMap.mp hm
      exact nfr (List.mem_filterMap.mpr ⟨e, List.mem_cons_of_mem _ he, q⟩)
    have S3 := J3.suite he3 hd3 na nL nF
    refine wpAny_handleBy_cons (codeAny_handlers_test ?_) (by intro q; cases q)
    have test : ∀ {x : Str} {np : Pos} {c : Value} {Q : Value → Shared → Prop} {E : Value → Shared → Prop}, Names X x c → Q c { s' with heap := h3 } → wpAny (model X.prog X.w) (X.A.mark (some (.ref a))) (eval (.Name x np) X.env) Q E { s' with heap := h3 } := fun {x np c Q E} hc q => by
      obtain ⟨hg, hdbg, hm | ⟨hm, hv, hnn⟩⟩ := hc
      · exact ld_glob (X := X.suite a ((a, oe3) :: (X.pn ++ pins))) S3 hg hm q hdbg
      · exact ld_blt (X := X.suite a ((a, oe3) :: (X.pn ++ pins))) S3 hg hm hv q hnn hdbg
    refine wpAny_Tuple_spliced (args_cons (test hc1 (args_cons (test hc2 (args_nil ⟨by rw [sizeLine_eq]; show 2 ≤ 16777216; decide, ?_⟩)) rfl)) rfl)
    have fl3' := flying_push (o := { cls := .type "tuple", data := .seq [c1, c2].toArray }) fl3
    have up3' := upTo_push (o := { cls := .type "tuple", data := .seq [c1, c2].toArray }) up3
    have htp : (h3.push { cls := .type "tuple", data := .seq [c1, c2].toArray }).get? h3.objs.size = some { cls := .type "tuple", data := .seq [c1, c2].toArray } := Heap.get?_push_size _ rfl
    have he3' : (h3.push { cls := .type "tuple", data := .seq [c1, c2].toArray }).get? a = some oe3 := Heap.get?_push_of_some _ he3
    generalize hh : h3.push { cls := .type "tuple", data := .seq [c1, c2].toArray } = h3' at fl3' up3' htp he3'
    have J3' : Inv X pins σ' H' { s' with heap := h3' } := J.landed nb fl3'.1 (up.trans up3') os ag
    have LT : PySem.W.Looks (model X.prog X.w) h3' (typeOf (.ref a)) cls := fun A Q E s k q => wpAny_typeOf_ref (k _ _ he3') (by rw [hz3.1]; exact q)
    have LM := PySem.W.exm_tup2 (M := model X.prog X.w) (J3'.kIn) LT htp hb1
    refine LM.here ?_
    refine codeAny_handlers_suite_as ?_
    refine HandSPX.lands_againZ fl3' fun h4 fl4 up4 => ?_
    have J4 : Inv X pins σ' H' { s' with heap := h4 } := J.landed nb fl4.1 ((up.trans up3').trans up4) os ag
    obtain ⟨oe4, vs4, he4, hz4, hd4⟩ := fl4.there
    have S4 := J4.suite he4 hd4 na nL nF
    refine store_ok (X := X.suite a ((a, oe4) :: (X.pn ++ pins))) (v := .ref a) S4 hN hi hloc rfl (fun s5 S5 => ?_) (.inr hln)
    refine wpAny_mono ((hsu a oe4 cls d (X.pn ++ pins) hz4 ⟨_, hd4⟩).run [] s5 _ H' _ S5 (hyes a na)) (fun f s6 hsp => ?_) (fun _ _ z => False.elim z)
    have end_ : ∀ {σ6 : St} {H6 : Hp} {Q : Shared → Prop}, Inv (X.suite a ((a, oe4) :: (X.pn ++ pins))) [] σ6 H6 s6 → (∀ s7, Inv X pins (σ6.set i none) H6 s7 → Q s7) →
        wpAny (model X.prog X.w) X.A (do bindName X.env n .none; unbindBehindTheSuite X.env n pos') (fun _ s7 => Q s7) X.xe s6 := fun {σ6 H6 Q} S6 hq => gone_ok (S6.unsuite ok) hN hi hln hq
    cases f with
    | next =>
      obtain ⟨σ6, H6, S6, q6⟩ := hsp
      exact end_ S6 fun s7 J7 => ⟨_, _, J7, q6⟩
    | brk =>
      obtain ⟨σ6, H6, S6, q6⟩ := hsp
      exact end_ S6 fun s7 J7 => ⟨_, _, J7, q6⟩
    | cont =>
      obtain ⟨σ6, H6, S6, q6⟩ := hsp
      exact end_ S6 fun s7 J7 => ⟨_, _, J7, q6⟩
    | ret u =>
      obtain ⟨v6, σ6, H6, S6, r6, q6⟩ := hsp
      exact end_ S6 fun s7 J7 => ⟨_, _, _, J7, r6, q6⟩
  · cases f with
    | next =>
      obtain ⟨σ', H', J', q⟩ := hsp
      exact wpAny_execs_nil ⟨σ', H', J'.ofTry ok, q⟩
    | brk =>
      obtain ⟨σ', H', J', q⟩ := hsp
      exact ⟨σ', H', J'.ofTry ok, q⟩
    | cont =>
      obtain ⟨σ', H', J', q⟩ := hsp
      exact ⟨σ', H', J'.ofTry ok, q⟩
    | ret u =>
      obtain ⟨v, σ', H', J', r, q⟩ := hsp
      exact ⟨v, σ', H', J'.ofTry ok, r, q⟩
end
end Ev

/-! EvX7: try: return act() / except (C1, C2) as e: return e.why if isinstance(e, C2) else "..", the act a lambda that raises C2 only. -/
namespace PySem.W
open PySem PySem.Spec PySem.Calls PyProof.Rows
theorem ans_same {K : Frag} {x t : Value} {H : Heap → Prop} (ty : ∀ (M : Model) (h : Heap), K.In h → H h → Looks M h (typeOf x) t) : Answers (fun s => K.In s.heap ∧ H s.heap) x t true := by
  intro dep tk prog w A R s hs
  obtain ⟨h0, g, d, tt, os⟩ := s
  obtain ⟨⟨X, p⟩, hq⟩ := hs
  have LT := ty (model prog w) h0 X p
  unfold Builtin.«isinstance.nested»
  refine wpAny_bind (LT.at ?_)
  rw [if_pos (by exact beq_self_eq_true t)]
  first
    | ((repeat lk); exact hq tt)
    | exact wpAny_bind (wpAny_rule (hq tt))
    | exact wpAny_bind (wpAny_rule (wpAny_pure (hq tt)))
theorem kia_same {prog : Program} {w : World} {A : Around} {E : Value → Shared → Prop} {s : Shared} {Q : Value → Shared → Prop} {K : Frag} {x t : Value} {H : Heap → Prop} (ty : ∀ (M : Model) (h : Heap), K.In h → H h → Looks M h (typeOf x) t) (X : K.In s.heap) (p : H s.heap) (hx : x ≠ .builtin "__main__.__loader__#opaque") (h : ∀ tk, Q (.bool true) { s with toks := tk }) :
    wpAny (model prog w) A (call (.builtin "isinstance") [x, t]) Q E s :=
  call_isinstance (S := fun _ R s => (K.In s.heap ∧ H s.heap) ∧ ∀ tk, R (.ok (.ret (.bool true))) { s with toks := tk })
    (fun prog w A R s hs => isinstance_outer (ans_same ty 0 _ prog w A R s hs) hx) ⟨⟨X, p⟩, h⟩
end PySem.W
namespace Ev
open PySem PySem.Spec L2
open PyProof.Rows hiding St
open LamX (GivesTo CodeO tLam Tabs TabB LamS lamCx lamEnv ExtN)
/-- isinstance(e, C), e the exception of the suite, C its class -/
theorem call_isSame {X : Cx} {a C : Addr} {oe : Obj} {d : Option Addr} {pn : List (Addr × Obj)} (hz : Zc (.ref C) d oe) : CallR (X.suite a ((a, oe) :: pn)) (.builtin "isinstance") (fun xs H Q => xs = [.ref a, .ref C] ∧ Q (.bl true) H) := by
  intro pins s σ H xs us Q I r h
  obtain ⟨rfl, q⟩ := h
  cases r with
  | cons rx rr =>
    cases rr with
    | cons rt rr =>
      cases rr
      cases rx
      cases rt
      obtain ⟨hget, _⟩ := I.pin (a, oe) (List.mem_append.mpr (.inl List.mem_cons_self))
      exact PySem.W.kia_same (K := X.K) (H := fun h => h.get? a = some oe) (fun M h _ e A Q E s k q => wpAny_typeOf_ref (k _ _ e) (by rw [hz.1]; exact q)) I.kIn hget (fun z => nomatch z) fun tk => ⟨.bl true, H, I.kept (t' := tk) fun _ _ z => z, rfl, q⟩
variable [Tbl]
def TTasked (CS : Addr) (fld : Str) : (XK → Hp → VK → Prop) → Hp → VK → Prop := fun tl H Q =>
  tl (fun cls d H' => cls = .ref CS ∧ ∃ (dd : Addr) (fs : List (Str × V)) (v : V), d = some dd ∧ H' dd = some (.xd fs) ∧ fs.lookup fld = some v ∧ Q v H') H Q
section
variable {X : Cx}
theorem asked_gives {kk} {Ng : List Str} {x a e e1 n q fld noth : Str} {sg : Scope} {g CS CN : Addr} {cdg : Value} {j2 : Nat} {p2 p3 p5 p7 p8 p9 pa pb pc pd q1 q2 q3 r1 r2 r3 r4 : Pos} (hge : sg.names.lookup e = some .globalImplicit) (hme : X.mg e = some (.ref CS)) (hde : (e == ("__debug__" : Str)) = false)
    (hge1 : sg.names.lookup e1 = some .globalImplicit) (hme1 : X.mg e1 = some (.ref CN)) (hde1 : (e1 == ("__debug__" : Str)) = false) (hgi : sg.names.lookup ("isinstance" : Str) = some .globalImplicit) (hmi : X.mg ("isinstance" : Str) = none)
    (XF : XfC X.K CS) (hno : PySem.W.findIn X.K (.ref CS) fld = some none) (te : PySem.W.exmAny X.K (.ref CS) [.ref CN, .ref CS] = some true) (hN : Ng.Nodup) (hn : Ng[1]? = some n) (hln : sg.names.lookup n = some .local) (hnd : (n == ("__debug__" : Str)) = false) (hnc : (n == ("__classdict__" : Str)) = false)
    (h0 : ∀ f : Addr, (L2.start Ng [V.ref f])[0]? = some (some (V.ref f))) (hlen : 2 ≤ Ng.length) (hb : ∀ env : Env, attributeBase (.Name n p8) fld env (eval (.Name n p8) env) = eval (.Name n p8) env) :
    GivesTo X Ng x sg g cdg [.Try [.Return (some (.Call (.Name a p2) [] [] p3)) p5] [.ExceptHandler (some (.Tuple [.Name e1 q1, .Name e q2] kk q3)) (some n) [.Return (some (.IfExp (.Call (.Name "isinstance" r1) [.Name n r2, .Name e r3] [] r4) (.Attribute (.Name n p8) fld p9) (.Constant (.str noth) j2 p7) pa)) pb] pc] [] [] pd] a q (TTasked CS fld) := by
  intro f c' s H Q tl act hc h
  have hgl : Gl (cxOf C8.CX0 X.prog X.w X.K X.mg X.base Ng x sg g cdg X.A X.stack s H C8.E0).nox e := hge
  have hgl1 : Gl (cxOf C8.CX0 X.prog X.w X.K X.mg X.base Ng x sg g cdg X.A X.stack s H C8.E0).nox e1 := hge1
  refine ⟨_, pss_one (ps_try_as2 (X := (cxOf C8.CX0 X.prog X.w X.K X.mg X.base Ng x sg g cdg X.A X.stack s H C8.E0).nox) (c1 := .ref CN) (c2 := .ref CS) (i := 1)
      (tb := fun W D σ H => ∃ Ech : XK, (∀ cls d σ' H', σ'.length = Ng.length → Ech cls d H' → W cls d σ' H') ∧ σ[0]? = some (some (.ref f)) ∧ H c' = some (CodeO c' q) ∧ tl Ech H D.rt)
      (ts := fun ax cls d D σ H => cls = .ref CS ∧ tRet (tXf ax cls d CS fld (tVar 1)) D σ H)
      rfl rfl hN hn hln ⟨hgl1, hde1, .inl hme1⟩ ⟨hgl, hde, .inl hme⟩ (fun W pn xe tk _ => ?_) (fun ax oe cls d pn hz hf => ?_)), ?_⟩
  · refine ⟨fun pins s' σ H' D I h' => ?_⟩
    obtain ⟨Ech, hW, h1, h2, h3⟩ := h'
    have tk2 := takes_len tk
    have hp := act _ pn xe Ech p2 p3 tk2 fun cls d σ' H' he hl => hW cls d σ' H' hl he
    have hq := pss_one (ps_ret (pos := p5) hp)
    refine hq.run pins s' σ H' D I ?_
    exact ⟨h1, h2, h3⟩
  · refine ⟨fun pins s' σ H' D I h' => ?_⟩
    obtain ⟨hcls, h'⟩ := h'
    subst hcls
    have hq := pss_one (X := ((cxOf C8.CX0 X.prog X.w X.K X.mg X.base Ng x sg g cdg X.A X.stack s H C8.E0).nox.suite ax ((ax, oe) :: pn))) (ps_ret (pos := pb) (pe_ifExp (pos := pa) (pt_val (pe_callB (p := r1) (pos := r4) (call_isSame (X := (cxOf C8.CX0 X.prog X.w X.K X.mg X.base Ng x sg g cdg X.A X.stack s H C8.E0).nox) (a := ax) (pn := pn) hz) hgi hmi PyProof.Rows.boot_isinstance (pa_cons (pe_var (pos := r2) hn (.inl hln) hnd hnc) (pa_cons (pe_glob (pos := r3) (v := .ref CS) hgl hme rfl hde) pa_nil))) (fun _ => rfl))
      (pe_xf (pos := p9) XF hno hz hf (pe_var hn (.inl hln) hnd hnc) (hb _)) (pe_str (x := noth) (j := j2) (pos := p7))))
    refine hq.run pins s' σ H' D I ?_
    obtain ⟨v, hv, hx, r⟩ := id h'
    subst hx
    refine ⟨_, hv, rfl, true, rfl, ?_⟩
    show (if true = true then _ else _)
    rw [if_pos rfl]
    exact h'
  · refine ⟨_, fun cls d σ' H' hl he => ?_, h0 f, hc, h⟩
    obtain ⟨ec, dd, fs, v, ed, hd, hv, hQ⟩ := he
    subst ec ed
    refine ⟨te, fun ax hax => ⟨rfl, ?_⟩⟩
    have hi : (σ'.set 1 (some (V.ref ax)))[1]? = some (some (V.ref ax)) := List.getElem?_set_self (by rw [hl]; omega)
    exact ⟨_, hi, rfl, rfl, dd, fs, v, rfl, hd, hv, hQ⟩
end
/-- a def of the text: try: return act() / except (.., nm) as e: return e.fld if isinstance(e, nm) else .. -/
structure Ak (K : PySem.W.Frag) (mg : Str → Option Value) (x nm fld : Str) : Prop where
  ex : ∃ (g CS : Addr) (pg : Arguments) (bg : List Stmt) (sg : Scope) (dV kV doc pm cdv ct oc : Value) (an od : Option Addr) (osl : Array (Option Value)) (Ng : List Str) (a : Str),
    mg x = some (.ref g) ∧ mg nm = some (.ref CS) ∧ PySem.W.keepIn K (.ref g) = true ∧ K.lookup g = some ⟨oc, od, .func (PySem.W.fnOf x x pg bg sg dV kV doc pm an cdv ct), osl⟩ ∧ PySem.W.codeIn K cdv x = true ∧
    L2.Binds K (PySem.W.fnOf x x pg bg sg dV kV doc pm an cdv ct) [a] [] ∧ FnScope Ng [a] sg ∧ Ng[0]? = some a ∧ Vis sg a ∧ (a == ("__debug__" : Str)) = false ∧ (a == ("__classdict__" : Str)) = false ∧
    ∀ (X : Cx) (q : Str), X.K = K → X.mg = mg → GivesTo X Ng x sg g cdv bg a q (TTasked CS fld)
def mAsked (nm fld : Str) (mb : ME) : ME := fun ρ Q E => mb ρ Q (fun x => x.cls = nm ∧ ∃ d, x.fields = [(fld, d)] ∧ Q d)
section
variable {X : Cx} {W : WX} {m : Md} {pos : Pos}
theorem xasked {x nm fld : Str} {params : Arguments} {body : Expr} {scope : Scope} {mb : ME} {p lpos : Pos} {k : Nat} (G : Ak X.K X.mg x nm fld) (Lx : Lm X.base X.mg X.env.code X.env.qual) (hr : Room (k + 2) X.A)
    (hbody : ∀ (A : Around) (outer : List Env) (s : Shared) (H : Hp) (E : XK) (f c' : Addr), Room k (A.deeper (lamEnv X scope s.heap.objs.size f c')) → DE (lamCx X A outer s H E scope f c') (WC E) .vl body mb)
    (hL : LamX.lamSB X.env.scope scope = true) (hg : Gl X x := by rfl) (hdef : defaultsOf params X.env = ([], []) := by rfl)
    (hbind : ∀ (q : Str) (cl : List (Str × Addr)) (pm cv ctv : Value), bindArgs (PySem.W.kla_fn "<lambda>" q params body scope cl pm cv ctv) ⟨[], []⟩ = pure [] := by intros; rfl) (hdb : (x == ("__debug__" : Str)) = false := by decide) :
    DE X W .vl (.Call (.Name x p) [.Lambda params body scope lpos] [] pos) (mAsked nm fld mb) := by
  obtain ⟨g, CS, pg, bg, sg, dV, kV, doc, pm, cdv, ct, oc, an, od, osl, Ng, a, hm, hCS, hk, lk, hcg, hb, Sg, hNg, hva, had, hac, hG⟩ := G.ex
  obtain ⟨c, P, hcode, TB, hmT, hu⟩ := Lx.ex
  refine .by (LamX.pe_lamcall3 (T := Tbl.tt) (t := fun E => tE X (WC E) .vl mb) hg hm hk lk hcg hb Sg hNg hva (hG X _ rfl rfl) TB hcode hmT hu hr (LamX.lamS_by hL) hdef hbind (fun A outer s H E f c' hr2 => hbody A outer s H E f c' hr2) hdb had hac) fun σ H A L Hz O ρ Qd Ed S hm hE => ?_
  obtain ⟨_, _, _, _, _, _, _, _, _, _, _, _, _, hT⟩ := id S.bag
  refine ⟨hT, fun H1 e1 t1 => ?_⟩
  have x1 : Ex (rc X A L) H H1 := ex_tab hT hmT e1.2
  have b1 : Bag (rc X A L) H1 := by
    obtain ⟨ne, b0, b1, b2, ns, h0, h1, h2, h3, h4, h5, hA, hL, hT⟩ := id S.bag
    refine ⟨ne, b0, b1, b2, ns, h0, h1, h2, h3, h4, h5, e1.1 _ _ hA (fun ps z => by cases z), e1.1 _ _ hL (fun ps z => by cases z), t1⟩
  have S1 := S.ex x1 b1
  refine ⟨A, L, H1, O, ρ, _, _, ⟨S1.bag, .refl, S1.oA, S1.oT, S1.slots, S1.len⟩, hm, fun d v H2 q x2 b2 r2 => ?_, fun y hy σ' H2 cv dd x2 b2 r2 => ?_⟩
  · have r2 : RV (rc X A L) O H2 d v := r2
    exact ⟨d, x1.trans x2, b2, r2, q⟩
  · obtain ⟨hc, d, hfd, q⟩ := hy
    obtain ⟨C, ec, emg, hfl⟩ := r2
    subst ec
    rw [hc] at emg
    have emg : X.mg nm = some (.ref C) := emg
    rw [hCS] at emg
    cases emg
    obtain ⟨ax, fs, v, e1, e2, e3, r⟩ := hfl fld d (by rw [hfd]; exact List.mem_cons_self)
    exact ⟨rfl, ax, fs, v, e1, e2, e3, d, x1.trans x2, b2, r, q⟩
end
end Ev

/-! Ev21: the bag read and written. -/
namespace Ev
open PySem PySem.Spec L2
open PyProof.Rows hiding St
variable [Tbl]
section
variable {X : Cx} {W : WX} {m : Md} {pos : Pos} {A : Addr} {L : LT} {H : Hp} {O : Od}
def mBag (j : Nat) (i : Int) : ME := fun ρ Q _ => kpv j ρ = some .bag ∧ ∀ n : Int, 0 ≤ n → (i = 1 → n < 2147483647) → Q (.int n)
def mBagL (j : Nat) : ME := fun ρ Q _ => kpv j ρ = some .bag ∧ ∀ ns : List Int, ns.length ≤ 63 → (∀ n ∈ ns, 0 ≤ n) → Q (.lst (ns.map .int))
theorem rv_bag {c : Rc} {v : V} (h : RV c O H .bag v) : v = .ref c.A := by unfold RV at h; exact h
theorem xbag {x : Str} {p p2 : Pos} {k : Nat} {i : Int} (j : Nat) (hi : (decide (i = 0) || decide (i = 1) || decide (i = 2)) = true := by decide) (hN : X.N[j]? = some x := by rfl) (hv : Vis X.env.scope x := by first | exact Or.inl rfl | exact Or.inr (Or.inl rfl) | exact Or.inr (Or.inr rfl))
    (hd : (x == ("__debug__" : Str)) = false := by decide) (hcd : (x == ("__classdict__" : Str)) = false := by decide) : DE X W m (.Subscript (.Name x p) (.Constant (.int i) k p2) pos) (mBag j i) :=
  .by (pe_ix ix_seq (pe_var hN hv hd hcd) pe_int fun _ _ => rfl) fun σ H A L Hz O ρ Qd Ed S ⟨h1, q⟩ hE => by
    obtain ⟨v, e, r⟩ := S.kpv h1
    obtain rfl := rv_bag r
    refine ⟨_, e, ?_⟩
    obtain ⟨ne, b0, b1, b2, ns, h0, hb1, hb2, h3, h4, h5, hA, hL, hT⟩ := id S.bag
    simp only [Bool.or_eq_true, decide_eq_true_eq] at hi
    have hA : H A = some (.lst [.int b0, .int b1, .int b2, .ref L]) := hA
    rcases hi with (rfl | rfl) | rfl
    · exact .inl ⟨A, _, 0, .int b0, rfl, rfl, .of hA, rfl, .int b0, .refl, S.bag, rm_flat rfl mk_int, q b0 h0 (fun z => by cases z)⟩
    · exact .inl ⟨A, _, 1, .int b1, rfl, rfl, .of hA, rfl, .int b1, .refl, S.bag, rm_flat rfl mk_int, q b1 hb1 (fun _ => hb2)⟩
    · exact .inl ⟨A, _, 2, .int b2, rfl, rfl, .of hA, rfl, .int b2, .refl, S.bag, rm_flat rfl mk_int, q b2 h3 (fun z => by cases z)⟩
theorem xbagL {x : Str} {p p2 : Pos} {k : Nat} (j : Nat) (hN : X.N[j]? = some x := by rfl) (hv : Vis X.env.scope x := by first | exact Or.inl rfl | exact Or.inr (Or.inl rfl) | exact Or.inr (Or.inr rfl))
    (hd : (x == ("__debug__" : Str)) = false := by decide) (hcd : (x == ("__classdict__" : Str)) = false := by decide) : DE X W .al (.Subscript (.Name x p) (.Constant (.int 3) k p2) pos) (mBagL j) :=
  .by (pe_ix ix_seq (pe_var hN hv hd hcd) pe_int fun _ _ => rfl) fun σ H A L Hz O ρ Qd Ed S ⟨h1, q⟩ hE => by
    obtain ⟨v, e, r⟩ := S.kpv h1
    obtain rfl := rv_bag r
    refine ⟨_, e, ?_⟩
    obtain ⟨ne, b0, b1, b2, ns, h0, hb1, hb2, h3, h4, h5, hA, hL, hT⟩ := id S.bag
    have hA : H A = some (.lst [.int b0, .int b1, .int b2, .ref L]) := hA
    have hL : H L = some (.lst (ns.map V.int)) := hL
    have nav : ¬ av (rc X A L) L := by
      rintro (z | z)
      · exact ne z
      · obtain ⟨p, hp, rfl⟩ := List.mem_map.mp z
        obtain ⟨ps, h2, _⟩ := hT p hp
        rw [hL] at h2; cases h2
    refine .inl ⟨A, _, 3, .ref L, rfl, rfl, .of hA, rfl, .lst (ns.map .int), .refl, S.bag, ?_, q ns h4 h5⟩
    exact ⟨L, ns.map V.int, rfl, nav, hL, RVs.of_ints⟩
theorem pget_list : PGet X (rIxL X.K) := by
  intro pins s σ H o i ov iv Q I ro ri h
  obtain ⟨p, xs, k, z, rfl, rfl, hq, he, q⟩ := h
  cases ro
  obtain ⟨t, rfl⟩ := ri
  obtain ⟨its, r, pl, hz⟩ := I.list hq
  obtain ⟨j, h1, h2, h3, h4, h5⟩ := atI_get he
  obtain ⟨w, ew, rw'⟩ := r.get h2
  have hl := r.length
  have hn := line63
  have fin : EP X pins σ Q w s := ⟨z, H, I, rw', q⟩
  by_cases h0 : 0 ≤ k
  · have hj : k.toNat = j := by
      rw [seqIndex_of h0 h5] at h1
      exact Option.some.inj h1
    exact wpAny_getItem_list pl.isList h0 (by omega) (by rw [hj]; simpa using ew) fin
  · have hj : (k + (its.toArray.size : Int)).toNat = j := by
      rw [seqIndex_neg (by omega) h4] at h1
      rw [List.size_toArray, ← hl]
      exact Option.some.inj h1
    exact wpAny_getItem_list_neg pl.isList (by omega) (by rw [List.size_toArray] <;> omega) (by omega) (by rw [hj]; simpa using ew) fin
theorem bag_set {c : Rc} {b0 b1 b2 : Int} {ns : List Int} {H : Hp} (b : Bag c H) (hA : H c.A = some (.lst [.int b0, .int b1, .int b2, .ref c.L])) {e0 e1 e2 : Int} (h0 : 0 ≤ e0) (h1 : 0 ≤ e1) (h1' : e1 < 2147483647) (h2 : 0 ≤ e2) :
    Ex c H (upd H c.A (.lst [.int e0, .int e1, .int e2, .ref c.L])) ∧ Bag c (upd H c.A (.lst [.int e0, .int e1, .int e2, .ref c.L])) := by
  obtain ⟨ne, _, _, _, ns, _, _, _, _, h4, h5, _, hL, hT⟩ := b
  refine ⟨Kp.wr hA trivial (.inl rfl), ne, e0, e1, e2, ns, h0, h1, h1', h2, h4, h5, upd_same, by rw [upd_ne ne]; exact hL, tabs_wr hT hA (fun _ z => by cases z) (fun _ z => by cases z) trivial⟩
def mBagSet (j : Nat) (i : Int) (me : ME) : MS := fun ρ K => me ρ (fun d => kpv j ρ = some .bag ∧ ∃ n, d = .int n ∧ 0 ≤ n ∧ (i = 1 → n < 2147483647) ∧ K.nx ρ) K.ex
theorem xbagset {x : Str} {e : Expr} {me : ME} {p p2 p3 : Pos} {k : Nat} {i : Int} (j : Nat) (he : DE X W .vl e me) (hi : (decide (i = 0) || decide (i = 1)) = true := by decide) (hN : X.N[j]? = some x := by rfl) (hv : Vis X.env.scope x := by first | exact Or.inl rfl | exact Or.inr (Or.inl rfl) | exact Or.inr (Or.inr rfl))
    (hd : (x == ("__debug__" : Str)) = false := by decide) (hcd : (x == ("__classdict__" : Str)) = false := by decide)
    (ha : ∀ v, assign (.Subscript (.Name x p) (.Constant (.int i) k p2) p3) X.env v = (do
      let ov ← holding [v] (eval (.Name x p) X.env)
      let iv ← holding [v, ov] (eval (.Constant (.int i) k p2) X.env)
      standAt p3
      holding [v, ov, iv] (setItem ov iv v)
      release [v, ov, iv] []) := by intro _; rfl)
    (hs : swapsWithSole [.Subscript (.Name x p) (.Constant (.int i) k p2) p3] e pos.line X.env = pure false := by rfl) (hw : swappedStores [.Subscript (.Name x p) (.Constant (.int i) k p2) p3] e X.env = pure none := by rfl)
    (h1 : (assignEach [.Subscript (.Name x p) (.Constant (.int i) k p2) p3] X.env).map (·.2) = [assign (.Subscript (.Name x p) (.Constant (.int i) k p2) p3) X.env] := by rfl) :
    DS X W (.Assign [.Subscript (.Name x p) (.Constant (.int i) k p2) p3] e pos) (mBagSet j i me) :=
  PS.imp (ps_asg he (pg_sub (pe_var hN hv hd hcd) pe_int set_list ha) hs hw h1) fun Dn σ H ⟨A, L, O0, gh, ρ, K, S, h, l⟩ => tE.st S h l fun d v H1 ⟨h1, n, ed, hn, hn1, q⟩ S1 x1 r => by
    subst ed
    have r' : RV (rc X A L) (OS O0 ρ σ) H1 (.int n) v := r
    obtain rfl := rv_int r'
    obtain ⟨w, e, rb⟩ := S1.se.kpv h1
    obtain rfl := rv_bag rb
    refine ⟨_, e, ?_⟩
    obtain ⟨ne, b0, b1, b2, ns, h0, hb1, hb2, h3, h4, h5, hA, hL, hT⟩ := id S1.se.bag
    have hA' : H1 A = some (.lst [.int b0, .int b1, .int b2, .ref L]) := hA
    simp only [Bool.or_eq_true, decide_eq_true_eq] at hi
    rcases hi with rfl | rfl
    · obtain ⟨x2, b2'⟩ := bag_set (ns := ns) (e0 := n) (e1 := b1) (e2 := b2) S1.se.bag hA hn hb1 hb2 h3
      exact ⟨A, _, 0, 0, rfl, rfl, hA', rfl, l.nx _ _ _ q (S1.ex x2 b2')⟩
    · obtain ⟨x2, b2'⟩ := bag_set (ns := ns) (e0 := b0) (e1 := n) (e2 := b2) S1.se.bag hA h0 hn (hn1 rfl) h3
      exact ⟨A, _, 1, 1, rfl, rfl, hA', rfl, l.nx _ _ _ q (S1.ex x2 b2')⟩
def mBagInc (j : Nat) : MS := fun ρ K => kpv j ρ = some .bag ∧ K.nx ρ
theorem xbaginc {x : Str} {p p2 p3 p4 : Pos} {k k2 : Nat} (j : Nat) (hN : X.N[j]? = some x := by rfl) (hv : Vis X.env.scope x := by first | exact Or.inl rfl | exact Or.inr (Or.inl rfl) | exact Or.inr (Or.inr rfl))
    (hd : (x == ("__debug__" : Str)) = false := by decide) (hcd : (x == ("__classdict__" : Str)) = false := by decide)
    (ha : ∀ ov iv new, augStore (.Constant (.int 2) k p2) ov iv new = (do holding [new, ov, iv] (setItem ov iv new); release [new, ov, iv] []; pure .next) := by intros; rfl) :
    DS X W (.AugAssign (.Subscript (.Name x p) (.Constant (.int 2) k p2) p3) .Add (.Constant (.int 1) k2 p4) pos) (mBagInc j) :=
  PS.imp (ps_augS (pe_var hN hv hd hcd) pe_int pget_list pe_int ip_add set_list ha) fun Dn σ H ⟨A, L, O0, gh, ρ, K, S, ⟨h1, q⟩, l⟩ => by
    obtain ⟨w, e, rb⟩ := S.se.kpv h1
    obtain rfl := rv_bag rb
    refine ⟨_, e, ?_⟩
    obtain ⟨ne, b0, b1, b2, ns, h0, hb1, hb2, h3, h4, h5, hA, hL, hT⟩ := id S.se.bag
    have hA' : H A = some (.lst [.int b0, .int b1, .int b2, .ref L]) := hA
    obtain ⟨x2, b2'⟩ := bag_set (ns := ns) (e0 := b0) (e1 := b1) (e2 := b2 + 1) S.se.bag hA h0 hb1 hb2 (by omega)
    refine ⟨A, _, 2, .int b2, rfl, rfl, .of hA', rfl, b2, 1, rfl, rfl, A, _, 2, 2, rfl, rfl, hA', rfl, l.nx _ _ _ q (S.ex x2 b2')⟩
end
end Ev

/-! Ev22: zip of three, chains of four. -/
namespace Ev
open PySem PySem.Spec L2
open PyProof.Rows hiding St
variable [Tbl]
def ItZ3 (K : PySem.W.Frag) (sa sb sc : Sc) : It :=
  ⟨fun i H => ∃ (xs ys zs : List V) (x y z : V), sa.items K H xs ∧ sb.items K H ys ∧ sc.items K H zs ∧ xs[i]? = some x ∧ ys[i]? = some y ∧ zs[i]? = some z,
    fun i H v H' => ∃ T x y z, v = .ref T ∧ H T = none ∧ H' = upd H T (.tup [x, y, z]) ∧ (∀ xs, sa.items K H xs → xs[i]? = some x) ∧ (∀ ys, sb.items K H ys → ys[i]? = some y) ∧ ∀ zs, sc.items K H zs → zs[i]? = some z,
    fun i H => ∃ xs ys zs : List V, sa.items K H xs ∧ sb.items K H ys ∧ sc.items K H zs ∧ i ≤ xs.length ∧ i ≤ ys.length ∧ i ≤ zs.length ∧ (i = xs.length ∨ i = ys.length ∨ i = zs.length)⟩
structure ZAp3 (z TI TO i1 i2 i3 : Addr) : Prop where
  TIz : TI ≠ z
  TOz : TO ≠ z
  TITO : TI ≠ TO
  TIi1 : TI ≠ i1
  TIi2 : TI ≠ i2
  TIi3 : TI ≠ i3
  z1 : z ≠ i1
  z2 : z ≠ i2
  z3 : z ≠ i3
  T1 : TO ≠ i1
  T2 : TO ≠ i2
  T3 : TO ≠ i3
  n12 : i1 ≠ i2
  n13 : i1 ≠ i3
  n23 : i2 ≠ i3
theorem zsep3 {X : Cx} {pins : List (Addr × Obj)} {σ : St} {H : Hp} {s : Shared} {sa sb sc : Sc} {xs ys zs : List V} {z TI TO i1 i2 i3 : Addr} (I : Inv X pins σ H s) (ha : sa.items X.K H xs) (hb : sb.items X.K H ys) (hc : sc.items X.K H zs) (A : ZAp3 z TI TO i1 i2 i3)
    (hf : ∀ b ∈ [z, TI, TO, i1, i2, i3], FpOk X pins H b) : ZipSep3 z TI TO i1 i2 i3 (i1 :: sa.at?) (i2 :: sb.at?) (i3 :: sc.at?) := by
  have f : ∀ {b c : Addr} {sc : Sc} {vs : List V}, b ∈ [z, TI, TO, i1, i2, i3] → sc.items X.K H vs → b ≠ c → b ∉ c :: sc.at? := fun hm hi ne hm' => by
    rcases List.mem_cons.mp hm' with q | q
    · exact ne q
    · exact Sc.apart I hi (hf _ hm) q
  exact ⟨A.TIz, A.TOz, A.TITO, A.TIi1, by simp, f (by simp) ha A.z1, f (by simp) ha A.T1, A.TIi2, by simp, f (by simp) hb A.z2, f (by simp) hb A.T2, A.TIi3, by simp, f (by simp) hc A.z3, f (by simp) hc A.T3,
    f (by simp) hb A.n12, f (by simp) hc A.n13, f (by simp) ha (Ne.symm A.n12), f (by simp) hc A.n23, f (by simp) ha (Ne.symm A.n13), f (by simp) hb (Ne.symm A.n23)⟩
theorem turn_zipS3 {P : Program} {w : World} {K : PySem.W.Frag} {elts : List Expr} {kk : Nat} {tpos : Pos} {sa sb sc : Sc} {z TI TO i1 i2 i3 : Addr} (Ap : ZAp3 z TI TO i1 i2 i3) :
    Turn P w K (.Tuple elts kk tpos) (ItZ3 K sa sb sc) [z, TI, TO, i1, i2, i3] z (fun i h => IsZip h z TI TO .none ∧ IsTupOf3 h TI (.ref i1) (.ref i2) (.ref i3) ∧ (∃ x y u, IsTupOf3 h TO x y u) ∧ sa.st i1 i h ∧ sb.st i2 i h ∧ sc.st i3 i h) where
  mem := by simp
  obj := fun i h st c hc => by
    obtain ⟨hz, hTI, ⟨x, y, u, hTO⟩, h1, h2, h3⟩ := st
    have e' : c = z ∨ c = TI ∨ c = TO ∨ c = i1 ∨ c = i2 ∨ c = i3 := by simpa using hc
    rcases e' with q | q | q | q | q | q
    · rw [q]; exact ⟨_, hz, fun v q => nomatch q⟩
    · rw [q]; exact ⟨_, hTI, fun v q => nomatch q⟩
    · rw [q]; exact ⟨_, hTO, fun v q => nomatch q⟩
    · rw [q]; exact Sc.rcd h1
    · rw [q]; exact Sc.rcd h2
    · rw [q]; exact Sc.rcd h3
  keep := fun i h h' st k => by
    obtain ⟨hz, hTI, ⟨x, y, u, hTO⟩, h1, h2, h3⟩ := st
    exact ⟨k z (by simp) _ hz, k TI (by simp) _ hTI, ⟨x, y, u, k TO (by simp) _ hTO⟩, Sc.keep h1 fun o q => k i1 (by simp) o q, Sc.keep h2 fun o q => k i2 (by simp) o q, Sc.keep h3 fun o q => k i3 (by simp) o q⟩
  item := by
    intro X hP hw hK hc i pins s σ H E I hf st hg
    subst hP hw hK
    obtain ⟨hz, hTI, ⟨x0, y0, u0, hTO⟩, h1, h2, h3⟩ := st
    obtain ⟨xs, ys, zs, x, y, q0, hqx, hqy, hqz, hx, hy, hzz⟩ := hg
    have S := zsep3 I hqx hqy hqz Ap hf
    obtain ⟨P1, S1, D1, st1, hP1, hS1⟩ := Sc.draws I hc hqx h1 (Sc.apart I hqx (hf i1 (by simp)))
    obtain ⟨P2, S2, D2, st2, hP2, hS2⟩ := Sc.draws I hc hqy h2 (Sc.apart I hqy (hf i2 (by simp)))
    obtain ⟨P3, S3, D3, st3, hP3, hS3⟩ := Sc.draws I hc hqz h3 (Sc.apart I hqz (hf i3 (by simp)))
    have hzl : z < s.heap.objs.size := Heap.lt_size hz
    refine wpAny_pyNext_zipD3_item S D1 D2 D3 hz hTI hTO st1 st2 st3 (List.getElem?_eq_some_iff.mp hx).1 (List.getElem?_eq_some_iff.mp hy).1 (List.getElem?_eq_some_iff.mp hzz).1 fun u u2 u3 h' tk hu hu2 hu3 z' TO' h1' h2' h3' hT hsz hk => ?_
    obtain ⟨x', e1, ru⟩ := hP1 i u hu
    obtain ⟨y', e2, ru2⟩ := hP2 i u2 hu2
    obtain ⟨q', e3, ru3⟩ := hP3 i u3 hu3
    rw [hx] at e1; cases e1
    rw [hy] at e2; cases e2
    rw [hzz] at e3; cases e3
    refine ⟨_, rfl, wpAny_letOwnedTupleGo_zip (s := { s with heap := h', toks := tk }) z' fun h'' z'' sb => ?_⟩
    have hT2 : h''.get? s.heap.objs.size = some { cls := .type "tuple", data := .seq #[u, u2, u3] } := (sb.2 _ (Nat.ne_of_gt hzl)).trans hT
    have new : ObjOk X.prog X.w (upd H s.heap.objs.size (.tup [x, y, q0])) h'' s.heap.objs.size (.tup [x, y, q0]) :=
      ⟨by show 3 ≤ sizeLine; decide, [u, u2, u3], .cons ru (.cons ru2 (.cons ru3 .nil)), ⟨_, hT2, rfl, _, rfl⟩⟩
    have I1 : Inv X pins σ (upd H s.heap.objs.size (.tup [x, y, q0])) { s with heap := h'', toks := tk } :=
      I.turnedNew (t' := tk) (ch := [z, TI, TO, i1, i2, i3]) (fun c o hb q => (sb.2 c (fun q' => hb (by simp [q']))).trans (hk c o (fun q' => hb (by simp [q'])) (fun q' => hb (by simp [q'])) (fun q' => hb (by simp [q'])) (fun q' => hb (by simp [q'])) (fun q' => hb (by simp [q'])) q)) hf (Nat.le_refl _) new
    refine ⟨.ref s.heap.objs.size, _, I1, rfl, ⟨_, x, y, q0, rfl, I.hok.fresh (Nat.le_refl _), rfl, fun l hl => by rw [Sc.inj I hl hqx]; exact hx, fun l hl => by rw [Sc.inj I hl hqy]; exact hy, fun l hl => by rw [Sc.inj I hl hqz]; exact hzz⟩, ⟨z'', ?_, ⟨u, u2, u3, ?_⟩, ?_, ?_, ?_⟩, fun c hcm => ?_⟩
    · exact (sb.2 _ Ap.TIz).trans (hk _ _ Ap.TIz Ap.TITO Ap.TIi1 Ap.TIi2 Ap.TIi3 hTI)
    · exact (sb.2 _ Ap.TOz).trans TO'
    · exact Sc.keep (hS1 _ _ h1') fun o q => (sb.2 _ (Ne.symm Ap.z1)).trans q
    · exact Sc.keep (hS2 _ _ h2') fun o q => (sb.2 _ (Ne.symm Ap.z2)).trans q
    · exact Sc.keep (hS3 _ _ h3') fun o q => (sb.2 _ (Ne.symm Ap.z3)).trans q
    · have hlt : c < s.heap.objs.size := by
        have e' : c = z ∨ c = TI ∨ c = TO ∨ c = i1 ∨ c = i2 ∨ c = i3 := by simpa using hcm
        rcases e' with q | q | q | q | q | q
        · rw [q]; exact hzl
        · rw [q]; exact Heap.lt_size hTI
        · rw [q]; exact Heap.lt_size hTO
        · rw [q]; exact Sc.lt h1
        · rw [q]; exact Sc.lt h2
        · rw [q]; exact Sc.lt h3
      rw [upd_ne (Nat.ne_of_lt hlt)]
      exact (hf c hcm).1
  done := by
    intro X hP hw hK hc i pins s σ H E I hf st hg
    subst hP hw hK
    obtain ⟨hz, hTI, ⟨x0, y0, u0, hTO⟩, h1, h2, h3⟩ := st
    obtain ⟨xs, ys, zs, hqx, hqy, hqz, hl1, hl2, hl3, hend⟩ := hg
    have S := zsep3 I hqx hqy hqz Ap hf
    obtain ⟨P1, S1, D1, st1, hP1, hS1⟩ := Sc.draws I hc hqx h1 (Sc.apart I hqx (hf i1 (by simp)))
    obtain ⟨P2, S2, D2, st2, hP2, hS2⟩ := Sc.draws I hc hqy h2 (Sc.apart I hqy (hf i2 (by simp)))
    obtain ⟨P3, S3, D3, st3, hP3, hS3⟩ := Sc.draws I hc hqz h3 (Sc.apart I hqz (hf i3 (by simp)))
    exact wpAny_pyNext_zipD3_end S D1 D2 D3 hz hTI hTO st1 st2 st3 hl1 hl2 hl3 hend fun h' tk hk => ⟨rfl, I.turnedL (t' := tk) (ch := [z, TI, TO, i1, i2, i3]) (fun c o hb q =>
      hk c o (fun q' => hb (by simp [q'])) (fun q' => hb (by simp [q'])) (fun q' => hb (by simp [q'])) (fun q' => hb (by simp [q'])) (fun q' => hb (by simp [q'])) q) hf⟩
  self := fun A i s Q E st h => wpAny_pyIter_zip st.1 h
section
variable {X : Cx} {W : WX} {m : Md} {A : Addr} {L : LT} {Hz : Hp} {O O0 : Od} {gh : Gh} {ρ : EnvD} {σ : St} {H H' : Hp} {Ed : Exc → Prop} {K : SEnds} {Dn : Ends} {pos spos : Pos}
def zipD3 : List D → List D → List D → List D
  | a :: as, b :: bs, c :: cs => .tup [a, b, c] :: zipD3 as bs cs
  | _, _, _ => []
theorem zipD3_get : ∀ {as bs cs : List D} {i : Nat} {e : D}, (zipD3 as bs cs)[i]? = some e → ∃ a b c, as[i]? = some a ∧ bs[i]? = some b ∧ cs[i]? = some c ∧ e = .tup [a, b, c]
  | [], bs, cs, i, e, h => by simp [zipD3] at h
  | a :: as, [], cs, i, e, h => by simp [zipD3] at h
  | a :: as, b :: bs, [], i, e, h => by simp [zipD3] at h
  | a :: as, b :: bs, c :: cs, 0, e, h => by
    simp [zipD3] at h
    exact ⟨a, b, c, rfl, rfl, rfl, h.symm⟩
  | a :: as, b :: bs, c :: cs, i + 1, e, h => by
    have h' : (zipD3 as bs cs)[i]? = some e := by simpa [zipD3] using h
    obtain ⟨x, y, z, h1, h2, h3, h4⟩ := zipD3_get h'
    exact ⟨x, y, z, by simpa using h1, by simpa using h2, by simpa using h3, h4⟩
theorem zipD3_length : ∀ (as bs cs : List D), (zipD3 as bs cs).length = min as.length (min bs.length cs.length)
  | [], bs, cs => by simp [zipD3]
  | a :: as, [], cs => by simp [zipD3]
  | a :: as, b :: bs, [] => by simp [zipD3]
  | a :: as, b :: bs, c :: cs => by simp [zipD3, zipD3_length as bs cs]
def mZip3 (ma mb mc : ME) : MI := fun ρ Q E => ma ρ (fun x => mb ρ (fun y => mc ρ (fun z => Opt (seqD x) fun as => Opt (seqD y) fun bs => Opt (seqD z) fun cs => Q (zipD3 as bs cs)) E) E) E
theorem zap3 {N : Nat} : ZAp3 (N + 5) (N + 3) (N + 4) N (N + 1) (N + 2) :=
  ⟨show (N + 3 : Nat) ≠ N + 5 by omega, show (N + 4 : Nat) ≠ N + 5 by omega, show (N + 3 : Nat) ≠ N + 4 by omega, show (N + 3 : Nat) ≠ N by omega, show (N + 3 : Nat) ≠ N + 1 by omega, show (N + 3 : Nat) ≠ N + 2 by omega,
    show (N + 5 : Nat) ≠ N by omega, show (N + 5 : Nat) ≠ N + 1 by omega, show (N + 5 : Nat) ≠ N + 2 by omega, show (N + 4 : Nat) ≠ N by omega, show (N + 4 : Nat) ≠ N + 1 by omega, show (N + 4 : Nat) ≠ N + 2 by omega,
    show (N : Nat) ≠ N + 1 by omega, show (N : Nat) ≠ N + 2 by omega, show (N + 1 : Nat) ≠ N + 2 by omega⟩
theorem rv_trip {c : Rc} {p : Addr} {d1 d2 d3 : D} {x y z : V} (n : H p = none) (h1 : RV c O H d1 x) (h2 : RV c O H d2 y) (h3 : RV c O H d3 z) : RV c O (upd H p (.tup [x, y, z])) (.tup [d1, d2, d3]) (.ref p) :=
  mk_tup upd_same ((RVs.cons h1 (RVs.cons h2 (.one h3))).kp (Kp.new n))
theorem vals3' {x y z : V} {us : List Value} (r : Vals [x, y, z] us) : ∃ u w' w2, us = [u, w', w2] ∧ RelV x u ∧ RelV y w' ∧ RelV z w2 := by
  cases r with
  | cons r1 r2 =>
    obtain ⟨a, b, rfl, r3, r4⟩ := L2.vals2 r2
    exact ⟨_, _, _, rfl, r1, r3, r4⟩
theorem di_zip3 {e e2 e3 : Expr} {elts : List Expr} {kk : Nat} {tpos p pos : Pos} {ma mb mc : ME} (hg : Gl X "zip") (hm : X.mg "zip" = none) (ha : DE X W m e ma) (hb : DE X W m e2 mb) (hc : DE X W m e3 mc)
    (hs : starEach [e, e2, e3] X.env = (false, eval e X.env) :: starEach [e2, e3] X.env) (hs2 : starEach [e2, e3] X.env = (false, eval e2 X.env) :: starEach [e3] X.env) (hs3 : starEach [e3] X.env = (false, eval e3 X.env) :: starEach [] X.env)
    (hpl : (backTo pos (starEach [e2, e3] X.env)).any (·.1) = false) :
    DI X W m (.Tuple elts kk tpos) (.Call (.Name "zip" p) [e, e2, e3] [] pos) (mZip3 ma mb mc) := by
  refine ⟨fun pins s σ H R I h => ?_⟩
  obtain ⟨A, L, Hz, O, ρ, Qd, Ed, S, hmm, k, hE⟩ := h
  refine Call_ (ld_blt I hg hm PyProof.Rows.boot_zip (PyProof.Rows.callWith_type1 (thn ((pa_cons ha (pa_cons hb (pa_cons hc pa_nil hs3) hs2) hs).run pos pins s σ H (fun vs H1 => ∃ v d v2 d2 v3 d3, vs = [v, v2, v3] ∧ SE (rc X A L) Hz O ρ σ H1 ∧ Ex (rc X A L) H H1 ∧ RM m (rc X A L) O H H1 d v ∧ RM m (rc X A L) O H H1 d2 v2 ∧ RM m (rc X A L) O H H1 d3 v3 ∧
      Opt (seqD d) fun as => Opt (seqD d2) fun bs => Opt (seqD d3) fun cs => Qd (zipD3 as bs cs)) I
    (tE.go S hmm hE fun d v H1 q S1 x1 r1 => tE.go S1 q hE fun d2 v2 H2 q2 S2 x2 r2 => tE.go S2 q2 hE fun d3 v3 H3 q3 S3 x3 r3 => ⟨v, d, v2, d2, v3, d3, rfl, S3, (x1.trans x2).trans x3, RM.ex (RM.ex r1 x2 S2.oA) x3 S3.oA, RM.ex (RM.back r2 x1 S.oA) x3 S3.oA, RM.back r3 (x1.trans x2) S.oA, q3⟩)) fun us s1 ⟨vs, H1, I1, r1, q1⟩ => ?_) hs hpl))
  obtain ⟨v, d, v2, d2, v3, d3, rfl, S1, x1, m1, m2, m3, as, e1, bs, e2', cs, e3', q⟩ := q1
  obtain ⟨u, u2, u3, rfl, rv, rv2, rv3⟩ := vals3' r1
  have rb1 : RB (rc X A L) O H1 d v := RM.rb m1 S1.oA
  have rb2 : RB (rc X A L) O H1 d2 v2 := RM.rb m2 S1.oA
  have rb3 : RB (rc X A L) O H1 d3 v3 := RM.rb m3 S1.oA
  obtain ⟨sa, rfl, hsa⟩ := rb_src (c := rc X A L) (pins := pins) (s := s1) rb1 rv e1
  obtain ⟨sb, rfl, hsb⟩ := rb_src (c := rc X A L) (pins := pins) (s := s1) rb2 rv2 e2'
  obtain ⟨sc, rfl, hsc⟩ := rb_src (c := rc X A L) (pins := pins) (s := s1) rb3 rv3 e3'
  obtain ⟨ws, hi, hlen, _⟩ := hsa O H1 S1.oA rb1
  have hlim := src_len (c := rc X A L) I1 hi (src_text (rb_text rb1 rv))
  rw [hlen] at hlim
  obtain ⟨ws2, hi2, _, _⟩ := hsb O H1 S1.oA rb2
  obtain ⟨ws3, hi3, _, _⟩ := hsc O H1 S1.oA rb3
  obtain ⟨Ha, Ba, hBa⟩ := Sc.begins I1 hi
  obtain ⟨Hb, Bb, hBb⟩ := Sc.begins I1 hi2
  obtain ⟨Hc, Bc, hBc⟩ := Sc.begins I1 hi3
  refine zip_begins3 Ba Bb Bc hBa hBb hBc fun h' hz hTI hTO hit1 hit2 hit3 hsz hk => wpAny_pyIter_zip hz ?_
  have I2 : Inv X pins σ H1 { s1 with heap := h' } := I1.kept (t' := s1.toks) hk
  refine ⟨s1.heap.objs.size + 5, [s1.heap.objs.size + 5, s1.heap.objs.size + 3, s1.heap.objs.size + 4, s1.heap.objs.size, s1.heap.objs.size + 1, s1.heap.objs.size + 2], _, _, H1, rfl, I2, turn_zipS3 (sa := sa) (sb := sb) (sc := sc) zap3, ⟨hz, hTI, ⟨_, _, _, hTO⟩, Sc.st0 hit1, Sc.st0 hit2, Sc.st0 hit3⟩, fun c hcm => ?_, k _ [(d, v), (d2, v2), (d3, v3)] _ H1 q x1 S1.bag (fun g hg => ?_) (by rw [zipD3_length]; omega) fun O' H' oA hg => ?_⟩
  · have e' : c = s1.heap.objs.size + 5 ∨ c = s1.heap.objs.size + 3 ∨ c = s1.heap.objs.size + 4 ∨ c = s1.heap.objs.size ∨ c = s1.heap.objs.size + 1 ∨ c = s1.heap.objs.size + 2 := by simpa using hcm
    have hle : s1.heap.objs.size ≤ c := by
      rcases e' with z | z | z | z | z | z <;> rw [z] <;> first | exact Nat.le_refl _ | exact Nat.le_add_right _ _
    exact I1.fpOk hle (I1.hok.fresh hle)
  · have hg' : g = (d, v) ∨ g = (d2, v2) ∨ g = (d3, v3) := by simpa using hg
    rcases hg' with rfl | rfl | rfl
    · exact RM.g2 m1 _ (by simp)
    · exact RM.g2 m2 _ (by simp)
    · exact RM.g2 m3 _ (by simp)
  · obtain ⟨xs, hx, hl, hget⟩ := hsa O' H' oA (hg (d, v) (by simp))
    obtain ⟨ys, hy, hl2, hget2⟩ := hsb O' H' oA (hg (d2, v2) (by simp))
    obtain ⟨zs, hz', hl3, hget3⟩ := hsc O' H' oA (hg (d3, v3) (by simp))
    refine ⟨fun i e hd => ?_, ⟨xs, ys, zs, hx, hy, hz', by rw [zipD3_length, hl]; omega, by rw [zipD3_length, hl2]; omega, by rw [zipD3_length, hl3]; omega, by rw [zipD3_length, hl, hl2, hl3]; omega⟩⟩
    obtain ⟨a', b', c', ha', hb', hc', rfl⟩ := zipD3_get hd
    obtain ⟨x, hx1, rx⟩ := hget i a' ha'
    obtain ⟨y, hy1, ry⟩ := hget2 i b' hb'
    obtain ⟨z0, hz1, rz⟩ := hget3 i c' hc'
    refine ⟨⟨xs, ys, zs, x, y, z0, hx, hy, hz', hx1, hy1, hz1⟩, fun z H2 hz => ?_⟩
    obtain ⟨T, x', y', z', rfl, nT, rfl, hh, hh2, hh3⟩ := hz
    have e3 := hh xs hx
    have e4 := hh2 ys hy
    have e5 := hh3 zs hz'
    rw [hx1] at e3; cases e3
    rw [hy1] at e4; cases e4
    rw [hz1] at e5; cases e5
    exact ⟨New.upd nT, rv_trip nT rx ry rz⟩
/-! ### chains of any length -/
abbrev MC := D → EnvD → (D → Prop) → (Exc → Prop) → Prop
def DCh (X : Cx) (W : WX) (ops : List CmpOp) (rs : List (Sem Value)) (mc : MC) : Prop :=
  ∀ (pos : Pos) (pins : List (Addr × Obj)) (s : Shared) (σ : St) (H : Hp) (A : Addr) (L : LT) (Hz : Hp) (O : Od) (ρ : EnvD) (Qd : D → Prop) (Ed : Exc → Prop) (d : D) (x : V) (v : Value), Inv X pins σ H s → RelV x v → SE (rc X A L) Hz O ρ σ H → RB (rc X A L) O H d x →
    mc d ρ Qd Ed → (∀ x, Ed x → Bad (rc X A L) O Hz W x) → wpAny (model X.prog X.w) X.A (compareChain pos v ops rs) (EP X pins σ fun w H1 => ∃ d', Ex (rc X A L) H H1 ∧ Bag (rc X A L) H1 ∧ RF (rc X A L) O H H1 d' w ∧ Qd d') X.xe s
def DChT (X : Cx) (W : WX) (ops : List CmpOp) (rs : List (Sem Value)) (mc : MC) : Prop :=
  ∀ (pos : Pos) (pins : List (Addr × Obj)) (s : Shared) (σ : St) (H : Hp) (A : Addr) (L : LT) (Hz : Hp) (O : Od) (ρ : EnvD) (Qb : Bool → Prop) (Ed : Exc → Prop) (d : D) (x : V) (v : Value), Inv X pins σ H s → RelV x v → SE (rc X A L) Hz O ρ σ H → RB (rc X A L) O H d x →
    mc d ρ (fun d => ∃ b, d = .bl b ∧ Qb b) Ed → (∀ x, Ed x → Bad (rc X A L) O Hz W x) → wpAny (model X.prog X.w) X.A (testChain pos v ops rs) (TP X pins σ fun b H1 => Ex (rc X A L) H H1 ∧ Bag (rc X A L) H1 ∧ Qb b) X.xe s
def cLast (g : D → D → Option D) (mb : ME) : MC := fun d ρ Q E => mb ρ (fun y => Opt (g d y) Q) E
def cLink (g : D → D → Option D) (mb : ME) (t : MC) : MC := fun d ρ Q E => mb ρ (fun y => Opt (g d y) fun z => ∃ b, z = .bl b ∧ if b = true then t y ρ Q E else Q (.bl false)) E
def mChn (ma : ME) (t : MC) : ME := fun ρ Q E => ma ρ (fun d => t d ρ Q E) E
section
variable {op op' : CmpOp} {ops : List CmpOp} {g : D → D → Option D} {a b c : Expr} {ma mb : ME} {rs : List (Sem Value)} {r' : Sem Value} {t : MC}
theorem dch_last (ho : DO2 X (compareOp op) g) (hb : DE X W .al b mb) : DCh X W [op] [eval b X.env] (cLast g mb) := by
  intro pos pins s σ H A L Hz O ρ Qd Ed d x v I rx S rb hm hE
  refine PyProof.Rows.chain_last (thn (hb.get I S hm hE) fun u s2 ⟨y, H2, d2, I2, ry, S2, x2, r2, d3, e, q⟩ => ?_)
  exact ho.op pins s2 σ H2 x y v u _ I2 rx ry ⟨A, L, Hz, O, ρ, σ, d, d2, d3, S2, RB.ex rb x2 S2.oA, RM.rb r2 S2.oA, e, fun w H3 h3 => ⟨d3, x2.trans h3.1, h3.2.1, RF.back h3.2.2 x2 S.oA, q⟩⟩
theorem dch_link (ho : DO2 X (compareOp op) g) (hb : DE X W .al b mb) (ht : DCh X W (op' :: ops) (r' :: rs) t) : DCh X W (op :: op' :: ops) (eval b X.env :: r' :: rs) (cLink g mb t) := by
  intro pos pins s σ H A L Hz O ρ Qd Ed d x v I rx S rb hm hE
  refine PyProof.Rows.chain_link (thn (hb.get I S hm hE) fun u s2 ⟨y, H2, d2, I2, ry, S2, x2, r2, d3, e, b1, ed, q⟩ => ?_)
  subst ed
  refine thn (ho.op pins s2 σ H2 x y v u (fun w H3 => FQ (rc X A L) O H2 (.bl b1) w H3) I2 rx ry ⟨A, L, Hz, O, ρ, σ, d, d2, .bl b1, S2, RB.ex rb x2 S2.oA, RM.rb r2 S2.oA, e, fun w H3 h3 => h3⟩) fun w' s3 ⟨w, H3, I3, rw, h3⟩ => ?_
  obtain rfl := rv_bl h3.2.2.rv
  cases rw
  refine wpAny_truthy_bool ?_
  have S3 := S2.ex h3.1 h3.2.1
  cases b1 with
  | false => exact ite_ff ⟨.bl false, H3, I3, rfl, _, x2.trans h3.1, h3.2.1, (show RF _ _ _ _ (.bl false) _ from mk_bl (O := O) (c := rc X A L) (H := H3)), q⟩
  | true => exact ite_tt (thn (ht pos pins s3 σ H3 A L Hz O ρ Qd Ed d2 y u I3 ry S3 (RB.ex (RM.rb r2 S2.oA) h3.1 S2.oA) q hE) fun z s4 ⟨w4, H4, I4, r4, d4, x4, b4, f4, q4⟩ => ⟨w4, H4, I4, r4, d4, (x2.trans h3.1).trans x4, b4, RF.back f4 (x2.trans h3.1) S.oA, q4⟩)
theorem dct_last (ho : DO2 X (compareOp op) g) (hb : DE X W .al b mb) : DChT X W [op] [eval b X.env] (cLast g mb) := by
  intro pos pins s σ H A L Hz O ρ Qb Ed d x v I rx S rb hm hE
  refine PyProof.Rows.test_last (thn (hb.get I S hm hE) fun u s2 ⟨y, H2, d2, I2, ry, S2, x2, r2, d3, e, b1, ed, q⟩ => ?_)
  subst ed
  refine thn (ho.op pins s2 σ H2 x y v u (fun w H3 => FQ (rc X A L) O H2 (.bl b1) w H3) I2 rx ry ⟨A, L, Hz, O, ρ, σ, d, d2, .bl b1, S2, RB.ex rb x2 S2.oA, RM.rb r2 S2.oA, e, fun w H3 h3 => h3⟩) fun w' s3 ⟨w, H3, I3, rw, h3⟩ => ?_
  obtain rfl := rv_bl h3.2.2.rv
  cases rw
  exact wpAny_truthy_bool ⟨H3, I3, x2.trans h3.1, h3.2.1, q⟩
theorem dct_link (ho : DO2 X (compareOp op) g) (hb : DE X W .al b mb) (ht : DChT X W (op' :: ops) (r' :: rs) t) : DChT X W (op :: op' :: ops) (eval b X.env :: r' :: rs) (cLink g mb t) := by
  intro pos pins s σ H A L Hz O ρ Qb Ed d x v I rx S rb hm hE
  refine PyProof.Rows.test_link (thn (hb.get I S hm hE) fun u s2 ⟨y, H2, d2, I2, ry, S2, x2, r2, d3, e, b1, ed, q⟩ => ?_)
  subst ed
  refine thn (ho.op pins s2 σ H2 x y v u (fun w H3 => FQ (rc X A L) O H2 (.bl b1) w H3) I2 rx ry ⟨A, L, Hz, O, ρ, σ, d, d2, .bl b1, S2, RB.ex rb x2 S2.oA, RM.rb r2 S2.oA, e, fun w H3 h3 => h3⟩) fun w' s3 ⟨w, H3, I3, rw, h3⟩ => ?_
  obtain rfl := rv_bl h3.2.2.rv
  cases rw
  refine wpAny_truthy_bool ?_
  have S3 := S2.ex h3.1 h3.2.1
  cases b1 with
  | false =>
    obtain ⟨b2, e2, q⟩ := q
    cases e2
    exact ite_ff ⟨H3, I3, x2.trans h3.1, h3.2.1, q⟩
  | true => exact ite_tt (thn (ht pos pins s3 σ H3 A L Hz O ρ Qb Ed d2 y u I3 ry S3 (RB.ex (RM.rb r2 S2.oA) h3.1 S2.oA) q hE) fun z s4 ⟨H4, I4, x4, b4, q4⟩ => ⟨H4, I4, (x2.trans h3.1).trans x4, b4, q4⟩)
theorem de_chn {op2 : CmpOp} {ops : List CmpOp} {b2 : Expr} {bs : List Expr} (ha : DE X W .al a ma) (ht : DCh X W (op :: op2 :: ops) (eval b X.env :: eval b2 X.env :: evalEach bs X.env) t) (hm : lastMarks (op :: op2 :: ops) (b :: b2 :: bs) = false) :
    DE X W m (.Compare a (op :: op2 :: ops) (b :: b2 :: bs) pos) (mChn ma t) :=
  .mk fun pins s σ H A L Hz O ρ Qd Ed I S hq hE => PyProof.Rows.Compare_chain (thn (ha.get I S hq hE) fun u s1 ⟨x, H1, d, I1, rx, S1, x1, r1, q⟩ =>
    thn (ht pos pins s1 σ H1 A L Hz O ρ Qd Ed d x u I1 rx S1 (RM.rb r1 S1.oA) q hE) fun z s2 ⟨w, H2, I2, rw, d2, x2, b2, f2, q2⟩ => ⟨w, H2, d2, I2, rw, x1.trans x2, b2, RF.rm S.oA (RF.back f2 x1 S.oA), q2⟩) hm
theorem dt_chn {op2 : CmpOp} {ops : List CmpOp} {b2 : Expr} {bs : List Expr} (ha : DE X W .al a ma) (ht : DChT X W (op :: op2 :: ops) (eval b X.env :: eval b2 X.env :: evalEach bs X.env) t) (hm : lastMarks (op :: op2 :: ops) (b :: b2 :: bs) = false) :
    DT X W (.Compare a (op :: op2 :: ops) (b :: b2 :: bs) pos) (mOfBl (mChn ma t)) :=
  .mk fun pins s σ H A L Hz O ρ Qb Ed I S hq hE => PyProof.Rows.isTrue_chain (thn (ha.get I S hq hE) fun u s1 ⟨x, H1, d, I1, rx, S1, x1, r1, q⟩ =>
    thn (ht pos pins s1 σ H1 A L Hz O ρ Qb Ed d x u I1 rx S1 (RM.rb r1 S1.oA) q hE) fun z s2 ⟨H2, I2, x2, b2, q2⟩ => ⟨H2, I2, x1.trans x2, b2, q2⟩) hm
end
end
end Ev

/-! Ev23: comprehensions of two clauses. -/
namespace Ev
open PySem PySem.Spec L2
open PyProof.Rows hiding St
variable [Tbl]
section
variable {X : Cx} {W : WX} {m : Md} {A : Addr} {L : LT} {Hz : Hp} {O O0 : Od} {gh : Gh} {ρ : EnvD} {σ : St} {H H' H1 : Hp} {Ed : Exc → Prop} {K : SEnds} {Dn : Ends} {pos spos : Pos}
/-- the state behind one more item of a list being made -/
theorem SE.app {ρ' : EnvD} {σ' : St} {H6 : Hp} {Dl : Addr} {us : List V} {w : V} (nD : H1 Dl = none) (hI : Bag (rc X A L) H1) (oA : OA (rc X A L) O) (nO : ¬ O Dl) (S6 : SE (rc X A L) Hz (fun b => O b ∨ b = Dl) ρ' σ' H6) (hz : Ex (rc X A L) Hz H1) (x6 : Ex (rc X A L) H1 H6) (hD6 : H6 Dl = some (.lst us))
    (hno : ∀ (i : Nat) (s : Slot), ρ'[i]? = some (some s) → isOwn s = true → σ'[i]? ≠ some (some (.ref Dl))) : Ex (rc X A L) H1 (upd H6 Dl (.lst (us ++ [w]))) ∧ SE (rc X A L) Hz (fun b => O b ∨ b = Dl) ρ' σ' (upd H6 Dl (.lst (us ++ [w]))) := by
  have nA : ¬ av (rc X A L) Dl := fun z => nO (oA _ z)
  have up : Kp (fun b => O b ∨ b = Dl) H6 (upd H6 Dl (.lst (us ++ [w]))) := Kp.wr hD6 trivial (.inr rfl)
  have exu : Ex (rc X A L) H1 (upd H6 Dl (.lst (us ++ [w]))) := fun b o e m => by
    have nb : b ≠ Dl := fun z => by rw [z, nD] at e; cases e
    rw [upd_ne nb]
    exact x6 b o e m
  refine ⟨exu, ?_, hz.trans exu, S6.oA, fun b hb => ?_, fun j s h => ?_, S6.len⟩
  · obtain ⟨ne, c0, c1, c2, ns, h0, h1, h2, h3, h4, h5, hA, hLL, hT⟩ := S6.bag
    have nAA : A ≠ Dl := fun z => nA (.inl z.symm)
    have nL : (rc X A L).L ≠ Dl := fun z => (bag_tr hI).2 (by rw [z]; exact nD)
    exact ⟨ne, c0, c1, c2, ns, h0, h1, h2, h3, h4, h5, by rw [upd_ne nAA]; exact hA, by rw [upd_ne nL]; exact hLL, tabs_wr hT hD6 (fun _ z => by cases z) (fun _ z => by cases z) trivial⟩
  · by_cases e : b = Dl
    · subst e; rw [upd_same]; intro z; cases z
    · rw [upd_ne e]; exact S6.oT b hb
  · obtain ⟨v, h1, h2⟩ := S6.slots j s h
    refine ⟨v, h1, ?_⟩
    have nd : ∀ a, isOwn s = true → v = .ref a → a ≠ Dl := by
      rintro a ho rfl rfl
      exact hno j s h ho h1
    cases s with
    | val d => exact RV.kp (show RV _ _ _ d v from h2) up
    | own ds =>
      obtain ⟨a, ws, e1, n, e2, r⟩ := h2
      exact ⟨a, ws, e1, n, by rw [upd_ne (nd a rfl e1)]; exact e2, r.kp up⟩
    | ownd ks ds =>
      obtain ⟨a, ws, e1, n, e2, r⟩ := h2
      refine ⟨a, ws, e1, n, ?_, r.kp up⟩
      rcases e2 with ⟨kvs, e2, e3⟩ | ⟨kvs, e2, e3⟩
      · exact .inl ⟨kvs, by rw [upd_ne (nd a rfl e1)]; exact e2, e3⟩
      · exact .inr ⟨kvs, by rw [upd_ne (nd a rfl e1)]; exact e2, e3⟩
theorem RB.app {H6 : Hp} {Dl : Addr} {us : List V} {w : V} {g : D × V} (nD : H1 Dl = none) (r1 : RB (rc X A L) O H1 g.1 g.2) (r : RB (rc X A L) (fun b => O b ∨ b = Dl) H6 g.1 g.2) (hD6 : H6 Dl = some (.lst us)) : RB (rc X A L) (fun b => O b ∨ b = Dl) (upd H6 Dl (.lst (us ++ [w]))) g.1 g.2 := by
  have up : Kp (fun b => O b ∨ b = Dl) H6 (upd H6 Dl (.lst (us ++ [w]))) := Kp.wr hD6 trivial (.inr rfl)
  cases e : g.1 with
  | lst es =>
    rw [e] at r r1
    obtain ⟨a, ws, e1, n, h1, r⟩ := r
    obtain ⟨a', ws', e1', _, h1', _⟩ := r1
    rw [e1] at e1'; cases e1'
    exact ⟨a, ws, e1, n, by rw [upd_ne (ne_of_none h1' nD)]; exact h1, r.kp up⟩
  | dct ks es =>
    rw [e] at r r1
    obtain ⟨a, ws, e1, n, h1, r⟩ := r
    obtain ⟨a', ws', e1', _, h1', _⟩ := r1
    rw [e1] at e1'; cases e1'
    have na : a ≠ Dl := fun z => dctAt_some h1' (by rw [z]; exact nD)
    refine ⟨a, ws, e1, n, ?_, r.kp up⟩
    rcases h1 with ⟨kvs, h1 | ⟨o, h1⟩, z, h2⟩ | ⟨kvs, h1 | ⟨o, h1⟩, z, h2⟩
    · exact .inl ⟨kvs, .inl (by rw [upd_ne na]; exact h1), fun q => by rw [upd_ne na]; exact z q, h2⟩
    · exact .inl ⟨kvs, .inr ⟨o, by rw [upd_ne na]; exact h1⟩, fun q => by rw [upd_ne na]; exact z q, h2⟩
    · exact .inr ⟨kvs, .inl (by rw [upd_ne na]; exact h1), fun q => by rw [upd_ne na]; exact z q, h2⟩
    · exact .inr ⟨kvs, .inr ⟨o, by rw [upd_ne na]; exact h1⟩, fun q => by rw [upd_ne na]; exact z q, h2⟩
  | _ =>
    rw [e] at r
    exact RV.kp (show RV (rc X A L) (fun b => O b ∨ b = Dl) H6 _ g.2 from r) up
theorem wipe_idem (vs : List Nat) (σ : St) : L2.wipe (L2.wipe σ vs) vs = L2.wipe σ vs := by
  have idem : ∀ (ws : List Nat) (τ : St), (∀ v ∈ ws, v ∈ vs) → L2.wipe (L2.wipe τ ws) vs = L2.wipe τ vs := by
    intro ws
    induction ws with
    | nil => intro τ _; rfl
    | cons w ws ih =>
      intro τ h
      show L2.wipe ((L2.wipe τ ws).set w none) vs = _
      rw [wipe_set (h w List.mem_cons_self)]
      exact ih τ fun v hv => h v (List.mem_cons_of_mem _ hv)
  exact idem vs σ fun v hv => hv
def lc2E (vs vs1 : List Nat) (mg : MG) (mt : MT) (mi1 : MI) (mg1 : MG) (mt1 : MT) (me : ME) : List D → EnvD → List D → (List D → Prop) → Prop
  | [], ρ, acc, Q => Q acc
  | d :: ds, ρ, acc, Q => mg d (wipeE ρ vs) fun ρ1 => mt ρ1 (fun b => if b = true then mi1 ρ1 (fun es => es.length ≤ 4096 ∧ lcE vs1 mg1 mt1 me es ρ1 acc fun acc' => lc2E vs vs1 mg mt mi1 mg1 mt1 me ds ρ acc' Q) (fun _ => False) else lc2E vs vs1 mg mt mi1 mg1 mt1 me ds ρ acc Q) (fun _ => False)
def mLc2 (vs vs1 : List Nat) (mi : MI) (mg : MG) (mt : MT) (mi1 : MI) (mg1 : MG) (mt1 : MT) (me : ME) : ME := fun ρ Q E => mi ρ (fun ds => ds.length ≤ 4095 ∧ lc2E vs vs1 mg mt mi1 mg1 mt1 me ds ρ [] fun ys => Q (.lst ys)) E
theorem lc2_go {vs vs1 : List Nat} {mi mi1 : MI} {mg mg1 : MG} {mt mt1 : MT} {me : ME} {Qd : D → Prop} {Q : VK} (S : SE (rc X A L) Hz O ρ σ H) (hm : mLc2 vs vs1 mi mg mt mi1 mg1 mt1 me ρ Qd Ed) (hE : ∀ x, Ed x → Bad (rc X A L) O Hz W x)
    (k : ∀ w H1 d, Ex (rc X A L) H H1 → Bag (rc X A L) H1 → RF (rc X A L) O H H1 d w → Qd d → Q w H1) : tLc2 (tI X W .al mi) (tG1 X vs mg) (tT X WF mt) (tI X WF .vl mi1) (tG1 X vs1 mg1) (tT X WF mt1) (tE X WF .vl me) vs vs1 σ H Q := by
  refine ⟨A, L, Hz, O, ρ, _, Ed, S, hm, fun ds gs J H1 ⟨hds, q⟩ x1 b1 hg hlim hJ => ?_, hE⟩
  intro Dl nD
  have S1 := S.ex x1 b1
  have nO : ¬ O Dl := oNew S1 nD
  have nA : ¬ av (rc X A L) Dl := fun z => nO (S.oA _ z)
  have oo : ∀ b, (O b ∨ b = Dl) → O b ∨ H1 b = none := fun b z => z.imp id fun e => by rw [e]; exact nD
  let Ok : Hp → Prop := fun H2 => SE (rc X A L) Hz (fun b => O b ∨ b = Dl) ρ σ H2 ∧ Ex (rc X A L) H1 H2 ∧ ∀ g ∈ gs, RB (rc X A L) (fun b => O b ∨ b = Dl) H2 g.1 g.2
  have slotN : ∀ {s : Slot} {v : V} {o : HO}, SlotOk (rc X A L) O H1 s v → SlotOk (rc X A L) (fun b => O b ∨ b = Dl) (upd H1 Dl o) s v := fun h => h.go (Kp.new nD) oo (Kp.new nD)
  have hno0 : ∀ (i : Nat) (s : Slot), ρ[i]? = some (some s) → isOwn s = true → σ[i]? ≠ some (some (.ref Dl)) := fun i s e o z => by
    obtain ⟨v, g1, g2⟩ := S1.slots i s e
    rw [z] at g1; cases g1
    cases s with
    | val d => cases o
    | own ds => obtain ⟨a', vs', e1, _, e2, _⟩ := g2; cases e1; rw [nD] at e2; cases e2
    | ownd ks ds => obtain ⟨a', vs', e1, _, e2, _⟩ := g2; cases e1; exact dctAt_some e2.at nD
  have hnoN : ∀ {ρ' : EnvD} {σ' : St}, Nw ρ σ ρ' σ' → ∀ (i : Nat) (s : Slot), ρ'[i]? = some (some s) → isOwn s = true → σ'[i]? ≠ some (some (.ref Dl)) := fun hn i s e o z => by
    obtain ⟨e1, e2⟩ := hn i s e o
    exact hno0 i s e1 o (e2 ▸ z)
  have ok0 : Ok (upd H1 Dl (.lst [])) := by
    refine ⟨⟨b1.new nD, S1.ext.trans (Kp.new nD), fun b z => .inl (S1.oA b z), fun b hb => ?_, fun i s h => ?_, S1.len⟩, Kp.new nD, fun g hg' => ?_⟩
    · rcases hb with hb | rfl
      · intro z
        by_cases e : b = Dl
        · subst e; rw [upd_same] at z; cases z
        · rw [upd_ne e] at z; exact S1.oT b hb z
      · rw [upd_same]; intro z; cases z
    · obtain ⟨v, h1, h2⟩ := S1.slots i s h
      exact ⟨v, h1, slotN h2⟩
    · have r : RB (rc X A L) O H1 g.1 g.2 := hg g hg'
      cases e : g.1 with
      | lst es =>
        rw [e] at r
        obtain ⟨a, ws, e1, n, h1, r⟩ := r
        exact ⟨a, ws, e1, n, by rw [upd_ne (ne_of_none h1 nD)]; exact h1, RVs.go (Kp.new nD) oo _ _ r⟩
      | dct ks es =>
        rw [e] at r
        obtain ⟨a, ws, e1, n, h1, r⟩ := r
        exact ⟨a, ws, e1, n, dctAt_kp (Kp.new (O := fun _ => False) nD) (fun z => z) h1, RVs.go (Kp.new nD) oo _ _ r⟩
      | _ =>
        rw [e] at r
        exact RV.go (Kp.new nD) oo _ _ (show RV (rc X A L) O H1 _ g.2 from r)
  refine ⟨fun i n H2 => n = ds.length - i ∧ i ≤ ds.length ∧ Ok H2 ∧ ∃ acc us, acc.length ≤ i * 4096 ∧ H2 Dl = some (.lst us) ∧ RVs (rc X A L) (fun b => O b ∨ b = Dl) H2 acc us ∧ lc2E vs vs1 mg mt mi1 mg1 mt1 me (ds.drop i) ρ acc fun ys => Qd (.lst ys),
    ⟨_, rfl, Nat.zero_le _, ok0, [], [], Nat.zero_le _, upd_same, .nil, q⟩, ?_⟩
  rintro i n H2 ⟨rfl, hi, ⟨S2, x2, g2⟩, acc, us, ha, hD, racc, q2⟩
  obtain ⟨j1, j2⟩ := hJ _ H2 S2.oA g2
  by_cases hlt : i < ds.length
  · obtain ⟨jg, jy⟩ := j1 i _ (List.getElem?_eq_getElem hlt)
    refine .inr ⟨jg, fun H' => i + 1 ≤ ds.length ∧ Ok H' ∧ ∃ acc us, acc.length ≤ (i + 1) * 4096 ∧ H' Dl = some (.lst us) ∧ RVs (rc X A L) (fun b => O b ∨ b = Dl) H' acc us ∧ lc2E vs vs1 mg mt mi1 mg1 mt1 me (ds.drop (i + 1)) ρ acc fun ys => Qd (.lst ys), fun H' hN => ⟨_, by omega, rfl, hN⟩, fun x H3 hy => ?_⟩
    obtain ⟨n3, r3⟩ := jy x H3 hy
    have b3 := S2.bag.newH n3
    have S3 := S2.ex n3.ex b3
    have x3 := x2.trans (n3.ex (c := rc X A L))
    have g3 : ∀ g ∈ gs, RB (rc X A L) (fun b => O b ∨ b = Dl) H3 g.1 g.2 := fun g h => RB.ex (g2 g h) n3.ex S2.oA
    have hD3 := n3.1 _ _ hD
    have racc3 := racc.kp (n3.ex.kp S2.oA)
    rw [List.drop_eq_getElem_cons hlt] at q2
    refine ⟨A, L, Hz, _, wipeE ρ vs, _, _, S3.wipe vs, r3, q2, fun ρ4 σ4 q4 S4 hw hn4 => ⟨hw.trans (wipe_idem vs σ), A, L, Hz, _, ρ4, _, _, S4, q4, fun b H5 q5 x5 b5 => ?_, fun _ z => z.elim⟩⟩
    have nw4 : Nw ρ σ ρ4 σ4 := Nw.wipe.trans hn4
    have S5 := S3.ex x5 b5
    have x5' := x3.trans x5
    have g5 : ∀ g ∈ gs, RB (rc X A L) (fun b => O b ∨ b = Dl) H5 g.1 g.2 := fun g h => RB.ex (g3 g h) x5 S3.oA
    have hD5 := x5 _ _ hD3 (.inl nA)
    have racc5 := racc3.kp (x5.kp S3.oA)
    have T5 := S4.ex x5 b5
    cases b with
    | false => exact ⟨hlt, ⟨S5, x5', g5⟩, acc, us, by omega, hD5, racc5, q5⟩
    | true =>
      refine ⟨A, L, Hz, _, ρ4, _, _, T5, q5, fun es gs1 J1 H6 ⟨hes, q6⟩ x6 b6 hg1 hlim1 hJ1 => ?_, fun _ z => z.elim⟩
      have oA' := T5.oA
      refine ⟨fun j n H7 => n = es.length - j ∧ j ≤ es.length ∧ Ok H7 ∧ SE (rc X A L) Hz (fun b => O b ∨ b = Dl) ρ4 σ4 H7 ∧ (∀ g ∈ gs1, RV (rc X A L) (fun b => O b ∨ b = Dl) H7 g.1 g.2) ∧ ∃ acc us, acc.length ≤ i * 4096 + j ∧ H7 Dl = some (.lst us) ∧ RVs (rc X A L) (fun b => O b ∨ b = Dl) H7 acc us ∧
          lcE vs1 mg1 mt1 me (es.drop j) ρ4 acc fun acc' => lc2E vs vs1 mg mt mi1 mg1 mt1 me (ds.drop (i + 1)) ρ acc' fun ys => Qd (.lst ys),
        ⟨_, rfl, Nat.zero_le _, ⟨S5.ex x6 b6, x5'.trans x6, fun g h => RB.ex (g5 g h) x6 S5.oA⟩, T5.ex x6 b6, hg1, acc, us, ha, x6 _ _ hD5 (.inl nA), racc5.kp (x6.kp S5.oA), q6⟩, ?_⟩
      rintro j n H7 ⟨rfl, hj, ⟨S7, x7, g7⟩, T7, gg7, acc, us, ha, hD7, racc7, q7⟩
      obtain ⟨k1, k2⟩ := hJ1 _ H7 T7.oA fun g hg => RV.rb T7.oA (gg7 g hg)
      by_cases hlj : j < es.length
      · obtain ⟨kg, ky⟩ := k1 j _ (List.getElem?_eq_getElem hlj)
        refine .inr ⟨kg, fun H' => j + 1 ≤ es.length ∧ Ok H' ∧ SE (rc X A L) Hz (fun b => O b ∨ b = Dl) ρ4 σ4 H' ∧ (∀ g ∈ gs1, RV (rc X A L) (fun b => O b ∨ b = Dl) H' g.1 g.2) ∧ ∃ acc us, acc.length ≤ i * 4096 + (j + 1) ∧ H' Dl = some (.lst us) ∧ RVs (rc X A L) (fun b => O b ∨ b = Dl) H' acc us ∧
          lcE vs1 mg1 mt1 me (es.drop (j + 1)) ρ4 acc fun acc' => lc2E vs vs1 mg mt mi1 mg1 mt1 me (ds.drop (i + 1)) ρ acc' fun ys => Qd (.lst ys), fun H' hN => ⟨_, by omega, rfl, hN⟩, fun x1' H8 hy1 => ?_⟩
        obtain ⟨n8, r8⟩ := ky x1' H8 hy1
        have b8 := S7.bag.newH n8
        have e8 : Ex (rc X A L) H7 H8 := n8.ex
        have S8 := S7.ex e8 b8
        have T8 := T7.ex e8 b8
        have x8 := x7.trans e8
        have g8 : ∀ g ∈ gs, RB (rc X A L) (fun b => O b ∨ b = Dl) H8 g.1 g.2 := fun g h => RB.ex (g7 g h) e8 S7.oA
        have gg8 : ∀ g ∈ gs1, RV (rc X A L) (fun b => O b ∨ b = Dl) H8 g.1 g.2 := fun g h => RV.kp (gg7 g h) (e8.kp S7.oA)
        have hD8 := n8.1 _ _ hD7
        have racc8 := racc7.kp (e8.kp S7.oA)
        rw [List.drop_eq_getElem_cons hlj] at q7
        refine ⟨A, L, Hz, _, wipeE ρ4 vs1, _, _, T8.wipe vs1, r8, q7, fun ρ9 σ9 q9 T9 hw9 hn9 => ⟨hw9.trans (wipe_idem vs1 σ4), A, L, Hz, _, ρ9, _, _, T9, q9, fun b H10 q10 x10 b10 => ?_, fun _ z => z.elim⟩⟩
        have S10 := S8.ex x10 b10
        have T10 := T8.ex x10 b10
        have x10' := x8.trans x10
        have g10 : ∀ g ∈ gs, RB (rc X A L) (fun b => O b ∨ b = Dl) H10 g.1 g.2 := fun g h => RB.ex (g8 g h) x10 S8.oA
        have gg10 : ∀ g ∈ gs1, RV (rc X A L) (fun b => O b ∨ b = Dl) H10 g.1 g.2 := fun g h => RV.kp (gg8 g h) (x10.kp S8.oA)
        have hD10 := x10 _ _ hD8 (.inl nA)
        have racc10 := racc8.kp (x10.kp S8.oA)
        cases b with
        | false => exact ⟨hlj, ⟨S10, x10', g10⟩, T10, gg10, acc, us, by omega, hD10, racc10, q10⟩
        | true =>
          refine ⟨A, L, Hz, _, ρ9, _, _, T9.ex x10 b10, q10, fun y w H11 q11 x11 b11 r11 => ?_, fun _ z => z.elim⟩
          have S11 := S10.ex x11 b11
          have T11 := T10.ex x11 b11
          have x11' := x10'.trans x11
          have hD11 := x11 _ _ hD10 (.inl nA)
          have racc11 := racc10.kp (x11.kp S10.oA)
          have up : Kp (fun b => O b ∨ b = Dl) H11 (upd H11 Dl (.lst (us ++ [w]))) := Kp.wr hD11 trivial (.inr rfl)
          obtain ⟨exu, SU⟩ := SE.app (w := w) nD b1 S.oA nO S11 S1.ext x11' hD11 hno0
          obtain ⟨_, TU⟩ := SE.app (w := w) nD b1 S.oA nO T11 S1.ext x11' hD11 (hnoN nw4)
          have hl := racc11.length
          have hsz : acc.length < sizeLine := by
            have h1 : i * 4096 ≤ 4094 * 4096 := Nat.mul_le_mul_right _ (by omega)
            have h2 : sizeLine = 4096 * 4096 := by decide
            omega
          refine ⟨us, hD11, by omega, hlj, ⟨SU, exu, fun g h => RB.app nD (hg g h) (RB.ex (g10 g h) x11 S10.oA) hD11⟩, TU, fun g h => RV.kp (RV.kp (gg10 g h) (x11.kp S10.oA)) up, acc ++ [y], us ++ [w], by simp; omega, upd_same, (racc11.append (.one r11)).kp up, q11⟩
      · have e : j = es.length := by omega
        subst e
        rw [List.drop_length] at q7
        exact .inl ⟨k2, hlt, ⟨S7, x7, g7⟩, acc, us, by omega, hD7, racc7, q7⟩
  · have e : i = ds.length := by omega
    subst e
    rw [List.drop_length] at q2
    refine .inl ⟨j2, k _ _ (.lst acc) (x1.trans x2) S2.bag ⟨Dl, us, rfl, nO, ex_none x1 nA nD, hD, racc⟩ q2⟩
theorem de_lc2 {elt tg iter tg1 iter1 : Expr} {ifs ifs1 : List Expr} {scope : Scope} {own : List (Str × Nat)} {vs1 : List Nat} {mi mi1 : MI} {mg mg1 : MG} {mt mt1 : MT} {me : ME} (hc : X.calm = true) (hN : X.N.Nodup) (hi : DI X W .al tg iter mi) (ok : BlkOk X.N X.env.scope scope own) (hv : ∀ i ∈ vs1, i ∈ own.map (·.2))
    (hg : ∀ (s : Shared) (H : Hp) (C : Addr) (cl : List (Str × Addr)) (fp : List Addr), DG1 (X.blk s H scope (compEnvC scope cl C X.env) fp) (own.map (·.2)) tg mg) (ht : ∀ (s : Shared) (H : Hp) (C : Addr) (cl : List (Str × Addr)) (fp : List Addr), DTs (X.blk s H scope (compEnvC scope cl C X.env) fp) WF ifs mt)
    (hi1 : ∀ (s : Shared) (H : Hp) (C : Addr) (cl : List (Str × Addr)) (fp : List Addr), DI (X.blk s H scope (compEnvC scope cl C X.env) fp) WF .vl tg1 iter1 mi1)
    (hg1 : ∀ (s : Shared) (H : Hp) (C : Addr) (cl : List (Str × Addr)) (fp : List Addr), DG1 (X.blk s H scope (compEnvC scope cl C X.env) fp) vs1 tg1 mg1) (ht1 : ∀ (s : Shared) (H : Hp) (C : Addr) (cl : List (Str × Addr)) (fp : List Addr), DTs (X.blk s H scope (compEnvC scope cl C X.env) fp) WF ifs1 mt1)
    (he : ∀ (s : Shared) (H : Hp) (C : Addr) (cl : List (Str × Addr)) (fp : List Addr), DE (X.blk s H scope (compEnvC scope cl C X.env) fp) WF .vl elt me) (hs : ∀ x, foldedSetIterable iter X.env x = pure x := by intro _; rfl) (hs1 : ∀ env x, foldedSetIterable iter1 env x = pure x := by intro _ _; rfl) :
    DE X W .fr (.ListComp elt [⟨tg, iter, ifs, 0⟩, ⟨tg1, iter1, ifs1, 0⟩] scope pos) (mLc2 (own.map (·.2)) vs1 mi mg mt mi1 mg1 mt1 me) :=
  .by (pe_lc2 (wi := tI X W .al mi) (wi1 := tI X WF .vl mi1) (g := tG1 X (own.map fun p : Str × Nat => p.2) mg) (g1 := tG1 X vs1 mg1) (tt := tT X WF mt) (tt1 := tT X WF mt1) (te := tE X WF .vl me) hc hN hi ok hv hg ht hi1 hg1 ht1 he hs hs1) fun σ H A L Hz O ρ Qd Ed S hm hE => lc2_go S hm hE fun w H1 d x b r q => ⟨d, x, b, r, q⟩
theorem ds_setLc2 {y : Str} {py : Pos} {elt tg iter tg1 iter1 : Expr} {ifs ifs1 : List Expr} {scope : Scope} {own : List (Str × Nat)} {vs1 : List Nat} {mi mi1 : MI} {mg mg1 : MG} {mt mt1 : MT} {me : ME} (i : Nat) (hc : X.calm = true) (hN : X.N.Nodup) (hy : X.N[i]? = some y) (hyl : X.env.scope.names.lookup y = some .local)
    (hsw : swapsWith (.ListComp elt [⟨tg, iter, ifs, 0⟩, ⟨tg1, iter1, ifs1, 0⟩] scope pos) (some (.Name y py)) spos.line X.env = pure true) (hi : DI X W .al tg iter mi) (ok : BlkOk X.N X.env.scope scope own) (hv : ∀ i ∈ vs1, i ∈ own.map (·.2))
    (hg : ∀ (s : Shared) (H : Hp) (C : Addr) (cl : List (Str × Addr)) (fp : List Addr), DG1 (X.blk s H scope (compEnvC scope cl C X.env) fp) (own.map (·.2)) tg mg) (ht : ∀ (s : Shared) (H : Hp) (C : Addr) (cl : List (Str × Addr)) (fp : List Addr), DTs (X.blk s H scope (compEnvC scope cl C X.env) fp) WF ifs mt)
    (hi1 : ∀ (s : Shared) (H : Hp) (C : Addr) (cl : List (Str × Addr)) (fp : List Addr), DI (X.blk s H scope (compEnvC scope cl C X.env) fp) WF .vl tg1 iter1 mi1)
    (hg1 : ∀ (s : Shared) (H : Hp) (C : Addr) (cl : List (Str × Addr)) (fp : List Addr), DG1 (X.blk s H scope (compEnvC scope cl C X.env) fp) vs1 tg1 mg1) (ht1 : ∀ (s : Shared) (H : Hp) (C : Addr) (cl : List (Str × Addr)) (fp : List Addr), DTs (X.blk s H scope (compEnvC scope cl C X.env) fp) WF ifs1 mt1)
    (he : ∀ (s : Shared) (H : Hp) (C : Addr) (cl : List (Str × Addr)) (fp : List Addr), DE (X.blk s H scope (compEnvC scope cl C X.env) fp) WF .vl elt me) (hs : ∀ x, foldedSetIterable iter X.env x = pure x := by intro _; rfl) (hs1 : ∀ env x, foldedSetIterable iter1 env x = pure x := by intro _ _; rfl) :
    DS X W (.Assign [.Name y py] (.ListComp elt [⟨tg, iter, ifs, 0⟩, ⟨tg1, iter1, ifs1, 0⟩] scope pos) spos) (mSet i (mLc2 (own.map (·.2)) vs1 mi mg mt mi1 mg1 mt1 me)) :=
  PS.imp (ps_setLc2 (wi := tI X W .al mi) (wi1 := tI X WF .vl mi1) (g := tG1 X (own.map fun p : Str × Nat => p.2) mg) (g1 := tG1 X vs1 mg1) (tt := tT X WF mt) (tt1 := tT X WF mt1) (te := tE X WF .vl me) hc hN hy hyl hsw hi ok hv hg ht hi1 hg1 ht1 he hs hs1) fun Dn σ H ⟨A, L, O0, gh, ρ, K, S, h, l⟩ =>
    show tLc2 (tI X W .al mi) (tG1 X (own.map fun p : Str × Nat => p.2) mg) (tT X WF mt) (tI X WF .vl mi1) (tG1 X vs1 mg1) (tT X WF mt1) (tE X WF .vl me) (own.map fun p : Str × Nat => p.2) vs1 σ H (fun w H1 => Dn.nx (σ.set i (some w)) H1) from lc2_go S.se h l.exO fun w H1 d x b r q => l.nx _ _ H1 q (S.setF x b r)
theorem ds_setLc2V {y : Str} {py : Pos} {elt tg iter tg1 iter1 : Expr} {ifs ifs1 : List Expr} {scope : Scope} {own : List (Str × Nat)} {vs1 : List Nat} {mi mi1 : MI} {mg mg1 : MG} {mt mt1 : MT} {me : ME} (i : Nat) (hc : X.calm = true) (hN : X.N.Nodup) (hy : X.N[i]? = some y) (hyl : X.env.scope.names.lookup y = some .local)
    (hsw : swapsWith (.ListComp elt [⟨tg, iter, ifs, 0⟩, ⟨tg1, iter1, ifs1, 0⟩] scope pos) (some (.Name y py)) spos.line X.env = pure true) (hi : DI X W .al tg iter mi) (ok : BlkOk X.N X.env.scope scope own) (hv : ∀ i ∈ vs1, i ∈ own.map (·.2))
    (hg : ∀ (s : Shared) (H : Hp) (C : Addr) (cl : List (Str × Addr)) (fp : List Addr), DG1 (X.blk s H scope (compEnvC scope cl C X.env) fp) (own.map (·.2)) tg mg) (ht : ∀ (s : Shared) (H : Hp) (C : Addr) (cl : List (Str × Addr)) (fp : List Addr), DTs (X.blk s H scope (compEnvC scope cl C X.env) fp) WF ifs mt)
    (hi1 : ∀ (s : Shared) (H : Hp) (C : Addr) (cl : List (Str × Addr)) (fp : List Addr), DI (X.blk s H scope (compEnvC scope cl C X.env) fp) WF .vl tg1 iter1 mi1)
    (hg1 : ∀ (s : Shared) (H : Hp) (C : Addr) (cl : List (Str × Addr)) (fp : List Addr), DG1 (X.blk s H scope (compEnvC scope cl C X.env) fp) vs1 tg1 mg1) (ht1 : ∀ (s : Shared) (H : Hp) (C : Addr) (cl : List (Str × Addr)) (fp : List Addr), DTs (X.blk s H scope (compEnvC scope cl C X.env) fp) WF ifs1 mt1)
    (he : ∀ (s : Shared) (H : Hp) (C : Addr) (cl : List (Str × Addr)) (fp : List Addr), DE (X.blk s H scope (compEnvC scope cl C X.env) fp) WF .vl elt me) (hs : ∀ x, foldedSetIterable iter X.env x = pure x := by intro _; rfl) (hs1 : ∀ env x, foldedSetIterable iter1 env x = pure x := by intro _ _; rfl) :
    DS X W (.Assign [.Name y py] (.ListComp elt [⟨tg, iter, ifs, 0⟩, ⟨tg1, iter1, ifs1, 0⟩] scope pos) spos) (mSetV i (mLc2 (own.map (·.2)) vs1 mi mg mt mi1 mg1 mt1 me)) :=
  PS.imp (ps_setLc2 (wi := tI X W .al mi) (wi1 := tI X WF .vl mi1) (g := tG1 X (own.map fun p : Str × Nat => p.2) mg) (g1 := tG1 X vs1 mg1) (tt := tT X WF mt) (tt1 := tT X WF mt1) (te := tE X WF .vl me) hc hN hy hyl hsw hi ok hv hg ht hi1 hg1 ht1 he hs hs1) fun Dn σ H ⟨A, L, O0, gh, ρ, K, S, h, l⟩ =>
    show tLc2 (tI X W .al mi) (tG1 X (own.map fun p : Str × Nat => p.2) mg) (tT X WF mt) (tI X WF .vl mi1) (tG1 X vs1 mg1) (tT X WF mt1) (tE X WF .vl me) (own.map fun p : Str × Nat => p.2) vs1 σ H (fun w H1 => Dn.nx (σ.set i (some w)) H1) from lc2_go S.se h l.exO fun w H1 d x b r q => l.nx _ _ H1 q (S.setV x b r.rv)
end
end Ev

/-! Ev24: ranges as values. -/
namespace Ev
open PySem PySem.Spec L2
open PyProof.Rows hiding St
variable [Tbl]
section
variable {X : Cx} {W : WX} {m : Md} {A : Addr} {L : LT} {Hz : Hp} {O O0 : Od} {gh : Gh} {ρ : EnvD} {σ : St} {H H' H1 : Hp} {Ed : Exc → Prop} {K : SEnds} {Dn : Ends} {pos spos : Pos}
abbrev MR := EnvD → (Int → Int → Prop) → (Exc → Prop) → Prop
def mRg1 (ma : ME) : MR := fun ρ Q E => ma ρ (fun d => ∃ n, d = .int n ∧ Q 0 n) E
def mRg2 (ma mb : ME) : MR := fun ρ Q E => ma ρ (fun d => ∃ i, d = .int i ∧ mb ρ (fun d2 => ∃ j, d2 = .int j ∧ Q i j) E) E
def tRgD (X : Cx) (W : WX) (mr : MR) : St → Hp → (Int → Int → Hp → Prop) → Prop := fun σ H Q => ∃ A L Hz O ρ Qd Ed, SE (rc X A L) Hz O ρ σ H ∧ mr ρ Qd Ed ∧
  (∀ a b H', Qd a b → Ex (rc X A L) H H' → Bag (rc X A L) H' → Q a b H') ∧ ∀ x, Ed x → Bad (rc X A L) O Hz W x
def DR (X : Cx) (W : WX) (e : Expr) (mr : MR) : Prop := PRg X e (tRgD X W mr)
theorem PRg.imp {e : Expr} {t t' : St → Hp → (Int → Int → Hp → Prop) → Prop} (h : PRg X e t) (i : ∀ σ H Q, t' σ H Q → t σ H Q) : PRg X e t' := fun pins s σ H Q I hq => h pins s σ H Q I (i σ H Q hq)
theorem dr_1 {a : Expr} {ma : ME} {p pos : Pos} (hg : Gl X "range") (hm : X.mg "range" = none) (ha : DE X W .al a ma) (na : starEach [a] X.env = (false, eval a X.env) :: starEach [] X.env) : DR X W (.Call (.Name "range" p) [a] [] pos) (mRg1 ma) :=
  PRg.imp (prg_1 hg hm ha na) fun σ H Q ⟨A, L, Hz, O, ρ, Qd, Ed, S, hm, k, hE⟩ => tE.go S hm hE fun d v H1 q S1 x1 r1 => by
    obtain ⟨n, rfl, q⟩ := q
    obtain rfl := rb_int (RM.rb r1 S1.oA)
    exact ⟨n, rfl, k _ _ H1 q x1 S1.bag⟩
theorem dr_2 {a b : Expr} {ma mb : ME} {p pos : Pos} (hg : Gl X "range") (hm : X.mg "range" = none) (ha : DE X W .al a ma) (hb : DE X W .al b mb) (na : starEach [a, b] X.env = (false, eval a X.env) :: starEach [b] X.env) (nb : starEach [b] X.env = (false, eval b X.env) :: starEach [] X.env) (hp : (backTo pos (starEach [b] X.env)).any (·.1) = false) :
    DR X W (.Call (.Name "range" p) [a, b] [] pos) (mRg2 ma mb) :=
  PRg.imp (prg_2 hg hm ha hb na nb hp) fun σ H Q ⟨A, L, Hz, O, ρ, Qd, Ed, S, hm, k, hE⟩ => tE.go S hm hE fun d v H1 q S1 x1 r1 => by
    obtain ⟨i, rfl, q⟩ := q
    obtain rfl := rb_int (RM.rb r1 S1.oA)
    refine tE.go S1 q hE fun d2 v2 H2 q2 S2 x2 r2 => ?_
    obtain ⟨j, rfl, q2⟩ := q2
    obtain rfl := rb_int (RM.rb r2 S2.oA)
    exact ⟨i, j, rfl, rfl, k _ _ H2 q2 (x1.trans x2) S2.bag⟩
theorem rvs_rg {c : Rc} {a b : Int} : RVs c O H (rngD a b) (rgV a b) := by
  unfold rngD rgV
  induction List.range (b - a).toNat with
  | nil => exact .nil
  | cons k ks ih => exact .cons mk_int ih
def mLstRg (mr : MR) : ME := fun ρ Q E => mr ρ (fun a b => (-(2 ^ 62) ≤ a ∧ a < 2 ^ 62 ∧ -(2 ^ 62) ≤ b ∧ b < 2 ^ 62 ∧ b - a ≤ 16777216) ∧ Q (.lst (rngD a b))) E
def mTupRg (mr : MR) : ME := fun ρ Q E => mr ρ (fun a b => (-(2 ^ 62) ≤ a ∧ a < 2 ^ 62 ∧ -(2 ^ 62) ≤ b ∧ b < 2 ^ 62 ∧ b - a ≤ 16777216) ∧ Q (.tup (rngD a b))) E
theorem rgOk_of {a b : Int} (h : -(2 ^ 62) ≤ a ∧ a < 2 ^ 62 ∧ -(2 ^ 62) ≤ b ∧ b < 2 ^ 62 ∧ b - a ≤ 16777216) : RgOk a b := ⟨h.1, h.2.1, h.2.2.1, h.2.2.2.1, by omega⟩
theorem de_lstRg {e : Expr} {mr : MR} {p pos : Pos} (hc : X.calm = true) (hg : Gl X "list") (hm : X.mg "list" = none) (he : DR X W e mr) (na : starEach [e] X.env = (false, eval e X.env) :: starEach [] X.env) : DE X W m (.Call (.Name "list" p) [e] [] pos) (mLstRg mr) :=
  .by (pe_listRg hc hg hm he na) fun σ H A L Hz O ρ Qd Ed S hm hE => ⟨A, L, Hz, O, ρ, _, Ed, S, hm, fun a b H1 ⟨h, q⟩ x1 b1 => ⟨rgOk_of h, fun p n => by
    have f := FQ.lst (S.ex x1 b1) n (rvs_rg (a := a) (b := b))
    exact ⟨_, x1.trans f.1, f.2.1, RF.rm S.oA (RF.back f.2.2 x1 S.oA), q⟩⟩, hE⟩
theorem de_tupRg {e : Expr} {mr : MR} {p pos : Pos} (hc : X.calm = true) (hg : Gl X "tuple") (hm : X.mg "tuple" = none) (he : DR X W e mr) (na : starEach [e] X.env = (false, eval e X.env) :: starEach [] X.env) : DE X W m (.Call (.Name "tuple" p) [e] [] pos) (mTupRg mr) :=
  .by (pe_tupRg hc hg hm he na) fun σ H A L Hz O ρ Qd Ed S hm hE => ⟨A, L, Hz, O, ρ, _, Ed, S, hm, fun a b H1 ⟨h, q⟩ x1 b1 => ⟨rgOk_of h, fun p n => by
    have f := FQ.tup (S.ex x1 b1) n (rvs_rg (a := a) (b := b))
    exact ⟨_, x1.trans f.1, f.2.1, RF.rm S.oA (RF.back f.2.2 x1 S.oA), q⟩⟩, hE⟩
end
end Ev

/-! Ev25: found.append(left.pop(e)). -/
namespace Ev
open PySem PySem.Spec L2
open PyProof.Rows hiding St
variable [Tbl]
section
variable {X : Cx} {W : WX} {m : Md} {A : Addr} {L : LT} {Hz : Hp} {O O0 : Od} {gh : Gh} {ρ : EnvD} {σ : St} {H H' H1 : Hp} {Ed : Exc → Prop} {K : SEnds} {Dn : Ends} {pos spos : Pos}
def mAppPop (i j : Nat) (me : ME) : MS := fun ρ K => Opt (ownL i ρ) fun ds => Opt (ownL j ρ) fun es => me ρ (fun d => ∃ n : Nat, d = .int n ∧ Opt es[n]? fun y => ds.length < lim ∧ es.length ≤ lim ∧ K.nx (setE i (.own (ds ++ [y])) (setE j (.own (es.eraseIdx n)) ρ))) K.ex
theorem rvs_erase {c : Rc} : ∀ {ds : List D} {vs : List V} {n : Nat}, RVs c O H ds vs → RVs c O H (ds.eraseIdx n) (vs.eraseIdx n)
  | [], vs, n, r => by
    unfold RVs at r
    subst r
    simp only [List.eraseIdx_nil]
    exact .nil
  | d :: ds, vs, 0, r => by
    unfold RVs at r
    obtain ⟨v, vr, rfl, h, hr⟩ := r
    exact hr
  | d :: ds, vs, n + 1, r => by
    unfold RVs at r
    obtain ⟨v, vr, rfl, h, hr⟩ := r
    simp only [List.eraseIdx_cons_succ]
    exact .cons h (rvs_erase hr)
theorem ds_apppop {e : Expr} {me : ME} (i j : Nat) (hij : i ≠ j) (hp : PE X e (tBM X.K "list" rAppend (tVar i) (tCons (tBM X.K "list" rPopAt (tVar j) (tCons (tE X W .al me) tNil)) tNil))) (hs : swapsWith e none pos.line X.env = pure false) : DS X W (.Expr e pos) (mAppPop i j me) :=
  PS.imp (ps_expr hp hs) fun Dn σ H ⟨A, L, O0, gh, ρ, K, S, ⟨ds, ho, es, hj, h⟩, l⟩ => by
    obtain ⟨a, vs, h1, h2, _, nA⟩ := S.list ho
    obtain ⟨b, ws, h3, h4, _, nB⟩ := S.list hj
    have hab : a ≠ b := fun z => hij (S.inj i j _ _ a (ownL_get ho) rfl (ownL_get hj) rfl h1 (by rw [z]; exact h3))
    refine ⟨.ref a, h1, tyL (c := rc X A L) rfl h2, .ref b, h3, tyL (c := rc X A L) rfl h4, A, L, _, _, ρ, _, K.ex, S.se, h, fun d v H1 q x bg r => ?_, l.exO⟩
    obtain ⟨n, rfl, y, hy, hl, hl2, q⟩ := q
    have S1 := S.ex x bg
    obtain ⟨a', vs', h1', h2', r1, _⟩ := S1.list ho
    rw [h1] at h1'; cases h1'
    obtain ⟨b', ws', h3', h4', r2, _⟩ := S1.list hj
    rw [h3] at h3'; cases h3'
    obtain rfl := rb_int (RM.rb r S1.se.oA)
    obtain ⟨u, hu, ry⟩ := r2.get hy
    have hlt : n < ws'.length := (List.getElem?_eq_some_iff.mp hu).1
    have hn : ws'.length ≤ 16777216 := by rw [r2.length]; exact hl2
    have hlt' : (n : Int) < (ws'.length : Nat) := by omega
    refine ⟨b, ws', n, n, u, rfl, rfl, h4', by omega, by omega, by have := PySem.seqIndex_of (k := (n : Int)) (n := ws'.length) (by omega) hlt'; rw [this]; rfl, hu, ?_⟩
    have S2 := S1.chgL hj h3 h4' (rvs_erase (n := n) r2)
    have ow : OS O0 ρ σ b := .inr ⟨j, _, ownL_get hj, rfl, h3⟩
    have kk : Kp (OS O0 ρ σ) H1 (upd H1 b (.lst (ws'.eraseIdx n))) := Kp.wr h4' trivial ow
    have ho2 : ownL i (setE j (.own (es.eraseIdx n)) ρ) = some ds := by
      unfold ownL setE
      rw [List.getElem?_set_ne (Ne.symm hij), ownL_get ho]
    obtain ⟨a2, vs2, h12, h22, r12, _⟩ := S2.list ho2
    rw [h1] at h12; cases h12
    refine ⟨a, vs2, u, rfl, rfl, h22, by rw [r12.length, ← lim_eq]; exact hl, ?_⟩
    have ry2 : RV (rc X A L) (OS O0 (setE j (.own (es.eraseIdx n)) ρ) σ) (upd H1 b (.lst (ws'.eraseIdx n))) y u := by
      refine (ry.kp kk).anti fun b z => z.imp id ?_
      rintro ⟨q0, t, g1, g2, g3⟩
      rcases getSet g1 with ⟨e0, e, _⟩ | ⟨ne, g1⟩
      · exact ⟨j, _, ownL_get hj, rfl, by rw [← e0]; exact g3⟩
      · exact ⟨q0, t, g1, g2, g3⟩
    exact l.nx _ _ _ q (S2.chgL ho2 h1 h22 (r12.append (.one ry2)))
theorem xapppop {o o2 : Str} {a : Expr} {me : ME} {p apos cpos p2 apos2 cpos2 : Pos} (i j : Nat) (ha : DE X W .al a me) (hij : i ≠ j := by decide) (hN : X.N[i]? = some o := by rfl) (hv : Vis X.env.scope o := by first | exact Or.inl rfl | exact Or.inr (Or.inl rfl) | exact Or.inr (Or.inr rfl)) (hd : (o == ("__debug__" : Str)) = false := by decide) (hcd : (o == ("__classdict__" : Str)) = false := by decide)
    (hN2 : X.N[j]? = some o2 := by rfl) (hv2 : Vis X.env.scope o2 := by first | exact Or.inl rfl | exact Or.inr (Or.inl rfl) | exact Or.inr (Or.inr rfl)) (hd2 : (o2 == ("__debug__" : Str)) = false := by decide) (hcd2 : (o2 == ("__classdict__" : Str)) = false := by decide)
    (hbase : attributeBase (.Name o p) "append" X.env (eval (.Name o p) X.env) = eval (.Name o p) X.env := by rfl) (hbase2 : attributeBase (.Name o2 p2) "pop" X.env (eval (.Name o2 p2) X.env) = eval (.Name o2 p2) X.env := by rfl)
    (hfew2 : ((backTo cpos2 (starEach [a] X.env)).all (fun x => !x.1) && (backToKw cpos2 (keywordEach [] X.env)).all (fun x => x.1.isSome) && decide ([a].length + ([] : List Keyword).length + (if ([] : List Keyword).isEmpty then 0 else 1) < 30)) = true := by rfl)
    (hline2 : (apos2.endLine == cpos2.line) = true := by rfl) (hs2 : starEach [a] X.env = (false, eval a X.env) :: starEach [] X.env := by rfl) (hplain2 : (backTo cpos2 (starEach [] X.env)).any (·.1) = false := by rfl)
    (hfew : ((backTo cpos (starEach [.Call (.Attribute (.Name o2 p2) "pop" apos2) [a] [] cpos2] X.env)).all (fun x => !x.1) && (backToKw cpos (keywordEach [] X.env)).all (fun x => x.1.isSome) && decide ([Expr.Call (.Attribute (.Name o2 p2) "pop" apos2) [a] [] cpos2].length + ([] : List Keyword).length + (if ([] : List Keyword).isEmpty then 0 else 1) < 30)) = true := by rfl)
    (hline : (apos.endLine == cpos.line) = true := by rfl) (hs : starEach [.Call (.Attribute (.Name o2 p2) "pop" apos2) [a] [] cpos2] X.env = (false, eval (.Call (.Attribute (.Name o2 p2) "pop" apos2) [a] [] cpos2) X.env) :: starEach [] X.env := by rfl) (hplain : (backTo cpos (starEach [] X.env)).any (·.1) = false := by rfl)
    (hsw : swapsWith (.Call (.Attribute (.Name o p) "append" apos) [.Call (.Attribute (.Name o2 p2) "pop" apos2) [a] [] cpos2] [] cpos) none pos.line X.env = pure false := by rfl) :
    DS X W (.Expr (.Call (.Attribute (.Name o p) "append" apos) [.Call (.Attribute (.Name o2 p2) "pop" apos2) [a] [] cpos2] [] cpos) pos) (mAppPop i j me) :=
  ds_apppop i j hij (pe_bm PySem.F.plainAttrs_list PySem.F.slot_list_append PySem.F.type_list_append mt_append (pe_var hN hv hd hcd)
    (pa_cons (pe_bm PySem.F.plainAttrs_list PySem.F.slot_list_pop PySem.F.type_list_pop mt_popAt (pe_var hN2 hv2 hd2 hcd2) (pa_cons ha pa_nil hs2) hbase2 hfew2 hline2 hs2 hplain2) pa_nil hs) hbase hfew hline hs hplain) hsw
end
end Ev

/-! Ev26: the law's bag; the law's def as a whole. -/
namespace Ev
open PySem PySem.Spec L2
open PyProof.Rows hiding St
variable [Tbl]
def absI (z : Int) : Int := if z < 0 then -z else z
theorem absI_nn (z : Int) : 0 ≤ absI z := by unfold absI; split <;> omega
/-- what _law_bag gives -/
def spBag (K : PySem.W.Frag) : Sp := fun vs H Q _ => ∃ (a : Addr) (ns : List Int), vs = [.ref a] ∧ SqL K H a (ns.map V.int) ∧ ns.length ≤ 63 ∧
  ∀ (A L : Addr) (H' : Hp), (∀ b o, H b = some o → H' b = some o) → L ≠ A → H A = none → H' A = some (.lst [.int 0, .int 1234567891, .int 0, .ref L]) → H' L = some (.lst ((ns.map absI).map V.int)) → Q (.ref A) H'
section
variable {X : Cx} {H : Hp} {σ : St}
theorem cut63 {xs : List V} (h : xs.length ≤ 63) : cutV xs none (some 63) = xs := by
  have h1 : HT.sIx xs.length xs.length (some 63) = xs.length := by
    unfold HT.sIx
    simp
    omega
  have h0 : HT.sIx xs.length 0 none = 0 := rfl
  show cutL xs none (some 63) = xs
  exact cut_whole ⟨h0, h1⟩
def tBagB (K : PySem.W.Frag) : TE := tLst (tCons (tC (.int 0)) (tCons (tC (.int 1234567891)) (tCons (tC (.int 0)) (tCons (tLc (iList K (tSl (rSlL K) (tVar 0) tNoPart (tPart (tC (.int 63))))) (gName 1) tYes (tCB (fun xs H Q => ∃ i, xs = [.int i] ∧ Q (.int (if i < 0 then -i else i)) H) (tCons (tVar 1) tNil)) [1]) tNil))))
theorem bag_read {K : PySem.W.Frag} {vs : List V} {H : Hp} {Q : VK} {E : XK} {D : Ends} (h : spBag K vs H Q E) (hD : D.rt = Q) : tRet (tBagB K) D (L2.start (["script", "cell"] : List Str) vs) H := by
  subst hD
  obtain ⟨a, ns, rfl, hS, hl, k⟩ := h
  have hlen : (ns.map V.int).length ≤ 63 := by rw [List.length_map]; exact hl
  refine ⟨.ref a, rfl, 63, rfl, a, ns.map V.int, rfl, hS, fun p hp => ?_⟩
  rw [cut63 hlen]
  refine ⟨p, rfl, ⟨_, .inl (.inl upd_same)⟩, fun Dl nD => ?_⟩
  have nDp : Dl ≠ p := fun z => by rw [z, upd_same] at nD; cases nD
  have nDH : H Dl = none := by rw [upd_ne nDp] at nD; exact nD
  refine lc_list (xs := ns.map V.int) (fun i H2 => (∀ b o, b ≠ Dl → upd H p (.lst (ns.map V.int)) b = some o → H2 b = some o) ∧ (∀ b, b ≠ Dl → upd H p (.lst (ns.map V.int)) b = none → H2 b = none) ∧ H2 Dl = some (.lst (((ns.take i).map absI).map V.int)))
    ⟨fun b o hb e => by rw [upd_ne hb]; exact e, fun b hb e => by rw [upd_ne hb]; exact e, by rw [upd_same]; rfl⟩ (fun i H2 _ q => .inl (.inl (q.1 p _ nDp.symm upd_same))) (fun i x H2 hx q => ?_) fun H2 q => ?_
  · rw [List.getElem?_map] at hx
    obtain ⟨z, hz, rfl⟩ := opt_map hx
    refine ⟨rfl, .int z, rfl, z, rfl, ((ns.take i).map absI).map V.int, q.2.2, ?_, ?_⟩
    · have : (((ns.take i).map absI).map V.int).length ≤ ns.length := by simp; omega
      have e : sizeLine = 16777216 := by decide
      omega
    · refine ⟨fun b o hb e => by rw [upd_ne hb]; exact q.1 b o hb e, fun b hb e => by rw [upd_ne hb]; exact q.2.1 b hb e, ?_⟩
      rw [upd_same, List.take_add_one, hz]
      simp [absI]
  · rw [List.length_map, List.take_length] at q
    refine ⟨by show 4 ≤ sizeLine; decide, fun r hr => k r Dl _ (fun b o e => ?_) (fun z => by rw [z] at q; rw [q.2.2] at hr; cases hr) ?_ upd_same ?_⟩
    · have nb : b ≠ Dl := fun z => by rw [z, nDH] at e; cases e
      have np : b ≠ p := fun z => by rw [z, hp] at e; cases e
      have e2 := q.1 b o nb (by rw [upd_ne np]; exact e)
      rw [upd_ne (fun z => by rw [z, hr] at e2; cases e2)]
      exact e2
    · cases e : H r with
      | none => rfl
      | some o =>
        have nb : r ≠ Dl := fun z => by rw [z, nDH] at e; cases e
        have np : r ≠ p := fun z => by rw [z, hp] at e; cases e
        rw [q.1 r o nb (by rw [upd_ne np]; exact e)] at hr
        cases hr
    · rw [upd_ne (fun z => by rw [z] at q; rw [q.2.2] at hr; cases hr)]
      exact q.2.2
/-- the law's promise -/
def spL (K : PySem.W.Frag) : Sp := fun vs H Q _ => ∃ (a : Addr) (ns : List Int), vs = [.ref a] ∧ SqL K H a (ns.map V.int) ∧ ns.length ≤ 63 ∧ LamX.Tabs Tbl.tt H ∧ ∀ H', Q (.bl true) H'
/-- _law_bag as a def -/
structure DfBag (P : Program) (w : World) (K : PySem.W.Frag) (mg : Str → Option Value) (base : Heap) (k : Nat) : Prop where
  ex : ∃ (f : Addr) (fd : FuncData), FnOk P w K mg base (L2.CX P w) k f fd ["script"] (spBag K) ∧ mg "_law_bag" = some (.ref f) ∧ PySem.W.keepIn K (.ref f) = true ∧ Binds K fd ["script"] []
def lawE (N : List Str) : EnvD := (List.replicate N.length none).set 1 (some (.val .bag))
end
section
variable {P : Program} {w : World} {K : PySem.W.Frag} {mg : Str → Option Value} {base : Heap}
theorem okL {qual : Str} {params : Arguments} {body rest : List Stmt} {scope : Scope} {dV kV doc pm cdv ct oc : Value} {an od : Option Addr} {osl : Array (Option Value)} {f : Addr} {N : List Str} {k kb : Nat} {m : MS} {p p2 p3 p4 p5 : Pos}
    (lk : K.lookup f = some ⟨oc, od, .func (PySem.W.fnOf "law" qual params body scope dV kV doc pm an cdv ct), osl⟩) (hcd : PySem.W.codeIn K cdv qual = true) (Sc : FnScope N ["script"] scope)
    (hst : body = .Assign [.Name "bag" p] (.Call (.Name "_law_bag" p2) [.Name "script" p3] [] p4) p5 :: rest) (G : DfBag P w K mg base kb) (hk : kb ≤ k) (hN : N[1]? = some ("bag" : Str)) (hN0 : N[0]? = some ("script" : Str)) (hg : scope.names.lookup ("_law_bag" : Str) = some .globalImplicit) (hs : Vis scope "script") (hl : Loc scope "bag")
    (hsw : ∀ env : Env, swapsWith (.Call (.Name "_law_bag" p2) [.Name "script" p3] [] p4) (some (.Name "bag" p)) p5.line env = pure false)
    (hb : ∀ (A : Around) (outer : List Env) (s : Shared) (H : Hp) (E : XK), Room k (A.deeper (envOfC qual scope s.heap.objs.size f cdv)) →
      DSs (cxOf (L2.CX P w) P w K mg base N qual scope f cdv A outer s H E) (WC E) rest m) (hm : m (lawE N) (endsE (fun d => d = .bl true) fun _ => False)) :
    FnOk P w K mg base (L2.CX P w) (k + 1) f (PySem.W.fnOf "law" qual params body scope dV kV doc pm an cdv ct) ["script"] (spL K) := by
  obtain ⟨fb, fdb, Gb, hmb, hkb, hbb⟩ := G.ex
  refine fn_of lk hcd Sc (fun vs H Q E h => by obtain ⟨a, ns, rfl, _⟩ := h; rfl) fun A outer s H vs Q E hr h => ?_
  subst hst
  refine ⟨_, pss_cons (ps_set (i := 1) Sc.nd hN hl (pe_call (E := wishW WF) Gb (hr.mono hk) hg hmb hkb hbb .nil (passes_call LamX.takes0 fun cls d σ H h => h σ) (pa_cons (pe_var hN0 hs) pa_nil)) (hsw _)) (hb A outer s H E hr), ?_⟩
  obtain ⟨a, ns, rfl, hS, hlen, hT, k1⟩ := h
  have h0 : (L2.start N [V.ref a])[0]? = some (some (V.ref a)) := start_get (vs := [V.ref a]) (i := 0) rfl
  refine ⟨.ref a, h0, a, ns, rfl, hS, hlen, fun Ab L H' hkp nLA hA h1 h2 => ?_⟩
  have hb1 : Bag ⟨K, mg, Ab, L⟩ H' := ⟨nLA, 0, 1234567891, 0, ns.map absI, by decide, by decide, by decide, by decide, by rw [List.length_map]; exact hlen, fun n hn => by obtain ⟨z, _, rfl⟩ := List.mem_map.mp hn; exact absI_nn z, h1, h2, LamX.Tabs.ext hT hkp⟩
  have hlN : 1 < N.length := (List.getElem?_eq_some_iff.mp hN).1
  have no : ∀ (ρ' : EnvD) (σ' : St) (c : Addr), ρ' = lawE N → ¬ ownAddr ρ' σ' c := by
    rintro _ σ' c rfl ⟨i, s, e1, e2, _⟩
    unfold lawE at e1
    rcases getSet e1 with ⟨rfl, e, _⟩ | ⟨ne, e1⟩
    · cases e; cases e2
    · rw [List.getElem?_replicate] at e1
      split at e1 <;> cases e1
  refine ⟨Ab, L, av ⟨K, mg, Ab, L⟩, [], lawE N, endsE (fun d => d = .bl true) fun _ => False, ⟨⟨hb1, fun b o e _ => hkp b o e, fun b z => .inl z, fun c hc => ?_, fun i s e1 => ?_, ?_⟩, fun b z => z, ?_, fun c z => (no _ _ c rfl z).elim, fun i j s t c e1 e2 _ _ e5 _ => (no _ _ c rfl ⟨i, s, e1, e2, e5⟩).elim, fun g hg => by simp at hg⟩, hm, ?_⟩
  · rcases hc with hc | hc
    · rcases hc with rfl | hc
      · rw [h1]; intro z; cases z
      · obtain ⟨q, hq, rfl⟩ := List.mem_map.mp hc
        obtain ⟨ps, z, _⟩ := hT q hq
        rw [hkp _ _ z]; intro z; cases z
    · exact (no _ _ c rfl hc).elim
  · unfold lawE at e1
    rcases getSet e1 with ⟨rfl, e, _⟩ | ⟨ne, e1⟩
    · cases e
      refine ⟨.ref Ab, List.getElem?_set_self (by unfold L2.start; simp; omega), ?_⟩
      unfold SlotOk RV
      rfl
    · rw [List.getElem?_replicate] at e1
      split at e1 <;> cases e1
  · unfold lawE L2.start; simp; omega
  · unfold lawE L2.start; simp; omega
  · refine ⟨fun _ _ _ z _ => (by cases z), fun d v H2 q x b r => ?_, fun _ _ _ z => z.elim, fun _ _ _ z => z.elim, fun y hy => hy.elim⟩
    have q : d = .bl true := q
    subst q
    have r' : v = .bl true := by unfold RV at r; exact r
    subst r'
    exact k1 H2
end
end Ev

/-! Ev27: list(zip(a, b)). -/
namespace Ev
open PySem PySem.Spec L2
open PyProof.Rows hiding St
section
variable {prog : Program} {w : World} {A : Around} {E : Value → Shared → Prop} {s : Shared} {z TI TO T i1 i2 : Addr} {fp1 fp2 : List Addr} {n1 n2 i : Nat} {P1 P2 : Nat → Value → Prop} {St1 St2 : Nat → Heap → Prop} {a1 a2 : Value} {f : Bool} {oT : Obj}
theorem zipH_item {Q : Value → Shared → Prop} (S : ZipSep2 z TI TO i1 i2 fp1 fp2) (D1 : Draws prog w A i1 fp1 n1 P1 St1) (D2 : Draws prog w A i2 fp2 n2 P2 St2) (hz : IsZipHeld s.heap z TI TO T f) (hT : s.heap.get? T = some oT) (hTI : IsTupOf2 s.heap TI (.ref i1) (.ref i2))
    (st1 : St1 i s.heap) (st2 : St2 i s.heap) (hlt1 : i < n1) (hlt2 : i < n2)
    (hQ : ∀ x1 x2 h' tk, P1 i x1 → P2 i x2 → IsZipHeld h' z TI TO T true → St1 (i + 1) h' → St2 (i + 1) h' → IsTupOf2 h' s.heap.objs.size x1 x2 → h'.objs.size = s.heap.objs.size + 1 →
      (∀ c o, c ≠ z → c ≠ i1 → c ≠ i2 → s.heap.get? c = some o → h'.get? c = some o) → Q (.ref s.heap.objs.size) { s with heap := h', toks := tk }) :
    wpAny (model prog w) A (Builtin.«zip.__next__» ⟨[.ref z], []⟩) (fun fin s' => ∃ v, fin = .done (.ret v) ∧ Q v s') E s := by
  obtain ⟨hp, g, d, tk0, os⟩ := s
  show wpAny _ _ (field (.ref z) 2 >>= _) _ _ _
  refine wpAny_bind (wpAny_field hz rfl (x := .bool false) rfl ?_)
  show wpAny _ _ (field (.ref z) 3 >>= _) _ _ _
  refine wpAny_bind (wpAny_field hz rfl (x := .ref TI) rfl ?_)
  refine wpAny_bind (wpAny_seqItems hTI rfl ?_)
  show wpAny _ _ (Builtin.SmallTypes.ownedTupleIsFree (.ref z) >>= _) _ _ _
  refine wpAny_bind (wpAny_tupleHeld_zip hz hT fun g0 hz0 hs0 => ?_)
  replace hz0 : IsZipHeld g0 z TI TO T true := hz0
  replace hs0 : Heap.SameBut z hp g0 := hs0
  simp only [Bool.false_eq_true, if_false]
  refine wpAny_bind ?_
  rw [← Array.forIn_toList]
  simp only [List.forIn_cons, List.forIn_nil]
  refine wpAny_bind (wpAny_bind (wpAny_holding ?_))
  show wpAny _ _ (Builtin.SmallTypes.nextOf (.ref i1) >>= _) _ _ ⟨g0, g, d, tk0, os⟩
  refine wpAny_bind (D1.item i _ _ _ hlt1 (D1.over st1 hs0 S.zf1) fun x1 p1 tk1 hx1 sn1 hp1 => wpAny_pure ?_)
  replace hp1 : Heap.SameBut i1 g0 p1 := hp1
  refine wpAny_pure ?_
  refine wpAny_bind (wpAny_bind (wpAny_holding ?_))
  show wpAny _ _ (Builtin.SmallTypes.nextOf (.ref i2) >>= _) _ _ ⟨p1, g, d, tk1, os⟩
  refine wpAny_bind (D2.item i _ _ _ hlt2 (D2.over (D2.over st2 hs0 S.zf2) hp1 S.sep1_2) fun x2 p2 tk2 hx2 sn2 hp2 => wpAny_pure ?_)
  replace hp2 : Heap.SameBut i2 p1 p2 := hp2
  refine wpAny_pure (wpAny_pure ?_)
  show wpAny _ _ (newTuple [x1, x2] >>= _) _ _ _
  refine wpAny_bind (wpAny_newTuple ?_)
  have hsz : p2.objs.size = hp.objs.size := by rw [hp2.1, hp1.1, hs0.1]
  have hz₃ : IsZipHeld p2 z TI TO T true := hp2.extBut _ _ S.zi2 (hp1.extBut _ _ S.zi1 hz0)
  have hk : ∀ c o, c ≠ z → c ≠ i1 → c ≠ i2 → hp.get? c = some o → p2.get? c = some o := fun c o c1 c2 c3 e => hp2.extBut _ _ c3 (hp1.extBut _ _ c2 (hs0.extBut _ _ c1 e))
  have s1 : St1 (i + 1) p2 := D1.over sn1 hp2 S.sep2_1
  refine wpAny_pure ⟨_, rfl, ?_⟩
  show Q (.ref p2.objs.size) _
  have hpp : IsTupOf2 (p2.push { cls := .type "tuple", data := .seq #[x1, x2] }) p2.objs.size x1 x2 := Heap.get?_push_size _ rfl
  have hz4 : (p2.push { cls := .type "tuple", data := .seq #[x1, x2] }).objs.size = p2.objs.size + 1 := Heap.size_push ..
  rw [hsz] at hpp hz4 ⊢
  exact hQ _ _ _ _ hx1 hx2 (Heap.get?_push_of_some _ hz₃) (D1.frame _ _ _ s1 fun b _ o e => Heap.get?_push_of_some _ e) (D2.frame _ _ _ sn2 fun b _ o e => Heap.get?_push_of_some _ e) hpp hz4 fun c o c1 c2 c3 e => Heap.get?_push_of_some _ (hk c o c1 c2 c3 e)
theorem zipH_end {Q : Fin → Shared → Prop} (S : ZipSep2 z TI TO i1 i2 fp1 fp2) (D1 : Draws prog w A i1 fp1 n1 P1 St1) (D2 : Draws prog w A i2 fp2 n2 P2 St2) (hz : IsZipHeld s.heap z TI TO T f) (hT : s.heap.get? T = some oT) (hTI : IsTupOf2 s.heap TI (.ref i1) (.ref i2))
    (st1 : St1 i s.heap) (st2 : St2 i s.heap) (hle1 : i ≤ n1) (hle2 : i ≤ n2) (hend : i = n1 ∨ i = n2)
    (hE : ∀ h' tk e, (∀ c o, c ≠ z → c ≠ i1 → c ≠ i2 → s.heap.get? c = some o → h'.get? c = some o) → (∃ o, h'.get? e = some o ∧ o.cls = .type "StopIteration") → E (.ref e) { s with heap := h', toks := tk }) :
    wpAny (model prog w) A (Builtin.«zip.__next__» ⟨[.ref z], []⟩) Q E s := by
  obtain ⟨hp, g, d, tk0, os⟩ := s
  show wpAny _ _ (field (.ref z) 2 >>= _) _ _ _
  refine wpAny_bind (wpAny_field hz rfl (x := .bool false) rfl ?_)
  show wpAny _ _ (field (.ref z) 3 >>= _) _ _ _
  refine wpAny_bind (wpAny_field hz rfl (x := .ref TI) rfl ?_)
  refine wpAny_bind (wpAny_seqItems hTI rfl ?_)
  show wpAny _ _ (Builtin.SmallTypes.ownedTupleIsFree (.ref z) >>= _) _ _ _
  refine wpAny_bind (wpAny_tupleHeld_zip hz hT fun g0 hz0 hs0 => ?_)
  replace hs0 : Heap.SameBut z hp g0 := hs0
  simp only [Bool.false_eq_true, if_false]
  refine wpAny_bind ?_
  rw [← Array.forIn_toList]
  simp only [List.forIn_cons, List.forIn_nil]
  refine wpAny_bind (wpAny_bind (wpAny_holding ?_))
  show wpAny _ _ (Builtin.SmallTypes.nextOf (.ref i1) >>= _) _ _ ⟨g0, g, d, tk0, os⟩
  by_cases hlt1 : i < n1
  · refine wpAny_bind (D1.item i _ _ _ hlt1 (D1.over st1 hs0 S.zf1) fun x1 p1 tk1 hx1 sn1 hp1 => wpAny_pure ?_)
    replace hp1 : Heap.SameBut i1 g0 p1 := hp1
    refine wpAny_pure ?_
    have hi2 : i = n2 := by omega
    refine wpAny_bind (wpAny_bind (wpAny_holding ?_))
    show wpAny _ _ (Builtin.SmallTypes.nextOf (.ref i2) >>= _) _ _ ⟨p1, g, d, tk1, os⟩
    refine wpAny_bind (D2.done ⟨p1, g, d, tk1, os⟩ _ _ (by rw [← hi2]; exact (D2.over (D2.over st2 hs0 S.zf2) hp1 S.sep1_2)) fun q e hq he => ?_)
    replace hq : Heap.ExtBut i2 p1 q := hq
    exact hE q tk1 e (fun c o cz c1 c2 x => hq _ _ c2 (hp1.extBut _ _ c1 (hs0.extBut _ _ cz x))) he
  · have hi1 : i = n1 := by omega
    refine wpAny_bind (D1.done ⟨g0, g, d, tk0, os⟩ _ _ (by rw [← hi1]; exact (D1.over st1 hs0 S.zf1)) fun q e hq he => ?_)
    replace hq : Heap.ExtBut i1 g0 q := hq
    exact hE q tk0 e (fun c o cz c1 c2 x => hq _ _ c1 (hs0.extBut _ _ cz x)) he
theorem zipH_next_item {Q : Option Value → Shared → Prop} (S : ZipSep2 z TI TO i1 i2 fp1 fp2) (D1 : Draws prog w A.in1 i1 fp1 n1 P1 St1) (D2 : Draws prog w A.in1 i2 fp2 n2 P2 St2) (hz : IsZipHeld s.heap z TI TO T f) (hT : s.heap.get? T = some oT) (hTI : IsTupOf2 s.heap TI (.ref i1) (.ref i2))
    (st1 : St1 i s.heap) (st2 : St2 i s.heap) (hlt1 : i < n1) (hlt2 : i < n2)
    (hQ : ∀ x1 x2 h' tk, P1 i x1 → P2 i x2 → IsZipHeld h' z TI TO T true → St1 (i + 1) h' → St2 (i + 1) h' → IsTupOf2 h' s.heap.objs.size x1 x2 → h'.objs.size = s.heap.objs.size + 1 →
      (∀ c o, c ≠ z → c ≠ i1 → c ≠ i2 → s.heap.get? c = some o → h'.get? c = some o) → Q (some (.ref s.heap.objs.size)) { s with heap := h', toks := tk }) : wpAny (model prog w) A (pyNext (.ref z)) Q E s := by
  have hTy : s.TypeIs (.ref z) "zip" := ⟨_, hz, rfl⟩
  unfold pyNext
  exact wpAny_bind (wpAny_attempt (wpAny_callSpecial?_slot (name := Str.ofString "__next__") hTy F.slot_zip_next
    (wpAny_call_entry F.slot_zip_next hTy F.entry_zip_next (zipH_item S D1 D2 hz hT hTI st1 st2 hlt1 hlt2 fun x1 x2 h' tk a1 a2 a3 a4 a5 a6 a7 a8 => wpAny_pure (hQ x1 x2 h' tk a1 a2 a3 a4 a5 a6 a7 a8)) (F.args_zip_next_1 _))))
theorem zipH_next_end {Q : Option Value → Shared → Prop} (S : ZipSep2 z TI TO i1 i2 fp1 fp2) (D1 : Draws prog w A.in1 i1 fp1 n1 P1 St1) (D2 : Draws prog w A.in1 i2 fp2 n2 P2 St2) (hz : IsZipHeld s.heap z TI TO T f) (hT : s.heap.get? T = some oT) (hTI : IsTupOf2 s.heap TI (.ref i1) (.ref i2))
    (st1 : St1 i s.heap) (st2 : St2 i s.heap) (hle1 : i ≤ n1) (hle2 : i ≤ n2) (hend : i = n1 ∨ i = n2)
    (hQ : ∀ h' tk, (∀ c o, c ≠ z → c ≠ i1 → c ≠ i2 → s.heap.get? c = some o → h'.get? c = some o) → Q none { s with heap := h', toks := tk }) : wpAny (model prog w) A (pyNext (.ref z)) Q E s := by
  have hTy : s.TypeIs (.ref z) "zip" := ⟨_, hz, rfl⟩
  unfold pyNext
  refine wpAny_bind (wpAny_attempt (wpAny_callSpecial?_slot (name := Str.ofString "__next__") hTy F.slot_zip_next
    (wpAny_call_entry F.slot_zip_next hTy F.entry_zip_next (zipH_end S D1 D2 hz hT hTI st1 st2 hle1 hle2 hend fun h' tk e hk he => ?_) (F.args_zip_next_1 _))))
  obtain ⟨o, ho, hc⟩ := he
  refine wpAny_bind (wpAny_isInstance (T := "StopIteration") (b := true) ⟨o, ho, hc⟩ isSubtype_stop ?_)
  exact wpAny_pure (hQ _ _ hk)
end
end Ev

/-! Ev28: list(zip(a, b)), the loop. -/
namespace Ev
open PySem PySem.Spec L2
open PyProof.Rows hiding St
def ZSt (z TI TO i1 i2 N0 : Addr) (St1 St2 : Nat → Heap → Prop) (i : Nat) (h : Heap) : Prop :=
  ((IsZip h z TI TO .none ∧ ∃ a1 a2, IsTupOf2 h TO a1 a2) ∨ ∃ (T : Addr) (f : Bool) (oT : Obj), IsZipHeld h z TI TO T f ∧ h.get? T = some oT ∧ N0 ≤ T) ∧ IsTupOf2 h TI (.ref i1) (.ref i2) ∧ St1 i h ∧ St2 i h
def ZAcc (z TO i1 i2 SL N0 : Addr) (P1 P2 : Nat → Value → Prop) (i : Nat) (h : Heap) (acc : Array Value) : Prop :=
  ∃ Ts : List Addr, acc.toList = Ts.map Value.ref ∧ Ts.length = i ∧ Ts.Nodup ∧ (∀ T ∈ Ts, N0 ≤ T ∧ T ≠ z ∧ T ≠ TO ∧ T ≠ i1 ∧ T ≠ i2 ∧ T ≠ SL) ∧ ∀ (j : Nat) (T : Addr), Ts[j]? = some T → ∃ x y, P1 j x ∧ P2 j y ∧ IsTupOf2 h T x y
section
variable {prog : Program} {w : World} {A : Around} {E : Value → Shared → Prop} {z TI TO i1 i2 SL N0 : Addr} {fp1 fp2 : List Addr} {n1 n2 : Nat} {P1 P2 : Nat → Value → Prop} {St1 St2 : Nat → Heap → Prop} {R : Result → Shared → Prop}
theorem zip_extend_loop (S : ZipSep2 z TI TO i1 i2 fp1 fp2) (D1 : Draws prog w A.in1.in1 i1 fp1 n1 P1 St1) (D2 : Draws prog w A.in1.in1 i2 fp2 n2 P2 St2) (hn : min n1 n2 ≤ sizeLine) (hSL : SL ≠ z ∧ SL ≠ TI ∧ SL ≠ TO ∧ SL ≠ i1 ∧ SL ≠ i2) (hf1 : SL ∉ fp1) (hf2 : SL ∉ fp2) (hlo : z < N0 ∧ TO < N0 ∧ i1 < N0 ∧ i2 < N0 ∧ SL < N0) (res : Value) (s : Shared) :
    ∀ (k i : Nat) (h : Heap) (tk : Nat) (acc : Array Value) (c : Nat), min n1 n2 - i = k → i ≤ min n1 n2 → N0 ≤ h.objs.size → ZSt z TI TO i1 i2 N0 St1 St2 i h → h.get? SL = some { cls := .type "list", dict := none, data := .seq acc c, slots := #[] } → ZAcc z TO i1 i2 SL N0 P1 P2 i h acc →
    (∀ h' tk' acc' c', (∀ b o, b ≠ z → b ≠ TO → b ≠ i1 → b ≠ i2 → b ≠ SL → h.get? b = some o → h'.get? b = some o) → h'.get? SL = some { cls := .type "list", dict := none, data := .seq acc' c', slots := #[] } → ZAcc z TO i1 i2 SL N0 P1 P2 (min n1 n2) h' acc' → R (.ok (.ret res)) { s with heap := h', toks := tk' }) →
    codeAny (model prog w) A (.builtin "list.extend.loop" ⟨[.ref SL, .ref z, res], []⟩) R { s with heap := h, toks := tk } := by
  obtain ⟨hz0, hTI0, hTO0, h10, h20⟩ := hSL
  obtain ⟨lz, lTO, l1, l2, lS⟩ := hlo
  have ne : ∀ {a T : Addr}, a < N0 → N0 ≤ T → T ≠ a := fun h1 h2 q => Nat.lt_irrefl _ (Nat.lt_of_lt_of_le h1 (q ▸ h2))
  intro k
  induction k with
  | zero =>
    intro i h tk acc c hk hi hN hst hS hacc hR
    have hin : i = min n1 n2 := by omega
    subst hin
    refine codeAny_builtin F.entry_extend_loop ?_
    rw [Around.under_plainId F.plain_extend_loop _]
    show wpAny _ A.in1 (pyNext (.ref z) >>= _) _ _ _
    have fin : ∀ (h' : Heap) (tk' : Nat), (∀ c o, c ≠ z → c ≠ TO → c ≠ i1 → c ≠ i2 → h.get? c = some o → h'.get? c = some o) → R (.ok (.ret res)) { s with heap := h', toks := tk' } := fun h' tk' hk => by
      refine hR h' tk' acc c (fun b o b1 b2 b3 b4 _ e => hk b o b1 b2 b3 b4 e) (hk SL _ hz0 hTO0 h10 h20 hS) ?_
      obtain ⟨Ts, e1, e2, e3, e4, e5⟩ := hacc
      refine ⟨Ts, e1, e2, e3, e4, fun j T hj => ?_⟩
      obtain ⟨x, y, p1, p2, hT⟩ := e5 j T hj
      obtain ⟨_, q1, q2, q3, q4, q5⟩ := e4 T (List.mem_of_getElem? hj)
      exact ⟨x, y, p1, p2, hk _ _ q1 q2 q3 q4 hT⟩
    obtain ⟨hz, hTI, st1, st2⟩ := hst
    rcases hz with ⟨hz, a1, a2, hTO⟩ | ⟨T, f, oT, hz, hT, _⟩
    · refine wpAny_bind (wpAny_pyNext_zipD2_end (A := A.in1) (s := { s with heap := h, toks := tk }) S D1 D2 hz hTI hTO st1 st2 (Nat.min_le_left _ _) (Nat.min_le_right _ _) (by omega) fun h' tk' hk' => ?_)
      exact wpAny_pure (fin h' tk' hk')
    · refine wpAny_bind (zipH_next_end (A := A.in1) (s := { s with heap := h, toks := tk }) S D1 D2 hz hT hTI st1 st2 (Nat.min_le_left _ _) (Nat.min_le_right _ _) (by omega) fun h' tk' hk' => ?_)
      exact wpAny_pure (fin h' tk' fun c o b1 _ b3 b4 e => hk' c o b1 b3 b4 e)
  | succ k ih =>
    intro i h tk acc c hk hi hN hst hS hacc hR
    have hlt : i < min n1 n2 := by omega
    refine codeAny_builtin F.entry_extend_loop ?_
    rw [Around.under_plainId F.plain_extend_loop _]
    show wpAny _ A.in1 (pyNext (.ref z) >>= _) _ _ _
    have hl : acc.size = i := by
      obtain ⟨Ts, e1, e2, _⟩ := hacc
      rw [← e2, ← List.length_map (f := Value.ref), ← e1, Array.length_toList]
    have fin : ∀ (x1 x2 : Value) (h' : Heap) (tk' : Nat) (T : Addr), T = h.objs.size → P1 i x1 → P2 i x2 → (∃ (T' : Addr) (f : Bool) (oT : Obj), IsZipHeld h' z TI TO T' f ∧ h'.get? T' = some oT ∧ N0 ≤ T') → St1 (i + 1) h' → St2 (i + 1) h' → IsTupOf2 h' T x1 x2 → h'.objs.size = h.objs.size + 1 → (∀ c o, c ≠ z → c ≠ TO → c ≠ i1 → c ≠ i2 → h.get? c = some o → h'.get? c = some o) →
        wpAny (model prog w) A.in1 (updateSeq SL (·.push (.ref T)) >>= fun _ => again (.builtin "list.extend.loop" ⟨[.ref SL, .ref z, res], []⟩)) (fun fin s' => match fin with | .done f => R (.ok f) s' | .again c' => c'.quiet = true ∧ codeAny (model prog w) A c' R s') (fun e s' => R (.error e) s') { s with heap := h', toks := tk' } := by
      intro x1 x2 h' tk' T hTe hp1 hp2 hz' s1' s2' hTup hsz hk'
      have hS' := hk' SL _ hz0 hTO0 h10 h20 hS
      have hTI' : IsTupOf2 h' TI (.ref i1) (.ref i2) := hk' TI _ S.TIz S.TITO S.TIi1 S.TIi2 hst.2.1
      have lt : ∀ {b : Addr} {o : Obj}, h.get? b = some o → b ≠ T := fun {b o} e q => by
        have := Heap.lt_size e
        rw [q, hTe] at this
        exact Nat.lt_irrefl _ this
      have hSLT : SL ≠ T := lt hS
      have up : ∀ b o, b ≠ SL → h'.get? b = some o → (h'.update SL (Obj.mapSeq (·.push (.ref T)))).get? b = some o := fun b o hb e => (Heap.get?_update_other _ _ (Ne.symm hb)).trans e
      refine wpAny_bind ?_
      refine wpAny_updateSeq (s := { s with heap := h', toks := tk' }) hS' rfl (wpAny_pure ⟨plainId_quiet F.plain_extend_loop _, ih (i + 1) _ tk' (acc.push (.ref T)) _ (by omega) hlt ?_ ?_ (Heap.get?_update_self _ hS' rfl) ?_ fun h2 tk2 acc2 c2 hk2 hS2 ha2 => hR h2 tk2 acc2 c2 (fun b o b1 b2 b3 b4 b5 e => hk2 b o b1 b2 b3 b4 b5 (up b o b5 (hk' b o b1 b2 b3 b4 e))) hS2 ha2⟩)
        (by rw [hl]; omega) (by show (acc.push (.ref T)).size ≤ sizeLine + 1; rw [Array.size_push, hl]; omega)
      · have e : (h'.update SL (Obj.mapSeq (·.push (Value.ref T)))).objs.size = h'.objs.size := (Heap.SameBut.update ..).1
        rw [e, hsz]
        exact Nat.le_trans hN (Nat.le_succ _)
      · obtain ⟨T', f, oT, g1, g2, g3⟩ := hz'
        exact ⟨.inr ⟨T', f, oT, up _ _ (Ne.symm hz0) g1, up _ _ (ne lS g3) g2, g3⟩, up _ _ (Ne.symm hTI0) hTI', D1.frame _ _ _ s1' fun b hb o e => up b o (fun q => hf1 (q ▸ hb)) e, D2.frame _ _ _ s2' fun b hb o e => up b o (fun q => hf2 (q ▸ hb)) e⟩
      · obtain ⟨Ts, e1, e2, e3, e4, e5⟩ := hacc
        have old : ∀ T0 ∈ Ts, T0 ≠ T := fun T0 h0 => by
          obtain ⟨j, hj⟩ := List.getElem?_of_mem h0
          obtain ⟨x, y, _, _, hT0⟩ := e5 j T0 hj
          exact lt hT0
        refine ⟨Ts ++ [T], by simp [e1], by simp [e2], ?_, fun T0 h0 => ?_, fun j T0 hj => ?_⟩
        · rw [List.nodup_append]
          refine ⟨e3, by simp, fun a ha b hb => ?_⟩
          obtain rfl : b = T := by simpa using hb
          exact old a ha
        · rcases List.mem_append.mp h0 with h0 | h0
          · exact e4 T0 h0
          · obtain rfl : T0 = T := by simpa using h0
            have hT0 : N0 ≤ T0 := by rw [hTe]; exact hN
            exact ⟨hT0, ne lz hT0, ne lTO hT0, ne l1 hT0, ne l2 hT0, ne lS hT0⟩
        · rw [List.getElem?_append] at hj
          split at hj
          · rename_i hlt'
            obtain ⟨x, y, q1, q2, q3⟩ := e5 j T0 hj
            obtain ⟨_, r1, r2, r3, r4, r5⟩ := e4 T0 (List.mem_of_getElem? hj)
            exact ⟨x, y, q1, q2, up _ _ r5 (hk' _ _ r1 r2 r3 r4 q3)⟩
          · rename_i hge
            have hj0 : j - Ts.length = 0 := by
              by_cases q : j - Ts.length = 0
              · exact q
              · rw [List.getElem?_eq_none (by simp; omega)] at hj; cases hj
            rw [hj0] at hj
            cases hj
            have : j = i := by omega
            subst this
            exact ⟨x1, x2, hp1, hp2, up _ _ hSLT.symm hTup⟩
    obtain ⟨hz, hTI, st1, st2⟩ := id hst
    rcases hz with ⟨hz, a1, a2, hTO⟩ | ⟨T, f, oT, hz, hT, hTS⟩
    · refine wpAny_bind (wpAny_pyNext_zipD2_item (A := A.in1) (s := { s with heap := h, toks := tk }) S D1 D2 hz hTI hTO st1 st2 (by omega) (by omega) fun x1 x2 h' tk' p1 p2 hz' hTO' s1' s2' hT hsz hk' => ?_)
      refine fin x1 x2 h' tk' _ rfl p1 p2 ⟨_, false, _, hz', hT, hN⟩ s1' s2' hT hsz hk'
    · refine wpAny_bind (zipH_next_item (A := A.in1) (s := { s with heap := h, toks := tk }) S D1 D2 hz hT hTI st1 st2 (by omega) (by omega) fun x1 x2 h' tk' p1 p2 hz' s1' s2' hT' hsz hk' => ?_)
      refine fin x1 x2 h' tk' _ rfl p1 p2 ⟨T, true, oT, hz', hk' _ _ (ne lz hTS) (ne l1 hTS) (ne l2 hTS) hT, hTS⟩ s1' s2' hT' hsz fun c o b1 _ b3 b4 e => hk' c o b1 b3 b4 e
theorem zip_no_len : typeLookup (.type "zip") "__len__" = pure none := by rw [typeLookup_type, builtinLookup_eq_fast]; kernel_rfl
theorem zip_no_hint : typeLookup (.type "zip") "__length_hint__" = pure none := by rw [typeLookup_type, builtinLookup_eq_fast]; kernel_rfl
theorem zip_list_init (S : ZipSep2 z TI TO i1 i2 fp1 fp2) (D1 : Draws prog w A.in1.in1 i1 fp1 n1 P1 St1) (D2 : Draws prog w A.in1.in1 i2 fp2 n2 P2 St2) (hn : min n1 n2 ≤ sizeLine) (hSL : SL ≠ z ∧ SL ≠ TI ∧ SL ≠ TO ∧ SL ≠ i1 ∧ SL ≠ i2) (hf1 : SL ∉ fp1) (hf2 : SL ∉ fp2) (s : Shared)
    (hlo : z < s.heap.objs.size ∧ TO < s.heap.objs.size ∧ i1 < s.heap.objs.size ∧ i2 < s.heap.objs.size ∧ SL < s.heap.objs.size) (hz : IsZip s.heap z TI TO .none) (hTI : IsTupOf2 s.heap TI (.ref i1) (.ref i2)) (hTO : ∃ a1 a2, IsTupOf2 s.heap TO a1 a2) (st1 : St1 0 s.heap) (st2 : St2 0 s.heap)
    (hS : s.heap.get? SL = some { cls := .type "list", data := .seq #[] })
    (hR : ∀ h' tk' acc' c', (∀ b o, b ≠ z → b ≠ TO → b ≠ i1 → b ≠ i2 → b ≠ SL → s.heap.get? b = some o → h'.get? b = some o) → h'.get? SL = some { cls := .type "list", dict := none, data := .seq acc' c', slots := #[] } → ZAcc z TO i1 i2 SL s.heap.objs.size P1 P2 (min n1 n2) h' acc' → R (.ok (.ret .none)) { s with heap := h', toks := tk' }) :
    wpAny (model prog w) A.in1 (Builtin.«list.__init__» ⟨[.ref SL, .ref z], []⟩)
      (fun fin s' => match fin with | .done f => R (.ok f) s' | .again c' => c'.quiet = true ∧ codeAny (model prog w) A c' R s') (fun e s' => R (.error e) s') s := by
  obtain ⟨hz0, hTI0, hTO0, h10, h20⟩ := id hSL
  have hTz : ∀ (h : Heap) (tk : Nat), IsZip h z TI TO .none → ({ s with heap := h, toks := tk } : Shared).TypeIs (.ref z) "zip" := fun h tk e => ⟨_, e, rfl⟩
  show wpAny _ A.in1 (do let old ← Builtin.List.listItems (.ref SL); Builtin.List.listUpdate (.ref SL) (fun _ => #[]); letGo old.toList.reverse; Builtin.List.listExtendWith (.ref SL) (.ref z) .none) _ _ s
  refine wpAny_bind ?_
  unfold Builtin.List.listItems
  refine wpAny_bind (wpAny_seqItems hS rfl (wpAny_pure ?_))
  show wpAny _ A.in1 (updateSeq SL (fun _ => #[]) >>= fun _ => letGo (#[] : Array Value).toList.reverse >>= fun _ => Builtin.List.listExtendWith (.ref SL) (.ref z) .none) _ _ s
  refine wpAny_bind (wpAny_updateSeq hS rfl ?_)
  have hS₂ := Heap.get?_update_self (Obj.mapSeq (fun _ => (#[] : Array Value))) hS rfl
  have oth : ∀ b o, b ≠ SL → s.heap.get? b = some o → (s.heap.update SL (Obj.mapSeq (fun _ => (#[] : Array Value)))).get? b = some o := fun b o hb e => (Heap.get?_update_other _ _ (Ne.symm hb)).trans e
  have hsz1 : (s.heap.update SL (Obj.mapSeq (fun _ => (#[] : Array Value)))).objs.size = s.heap.objs.size := (Heap.SameBut.update ..).1
  refine wpAny_bind (wpAny_letGo ?_)
  generalize hh : s.heap.update SL (Obj.mapSeq (fun _ => (#[] : Array Value))) = h1 at hS₂ oth hsz1 ⊢
  have z1 := oth z _ (Ne.symm hz0) hz
  unfold Builtin.List.listExtendWith
  refine wpAny_bind (wpAny_typeOf (hTz h1 s.toks z1) ?_)
  have e1 : Builtin.List.listSameRef (.ref SL) (.ref z) = false := by simp [Builtin.List.listSameRef, hz0]
  have e2 : (Value.type "zip" == Value.type "list") = false := by decide
  have e3 : (Value.type "zip" == Value.type "tuple") = false := by decide
  simp only [e1, e2, e3, Bool.or_false, Bool.false_eq_true, if_false]
  refine wpAny_bind (wpAny_pyIter_zip z1 ?_)
  refine wpAny_bind (wpAny_holding ?_)
  unfold Builtin.List.listLengthHint
  refine wpAny_bind (wpAny_specialOf (hTz h1 s.toks z1) zip_no_len ?_)
  show wpAny _ A.in1 (specialOf (Value.ref z) (Str.ofString "__length_hint__") >>= _) _ _ _
  refine wpAny_bind (wpAny_specialOf (hTz h1 s.toks z1) zip_no_hint ?_)
  refine wpAny_pure ?_
  show wpAny _ A.in1 (rule "list.extend.makes-room" >>= fun _ => Builtin.List.listTouch (.ref SL) >>= fun _ => again (.builtin "list.extend.loop" ⟨[.ref SL, .ref z, .none], []⟩)) _ _ _
  refine wpAny_bind (wpAny_rule ?_)
  refine wpAny_bind ?_
  show wpAny _ A.in1 (updateSeq SL (·.push .none) >>= fun _ => updateSeq SL (·.pop)) _ _ _
  refine wpAny_bind (wpAny_updateSeq (s := { s with heap := h1 }) hS₂ rfl ?_)
  have hS₃ := Heap.get?_update_self (Obj.mapSeq (·.push Value.none)) hS₂ rfl
  refine wpAny_updateSeq (hz := by seq_fits) (s := { s with heap := h1.update SL (Obj.mapSeq (·.push Value.none)) }) hS₃ rfl ?_
  have hS₄ := Heap.get?_update_self (Obj.mapSeq (·.pop)) hS₃ rfl
  have oth2 : ∀ b o, b ≠ SL → s.heap.get? b = some o → ((h1.update SL (Obj.mapSeq (·.push Value.none))).update SL (Obj.mapSeq (·.pop))).get? b = some o :=
    fun b o hb e => (Heap.get?_update_other _ _ (Ne.symm hb)).trans ((Heap.get?_update_other _ _ (Ne.symm hb)).trans (oth b o hb e))
  have hsz2 : ((h1.update SL (Obj.mapSeq (·.push Value.none))).update SL (Obj.mapSeq (·.pop))).objs.size = s.heap.objs.size := by rw [(Heap.SameBut.update ..).1, (Heap.SameBut.update ..).1, hsz1]
  obtain ⟨a1, a2, hTO⟩ := hTO
  refine wpAny_pure ⟨plainId_quiet F.plain_extend_loop _, zip_extend_loop (N0 := s.heap.objs.size) S D1 D2 hn hSL hf1 hf2 hlo .none s _ 0 _ s.toks #[] _ rfl (Nat.zero_le _) (Nat.le_of_eq hsz2.symm)
    ⟨.inl ⟨oth2 _ _ (Ne.symm hz0) hz, a1, a2, oth2 _ _ (Ne.symm hTO0) hTO⟩, oth2 _ _ (Ne.symm hTI0) hTI, D1.frame _ _ _ st1 fun b hb o e => oth2 b o (fun q => hf1 (q ▸ hb)) e, D2.frame _ _ _ st2 fun b hb o e => oth2 b o (fun q => hf2 (q ▸ hb)) e⟩ hS₄
    ⟨[], rfl, rfl, by simp, fun T hT => by simp at hT, fun j T hj => by simp at hj⟩ fun h' tk' acc' c' hk h2 h3 => hR h' tk' acc' c' (fun b o b1 b2 b3 b4 b5 e => hk b o b1 b2 b3 b4 b5 (oth2 b o b5 e)) h2 h3⟩
end
section
variable {prog : Program} {w : World} {A : Around} {E : Value → Shared → Prop} {s : Shared} {z TI TO i1 i2 : Addr} {fp1 fp2 : List Addr} {n1 n2 : Nat} {P1 P2 : Nat → Value → Prop} {St1 St2 : Nat → Heap → Prop}
/-- list(z), z a zip that was just made -/
theorem call_list_zip {Q : Value → Shared → Prop} (S : ZipSep2 z TI TO i1 i2 fp1 fp2) (D1 : Draws prog w A.in1.in1.in1 i1 fp1 n1 P1 St1) (D2 : Draws prog w A.in1.in1.in1 i2 fp2 n2 P2 St2) (hn : min n1 n2 ≤ sizeLine)
    (hb : ∀ b ∈ z :: TI :: TO :: i1 :: i2 :: (fp1 ++ fp2), b < s.heap.objs.size) (hz : IsZip s.heap z TI TO .none) (hTI : IsTupOf2 s.heap TI (.ref i1) (.ref i2)) (hTO : ∃ a1 a2, IsTupOf2 s.heap TO a1 a2) (st1 : St1 0 s.heap) (st2 : St2 0 s.heap)
    (hQ : ∀ h' tk' acc' c', (∀ b o, b ≠ z → b ≠ TO → b ≠ i1 → b ≠ i2 → s.heap.get? b = some o → h'.get? b = some o) → h'.get? s.heap.objs.size = some { cls := .type "list", dict := none, data := .seq acc' c', slots := #[] } →
      ZAcc z TO i1 i2 s.heap.objs.size (s.heap.objs.size + 1) P1 P2 (min n1 n2) h' acc' → Q (.ref s.heap.objs.size) { s with heap := h', toks := tk' }) :
    wpAny (model prog w) A (call (.type "list") [.ref z]) Q E s := by
  have ne : ∀ {b : Addr}, b < s.heap.objs.size → s.heap.objs.size ≠ b := fun h q => Nat.lt_irrefl _ (q ▸ h)
  have bz : z < s.heap.objs.size := hb z (by simp)
  have bTI : TI < s.heap.objs.size := hb TI (by simp)
  have bTO : TO < s.heap.objs.size := hb TO (by simp)
  have b1 : i1 < s.heap.objs.size := hb i1 (by simp)
  have b2 : i2 < s.heap.objs.size := hb i2 (by simp)
  refine callType_codes (Q₁ := fun obj s₁ => obj = .ref s.heap.objs.size ∧ s₁ = { s with heap := s.heap.push { cls := .type "list", data := .seq #[] } }) F.called_list (F.typeCall_list_1 _) F.entry_list_init
    (code_list_new _ ⟨rfl, rfl⟩) fun obj s₁ h₁ => ?_
  obtain ⟨rfl, rfl⟩ := h₁
  have hS : (s.heap.push { cls := .type "list", data := .seq #[] }).get? s.heap.objs.size = some { cls := .type "list", data := .seq #[] } := Heap.get?_push_size _ rfl
  have hsz : (s.heap.push { cls := .type "list", data := .seq #[] }).objs.size = s.heap.objs.size + 1 := Heap.size_push ..
  have up : ∀ b o, s.heap.get? b = some o → (s.heap.push { cls := .type "list", data := .seq #[] }).get? b = some o := fun b o e => Heap.get?_push_of_some _ e
  obtain ⟨a1, a2, hTO⟩ := hTO
  refine ⟨⟨_, hS, rfl⟩, F.args_list_init_2 _ _, zip_list_init (A := A.in1) S D1 D2 hn ⟨ne bz, ne bTI, ne bTO, ne b1, ne b2⟩ (fun q => ne (hb _ (by simp [q])) rfl) (fun q => ne (hb _ (by simp [q])) rfl) { s with heap := s.heap.push { cls := .type "list", data := .seq #[] } }
    (by rw [hsz]; exact ⟨Nat.lt_succ_of_lt bz, Nat.lt_succ_of_lt bTO, Nat.lt_succ_of_lt b1, Nat.lt_succ_of_lt b2, Nat.lt_succ_self _⟩) (up _ _ hz) (up _ _ hTI) ⟨a1, a2, up _ _ hTO⟩ (D1.frame _ _ _ st1 fun b _ o e => up b o e) (D2.frame _ _ _ st2 fun b _ o e => up b o e) hS fun h' tk' acc' c' hk hS' hacc => ?_⟩
  refine ⟨rfl, hQ h' tk' acc' c' (fun b o q1 q2 q3 q4 e => hk b o q1 q2 q3 q4 (fun q => ne (Heap.lt_size e) q.symm) (up b o e)) hS' ?_⟩
  rw [hsz] at hacc
  exact hacc
end
end Ev

/-! Ev29: list(zip(a, b)). -/
namespace Ev
open PySem PySem.Spec L2
open PyProof.Rows hiding St
variable [Tbl]
section
variable {X : Cx} {pins : List (Addr × Obj)} {σ : St} {H : Hp} {s : Shared} {sc : Sc} {vs : List V} {it : Addr} {i : Nat} {h' : Heap} {tk : Nat}
theorem Sc.drawsB (B : Around) (hB : B.handled = none) (I : Inv X pins σ H s) (hi : sc.items X.K H vs) (st : sc.st it i s.heap) (hn : it ∉ sc.at?) : ∃ (P : Nat → Value → Prop) (St : Nat → Heap → Prop), Draws X.prog X.w B it (it :: sc.at?) vs.length P St ∧ St i s.heap ∧
    (∀ k v, P k v → ∃ x, vs[k]? = some x ∧ RelV x v) := by
  cases sc with
  | list a =>
    obtain ⟨its, rv, p, _⟩ := I.list (show SqL X.K H a vs from hi)
    have ne : a ≠ it := fun e => hn (by simp [Sc.at?, e])
    have D := Draws.list (prog := X.prog) (w := X.w) (A := B) hB it a ne its.toArray
    have e : its.toArray.size = vs.length := by rw [List.size_toArray]; exact rv.length.symm
    rw [e] at D
    refine ⟨_, _, D, ⟨st, p.isList⟩, fun k v hk => ?_⟩
    have hk' : its[k]? = some v := by simpa using hk
    have hlt : k < vs.length := by rw [rv.length]; exact (List.getElem?_eq_some_iff.mp hk').1
    obtain ⟨u, hu, ru⟩ := rv.get (List.getElem?_eq_getElem hlt)
    rw [hk'] at hu; cases hu
    exact ⟨_, List.getElem?_eq_getElem hlt, ru⟩
  | tup a =>
    obtain ⟨its, rv, p, _⟩ := I.tuple (show SqT X.K H a vs from hi)
    have ne : a ≠ it := fun e => hn (by simp [Sc.at?, e])
    have D := Draws.tuple (prog := X.prog) (w := X.w) (A := B) hB it a ne its.toArray
    have e : its.toArray.size = vs.length := by rw [List.size_toArray]; exact rv.length.symm
    rw [e] at D
    refine ⟨_, _, D, ⟨st, p⟩, fun k v hk => ?_⟩
    have hk' : its[k]? = some v := by simpa using hk
    have hlt : k < vs.length := by rw [rv.length]; exact (List.getElem?_eq_some_iff.mp hk').1
    obtain ⟨u, hu, ru⟩ := rv.get (List.getElem?_eq_getElem hlt)
    rw [hk'] at hu; cases hu
    exact ⟨_, List.getElem?_eq_getElem hlt, ru⟩
  | text x t =>
    have hv : vs = signsV x := hi
    have D := Draws.text (prog := X.prog) (w := X.w) (A := B) hB it x t
    have e : x.cps.size = vs.length := by rw [hv]; unfold signsV; simp
    rw [e] at D
    exact ⟨_, _, D, st, fun k v ⟨c, u, h1, h2⟩ => ⟨.str ⟨#[c]⟩, by rw [hv]; exact strIter_get h1, u, h2⟩⟩
/-- many new objects laid at once -/
theorem inv_many {H' : Hp} (I : Inv X pins σ H s) (hk : ∀ b o, s.heap.get? b = some o → h'.get? b = some o) (hn : ∀ b, H' b = H b ∨ (s.heap.objs.size ≤ b ∧ ∀ u, H' b = some u → ObjOk X.prog X.w H' h' b u)) : Inv X pins σ H' { s with heap := h', toks := tk } := by
  have low : ∀ b o, s.heap.get? b = some o → H' b = H b := fun b o e => by
    rcases hn b with q | ⟨q, _⟩
    · exact q
    · exact absurd (Heap.lt_size e) (Nat.not_lt.mpr q)
  have kp : ∀ b u, H b = some u → H' b = some u := fun b u e => by
    rcases hn b with q | ⟨q, _⟩
    · rw [q]; exact e
    · rw [I.hok.fresh q] at e; cases e
  refine I.call' (ch := []) rfl ⟨fun b o q _ _ _ => hk b o q, fun b o q _ _ _ => ⟨o.slots, hk b o q⟩, fun b o q n _ => ?_, fun b o q _ => ⟨o, hk b o q⟩, fun b xs q => kp b _ q, fun b o u q => kp b _ q, fun b ps q => ⟨#[], by rw [kp b _ q]; simp⟩⟩ (fun b u q => ?_) I.bare fun b z => by simp at z
  · rw [low b o q]; exact n
  · rcases hn b with z | ⟨_, z⟩
    · rw [z] at q
      exact (I.hok b u q).stay (fun d v _ y => hk d v y) (fun d y => kp d _ y) fun d xs y => kp d _ y
    · exact z u q
end
/-- the tuples and the list that hold them -/
def putZ (H : Hp) (S : Addr) : List Addr → List (V × V) → Hp
  | T :: Ts, p :: ps => upd (putZ H S Ts ps) T (.tup [p.1, p.2])
  | _, _ => H
theorem putZ_off {H : Hp} {S : Addr} {b : Addr} : ∀ {Ts : List Addr} {ps : List (V × V)}, b ∉ Ts → putZ H S Ts ps b = H b
  | [], ps, h => by unfold putZ; rfl
  | T :: Ts, [], h => by unfold putZ; rfl
  | T :: Ts, p :: ps, h => by
    unfold putZ
    rw [upd_ne (fun z => h (by simp [z])), putZ_off fun z => h (List.mem_cons_of_mem _ z)]
theorem putZ_at {H : Hp} {S : Addr} : ∀ {Ts : List Addr} {ps : List (V × V)} {j : Nat} {T : Addr} {p : V × V}, Ts.Nodup → Ts[j]? = some T → ps[j]? = some p → putZ H S Ts ps T = some (.tup [p.1, p.2])
  | [], ps, j, T, p, _, h, _ => by simp at h
  | T0 :: Ts, [], j, T, p, _, _, h => by simp at h
  | T0 :: Ts, p0 :: ps, 0, T, p, hn, h, h2 => by
    simp at h h2
    subst h h2
    unfold putZ
    rw [upd_same]
  | T0 :: Ts, p0 :: ps, j + 1, T, p, hn, h, h2 => by
    have hn' := List.nodup_cons.mp hn
    have h : Ts[j]? = some T := by simpa using h
    unfold putZ
    rw [upd_ne (fun z => hn'.1 (by rw [← z]; exact List.mem_of_getElem? h))]
    exact putZ_at hn'.2 h (by simpa using h2)
theorem Bag.keep {c : Rc} {H H' : Hp} (b : Bag c H) (k : ∀ b o, H b = some o → H' b = some o) : Bag c H' := by
  obtain ⟨ne, b0, b1, b2, ns, h0, h1, h2, h3, h4, h5, hA, hL, hT⟩ := b
  exact ⟨ne, b0, b1, b2, ns, h0, h1, h2, h3, h4, h5, k _ _ hA, k _ _ hL, LamX.Tabs.ext hT k⟩
theorem RVs.by_get {c : Rc} {O : Od} {H : Hp} : ∀ {ds : List D} {vs : List V}, ds.length = vs.length → (∀ (j : Nat) (d : D), ds[j]? = some d → ∃ v, vs[j]? = some v ∧ RV c O H d v) → RVs c O H ds vs
  | [], [], _, _ => .nil
  | [], _ :: _, h, _ => by cases h
  | _ :: _, [], h, _ => by cases h
  | d :: ds, v :: vs, h, k => by
    obtain ⟨v', e, r⟩ := k 0 d rfl
    cases e
    exact .cons r (RVs.by_get (Nat.succ.inj h) fun j d' hj => k (j + 1) d' (by simpa using hj))
theorem vals_refs' : ∀ as : List Addr, Vals (as.map V.ref) (as.map Value.ref)
  | [] => .nil
  | _ :: as => .cons rfl (vals_refs' as)
section
variable {X : Cx} {W : WX} {m : Md} {A : Addr} {L : LT} {Hz : Hp} {O O0 : Od} {gh : Gh} {ρ : EnvD} {σ : St} {H H' H1 : Hp} {Ed : Exc → Prop} {K : SEnds} {Dn : Ends} {pos spos : Pos}
def mListZip (ma mb : ME) : ME := fun ρ Q E => ma ρ (fun x => mb ρ (fun y => Opt (seqD x) fun as => Opt (seqD y) fun bs => Q (.lst (zipD as bs))) E) E
theorem de_listzip {e e2 : Expr} {p p2 pos2 : Pos} {ma mb : ME} (hc : X.calm = true) (hgl : Gl X "list") (hml : X.mg "list" = none) (hg : Gl X "zip") (hm : X.mg "zip" = none) (ha : DE X W .vl e ma) (hb : DE X W .vl e2 mb)
    (na : starEach [.Call (.Name "zip" p2) [e, e2] [] pos2] X.env = (false, eval (.Call (.Name "zip" p2) [e, e2] [] pos2) X.env) :: starEach [] X.env)
    (hs : starEach [e, e2] X.env = (false, eval e X.env) :: starEach [e2] X.env) (hs2 : starEach [e2] X.env = (false, eval e2 X.env) :: starEach [] X.env) (hpl : (backTo pos2 (starEach [e2] X.env)).any (·.1) = false) :
    DE X W m (.Call (.Name "list" p) [.Call (.Name "zip" p2) [e, e2] [] pos2] [] pos) (mListZip ma mb) := by
  refine .mk fun pins s σ H A L Hz O ρ Qd Ed I S hmm hE => ?_
  refine Call_ (ld_blt I hgl hml boot_list (PyProof.Rows.callWith_type1 (args_cons ?_ na) na))
  refine Call_ (ld_blt I hg hm PyProof.Rows.boot_zip (PyProof.Rows.callWith_type1 (thn ((pa_cons ha (pa_cons hb pa_nil hs2) hs).run pos2 pins s σ H (fun vs H1 => ∃ v d v2 d2, vs = [v, v2] ∧ SE (rc X A L) Hz O ρ σ H1 ∧ Ex (rc X A L) H H1 ∧ RV (rc X A L) O H1 d v ∧ RV (rc X A L) O H1 d2 v2 ∧ Opt (seqD d) fun as => Opt (seqD d2) fun bs => Qd (.lst (zipD as bs))) I
    (tE.go S hmm hE fun d v H1 q S1 x1 r1 => tE.go S1 q hE fun d2 v2 H2 q2 S2 x2 r2 => ⟨v, d, v2, d2, rfl, S2, x1.trans x2, RV.kp r1 (x2.kp S2.oA), r2, q2⟩)) fun us s1 ⟨vs, H1, I1, r1, q1⟩ => ?_) hs hpl))
  obtain ⟨v, d, v2, d2, rfl, S1, x1, m1, m2, as, e1, bs, e2', q⟩ := q1
  obtain ⟨u, u2, rfl, rv, rv2⟩ := L2.vals2 r1
  have rb1 : RB (rc X A L) O H1 d v := RV.rb S1.oA m1
  have rb2 : RB (rc X A L) O H1 d2 v2 := RV.rb S1.oA m2
  obtain ⟨sa, rfl, hsa⟩ := rb_src (c := rc X A L) (pins := pins) (s := s1) rb1 rv e1
  obtain ⟨sb, rfl, hsb⟩ := rb_src (c := rc X A L) (pins := pins) (s := s1) rb2 rv2 e2'
  obtain ⟨ws, hi, hlen, hget⟩ := hsa O H1 S1.oA rb1
  have hlim := src_len (c := rc X A L) I1 hi (src_text (rb_text rb1 rv))
  obtain ⟨ws2, hi2, hlen2, hget2⟩ := hsb O H1 S1.oA rb2
  obtain ⟨Ha, Ba, hBa⟩ := Sc.begins I1 hi
  obtain ⟨Hb, Bb, hBb⟩ := Sc.begins I1 hi2
  refine zip_begins2 Ba Bb hBa hBb fun h' hz hTI hTO hit1 hit2 hsz hk => args_nil ?_
  have I2 : Inv X pins σ H1 { s1 with heap := h' } := I1.kept (t' := s1.toks) hk
  have hB : X.A.in1.in1.in1.handled = none := I1.ok.hd hc
  have la := Sc.ltItems I1 hi
  have lb := Sc.ltItems I1 hi2
  have na1 : s1.heap.objs.size ∉ sa.at? := fun z => Nat.lt_irrefl _ (la _ z)
  have nb1 : s1.heap.objs.size + 1 ∉ sb.at? := fun z => Nat.not_succ_lt_self (lb _ z)
  obtain ⟨P1, T1, D1, st1, hP1⟩ := Sc.drawsB X.A.in1.in1.in1 hB I2 hi (Sc.st0 hit1) na1
  obtain ⟨P2, T2, D2, st2, hP2⟩ := Sc.drawsB X.A.in1.in1.in1 hB I2 hi2 (Sc.st0 hit2) nb1
  refine call_list_zip (A := X.A) (s := { s1 with heap := h' }) (zip_sep2 la lb) D1 D2 (by have := hlim; rw [lim_eq] at this; exact Nat.le_trans (Nat.min_le_left _ _) this) (fun b hb => ?_) hz hTI ⟨_, _, hTO⟩ st1 st2 fun h2 tk2 acc c2 hk2 hS2 hacc => ?_
  · show b < h'.objs.size
    rw [hsz]
    have low : b < s1.heap.objs.size ∨ b = s1.heap.objs.size + 4 ∨ b = s1.heap.objs.size + 2 ∨ b = s1.heap.objs.size + 3 ∨ b = s1.heap.objs.size ∨ b = s1.heap.objs.size + 1 := by
      simp only [List.mem_cons, List.mem_append] at hb
      rcases hb with z | z | z | z | z | (z | z) | (z | z)
      · exact .inr (.inl z)
      · exact .inr (.inr (.inl z))
      · exact .inr (.inr (.inr (.inl z)))
      · exact .inr (.inr (.inr (.inr (.inl z))))
      · exact .inr (.inr (.inr (.inr (.inr z))))
      · exact .inr (.inr (.inr (.inr (.inl z))))
      · exact .inl (la _ z)
      · exact .inr (.inr (.inr (.inr (.inr z))))
      · exact .inl (lb _ z)
    rcases low with z | z | z | z | z | z
    · exact Nat.lt_of_lt_of_le z (Nat.le_add_right _ _)
    all_goals rw [z]; first | exact Nat.lt_add_of_pos_right (by decide) | exact Nat.add_lt_add_left (by decide) _
  · have hS2 : h2.get? h'.objs.size = some { cls := .type "list", dict := none, data := .seq acc c2, slots := #[] } := hS2
    have hacc : ZAcc (s1.heap.objs.size + 4) (s1.heap.objs.size + 3) s1.heap.objs.size (s1.heap.objs.size + 1) h'.objs.size (h'.objs.size + 1) P1 P2 (min ws.length ws2.length) h2 acc := hacc
    have hk2 : ∀ b o, b ≠ s1.heap.objs.size + 4 → b ≠ s1.heap.objs.size + 3 → b ≠ s1.heap.objs.size → b ≠ s1.heap.objs.size + 1 → h'.get? b = some o → h2.get? b = some o := hk2
    show ∃ v H1 d, L2.Inv X pins σ H1 { s1 with heap := h2, toks := tk2 } ∧ L2.RelV v (Value.ref h'.objs.size) ∧ Ex (rc X A L) H H1 ∧ Bag (rc X A L) H1 ∧ RM m (rc X A L) O H H1 d v ∧ Qd d
    have hNS : s1.heap.objs.size ≤ h'.objs.size := by rw [hsz]; exact Nat.le_add_right _ _
    generalize hSL : h'.objs.size = SL at hS2 hacc hNS
    obtain ⟨Ts, t1, t2, t3, t4, t5⟩ := hacc
    have old : ∀ b o, s1.heap.get? b = some o → h2.get? b = some o := fun b o e => by
      have hlt : b < s1.heap.objs.size := Heap.lt_size e
      exact hk2 b o (Nat.ne_of_lt (Nat.lt_of_lt_of_le hlt (Nat.le_add_right _ _))) (Nat.ne_of_lt (Nat.lt_of_lt_of_le hlt (Nat.le_add_right _ _))) (Nat.ne_of_lt hlt) (Nat.ne_of_lt (Nat.lt_of_lt_of_le hlt (Nat.le_add_right _ _))) (hk b o e)
    have nSL : SL ∉ Ts := fun z => (t4 _ z).2.2.2.2.2 rfl
    have newS : H1 SL = none := I1.hok.fresh hNS
    have newT : ∀ T ∈ Ts, s1.heap.objs.size ≤ T := fun T hT => Nat.le_trans hNS (Nat.le_of_lt (t4 T hT).1)
    let ps := ws.zip ws2
    let H2 : Hp := upd (putZ H1 SL Ts ps) SL (.lst (Ts.map V.ref))
    have atS : H2 SL = some (.lst (Ts.map V.ref)) := upd_same
    have off : ∀ b, b ≠ SL → b ∉ Ts → H2 b = H1 b := fun b h1 h2 => by
      show upd _ _ _ _ = _
      rw [upd_ne h1, putZ_off h2]
    have keep : ∀ b o, H1 b = some o → H2 b = some o := fun b o e => by
      rw [off b (fun z => by rw [z, newS] at e; cases e) fun z => by rw [I1.hok.fresh (newT _ z)] at e; cases e]
      exact e
    have tj : ∀ (j : Nat) (T : Addr), Ts[j]? = some T → ∃ x y x' y', ws[j]? = some x ∧ ws2[j]? = some y ∧ RelV x x' ∧ RelV y y' ∧ IsTupOf2 h2 T x' y' ∧ H2 T = some (.tup [x, y]) := fun j T hj => by
      obtain ⟨x', y', p1, p2, hT⟩ := t5 j T hj
      obtain ⟨x, hx, rx⟩ := hP1 j x' p1
      obtain ⟨y, hy, ry⟩ := hP2 j y' p2
      refine ⟨x, y, x', y', hx, hy, rx, ry, hT, ?_⟩
      have hp : ps[j]? = some (x, y) := by
        show (ws.zip ws2)[j]? = _
        rw [List.getElem?_zip_eq_some]
        exact ⟨hx, hy⟩
      have nT : T ≠ SL := fun z => nSL (by rw [← z]; exact List.mem_of_getElem? hj)
      show upd _ _ _ _ = _
      rw [upd_ne nT]
      exact putZ_at t3 hj hp
    have I3 : Inv X pins σ H2 { s1 with heap := h2, toks := tk2 } := inv_many I1 old fun b => by
      by_cases h1 : b = SL
      · subst h1
        refine .inr ⟨hNS, fun u hu => ?_⟩
        rw [atS] at hu; cases hu
        refine ⟨?_, acc.toList, c2, by rw [t1]; exact vals_refs' Ts, by rw [Array.toArray_toList]; exact hS2⟩
        rw [List.length_map, t2]
        have := hlim; rw [lim_eq] at this
        exact Nat.le_trans (Nat.min_le_left _ _) this
      · by_cases h3 : b ∈ Ts
        · refine .inr ⟨newT b h3, fun u hu => ?_⟩
          obtain ⟨j, hj⟩ := List.getElem?_of_mem h3
          obtain ⟨x, y, x', y', _, _, rx, ry, hT, hH⟩ := tj j b hj
          rw [hH] at hu; cases hu
          exact ⟨by show 2 ≤ sizeLine; decide, [x', y'], .cons rx (.cons ry .nil), ⟨_, hT, rfl, _, rfl⟩⟩
        · exact .inl (off b h1 h3)
    have nO : ¬ O SL := oNew S1 newS
    have ex2 : Ex (rc X A L) H1 H2 := fun b o e _ => keep b o e
    have oo : ∀ b, (O b ∨ b = SL) → O b ∨ H1 b = none := fun b z => z.imp id fun e => by rw [e]; exact newS
    have kpO : Kp O H1 H2 := fun b o e _ => keep b o e
    refine ⟨.ref SL, H2, .lst (zipD as bs), I3, rfl, x1.trans ex2, S1.bag.keep keep, RF.rm S.oA (RF.back ⟨SL, Ts.map V.ref, rfl, nO, newS, atS, RVs.by_get ?_ fun j dd hj => ?_⟩ x1 S.oA), q⟩
    · rw [List.length_map, t2, zipD_length, hlen, hlen2]
    · obtain ⟨a', b', ha', hb', rfl⟩ := zipD_get hj
      obtain ⟨x, hx, rx⟩ := hget j a' ha'
      obtain ⟨y, hy, ry⟩ := hget2 j b' hb'
      have hjl : j < Ts.length := by
        rw [t2]
        exact Nat.lt_min.mpr ⟨(List.getElem?_eq_some_iff.mp hx).1, (List.getElem?_eq_some_iff.mp hy).1⟩
      have hT := List.getElem?_eq_getElem hjl
      obtain ⟨x0, y0, _, _, hx0, hy0, _, _, _, hH⟩ := tj j _ hT
      rw [hx] at hx0; cases hx0
      rw [hy] at hy0; cases hy0
      refine ⟨.ref (Ts[j]), by rw [List.getElem?_map, hT]; rfl, mk_tup hH (RVs.cons (RV.go kpO oo _ _ rx) (.one (RV.go kpO oo _ _ ry)))⟩
end
end Ev

/-! Ev30: what the top has laid, for the end of a claim. -/
namespace Ev
open PySem PySem.Spec L2
open PyProof.Rows hiding St
open EvX (Er ErB1)
section
variable {K : PySem.W.Frag} {h : Heap} {mg : Str → Option Value}
/-- an error of a class is of this class -/
theorem exm_me {S : Addr} (h1 : PySem.W.subIn K (.ref S) (.type "BaseException") = some true) (h2 : PySem.W.isClsIn K S = true) (h3 : PySem.W.typeIn K (.ref S) = some (.type "type")) (h4 : PySem.W.subIn K (.ref S) (.ref S) = some true) : PySem.W.exmOne K (.ref S) (.ref S) = some true := by
  have k2 : (PySem.W.clsIn K S).isSome = true := h2
  have g : PySem.W.kitCls K (.ref S) (.ref S) = some true := by
    simp [PySem.W.kitCls, k2, h3, h4]
  simp [PySem.W.exmOne, h1, g]
/-- a def of the text, as it stands at the head -/
structure FnK (K : PySem.W.Frag) (g x : Str) (st : Stmt) : Prop where
  ex : ∃ (f : Addr) (oc kV doc pm cdv ct : Value) (od an : Option Addr) (osl : Array (Option Value)), PySem.W.nsIn K mainGlobals g = some (some (.ref f)) ∧ K.lookup f = some ⟨oc, od, .func (PySem.W.fnOf x x (defArgs st) (defBody st) (defScope st) .none kV doc pm an cdv ct), osl⟩ ∧
    PySem.W.codeIn K cdv x = true ∧ PySem.W.keepIn K (.ref f) = true
theorem fnk_mk {g x : Str} {st : Stmt} {f : Addr} {oc kV doc pm cdv ct : Value} {od an : Option Addr} {osl : Array (Option Value)} (a : PySem.W.nsIn K mainGlobals g = some (some (.ref f)))
    (l : K.lookup f = some ⟨oc, od, .func (PySem.W.fnOf x x (defArgs st) (defBody st) (defScope st) .none kV doc pm an cdv ct), osl⟩) (c : PySem.W.codeIn K cdv x = true) (k : PySem.W.keepIn K (.ref f) = true) : FnK K g x st :=
  ⟨f, oc, kV, doc, pm, cdv, ct, od, an, osl, a, l, c, k⟩
theorem FnK.fn {g x : Str} {st : Stmt} (F : FnK K g x st) (X : K.In h) (G : h.Ns mainGlobals mg) : ∃ f fd, Fun K x x st f fd ∧ mg g = some (.ref f) := by
  obtain ⟨f, oc, kV, doc, pm, cdv, ct, od, an, osl, a, l, c, k⟩ := F.ex
  exact ⟨f, _, fun_mk l c k, PySem.W.mg_of X G a⟩
/-- the built-in names that the top stores nothing under -/
structure BiK (K : PySem.W.Frag) : Prop where
  len : PySem.W.nsIn K mainGlobals "len" = some none
  range : PySem.W.nsIn K mainGlobals "range" = some none
  tuple : PySem.W.nsIn K mainGlobals "tuple" = some none
  list : PySem.W.nsIn K mainGlobals "list" = some none
  int : PySem.W.nsIn K mainGlobals "int" = some none
  bool : PySem.W.nsIn K mainGlobals "bool" = some none
  str : PySem.W.nsIn K mainGlobals "str" = some none
  dict : PySem.W.nsIn K mainGlobals "dict" = some none
  set : PySem.W.nsIn K mainGlobals "set" = some none
  isinstance : PySem.W.nsIn K mainGlobals "isinstance" = some none
  sorted : PySem.W.nsIn K mainGlobals "sorted" = some none
  enumerate : PySem.W.nsIn K mainGlobals "enumerate" = some none
  zip : PySem.W.nsIn K mainGlobals "zip" = some none
  all : PySem.W.nsIn K mainGlobals "all" = some none
  any : PySem.W.nsIn K mainGlobals "any" = some none
  sum : PySem.W.nsIn K mainGlobals "sum" = some none
  min : PySem.W.nsIn K mainGlobals "min" = some none
  max : PySem.W.nsIn K mainGlobals "max" = some none
  abs : PySem.W.nsIn K mainGlobals "abs" = some none
  repr : PySem.W.nsIn K mainGlobals "repr" = some none
theorem bi_of (X : K.In h) (G : h.Ns mainGlobals mg) (z : BiK K) : Bi mg :=
  ⟨PySem.W.mg_none_of X G z.len, PySem.W.mg_none_of X G z.range, PySem.W.mg_none_of X G z.tuple, PySem.W.mg_none_of X G z.list, PySem.W.mg_none_of X G z.int, PySem.W.mg_none_of X G z.bool, PySem.W.mg_none_of X G z.str, PySem.W.mg_none_of X G z.dict, PySem.W.mg_none_of X G z.set, PySem.W.mg_none_of X G z.isinstance, PySem.W.mg_none_of X G z.sorted, PySem.W.mg_none_of X G z.enumerate, PySem.W.mg_none_of X G z.zip, PySem.W.mg_none_of X G z.all, PySem.W.mg_none_of X G z.any, PySem.W.mg_none_of X G z.sum, PySem.W.mg_none_of X G z.min, PySem.W.mg_none_of X G z.max, PySem.W.mg_none_of X G z.abs, PySem.W.mg_none_of X G z.repr⟩
/-- an own error class of one field, as it stands at the head -/
theorem erc_mk [Tbl] {P : Program} {nm f qual q : Str} {C fI cda cc N : Addr} {bs bm : List Value} {sn : List Str} {sub : List Value} {ab : Bool} {col : Option Bool} {dd od an cdd cld : Option Addr} {k0 k1 k2 k3 k5 : Option Value} {oc kV doc pm ct ccl cl : Value} {osl ccs csl : Array (Option Value)} {vs : Array Value} {file : Str} {tf : Tok} {params : Arguments} {body : List Stmt} {sc : Scope}
    (X : K.In h) (G : h.Ns mainGlobals mg) (aC : PySem.W.nsIn K mainGlobals nm = some (some (.ref C))) (xL : K.lookup C = some (excClassObj nm q C N bs bm true sn sub ab col dd k0 k1 k2 k3 k5 "ValueError.__new__")) (rf : PySem.HandSPX.refsVE bm = true)
    (sa : PySem.W.findIn K (.ref C) "__setattr__" = some (some (.builtin "object.__setattr__"))) (nb : PySem.W.findIn K (.ref C) f = some none) (iC : PySem.W.findIn K (.ref C) "__init__" = some (some (.ref fI))) (tC : PySem.W.typeIn K (.ref fI) = some (.type "function"))
    (l1 : K.lookup fI = some ⟨oc, od, .func (PySem.W.ksFn "__init__" qual params body sc .none kV doc pm an (.ref cda) ct cc), osl⟩) (c1 : PySem.W.codeIn K (.ref cda) qual = true) (l2 : K.lookup cda = some ⟨ccl, cdd, .fields vs, ccs⟩) (v2 : vs[2]? = some (.str file tf)) (fl : ((P.main.file : Str) == file) = true)
    (l3 : K.lookup cc = some ⟨cl, cld, .cell (some (.ref C)), csl⟩) (sup : PySem.W.ks_superIn K C C "__init__" = some (some (.builtin "ValueError.__init__"))) (suV : PySem.W.subIn K (.ref C) (.type "ValueError") = some true) (suC : PySem.W.mroIn K C (.ref C) = some true)
    (opq : PySem.W.nsIn K cStatics "thirdparty.any" = some none) (sp : PySem.W.nsIn K mainGlobals "super" = some none) (top : (P.main.scope.names.lookup ("super" : Str)).isSome = false) (kC : PySem.W.keepIn K (.ref C) = true) (eC : PySem.W.subIn K (.ref C) (.type "BaseException") = some true)
    (ty : PySem.W.typeIn K (.ref C) = some (.type "type")) (B : ErB1 qual params body sc f) : ErC P K mg nm f :=
  ⟨C, fI, cda, cc, qual, params, body, sc, PySem.W.mg_of X G aC,
    { cls := ⟨nm, q, N, bs, bm, sn, sub, ab, col, dd, k0, k1, k2, k3, k5, xL, rf⟩, sa := sa, noN := List.forall_mem_singleton.mpr nb, iC := iC, tC := tC, fn := ⟨oc, od, kV, doc, pm, an, ct, osl, l1, c1⟩, cod := ⟨ccl, cdd, vs, ccs, file, tf, l2, v2, fl⟩, cel := ⟨cl, cld, csl, l3⟩, sup := sup, suV := suV, suC := suC,
      opq := opq, sp := PySem.W.mg_none_of X G sp, top := top }, B, kC, eC, ty⟩
theorem hd_of [Tbl] {x nm fld told refd a : Str} {st : Stmt} {CS : Addr} {Ng : List Str} (F : FnK K x x st) (X : K.In h) (G : h.Ns mainGlobals mg) (aC : PySem.W.nsIn K mainGlobals nm = some (some (.ref CS))) (Sc : FnScope Ng [a] (defScope st)) (h0 : Ng[0]? = some a) (hva : Vis (defScope st) a)
    (had : (a == ("__debug__" : Str)) = false) (hac : (a == ("__classdict__" : Str)) = false) (bd : ∀ (f : Addr) (fd : FuncData), Fun K x x st f fd → L2.Binds K fd [a] [])
    (hg : ∀ (X : Cx) (q : Str) (g : Addr) (cdv : Value), X.K = K → X.mg = mg → LamX.GivesTo X Ng x (defScope st) g cdv (defBody st) a q (TTheard CS told refd fld)) : Hd K mg x nm fld told refd := by
  obtain ⟨f, oc, kV, doc, pm, cdv, ct, od, an, osl, a', l, c, k⟩ := F.ex
  exact ⟨f, CS, _, _, _, .none, kV, doc, pm, cdv, ct, oc, an, od, osl, Ng, a, PySem.W.mg_of X G a', PySem.W.mg_of X G aC, k, l, c, bd _ _ (fun_mk l c k), Sc, h0, hva, had, hac, fun X q hK hm => hg X q f cdv hK hm⟩
/-- the law's own code object and its table -/
theorem lawAt [Tbl] {l : PySem.W.OpenLaw} {w : World} {k : Nat} {f c P : Addr} {fa : Addr} {params : Arguments} {body : List Stmt} {scope : Scope} {oc kV doc pm ct e : Value} {od an dd : Option Addr} {osl sl : Array (Option Value)} {vs : Array Value}
    (X : K.In h) (G : h.Ns mainGlobals mg) (hfa : mg "law" = some (.ref fa)) (own : LamX.OwnTab K fa h) (a : PySem.W.nsIn K mainGlobals "law" = some (some (.ref f)))
    (lk : K.lookup f = some ⟨oc, od, .func (PySem.W.fnOf "law" "law" params body scope .none kV doc pm an (.ref c) ct), osl⟩) (kc : K.lookup c = some ⟨e, dd, .fields vs, sl⟩) (v11 : vs[11]? = some (.ref P)) (nP : K.lookup P = none) (ch : PySem.W.codeHdIn K c P = true)
    (hb : ∀ (s : Shared) (u : Value), BindsTo s (PySem.W.fnOf "law" "law" params body scope .none kV doc pm an (.ref c) ct) ⟨[u], []⟩ [("script", u)]) (tt : Tbl.tt = [(P, ("law" : Str) ++ ".<locals>." ++ "<lambda>")])
    (F : ∀ base : Heap, K.In base → base.Ns mainGlobals mg → Lm base mg (.ref c) (("law" : Str) ++ ".<locals>.") → FnOk l.prog w K mg base (L2.CX l.prog w) k f (PySem.W.fnOf "law" "law" params body scope .none kV doc pm an (.ref c) ct) ["script"] (spL K)) :
    LamX.LawAtS l w K (L2.CX l.prog w) k 63 "script" mg fa h := by
  have hm := PySem.W.mg_of X G a
  rw [hfa] at hm
  cases hm
  refine ⟨_, [(c, P)], spL K, fun p hp => ?_, fun p hp => ?_, fun p hp => ?_, hb, fun H a ns hl hbits hT hS => ⟨a, ns, rfl, hS, hl, fun p hp => ?_, fun _ => rfl⟩, fun base hK hG hTB => F base hK hG ⟨c, P, rfl, hTB (c, P) (by simp), by rw [tt]; exact List.mem_singleton.mpr rfl, fun p hp _ => ?_⟩⟩
  · obtain rfl : p = (c, P) := by simpa using hp
    exact own c P _ _ e dd vs sl lk rfl rfl kc v11
  · obtain rfl : p = (c, P) := by simpa using hp
    exact nP
  · obtain rfl : p = (c, P) := by simpa using hp
    exact PySem.W.codeHd_of_K X ch
  · rw [tt] at hp
    obtain rfl : p = (P, ("law" : Str) ++ ".<locals>." ++ "<lambda>") := List.mem_singleton.mp hp
    exact LamX.TabS.nil (hT (c, P) (by simp))
  · rw [tt] at hp
    obtain rfl : p = (P, ("law" : Str) ++ ".<locals>." ++ "<lambda>") := List.mem_singleton.mp hp
    rfl
end
end Ev

/-! EvX8: the facts of `_law_asked`. -/
namespace Ev
open PySem PySem.Spec L2
open PyProof.Rows hiding St
section
variable {K : PySem.W.Frag} {h : Heap} {mg : Str → Option Value}
theorem exm_no {S N : Addr} (h1 : PySem.W.subIn K (.ref N) (.type "BaseException") = some true) (h2 : PySem.W.isClsIn K N = true) (h3 : PySem.W.typeIn K (.ref N) = some (.type "type")) (h4 : PySem.W.subIn K (.ref S) (.ref N) = some false) : PySem.W.exmOne K (.ref S) (.ref N) = some false := by
  have k2 : (PySem.W.clsIn K N).isSome = true := h2
  have g : PySem.W.kitCls K (.ref S) (.ref N) = some false := by
    simp [PySem.W.kitCls, k2, h3, h4]
  simp [PySem.W.exmOne, h1, g]
theorem exm_any2 {cls c1 c2 : Value} {b : Bool} (h1 : PySem.W.exmOne K cls c1 = some b) (h2 : PySem.W.exmOne K cls c2 = some true) : PySem.W.exmAny K cls [c1, c2] = some true := by
  simp [PySem.W.exmAny, h1, h2]
theorem ak_of [Tbl] {x nm fld a : Str} {st : Stmt} {CS : Addr} {Ng : List Str} (F : FnK K x x st) (X : K.In h) (G : h.Ns mainGlobals mg) (aC : PySem.W.nsIn K mainGlobals nm = some (some (.ref CS))) (Sc : FnScope Ng [a] (defScope st)) (h0 : Ng[0]? = some a) (hva : Vis (defScope st) a)
    (had : (a == ("__debug__" : Str)) = false) (hac : (a == ("__classdict__" : Str)) = false) (bd : ∀ (f : Addr) (fd : FuncData), Fun K x x st f fd → L2.Binds K fd [a] [])
    (hg : ∀ (X : Cx) (q : Str) (g : Addr) (cdv : Value), X.K = K → X.mg = mg → LamX.GivesTo X Ng x (defScope st) g cdv (defBody st) a q (TTasked CS fld)) : Ak K mg x nm fld := by
  obtain ⟨f, oc, kV, doc, pm, cdv, ct, od, an, osl, a', l, c, k⟩ := F.ex
  exact ⟨f, CS, _, _, _, .none, kV, doc, pm, cdv, ct, oc, an, od, osl, Ng, a, PySem.W.mg_of X G a', PySem.W.mg_of X G aC, k, l, c, bd _ _ (fun_mk l c k), Sc, h0, hva, had, hac, fun X q hK hm => hg X q f cdv hK hm⟩
end
end Ev

/-! Ev33: tables of defs; a def that promises nothing. -/
namespace Ev
open PySem PySem.Spec L2
open PyProof.Rows hiding St
variable [Tbl]
section
variable {P : Program} {w : World} {K : PySem.W.Frag} {mg : Str → Option Value} {base : Heap}
theorem Df.mono {j k : Nat} {x : Str} {S : FS} (G : Df P w K mg base j x S) (h : j ≤ k) : Df P w K mg base k x S := by
  obtain ⟨f, fd, ps, F, r⟩ := G.ex
  exact ⟨f, fd, ps, F.mono h, r⟩
theorem dfT_nil {k : Nat} : DfT P w K mg base k [] := ⟨fun g S h => by cases h⟩
theorem dfT_cons {j k : Nat} {x : Str} {S : FS} {T : Tb} (G : Df P w K mg base j x S) (h : j ≤ k) (GT : DfT P w K mg base k T) : DfT P w K mg base k ((x, S) :: T) := ⟨fun g S' hm => by
  rcases List.mem_cons.mp hm with e | hm
  · cases e; exact G.mono h
  · exact GT.all g S' hm⟩
theorem df_false {k : Nat} {x : Str} {f : Addr} {fd : FuncData} {ps : List Str} {S : FS} (hf : mg x = some (.ref f)) (hk : PySem.W.keepIn K (.ref f) = true) (hb : Binds K fd ps []) (hS : ∀ ds Q E, S ds Q E → False) : Df P w K mg base k x S := by
  have no : ∀ vs H Q E, spOf K mg S vs H Q E → False := fun vs H Q E h => by
    unfold spOf at h
    obtain ⟨A, L, O, ds, Qd, Ed, h⟩ := h
    grind
  exact ⟨f, fd, ps, ⟨fun vs H Q E h => (no _ _ _ _ h).elim, fun A outer s H args us vs Q E hr he hb hv h => (no _ _ _ _ h).elim⟩, hf, hk, hb⟩
end
end Ev

/-! EvG: the law's own call, where it is known that no repr is under way. -/
namespace Ev
open PySem PySem.Spec L2
open PyProof.Rows hiding St
section
variable {P : Program} {w : World} {K : PySem.W.Frag} {mg : Str → Option Value} {base : Heap}
/-- the law's call, entered from the claim's caller -/
theorem enterG {CX : CXT} {k : Nat} {f : Addr} {name qual : Str} {prm : Arguments} {body : List Stmt} {scope : Scope} {dV kV doc pm cdv ct oc : Value} {an od : Option Addr} {osl : Array (Option Value)} {N : List Str} {s : Shared} {H : Hp} {v : V} {u : Value} {Q : VK} {E : XK} {args : Args} {x : Str}
    (lk : K.lookup f = some ⟨oc, od, .func (PySem.W.fnOf name qual prm body scope dV kV doc pm an cdv ct), osl⟩) (cr : PySem.W.codeIn K cdv qual = true) (Sc : FnScope N [x] scope) (e0 : Env0 P w K mg base callerA [] s H) (room : Room (k + 1) callerA)
    (bd : BindsTo s (PySem.W.fnOf name qual prm body scope dV kV doc pm an cdv ct) args [(x, u)]) (rv : Vals [v] [u])
    (go : ∃ t, PSs (cxOf CX P w K mg base N qual scope f cdv callerA [] s H E) body t ∧ t { nx := fun _ H' => Q .non H', rt := Q } (start N [v]) H) : codeAny (model P w) callerA (.call (.ref f) args) (CR CX [] P w H s Q E) s := by
  have kin : K.In s.heap := e0.mod.kin.keeps fun b o z => (e0.bs b o z).1
  have nol : s.heap.NoLimit := e0.mod.nolimit.keeps fun b o z => (e0.bs b o z).1
  refine codeAny_call_function room.depth (kin _ _ lk) rfl Sc.co Sc.gen rfl (PySem.W.codeRec_of kin cr) (bd _ _ _ _ (wpAny_newFunctionEnv_cells Sc.kind (fun y hy => ?_) fun env he s1 ic => ?_))
  · obtain rfl : y = (x, u) := by simpa using hy
    exact (Sc.par x (by simp)).imp id fun q => ⟨q, PySem.W.cellsFrom_some _ _ _ (.inl q)⟩
  · subst he
    obtain ⟨t, ht, hq⟩ := go
    have J0 : Inv (cxOf CX P w K mg base N qual scope f cdv callerA [] s H E) [] (start N [v]) H s1 := inv_start (us := [u]) Sc room.hd e0 rfl rv ic
    refine ⟨nol.keeps ic.toInCall.keep, codeAny_func (wpAny_mono (ht.run [] s1 (start N [v]) H _ J0 hq) (fun fl s' hs => ?_) fun e s' hs => hs)⟩
    cases fl with
    | ret u' => obtain ⟨v', σ', H', J, rv', q⟩ := hs; exact ⟨v', H', J.os, J.bare, J.base, J.hok, rv', q⟩
    | next => obtain ⟨σ', H', J, q⟩ := hs; exact ⟨V.non, H', J.os, J.bare, J.base, J.hok, rfl, q⟩
    | brk => exact hs.elim fun _ h => h.elim fun _ h => h.2.elim
    | cont => exact hs.elim fun _ h => h.elim fun _ h => h.2.elim
/-- what is asked of the law, at the claim's caller -/
def RunG (P : Program) (w : World) (K : PySem.W.Frag) (mg : Str → Option Value) (fa c T : Addr) : Prop :=
  ∀ (base : Heap) (s : Shared) (H : Hp) (a : Addr) (ns : List Int), K.In base → base.Ns mainGlobals mg → LamX.TabB base mg c T → Env0 P w K mg base callerA [] s H → H T = some (.tbl #[]) → SqL K H a (ns.map V.int) → ns.length ≤ 63 →
    codeAny (model P w) callerA (.call (.ref fa) ⟨[.ref a], []⟩) (CR (L2.CX P w) [] P w H s (fun v _ => v = .bl true) fun _ _ _ => False) s
theorem callG {mb : Str → Option Value} {fa a c T : Addr} {s₁ : Shared} {vs : List Value} {ns : List Int} (KX : K.In s₁.heap) (hns : s₁.heap.Ns mainGlobals mg) (hb : s₁.heap.Ns builtinsNs mb) (hbb : ∀ x : Str, x ≠ "__name__" → mb x = bootBuiltins x)
    (nl : s₁.heap.NoLimit) (hg : s₁.gens = #[]) (hT : s₁.heap.get? T = some { cls := .none, data := .fields #[] }) (nT : K.lookup T = none) (C : PySem.W.CodeHd s₁.heap c T)
    (hbm : ∃ (bm : Addr) (ob : Obj), mg "__builtins__" = some (.ref bm) ∧ bm ≠ builtinsNs ∧ s₁.heap.get? bm = some ob ∧ ob.cls = .type "module" ∧ ob.dict = some builtinsNs ∧ ob.data = .plain)
    (ha : s₁.heap.get? a = some { cls := .type "list", data := .seq vs.toArray }) (hi : IntsAre vs ns) (hl : ns.length ≤ 63) (R : RunG P w K mg fa c T) :
    codeAny (model P w) callerA (.call (.ref fa) ⟨[.ref a], []⟩) (fun r s' => r = .ok (.ret (.bool true)) ∧ OldK s₁.heap s'.heap ∧ s'.os = s₁.os ∧ AllBare s'.gens) s₁ := by
  have aT : a ≠ T := fun z => by rw [z, hT] at ha; cases ha
  have lenV := hi.length
  have l63 : ns.length ≤ sizeLine := by rw [sizeLine_eq]; omega
  -- the heaps that hold the table, and perhaps the script
  have core : ∀ H : Hp, H T = some (.tbl #[]) → (∀ b, b ≠ a → b ≠ T → H b = none) → (H a = none ∨ ∃ o xs, H a = some (.frz o (.lst xs))) → SqL K H a (ns.map V.int) → HOk P w H s₁.heap → (H a ≠ none → K.lookup a = none) →
      codeAny (model P w) callerA (.call (.ref fa) ⟨[.ref a], []⟩) (fun r s' => r = .ok (.ret (.bool true)) ∧ OldK s₁.heap s'.heap ∧ s'.os = s₁.os ∧ AllBare s'.gens) s₁ := by
    intro H h1 h2 h3 hS ok hK
    have free : ∀ {b : Addr} {o : Obj}, s₁.heap.get? b = some o → (∀ vs n, o.data ≠ .seq vs n) → o.data ≠ .fields #[] → H b = none := fun {b o} e n1 n2 => h2 b (fun z => by rw [z, ha] at e; cases e; exact n1 _ _ rfl) fun z => by rw [z, hT] at e; cases e; exact n2 rfl
    have dct : ∀ {b : Addr} {m : Str → Option Value}, s₁.heap.Ns b m → (hidT s₁.heap H).Ns b m := fun {b m} ⟨o, es, ep, e, d, r⟩ => ⟨o, es, ep, hidT_get e (free e (fun _ _ z => by rw [d] at z; cases z) fun z => by rw [d] at z; cases z), d, r⟩
    have kb : K.In (hidT s₁.heap H) := fun b o e => hidT_get (KX b o e) (Classical.byContradiction fun q => by
      by_cases z : b = a
      · subst z; rw [hK q] at e; cases e
      · by_cases z2 : b = T
        · subst z2; rw [nT] at e; cases e
        · exact q (h2 b z z2))
    have md : L2.Mod K mg (hidT s₁.heap H) := ⟨kb, dct hns, ⟨mb, dct hb, hbb⟩, nl.elim fun mc h => ⟨mc, dct h.1, h.2⟩⟩
    have tb : LamX.TabB (hidT s₁.heap H) mg c T := by
      refine ⟨?_, ?_, fun z => ?_⟩
      · obtain ⟨o, us, file, tf, flags, tg, inF, text, tt, e1, r1, r2, r3, rest⟩ := C
        exact ⟨o, us, file, tf, flags, tg, inF, text, tt, hidT_get e1 (free e1 (fun _ _ z => by rw [r2] at z; cases z) fun z => by rw [r2] at z; cases z; simp at r3), r1, r2, r3, rest⟩
      · obtain ⟨bm, ob, b1, b2, b3, b4, b5, b6⟩ := hbm
        refine ⟨bm, ob, b1, b2, fun q => ?_, fun q => ?_, hidT_get b3 (free b3 (fun _ _ z => by rw [b6] at z; cases z) fun z => by rw [b6] at z; cases z), b4, b5, b6⟩
        · obtain ⟨o, es, ep, e, d, _⟩ := hns
          rw [← q, b3] at e; cases e; rw [d] at b6; cases b6
        · rw [q, hT] at b3; cases b3; cases b6
      · obtain ⟨o, es, ep, e, d, _⟩ := hns
        rw [z, hT] at e; cases e; cases d
    have e0 : Env0 P w K mg (hidT s₁.heap H) callerA [] s₁ H := ⟨rfl, md, fun b o e => of_hidT e, Nat.le_of_eq (hidT_size _ _), trivial, fun b hb => absurd hb List.not_mem_nil, ok, .of_eq hg⟩
    refine codeAny_mono (R _ s₁ H a ns kb (dct hns) tb e0 h1 hS hl) fun r s' h => ?_
    match r, h with
    | .error e, h =>
      obtain ⟨_, _, _, _, _, _, _, _, _, _, _, _, z⟩ := h
      exact z.elim
    | .ok .next, h => exact False.elim h
    | .ok .brk, h => exact False.elim h
    | .ok .cont, h => exact False.elim h
    | .ok (.ret u), ⟨v, H', os, bare, un, ok', rv, q⟩ =>
      have q : v = .bl true := q
      subst q
      have rv : u = Value.bool true := rv
      subst rv
      have old : ∀ b o, b ≠ T → s₁.heap.get? b = some o → s'.heap.get? b = some o := fun b o nb e => by
        by_cases hba : b = a
        · subst hba
          rcases h3 with z | ⟨o', xs, z⟩
          · exact un.keep b o e z (fun y => absurd y List.not_mem_nil) (by simp)
          · obtain ⟨e1, _⟩ := ok b _ z
            obtain ⟨e2, _⟩ := ok' b _ (un.frzs b o' _ z)
            rw [e] at e1; cases e1; exact e2
        · exact un.keep b o e (h2 b hba nb) (fun y => absurd y List.not_mem_nil) (by simp)
      obtain ⟨more, hm⟩ := un.tbls T #[] h1
      have hm : s'.heap.get? T = some { cls := .none, data := .fields (#[] ++ more) } := ok' T _ hm
      refine ⟨rfl, ⟨fun b o e => ?_, fun b o e => ?_⟩, os, bare⟩
      · by_cases hbT : b = T
        · subst hbT
          have e' := e.symm.trans hT
          cases e'
          exact .inr (.inl ⟨(C.tab hT).isCodeTable, rfl, #[], _, rfl, hm⟩)
        · exact .inl (old b o hbT e)
      · by_cases hbT : b = T
        · subst hbT; exact ⟨_, hm⟩
        · exact ⟨o, old b o hbT e⟩
  have itsT : ∀ {b : Addr} {u : HO}, b = T → HO.tbl #[] = u → (s₁.heap.get? b = some { cls := .none, data := .fields #[] }) := fun e _ => e ▸ hT
  cases hk : K.lookup a with
  | some o =>
    have e := (KX a o hk).symm.trans ha
    cases e
    refine core (fun b => if b = T then some (.tbl #[]) else none) (if_pos rfl) (fun b _ z => if_neg z) (.inl (if_neg aT)) (.inr ⟨_, vs.toArray, _, hk, rfl, rfl, rfl, by rw [List.size_toArray, lenV]; exact l63, by simpa using vals_ints hi⟩) (fun b u z => ?_) fun z => absurd (if_neg aT) z
    by_cases hbT : b = T
    · have z' := (if_pos hbT).symm.trans z
      cases z'
      exact hbT ▸ hT
    · exact absurd ((if_neg hbT).symm.trans z) (by simp)
  | none =>
    refine core (fun b => if b = a then some (.frz { cls := .type "list", data := .seq vs.toArray } (.lst (ns.map V.int))) else if b = T then some (.tbl #[]) else none) ((if_neg (Ne.symm aT)).trans (if_pos rfl)) (fun b z1 z2 => (if_neg z1).trans (if_neg z2)) (.inr ⟨_, _, if_pos rfl⟩)
      (.inl (.inr ⟨{ cls := .type "list", data := .seq vs.toArray }, if_pos rfl⟩)) (fun b u z => ?_) fun _ => hk
    by_cases hba : b = a
    · have z' := (if_pos hba).symm.trans z
      cases z'
      rw [hba]
      exact ⟨ha, by rw [List.length_map]; exact l63, vs, _, vals_ints hi, ha⟩
    · have z1 := (if_neg hba).symm.trans z
      by_cases hbT : b = T
      · have z' := (if_pos hbT).symm.trans z1
        cases z'
        exact hbT ▸ hT
      · exact absurd ((if_neg hbT).symm.trans z1) (by simp)
/-- what is known of the law at the head's heap -/
def LawAtG (l : PySem.W.OpenLaw) (w : World) (K : PySem.W.Frag) (mg : Str → Option Value) (fa : Addr) (h : Heap) : Prop :=
  ∃ c T : Addr, h.get? T = some { cls := .none, data := .fields #[] } ∧ K.lookup T = none ∧ PySem.W.CodeHd h c T ∧ RunG l.prog w K mg fa c T
theorem walkG {l : PySem.W.OpenLaw} {q : Program} {loose : List Str} {XP : (Str → Option Value) → Heap → Prop} {YP : World → Heap → Prop} {d : DefRec} {K : Params → PySem.W.Frag} (hn : l.most = some 63) (hdf : d.params.defaults = [])
    (hrec : ((recsOf q).any fun e => e.name == d.name) = true) (hY : ∀ (w : World) (h : Heap), YP w h → (K w.params).In h)
    (F : ∀ (w : World) (mg : Str → Option Value) (fa : Addr) (h : Heap), YP w h → (K w.params).In h → h.Ns mainGlobals mg → mg d.name = some (.ref fa) → LamX.OwnTab (K w.params) fa h → LawAtG l w (K w.params) mg fa h) :
    PySem.W.WalkO q loose XP YP l.row.toRowW d [] (fun f vs => PySem.call f vs) := by
  refine Att.attach_callB hn hdf fun w s₀ s₁ mg mb fa o pm cd doc a vs ns G Y ho hd hcd hmg hobj hints hlen hbits hg => ?_
  have kx := hY w _ Y
  have own : LamX.OwnTab (K w.params) fa s₁.heap := fun c P o1 fd1 e dd vs1 sl k1 k2 k3 k4 k5 => by
    obtain ⟨dL, hm, hn1⟩ := List.any_eq_true.mp hrec
    obtain ⟨a', o', fd', c', P', h1, h2, h3, h4, h5, ⟨⟨oc, vc, e1, _, e3, e4⟩, hP⟩⟩ := G.T.tab dL hm
    rw [beq_iff_eq.mp hn1, hmg] at h1
    cases h1
    have g1 := (kx _ _ k1).symm.trans h2
    cases g1
    have g3 := k2.symm.trans h3
    cases g3
    have g4 := k3.symm.trans h4
    cases g4
    have g2 := (kx _ _ k4).symm.trans e1
    cases g2
    cases e3
    have g5 := k5.symm.trans e4
    cases g5
    exact hP
  obtain ⟨c, T, hT, nT, C, R⟩ := F w mg fa _ Y kx G.T.g hmg own
  exact callG kx G.T.g G.T.b G.T.builtins G.T.nolimit hg hT nT C G.T.bmain hobj hints hlen R
end
section
variable [Tbl] {P : Program} {w : World} {K : PySem.W.Frag} {mg : Str → Option Value} {base : Heap}
def OkG (P : Program) (w : World) (K : PySem.W.Frag) (mg : Str → Option Value) (base : Heap) (f : Addr) : Prop :=
  ∀ (s : Shared) (H : Hp) (a : Addr) (ns : List Int), Env0 P w K mg base callerA [] s H → SqL K H a (ns.map V.int) → ns.length ≤ 63 → LamX.Tabs Tbl.tt H →
    codeAny (model P w) callerA (.call (.ref f) ⟨[.ref a], []⟩) (CR (L2.CX P w) [] P w H s (fun v _ => v = .bl true) fun _ _ _ => False) s
theorem okG {qual : Str} {params : Arguments} {body rest : List Stmt} {scope : Scope} {dV kV doc pm cdv ct oc : Value} {an od : Option Addr} {osl : Array (Option Value)} {f : Addr} {N : List Str} {k kb : Nat} {m : MS} {p p2 p3 p4 p5 : Pos}
    (lk : K.lookup f = some ⟨oc, od, .func (PySem.W.fnOf "law" qual params body scope dV kV doc pm an cdv ct), osl⟩) (hcd : PySem.W.codeIn K cdv qual = true) (Sc : FnScope N ["script"] scope)
    (hst : body = .Assign [.Name "bag" p] (.Call (.Name "_law_bag" p2) [.Name "script" p3] [] p4) p5 :: rest) (G : DfBag P w K mg base kb) (hk : kb ≤ k) (hN : N[1]? = some ("bag" : Str)) (hN0 : N[0]? = some ("script" : Str)) (hg : scope.names.lookup ("_law_bag" : Str) = some .globalImplicit) (hs : Vis scope "script") (hl : Loc scope "bag")
    (hsw : ∀ env : Env, swapsWith (.Call (.Name "_law_bag" p2) [.Name "script" p3] [] p4) (some (.Name "bag" p)) p5.line env = pure false)
    (room : Room (k + 1) callerA) (bind : ∀ (s : Shared) (u : Value), BindsTo s (PySem.W.fnOf "law" qual params body scope dV kV doc pm an cdv ct) ⟨[u], []⟩ [("script", u)])
    (hb : ∀ (s : Shared) (H : Hp), Room k (callerA.deeper (envOfC qual scope s.heap.objs.size f cdv)) →
      DSs (cxOf (L2.CX P w) P w K mg base N qual scope f cdv callerA [] s H fun _ _ _ => False) (WC fun _ _ _ => False) rest m) (hm : m (lawE N) (endsE (fun d => d = .bl true) fun _ => False)) :
    OkG P w K mg base f := by
  obtain ⟨fb, fdb, Gb, hmb, hkb, hbb⟩ := G.ex
  intro s H a ns e0 hS hlen hT
  have hr : Room k (callerA.deeper (envOfC qual scope s.heap.objs.size f cdv)) := room.deeper _
  have k1 : ∀ H' : Hp, (fun (v : V) (_ : Hp) => v = .bl true) (.bl true) H' := fun _ => rfl
  subst hst
  refine enterG (v := V.ref a) lk hcd Sc e0 room (bind s (.ref a)) (.cons (show L2.RelV (V.ref a) (Value.ref a) from rfl) .nil) ?_
  refine ⟨_, pss_cons (ps_set (i := 1) Sc.nd hN hl (pe_call (E := wishW WF) Gb (hr.mono hk) hg hmb hkb hbb .nil (passes_call LamX.takes0 fun cls d σ H h => h σ) (pa_cons (pe_var hN0 hs) pa_nil)) (hsw _)) (hb s H hr), ?_⟩
  have h0 : (L2.start N [V.ref a])[0]? = some (some (V.ref a)) := start_get (vs := [V.ref a]) (i := 0) rfl
  refine ⟨.ref a, h0, a, ns, rfl, hS, hlen, fun Ab L H' hkp nLA hA h1 h2 => ?_⟩
  have hb1 : Bag ⟨K, mg, Ab, L⟩ H' := ⟨nLA, 0, 1234567891, 0, ns.map absI, by decide, by decide, by decide, by decide, by rw [List.length_map]; exact hlen, fun n hn => by obtain ⟨z, _, rfl⟩ := List.mem_map.mp hn; exact absI_nn z, h1, h2, LamX.Tabs.ext hT hkp⟩
  have hlN : 1 < N.length := (List.getElem?_eq_some_iff.mp hN).1
  have no : ∀ (ρ' : EnvD) (σ' : St) (c : Addr), ρ' = lawE N → ¬ ownAddr ρ' σ' c := by
    rintro _ σ' c rfl ⟨i, s, e1, e2, _⟩
    unfold lawE at e1
    rcases getSet e1 with ⟨rfl, e, _⟩ | ⟨ne, e1⟩
    · cases e; cases e2
    · rw [List.getElem?_replicate] at e1
      split at e1 <;> cases e1
  refine ⟨Ab, L, av ⟨K, mg, Ab, L⟩, [], lawE N, endsE (fun d => d = .bl true) fun _ => False, ⟨⟨hb1, fun b o e _ => hkp b o e, fun b z => .inl z, fun c hc => ?_, fun i s e1 => ?_, ?_⟩, fun b z => z, ?_, fun c z => (no _ _ c rfl z).elim, fun i j s t c e1 e2 _ _ e5 _ => (no _ _ c rfl ⟨i, s, e1, e2, e5⟩).elim, fun g hg => by simp at hg⟩, hm, ?_⟩
  · rcases hc with hc | hc
    · rcases hc with rfl | hc
      · rw [h1]; intro z; cases z
      · obtain ⟨q, hq, rfl⟩ := List.mem_map.mp hc
        obtain ⟨ps, z, _⟩ := hT q hq
        rw [hkp _ _ z]; intro z; cases z
    · exact (no _ _ c rfl hc).elim
  · unfold lawE at e1
    rcases getSet e1 with ⟨rfl, e, _⟩ | ⟨ne, e1⟩
    · cases e
      refine ⟨.ref Ab, List.getElem?_set_self (by unfold L2.start; simp; omega), ?_⟩
      unfold SlotOk RV
      rfl
    · rw [List.getElem?_replicate] at e1
      split at e1 <;> cases e1
  · unfold lawE L2.start; simp; omega
  · unfold lawE L2.start; simp; omega
  · refine ⟨fun _ _ _ z _ => (by cases z), fun d v H2 q x b r => ?_, fun _ _ _ z => z.elim, fun _ _ _ z => z.elim, fun y hy => hy.elim⟩
    have q : d = .bl true := q
    subst q
    have r' : v = .bl true := by unfold RV at r; exact r
    subst r'
    exact k1 H2
theorem lawAtG {h : Heap} {l : PySem.W.OpenLaw} {w : World} {f c T : Addr} {fa : Addr} {params : Arguments} {body : List Stmt} {scope : Scope} {oc kV doc pm ct e : Value} {od an dd : Option Addr} {osl sl : Array (Option Value)} {vs : Array Value}
    (X : K.In h) (G : h.Ns mainGlobals mg) (hfa : mg "law" = some (.ref fa)) (own : LamX.OwnTab K fa h) (a : PySem.W.nsIn K mainGlobals "law" = some (some (.ref f)))
    (lk : K.lookup f = some ⟨oc, od, .func (PySem.W.fnOf "law" "law" params body scope .none kV doc pm an (.ref c) ct), osl⟩) (kc : K.lookup c = some ⟨e, dd, .fields vs, sl⟩) (v11 : vs[11]? = some (.ref T)) (nP : K.lookup T = none) (ch : PySem.W.codeHdIn K c T = true)
    (tt : Tbl.tt = [(T, ("law" : Str) ++ ".<locals>." ++ "<lambda>")]) (F : ∀ base : Heap, K.In base → base.Ns mainGlobals mg → Lm base mg (.ref c) (("law" : Str) ++ ".<locals>.") → OkG l.prog w K mg base f) : LawAtG l w K mg fa h := by
  have hm := (PySem.W.mg_of X G a).symm.trans hfa
  cases hm
  refine ⟨c, T, own c T _ _ e dd vs sl lk rfl rfl kc v11, nP, PySem.W.codeHd_of_K X ch, fun base s H a ns hK hG hTB e0 hT hS hl => ?_⟩
  refine F base hK hG ⟨c, T, rfl, hTB, by rw [tt]; exact List.mem_singleton.mpr rfl, fun p hp _ => ?_⟩ s H a ns e0 hS hl fun p hp => ?_
  · rw [tt] at hp
    rw [List.mem_singleton.mp hp]
  · rw [tt] at hp
    rw [List.mem_singleton.mp hp]
    exact LamX.TabS.nil hT
end
section
variable [Tbl] {X : Cx} {W : WX} {m : Md} {pos : Pos}
/-- repr of tuples and lists -/
def bRepr : List D → Option D
  | [.tup ds] => match toPD (.tup ds) with
    | some p => if (p.showable && PyData.strOk p.shown && decide (p.shown.length ≤ lim) && decide (p.depth ≤ 64)) = true then some (.str p.shown) else none
    | none => none
  | [.lst ds] => match toPD (.lst ds) with
    | some p => if (p.showable && PyData.strOk p.shown && decide (p.shown.length ≤ lim) && decide (p.depth ≤ 64)) = true then some (.str p.shown) else none
    | none => none
  | _ => none
mutual
theorem noDict_pd : ∀ {d : D} {p : PyData}, toPD d = some p → p.hasDict = false
  | .non, p, h | .bl _, p, h | .int _, p, h | .str _, p, h => by cases h; simp [PyData.hasDict]
  | .tup ds, p, h => by
    unfold toPD at h
    cases e : toPDs ds with
    | none => rw [e] at h; cases h
    | some ps => rw [e] at h; cases h; rw [PyData.hasDict]; exact noDicts_pd e
  | .lst ds, p, h => by
    unfold toPD at h
    cases e : toPDs ds with
    | none => rw [e] at h; cases h
    | some ps => rw [e] at h; cases h; rw [PyData.hasDict]; exact noDicts_pd e
  | .dct _ _, p, h | .bag, p, h | .fn _, p, h | .ty _, p, h => by cases h
theorem noDicts_pd : ∀ {ds : List D} {ps : List PyData}, toPDs ds = some ps → PyData.hasDictAll ps = false
  | [], ps, h => by cases h; rfl
  | d :: ds, ps, h => by
    unfold toPDs at h
    cases e : toPD d with
    | none => rw [e] at h; cases h
    | some p =>
      cases e2 : toPDs ds with
      | none => rw [e, e2] at h; cases h
      | some qs => rw [e, e2] at h; cases h; rw [PyData.hasDictAll, noDict_pd e, noDicts_pd e2]; rfl
end
theorem dc_repr (hg : X.A.guards = some []) (hu : X.A.units + 100 < cLine) : DCall X (.builtin "repr") bRepr := by
  intro pins s σ H A L Hz O ρ vs us ds d I S r h g
  have main : ∀ (d0 : D) (a : Addr) (p : PyData), ds = [d0] → vs = [.ref a] → RB (rc X A L) O H d0 (.ref a) → toPD d0 = some p → (if (p.showable && PyData.strOk p.shown && decide (p.shown.length ≤ lim) && decide (p.depth ≤ 64)) = true then some (D.str p.shown) else none) = some d →
      wpAny (model X.prog X.w) X.A (call (.builtin "repr") us) (EP X pins σ (FQ (rc X A L) O H d)) X.xe s := by
    intro d0 a p e1 e2 hr hp hif
    subst e1 e2
    split at hif
    · rename_i c
      cases hif
      simp only [Bool.and_eq_true, decide_eq_true_eq] at c
      obtain ⟨u, rfl, ru⟩ := vals1 r
      have ru : u = Value.ref a := ru
      subst ru
      obtain ⟨dp, _⟩ := dp_rb hr hp
      obtain ⟨as, rd⟩ := Dp.reads I _ _ _ dp (show RelV (V.ref a) (Value.ref a) from rfl)
      have hsz : p.shown.length ≤ sizeLine := by rw [← lim_eq]; exact c.1.2
      refine repr_of_reads' rd c.1.1.1 (fun z => by rw [noDict_pd hp] at z; cases z) hg (by omega) (fun _ _ e => e) (fun h' u tk hk => ?_) hsz
      exact ⟨.str p.shown, H, I.kept hk, ⟨_, rfl⟩, FQ.str S hsz c.1.1.2⟩
    · cases hif
  unfold bRepr at g
  split at g
  · rename_i ds0
    split at g
    · rename_i p hp
      obtain ⟨v, rfl, h'⟩ := rbs1 h
      obtain ⟨a, ws, rfl, _⟩ := rb_tup h'
      exact main _ a p rfl rfl h' hp g
    · cases g
  · rename_i ds0
    split at g
    · rename_i p hp
      obtain ⟨v, rfl, h'⟩ := rbs1 h
      obtain ⟨a, ws, rfl, _⟩ := rb_lst h'
      exact main _ a p rfl rfl h' hp g
    · cases g
  · cases g
theorem xrepr {e : Expr} {es : List Expr} {ma : MA} {p : Pos} (B : Bi X.mg) (hG : X.A.guards = some []) (hu : X.A.units + 100 < cLine) (ha : DA X W .al (e :: es) ma) (hg : Gl X "repr" := by rfl)
    (he : starEach (e :: es) X.env = (false, eval e X.env) :: starEach es X.env := by rfl) (hpl : (backTo pos (starEach es X.env)).any (·.1) = false := by rfl) : DE X W m (.Call (.Name "repr" p) (e :: es) [] pos) (mBlt bRepr ma) :=
  xblt (dc_repr hG hu) B.repr hg (by decide +kernel) (by decide) (by decide) ha he hpl
end
end Ev

/-! Ev34: dict comprehensions whose keys are integers or texts. -/
namespace Ev
open PySem PySem.Spec L2
open PyProof.Rows hiding St
variable [Tbl]
section
variable {X : Cx} {W : WX} {m : Md} {A : Addr} {L : LT} {Hz : Hp} {O O0 : Od} {gh : Gh} {ρ : EnvD} {σ : St} {H H' H1 : Hp} {Ed : Exc → Prop} {K : SEnds} {Dn : Ends} {pos spos : Pos}
theorem key_val {c : Rc} {k : Key} {v : V} (h : RV c O H (keyD k) v) : v = kV k := by
  cases k with
  | inl i => exact rv_int h
  | inr x => exact (rv_str h).1
def dcE (vs : List Nat) (mg : MG) (mt : MT) (mk mv : ME) : List D → EnvD → List D → List D → (List D → List D → Prop) → Prop
  | [], ρ, ks, xs, Q => Q ks xs
  | d :: ds, ρ, ks, xs, Q => mg d (wipeE ρ vs) fun ρ1 => mt ρ1 (fun b => if b = true then mk ρ1 (fun y => mv ρ1 (fun z => ∃ k : Key, y = keyD k ∧ ks.length < lim ∧ dcE vs mg mt mk mv ds ρ (putKs ks y) (putVs ks xs y z) Q) (fun _ => False)) (fun _ => False) else dcE vs mg mt mk mv ds ρ ks xs Q) (fun _ => False)
def mDc (vs : List Nat) (mi : MI) (mg : MG) (mt : MT) (mk mv : ME) : ME := fun ρ Q E => mi ρ (fun ds => dcE vs mg mt mk mv ds ρ [] [] fun ks xs => Q (.dct ks xs)) E
theorem dc_go {vs : List Nat} {mi : MI} {mg : MG} {mt : MT} {mk mv : ME} {Qd : D → Prop} {Q : VK} (S : SE (rc X A L) Hz O ρ σ H) (hm : mDc vs mi mg mt mk mv ρ Qd Ed) (hE : ∀ x, Ed x → Bad (rc X A L) O Hz W x)
    (k : ∀ w H1 d, Ex (rc X A L) H H1 → Bag (rc X A L) H1 → RF (rc X A L) O H H1 d w → Qd d → Q w H1) : tDc (tI X W .al mi) (tG1 X vs mg) (tT X WF mt) (tE X WF .vl mk) (tE X WF .vl mv) vs σ H Q := by
  refine ⟨A, L, Hz, O, ρ, _, Ed, S, hm, fun ds gs J H1 q x1 b1 hg hlim hJ => ?_, hE⟩
  intro Dl nD
  have S1 := S.ex x1 b1
  have nO : ¬ O Dl := oNew S1 nD
  have nA : ¬ av (rc X A L) Dl := fun z => nO (S.oA _ z)
  -- the avoided ones, with the new list
  have oo : ∀ b, (O b ∨ b = Dl) → O b ∨ H1 b = none := fun b z => z.imp id fun e => by rw [e]; exact nD
  have SD : ∀ H2, Ex (rc X A L) (upd H1 Dl (.dK [])) H2 → True := fun _ _ => trivial
  -- the state within the block, whatever stands at the new list
  let Ok : Hp → Prop := fun H2 => SE (rc X A L) Hz (fun b => O b ∨ b = Dl) ρ σ H2 ∧ Ex (rc X A L) H1 H2 ∧ ∀ g ∈ gs, RB (rc X A L) (fun b => O b ∨ b = Dl) H2 g.1 g.2
  have slotN : ∀ {s : Slot} {v : V} {o : HO}, SlotOk (rc X A L) O H1 s v → SlotOk (rc X A L) (fun b => O b ∨ b = Dl) (upd H1 Dl o) s v := fun h => h.go (Kp.new nD) oo (Kp.new nD)
  have ok0 : Ok (upd H1 Dl (.dK [])) := by
    refine ⟨⟨b1.new nD, S1.ext.trans (Kp.new nD), fun b z => .inl (S1.oA b z), fun b hb => ?_, fun i s h => ?_, S1.len⟩, Kp.new nD, fun g hg' => ?_⟩
    · rcases hb with hb | rfl
      · intro z
        by_cases e : b = Dl
        · subst e; rw [upd_same] at z; cases z
        · rw [upd_ne e] at z; exact S1.oT b hb z
      · rw [upd_same]; intro z; cases z
    · obtain ⟨v, h1, h2⟩ := S1.slots i s h
      exact ⟨v, h1, slotN h2⟩
    · have r : RB (rc X A L) O H1 g.1 g.2 := hg g hg'
      cases e : g.1 with
      | lst es =>
        rw [e] at r
        obtain ⟨a, ws, e1, n, h1, r⟩ := r
        exact ⟨a, ws, e1, n, by rw [upd_ne (ne_of_none h1 nD)]; exact h1, RVs.go (Kp.new nD) oo _ _ r⟩
      | dct ks es =>
        rw [e] at r
        obtain ⟨a, ws, e1, n, h1, r⟩ := r
        exact ⟨a, ws, e1, n, dctAt_kp (Kp.new (O := fun _ => False) nD) (fun z => z) h1, RVs.go (Kp.new nD) oo _ _ r⟩
      | _ =>
        rw [e] at r
        exact RV.go (Kp.new nD) oo _ _ (show RV (rc X A L) O H1 _ g.2 from r)
  refine ⟨fun i n H2 => n = ds.length - i ∧ i ≤ ds.length ∧ Ok H2 ∧ ∃ (vals : List D) (kvs : List (Key × V)), kvs.length ≤ i ∧ H2 Dl = some (.dK kvs) ∧ RVs (rc X A L) (fun b => O b ∨ b = Dl) H2 vals (kvs.map (·.2)) ∧ dcE vs mg mt mk mv (ds.drop i) ρ (kvs.map fun p => keyD p.1) vals fun ks ys => Qd (.dct ks ys),
    ⟨_, rfl, Nat.zero_le _, ok0, [], [], Nat.le_refl _, upd_same, .nil, q⟩, ?_⟩
  rintro i n H2 ⟨rfl, hi, ⟨S2, x2, g2⟩, acc, kvs, ha, hD, racc, q2⟩
  obtain ⟨j1, j2⟩ := hJ _ H2 S2.oA g2
  by_cases hlt : i < ds.length
  · obtain ⟨jg, jy⟩ := j1 i _ (List.getElem?_eq_getElem hlt)
    refine .inr ⟨jg, fun H' => i + 1 ≤ ds.length ∧ Ok H' ∧ ∃ (vals : List D) (kvs : List (Key × V)), kvs.length ≤ i + 1 ∧ H' Dl = some (.dK kvs) ∧ RVs (rc X A L) (fun b => O b ∨ b = Dl) H' vals (kvs.map (·.2)) ∧ dcE vs mg mt mk mv (ds.drop (i + 1)) ρ (kvs.map fun p => keyD p.1) vals fun ks ys => Qd (.dct ks ys), fun H' hN => ⟨_, by omega, rfl, hN⟩, fun x H3 hy => ?_⟩
    obtain ⟨n3, r3⟩ := jy x H3 hy
    have b3 := S2.bag.newH n3
    have S3 := S2.ex n3.ex b3
    have x3 := x2.trans (n3.ex (c := rc X A L))
    have g3 : ∀ g ∈ gs, RB (rc X A L) (fun b => O b ∨ b = Dl) H3 g.1 g.2 := fun g h => RB.ex (g2 g h) n3.ex S2.oA
    have hD3 := n3.1 _ _ hD
    have racc3 := racc.kp (n3.ex.kp S2.oA)
    rw [List.drop_eq_getElem_cons hlt] at q2
    refine ⟨A, L, Hz, _, wipeE ρ vs, _, _, S3.wipe vs, r3, q2, fun ρ4 σ4 q4 S4 hw _ => ⟨hw.trans ?_, A, L, Hz, _, ρ4, _, _, S4, q4, fun b H5 q5 x5 b5 => ?_, fun _ z => z.elim⟩⟩
    · have idem : ∀ (ws : List Nat) (τ : St), (∀ v ∈ ws, v ∈ vs) → L2.wipe (L2.wipe τ ws) vs = L2.wipe τ vs := by
        intro ws
        induction ws with
        | nil => intro τ _; rfl
        | cons w ws ih =>
          intro τ h
          show L2.wipe ((L2.wipe τ ws).set w none) vs = _
          rw [wipe_set (h w List.mem_cons_self)]
          exact ih τ fun v hv => h v (List.mem_cons_of_mem _ hv)
      exact idem vs σ fun v hv => hv
    · have S5 := S3.ex x5 b5
      have x5' := x3.trans x5
      have g5 : ∀ g ∈ gs, RB (rc X A L) (fun b => O b ∨ b = Dl) H5 g.1 g.2 := fun g h => RB.ex (g3 g h) x5 S3.oA
      have hD5 := x5 _ _ hD3 (.inl nA)
      have racc5 := racc3.kp (x5.kp S3.oA)
      cases b with
      | false => exact ⟨hlt, ⟨S5, x5', g5⟩, acc, kvs, by omega, hD5, racc5, q5⟩
      | true =>
        refine ⟨A, L, Hz, _, ρ4, _, _, S4.ex x5 b5, q5, fun y wk H5' q5' x56 b56 r56 => ⟨A, L, Hz, _, ρ4, _, _, (S4.ex x5 b5).ex x56 b56, q5', fun y2 w H6 q6 x6' b6 r6 => ?_, fun _ z => z.elim⟩, fun _ z => z.elim⟩
        obtain ⟨key, rfl, hlk, q6⟩ := q6
        have x6 : Ex (rc X A L) H5 H6 := x56.trans x6'
        have ewk : wk = kV key := key_val r56
        have S6 := S5.ex x6 b6
        have hD6 := x6 _ _ hD5 (.inl nA)
        have racc6 := racc5.kp (x6.kp S5.oA)
        have up : Kp (fun b => O b ∨ b = Dl) H6 (upd H6 Dl (.dK (putK kvs key w))) := Kp.wr hD6 trivial (.inr rfl)
        have exu : Ex (rc X A L) H1 (upd H6 Dl (.dK (putK kvs key w))) := fun b o e m => by
          have nb : b ≠ Dl := fun z => by rw [z, nD] at e; cases e
          rw [upd_ne nb]
          exact (x5'.trans x6) b o e m
        obtain ⟨pk, pr⟩ := put_one (k := key) racc6 r6
        rw [← pk] at q6
        refine ⟨kvs, key, ewk, hD6, by have := hlim; rw [lim_eq] at this; omega, hlt, ⟨⟨?_, S1.ext.trans exu, fun b z => .inl (S.oA b z), fun b hb => ?_, fun j s h => ?_, S.len⟩, exu, fun g h => ?_⟩, _, putK kvs key w, Nat.le_trans (length_putK kvs key w) (by omega), upd_same, pr.kp up, q6⟩
        · obtain ⟨ne, c0, c1, c2, ns, h0, h1, h2, h3, h4, h5, hA, hLL, hT⟩ := S6.bag
          have nAA : A ≠ Dl := fun z => nA (.inl z.symm)
          have nL : (rc X A L).L ≠ Dl := fun z => (bag_tr b1).2 (by rw [z]; exact nD)
          exact ⟨ne, c0, c1, c2, ns, h0, h1, h2, h3, h4, h5, by rw [upd_ne nAA]; exact hA, by rw [upd_ne nL]; exact hLL, tabs_wr hT hD6 (fun _ z => by cases z) (fun _ z => by cases z) trivial⟩
        · by_cases e : b = Dl
          · subst e; rw [upd_same]; intro z; cases z
          · rw [upd_ne e]; exact S6.oT b hb
        · obtain ⟨v, h1, h2⟩ := S6.slots j s h
          refine ⟨v, h1, ?_⟩
          have nd : ∀ a u, H6 a = some u → (∃ v, σ[j]? = some (some v) ∧ v = .ref a ∧ isOwn s = true) → a ≠ Dl := by
            rintro a u hu ⟨v', hv', rfl, ho⟩ rfl
            obtain ⟨w', g1, g2⟩ := S1.slots j s h
            rw [hv'] at g1; cases g1
            cases s with
            | val d => cases ho
            | own ds => obtain ⟨a', vs', e1, _, e2, _⟩ := g2; cases e1; rw [nD] at e2; cases e2
            | ownd ks ds => obtain ⟨a', vs', e1, _, e2, _⟩ := g2; cases e1; exact dctAt_some e2.at nD
          cases s with
          | val d => exact RV.kp (show RV _ _ _ d v from h2) up
          | own ds =>
            obtain ⟨a, ws, e1, n, e2, r⟩ := h2
            exact ⟨a, ws, e1, n, by rw [upd_ne (nd a _ e2 ⟨v, h1, e1, rfl⟩)]; exact e2, r.kp up⟩
          | ownd ks ds =>
            obtain ⟨a, ws, e1, n, e2, r⟩ := h2
            refine ⟨a, ws, e1, n, ?_, r.kp up⟩
            rcases e2 with ⟨kvs, e2, e3⟩ | ⟨kvs, e2, e3⟩
            · exact .inl ⟨kvs, by rw [upd_ne (nd a _ e2 ⟨v, h1, e1, rfl⟩)]; exact e2, e3⟩
            · exact .inr ⟨kvs, by rw [upd_ne (nd a _ e2 ⟨v, h1, e1, rfl⟩)]; exact e2, e3⟩
        · have r : RB (rc X A L) (fun b => O b ∨ b = Dl) H6 g.1 g.2 := RB.ex (g5 g h) x6 S5.oA
          have r1 : RB (rc X A L) O H1 g.1 g.2 := hg g h
          cases e : g.1 with
          | lst es =>
            rw [e] at r r1
            obtain ⟨a, ws, e1, n, h1, r⟩ := r
            obtain ⟨a', ws', e1', _, h1', _⟩ := r1
            rw [e1] at e1'; cases e1'
            exact ⟨a, ws, e1, n, by rw [upd_ne (ne_of_none h1' nD)]; exact h1, r.kp up⟩
          | dct ks es =>
            rw [e] at r r1
            obtain ⟨a, ws, e1, n, h1, r⟩ := r
            obtain ⟨a', ws', e1', _, h1', _⟩ := r1
            rw [e1] at e1'; cases e1'
            have na : a ≠ Dl := fun z => dctAt_some h1' (by rw [z]; exact nD)
            refine ⟨a, ws, e1, n, ?_, r.kp up⟩
            rcases h1 with ⟨kvs, h1 | ⟨o, h1⟩, z, h2⟩ | ⟨kvs, h1 | ⟨o, h1⟩, z, h2⟩
            · exact .inl ⟨kvs, .inl (by rw [upd_ne na]; exact h1), fun q => by rw [upd_ne na]; exact z q, h2⟩
            · exact .inl ⟨kvs, .inr ⟨o, by rw [upd_ne na]; exact h1⟩, fun q => by rw [upd_ne na]; exact z q, h2⟩
            · exact .inr ⟨kvs, .inl (by rw [upd_ne na]; exact h1), fun q => by rw [upd_ne na]; exact z q, h2⟩
            · exact .inr ⟨kvs, .inr ⟨o, by rw [upd_ne na]; exact h1⟩, fun q => by rw [upd_ne na]; exact z q, h2⟩
          | _ =>
            rw [e] at r
            exact RV.kp (show RV (rc X A L) (fun b => O b ∨ b = Dl) H6 _ g.2 from r) up
  · have e : i = ds.length := by omega
    subst e
    rw [List.drop_length] at q2
    refine .inl ⟨j2, k _ _ (.dct _ acc) (x1.trans x2) S2.bag ⟨Dl, _, rfl, nO, ex_none x1 nA nD, .inl ⟨kvs, hD, rfl, rfl⟩, racc⟩ q2⟩
/-- the comprehension stored under a local name -/
theorem ps_setDcN {i : Nat} {y : Str} {py : Pos} {kx vx tg iter : Expr} {ifs : List Expr} {scope : Scope} {own : List (Str × Nat)} {wi : TI} {g : TG} {tt : TT} {tk tv : TE} (hc : X.calm = true) (hN : X.N.Nodup) (hy : X.N[i]? = some y) (hyl : X.env.scope.names.lookup y = some .local)
    (sw : swapsWith (.DictComp kx vx [⟨tg, iter, ifs, 0⟩] scope pos) (some (.Name y py)) spos.line X.env = pure true) (hi : PI X tg iter wi) (ok : BlkOk X.N X.env.scope scope own)
    (hg : ∀ (s : Shared) (H : Hp) (C : Addr) (cl : List (Str × Addr)) (fp : List Addr), PG (X.blk s H scope (compEnvC scope cl C X.env) fp) tg g) (ht : ∀ (s : Shared) (H : Hp) (C : Addr) (cl : List (Str × Addr)) (fp : List Addr), PTs (X.blk s H scope (compEnvC scope cl C X.env) fp) ifs tt)
    (hk : ∀ (s : Shared) (H : Hp) (C : Addr) (cl : List (Str × Addr)) (fp : List Addr), PE (X.blk s H scope (compEnvC scope cl C X.env) fp) kx tk) (hv : ∀ (s : Shared) (H : Hp) (C : Addr) (cl : List (Str × Addr)) (fp : List Addr), PE (X.blk s H scope (compEnvC scope cl C X.env) fp) vx tv)
    (hs : ∀ x, foldedSetIterable iter X.env x = pure x := by intro _; rfl) : PS X (.Assign [.Name y py] (.DictComp kx vx [⟨tg, iter, ifs, 0⟩] scope pos) spos) (tAsg (tDc wi g tt tk tv (own.map (·.2))) (gName i)) := .mk fun pins s σ H Dn I h => by
  rw [exec_Assign_Name_used _ _ _ _ sw]
  refine wpAny_bind (wpAny_standAt (wpAny_bind (show wpAny _ X.A (do let _ ← comprehension (.DictComp kx vx [⟨tg, iter, ifs, 0⟩] scope pos) scope X.env (firstIterPos [⟨tg, iter, ifs, 0⟩] pos) newDict false (eval iter X.env) (some (assign (.Name y py) X.env))) _ _ s from ?_)))
  refine wpAny_bind (thn (dc_core (Qf := fun _ s' => SP X pins Dn .next s') hc hN I hi ok hg ht hk hv hs (show tDc wi g tt tk tv (own.map (·.2)) σ H (fun x H1 => gName i x σ H1 Dn.nx) from h) fun D C s' m H' I' q hn f => ?_) fun _ s' hq => wpAny_pure (wpAny_pure hq))
  refine (show wpAny _ _ (assign (.Name y py) X.env (.ref D)) _ _ _ from wpAny_assign_Name (store_ok2 (v := V.ref D) I' hN hy (.inl hyl) rfl (fun s2 I2 z => ?_) (.inr hyl)))
  obtain ⟨a, sb, ha⟩ := z
  obtain ⟨f0, f1, f2, f3, f4, f5⟩ := f
  have ne : C ≠ a := ha.elim (fun z => by rw [z]; exact f1) fun z e => f4 y a z e.symm
  exact ⟨m, hn.sameBut sb ne, fun h3 sb3 => ⟨_, H', I2.turned (t' := s2.toks) (fun b o hb e => (sb3.2 b hb).trans e) f0 f1 f3 f4 f5, q⟩⟩
section
variable {kx vx tg iter : Expr} {ifs : List Expr} {scope : Scope} {own : List (Str × Nat)} {mi : MI} {mg : MG} {mt : MT} {mk mv : ME}
theorem de_dc (hc : X.calm = true) (hN : X.N.Nodup) (hi : DI X W .al tg iter mi) (ok : BlkOk X.N X.env.scope scope own)
    (hg : ∀ (s : Shared) (H : Hp) (C : Addr) (cl : List (Str × Addr)) (fp : List Addr), DG1 (X.blk s H scope (compEnvC scope cl C X.env) fp) (own.map (·.2)) tg mg) (ht : ∀ (s : Shared) (H : Hp) (C : Addr) (cl : List (Str × Addr)) (fp : List Addr), DTs (X.blk s H scope (compEnvC scope cl C X.env) fp) WF ifs mt)
    (hk : ∀ (s : Shared) (H : Hp) (C : Addr) (cl : List (Str × Addr)) (fp : List Addr), DE (X.blk s H scope (compEnvC scope cl C X.env) fp) WF .vl kx mk) (hv : ∀ (s : Shared) (H : Hp) (C : Addr) (cl : List (Str × Addr)) (fp : List Addr), DE (X.blk s H scope (compEnvC scope cl C X.env) fp) WF .vl vx mv)
    (hs : ∀ x, foldedSetIterable iter X.env x = pure x := by intro _; rfl) : DE X W .fr (.DictComp kx vx [⟨tg, iter, ifs, 0⟩] scope pos) (mDc (own.map (·.2)) mi mg mt mk mv) :=
  .by (pe_dc (wi := tI X W .al mi) (g := tG1 X (own.map fun p : Str × Nat => p.2) mg) (tt := tT X WF mt) (tk := tE X WF .vl mk) (tv := tE X WF .vl mv) hc hN hi ok hg ht hk hv hs) fun σ H A L Hz O ρ Qd Ed S hm hE => dc_go S hm hE fun w H1 d x b r q => ⟨d, x, b, r, q⟩
theorem ds_setDcV {y : Str} {py : Pos} (i : Nat) (hc : X.calm = true) (hN : X.N.Nodup) (hy : X.N[i]? = some y) (hyl : X.env.scope.names.lookup y = some .local)
    (sw : swapsWith (.DictComp kx vx [⟨tg, iter, ifs, 0⟩] scope pos) (some (.Name y py)) spos.line X.env = pure true) (hi : DI X W .al tg iter mi) (ok : BlkOk X.N X.env.scope scope own)
    (hg : ∀ (s : Shared) (H : Hp) (C : Addr) (cl : List (Str × Addr)) (fp : List Addr), DG1 (X.blk s H scope (compEnvC scope cl C X.env) fp) (own.map (·.2)) tg mg) (ht : ∀ (s : Shared) (H : Hp) (C : Addr) (cl : List (Str × Addr)) (fp : List Addr), DTs (X.blk s H scope (compEnvC scope cl C X.env) fp) WF ifs mt)
    (hk : ∀ (s : Shared) (H : Hp) (C : Addr) (cl : List (Str × Addr)) (fp : List Addr), DE (X.blk s H scope (compEnvC scope cl C X.env) fp) WF .vl kx mk) (hv : ∀ (s : Shared) (H : Hp) (C : Addr) (cl : List (Str × Addr)) (fp : List Addr), DE (X.blk s H scope (compEnvC scope cl C X.env) fp) WF .vl vx mv)
    (hs : ∀ x, foldedSetIterable iter X.env x = pure x := by intro _; rfl) : DS X W (.Assign [.Name y py] (.DictComp kx vx [⟨tg, iter, ifs, 0⟩] scope pos) spos) (mSetV i (mDc (own.map (·.2)) mi mg mt mk mv)) :=
  PS.imp (ps_setDcN (wi := tI X W .al mi) (g := tG1 X (own.map fun p : Str × Nat => p.2) mg) (tt := tT X WF mt) (tk := tE X WF .vl mk) (tv := tE X WF .vl mv) hc hN hy hyl sw hi ok hg ht hk hv hs) fun Dn σ H ⟨A, L, O0, gh, ρ, K, S, h, l⟩ =>
    show tDc (tI X W .al mi) (tG1 X (own.map fun p : Str × Nat => p.2) mg) (tT X WF mt) (tE X WF .vl mk) (tE X WF .vl mv) (own.map fun p : Str × Nat => p.2) σ H (fun w H1 => Dn.nx (σ.set i (some w)) H1) from dc_go S.se h l.exO fun w H1 d x b r q => l.nx _ _ H1 q (S.setV x b (RF.rv r))
theorem ds_setDc {y : Str} {py : Pos} (i : Nat) (hc : X.calm = true) (hN : X.N.Nodup) (hy : X.N[i]? = some y) (hyl : X.env.scope.names.lookup y = some .local)
    (sw : swapsWith (.DictComp kx vx [⟨tg, iter, ifs, 0⟩] scope pos) (some (.Name y py)) spos.line X.env = pure true) (hi : DI X W .al tg iter mi) (ok : BlkOk X.N X.env.scope scope own)
    (hg : ∀ (s : Shared) (H : Hp) (C : Addr) (cl : List (Str × Addr)) (fp : List Addr), DG1 (X.blk s H scope (compEnvC scope cl C X.env) fp) (own.map (·.2)) tg mg) (ht : ∀ (s : Shared) (H : Hp) (C : Addr) (cl : List (Str × Addr)) (fp : List Addr), DTs (X.blk s H scope (compEnvC scope cl C X.env) fp) WF ifs mt)
    (hk : ∀ (s : Shared) (H : Hp) (C : Addr) (cl : List (Str × Addr)) (fp : List Addr), DE (X.blk s H scope (compEnvC scope cl C X.env) fp) WF .vl kx mk) (hv : ∀ (s : Shared) (H : Hp) (C : Addr) (cl : List (Str × Addr)) (fp : List Addr), DE (X.blk s H scope (compEnvC scope cl C X.env) fp) WF .vl vx mv)
    (hs : ∀ x, foldedSetIterable iter X.env x = pure x := by intro _; rfl) : DS X W (.Assign [.Name y py] (.DictComp kx vx [⟨tg, iter, ifs, 0⟩] scope pos) spos) (mSet i (mDc (own.map (·.2)) mi mg mt mk mv)) :=
  PS.imp (ps_setDcN (wi := tI X W .al mi) (g := tG1 X (own.map fun p : Str × Nat => p.2) mg) (tt := tT X WF mt) (tk := tE X WF .vl mk) (tv := tE X WF .vl mv) hc hN hy hyl sw hi ok hg ht hk hv hs) fun Dn σ H ⟨A, L, O0, gh, ρ, K, S, h, l⟩ =>
    show tDc (tI X W .al mi) (tG1 X (own.map fun p : Str × Nat => p.2) mg) (tT X WF mt) (tE X WF .vl mk) (tE X WF .vl mv) (own.map fun p : Str × Nat => p.2) σ H (fun w H1 => Dn.nx (σ.set i (some w)) H1) from dc_go S.se h l.exO fun w H1 d x b r q => l.nx _ _ H1 q (S.setF x b r)
end
end
end Ev

/-! Ev35: starred items of displays; methods of lists, tuples and dicts; slices backwards. -/
namespace Ev
open PySem PySem.Spec L2
open PyProof.Rows hiding St
variable [Tbl]
section
variable {X : Cx} {W : WX} {m : Md} {A : Addr} {L : LT} {Hz : Hp} {O O0 : Od} {gh : Gh} {ρ : EnvD} {σ : St} {H H' H1 : Hp} {Ed : Exc → Prop} {K : SEnds} {Dn : Ends} {pos spos : Pos}
theorem rms_vl {c : Rc} {H0 : Hp} : ∀ {ds : List D} {vs : List V}, RVs c O H ds vs → RMs .vl c O H0 H ds vs
  | [], vs, r => by unfold RVs at r; exact r
  | d :: ds, vs, r => by
    unfold RVs at r
    obtain ⟨v, r', e, h, hs⟩ := r
    exact ⟨v, r', e, h, rms_vl hs⟩
def stD : D → Option (List D)
  | .tup ds => some ds
  | .lst ds => some ds
  | _ => none
def mStar (me : ME) (mr : MA) : MA := fun ρ Q E => me ρ (fun d => Opt (stD d) fun ds => mr ρ (fun es => Q (ds ++ es)) E) E
theorem da_star {e : Expr} {es : List Expr} {me : ME} {mr : MA} {p : Pos} (ha : DE X W .al e me) (hr : DA X W .vl es mr) (hs : starEach (.Starred e p :: es) X.env = (true, eval e X.env) :: starEach es X.env := by rfl) : DA X W .vl (.Starred e p :: es) (mStar me mr) :=
  PA.imp (StX.pa_star ha hr hs) fun σ H Q ⟨A, L, Hz, O, ρ, Qd, Ed, S, hm, k, hE⟩ => by
    refine tE.go S hm hE fun d v H1 q S1 x1 r1 => ?_
    obtain ⟨ds, e, q⟩ := q
    have it : ∃ a xs, v = .ref a ∧ (SqT X.K H1 a xs ∨ SqL X.K H1 a xs) ∧ RVs (rc X A L) O H1 ds xs := by
      have r := RM.rb r1 S1.oA
      unfold stD at e
      split at e
      · cases e
        obtain ⟨a, ws, rfl, s1, r⟩ := rb_tup r
        exact ⟨a, ws, rfl, .inl s1, r⟩
      · cases e
        obtain ⟨a, ws, rfl, _, s1, r⟩ := rb_lst r
        exact ⟨a, ws, rfl, .inr (.of s1), r⟩
      · cases e
    obtain ⟨a, xs, rfl, hx, rx⟩ := it
    refine ⟨a, xs, rfl, hx, A, L, Hz, O, ρ, _, Ed, S1, q, fun es vs H2 q2 x2 b2 r2 => ?_, hE⟩
    exact k (ds ++ es) (xs ++ vs) H2 q2 (x1.trans x2) b2 (rms_vl ((rx.kp (x2.kp S1.oA)).append r2.vl))
end
end Ev

/-! Ev36: dict comprehensions of two clauses: the walk of the two loops (after the one-clause form and the list form of the hand layer). -/
namespace Ev
open PySem PySem.Spec L2
open PyProof.Rows hiding St
theorem compTurn2D_out (kx vx t0 i0 t1 i1 : Expr) (ifs0 ifs1 : List Expr) (scope : Scope) (pos : Pos) (it : Value) (D : Addr) (env : Env) :
    compTurn (.DictComp kx vx [⟨t0, i0, ifs0, 0⟩, ⟨t1, i1, ifs1, 0⟩] scope pos) 0 it (.ref D) env = (do
      standAt i0.pos
      match ← pyNext it with
      | none => pure (.done .next)
      | some v =>
        letOwnedTupleGo t0 it v
        assign t0 env v
        let mut ok := true
        for c in ifs0 do
          if ok then ok ← isTrue c env (eval c env)
        if ok then
          let x ← eval i1 env
          standAt i1.pos
          let x ← foldedSetIterable i1 env x
          let _ ← runOwn (.compStart (.DictComp kx vx [⟨t0, i0, ifs0, 0⟩, ⟨t1, i1, ifs1, 0⟩] scope pos) 1 (← holding [x] (pyIter x)) (.ref D) env) env
        again (.compLoop (.DictComp kx vx [⟨t0, i0, ifs0, 0⟩, ⟨t1, i1, ifs1, 0⟩] scope pos) 0 it (.ref D) env)) := by rfl
theorem compTurn2D_in (kx vx t0 i0 t1 i1 : Expr) (ifs0 ifs1 : List Expr) (scope : Scope) (pos : Pos) (it : Value) (D : Addr) (env : Env) :
    compTurn (.DictComp kx vx [⟨t0, i0, ifs0, 0⟩, ⟨t1, i1, ifs1, 0⟩] scope pos) 1 it (.ref D) env = (do
      standAt i1.pos
      match ← pyNext it with
      | none => pure (.done .next)
      | some v =>
        letOwnedTupleGo t1 it v
        assign t1 env v
        let mut ok := true
        for c in ifs1 do
          if ok then ok ← isTrue c env (eval c env)
        if ok then
          (do
            let kv ← eval kx env
            let vv ← holding [kv] (eval vx env)
            standAt { kx.pos with endLine := vx.pos.endLine, endCol := vx.pos.endCol }
            holding [kv, vv] (dictSet D kv vv))
        again (.compLoop (.DictComp kx vx [⟨t0, i0, ifs0, 0⟩, ⟨t1, i1, ifs1, 0⟩] scope pos) 1 it (.ref D) env)) := by rfl

section
variable {prog : Program} {w : World} {A : Around} {R : Result → Shared → Prop} {s : Shared} {kx vx t0 i0 t1 i1 : Expr} {ifs0 ifs1 : List Expr} {scope : Scope} {pos : Pos} {it : Value} {D : Addr} {env : Env}
theorem compLoop2D_out (hs : ∀ x, foldedSetIterable i1 env x = pure x) (I : Nat → Shared → Prop)
    (turn : ∀ n s, I n s → wpAny (model prog w) A (pyNext it) (fun r s₁ => match r with
      | none => R (.ok .next) s₁
      | some v => wpAny (model prog w) A (letOwnedTupleGo t0 it v) (fun _ s₁' => wpAny (model prog w) A (assign t0 env v) (fun _ s₂ =>
          wpAny (model prog w) A (forIn ifs0 true fun c r => if r = true then do let ok ← isTrue c env (eval c env); pure (ForInStep.yield ok) else pure (ForInStep.yield r)) (fun ok s₃ =>
            if ok = true then wpAny (model prog w) A (eval i1 env) (fun x s₄ => wpAny (model prog w) A (pyIter x) (fun it1 s₅ =>
              codeAny (model prog w) A (.compStart (.DictComp kx vx [⟨t0, i0, ifs0, 0⟩, ⟨t1, i1, ifs1, 0⟩] scope pos) 1 it1 (.ref D) env) (fun r s' => match r with
                | .ok _ => ∃ m, m < n ∧ I m s'
                | .error _ => False) s₅) (notedBy (model prog w) A env fun e s' => R (.error e) s') s₄) (notedBy (model prog w) A env fun e s' => R (.error e) s') s₃
            else ∃ m, m < n ∧ I m s₃) (notedBy (model prog w) A env fun e s' => R (.error e) s') s₂) (notedBy (model prog w) A env fun e s' => R (.error e) s') s₁') (notedBy (model prog w) A env fun e s' => R (.error e) s') s₁) (notedBy (model prog w) A env fun e s' => R (.error e) s') s)
    (n : Nat) (h : I n s) :
    codeAny (model prog w) A (.compLoop (.DictComp kx vx [⟨t0, i0, ifs0, 0⟩, ⟨t1, i1, ifs1, 0⟩] scope pos) 0 it (.ref D) env) R s := by
  refine codeAny_loop rfl I (fun n s hI => ?_) n h
  show wpAny _ A ((compTurn (.DictComp kx vx [⟨t0, i0, ifs0, 0⟩, ⟨t1, i1, ifs1, 0⟩] scope pos) 0 it (.ref D) env).onRaise (fun x => do noteFrame x env; theTreesLotGoes x)) _ _ s
  refine wpAny_noted ?_
  rw [compTurn2D_out]
  refine wpAny_bind (wpAny_standAt (wpAny_bind (wpAny_mono (turn n s hI) (fun r s₁ h₁ => ?_) fun _ _ h' => h')))
  cases r with
  | none => exact wpAny_pure h₁
  | some v =>
    refine wpAny_bind (wpAny_mono h₁ (fun _ s₁' h₁' => ?_) fun _ _ h' => h')
    refine wpAny_bind (wpAny_mono h₁' (fun _ s₂ h₂ => wpAny_bind (wpAny_mono h₂ (fun ok s₃ h₃ => ?_) fun _ _ h' => h')) fun _ _ h' => h')
    cases ok with
    | false => exact wpAny_pure ⟨rfl, h₃⟩
    | true =>
      refine wpAny_bind (wpAny_mono h₃ (fun x s₄ h₄ => ?_) fun _ _ h' => h')
      refine wpAny_bind (wpAny_standAt (wpAny_bind (wpAny_of_eq (hs x) (wpAny_bind (wpAny_holding (wpAny_mono h₄ (fun it1 s₅ h₅ => ?_) fun _ _ h' => h'))))))
      refine wpAny_bind (wpAny_runOwn ?_)
      rw [Around.mark_none]
      refine codeAny_mono h₅ fun r s' hr => ?_
      cases r with
      | ok f =>
        first
          | exact wpAny_pure ⟨rfl, hr⟩
          | exact wpAny_bind (wpAny_pure (wpAny_pure ⟨rfl, hr⟩))
      | error e => exact hr.elim
/-- the loop of the second -/
theorem compLoop2D_in (I : Nat → Shared → Prop)
    (turn : ∀ n s, I n s → wpAny (model prog w) A (pyNext it) (fun r s₁ => match r with
      | none => R (.ok .next) s₁
      | some v => wpAny (model prog w) A (letOwnedTupleGo t1 it v) (fun _ s₁' => wpAny (model prog w) A (assign t1 env v) (fun _ s₂ =>
          wpAny (model prog w) A (forIn ifs1 true fun c r => if r = true then do let ok ← isTrue c env (eval c env); pure (ForInStep.yield ok) else pure (ForInStep.yield r)) (fun ok s₃ =>
            if ok = true then wpAny (model prog w) A (eval kx env) (fun kv s₄ => wpAny (model prog w) A (eval vx env) (fun vv s₅ =>
              wpAny (model prog w) A (dictSet D kv vv) (fun _ s₆ => ∃ m, m < n ∧ I m s₆) (notedBy (model prog w) A env fun e s' => R (.error e) s') s₅) (notedBy (model prog w) A env fun e s' => R (.error e) s') s₄) (notedBy (model prog w) A env fun e s' => R (.error e) s') s₃
            else ∃ m, m < n ∧ I m s₃) (notedBy (model prog w) A env fun e s' => R (.error e) s') s₂) (notedBy (model prog w) A env fun e s' => R (.error e) s') s₁') (notedBy (model prog w) A env fun e s' => R (.error e) s') s₁) (notedBy (model prog w) A env fun e s' => R (.error e) s') s)
    (n : Nat) (h : I n s) :
    codeAny (model prog w) A (.compLoop (.DictComp kx vx [⟨t0, i0, ifs0, 0⟩, ⟨t1, i1, ifs1, 0⟩] scope pos) 1 it (.ref D) env) R s := by
  refine codeAny_loop rfl I (fun n s hI => ?_) n h
  show wpAny _ A ((compTurn (.DictComp kx vx [⟨t0, i0, ifs0, 0⟩, ⟨t1, i1, ifs1, 0⟩] scope pos) 1 it (.ref D) env).onRaise (fun x => do noteFrame x env; theTreesLotGoes x)) _ _ s
  refine wpAny_noted ?_
  rw [compTurn2D_in]
  refine wpAny_bind (wpAny_standAt (wpAny_bind (wpAny_mono (turn n s hI) (fun r s₁ h₁ => ?_) fun _ _ h' => h')))
  cases r with
  | none => exact wpAny_pure h₁
  | some v =>
    refine wpAny_bind (wpAny_mono h₁ (fun _ s₁' h₁' => ?_) fun _ _ h' => h')
    refine wpAny_bind (wpAny_mono h₁' (fun _ s₂ h₂ => wpAny_bind (wpAny_mono h₂ (fun ok s₃ h₃ => ?_) fun _ _ h' => h')) fun _ _ h' => h')
    cases ok with
    | false => exact wpAny_pure ⟨rfl, h₃⟩
    | true =>
      exact wpAny_bind (wpAny_bind (wpAny_mono h₃ (fun kv s₄ h₄ => wpAny_bind (wpAny_holding (wpAny_mono h₄ (fun vv s₅ h₅ => wpAny_bind (wpAny_standAt (wpAny_holding (wpAny_mono h₅ (fun _ s₆ h₆ => wpAny_pure ⟨rfl, h₆⟩) fun _ _ h' => h')))) fun _ _ h' => h'))) fun _ _ h' => h'))
/-- the second clause's start -/
theorem compStart1D_ok (h0 : codeAny (model prog w) A (.compLoop (.DictComp kx vx [⟨t0, i0, ifs0, 0⟩, ⟨t1, i1, ifs1, 0⟩] scope pos) 1 it (.ref D) env) R s)
    (h : wpAny (model prog w) A (pyIter it) (fun it' s' => codeAny (model prog w) A (.compLoop (.DictComp kx vx [⟨t0, i0, ifs0, 0⟩, ⟨t1, i1, ifs1, 0⟩] scope pos) 1 it' (.ref D) env) R s')
      (notedBy (model prog w) A env fun x s' => R (.error x) s') s) :
    codeAny (model prog w) A (.compStart (.DictComp kx vx [⟨t0, i0, ifs0, 0⟩, ⟨t1, i1, ifs1, 0⟩] scope pos) 1 it (.ref D) env) R s := by
  refine codeAny_of_tree ?_
  show wpAny _ _ ((compStart (.DictComp kx vx [⟨t0, i0, ifs0, 0⟩, ⟨t1, i1, ifs1, 0⟩] scope pos) 1 it (.ref D) env).onRaise (fun x => do noteFrame x env; standAt theWindowsPlace)) _ _ s
  refine wpAny_notedAt ?_
  unfold compStart
  show wpAny _ _ (ask >>= _) _ _ s
  refine wpAny_bind (wpAny_askSetting (wpAny_ite ?_))
  split
  · first
      | exact wpAny_bind (wpAny_pure (wpAny_pure (And.intro rfl h0)))
      | exact wpAny_pure (And.intro rfl h0)
  · first
      | exact wpAny_bind (wpAny_rule (wpAny_bind (wpAny_standAt (wpAny_bind (wpAny_mono h (fun it' s' h' => wpAny_pure (And.intro rfl h')) fun _ _ x => x)))))
      | (refine wpAny_bind (wpAny_rule ?_); show wpAny _ _ (standAt i1.pos >>= _) _ _ s; exact wpAny_bind (wpAny_standAt (wpAny_bind (wpAny_mono h (fun it' s' h' => wpAny_pure (And.intro rfl h')) fun _ _ x => x))))
end
section
variable {X : Cx}
/-- {k: v for tg in iter if .. for tg1 in iter1 if ..}, keys integers or texts -/
def tDc2 (wi : TI) (g : TG) (tt : TT) (wi1 : TI) (g1 : TG) (tt1 : TT) (tk tv : TE) (vs vs1 : List Nat) : TE := fun σ H Q => wi σ H fun J H1 => ∀ D, H1 D = none → ∃ W : Nat → Nat → Hp → Prop, (∃ m, W 0 m (upd H1 D (.dK []))) ∧ ∀ i m H, W i m H →
  (J.stop i H ∧ Q (.ref D) H) ∨ (J.go i H ∧ ∃ Nx : Hp → Prop, (∀ H', Nx H' → ∃ m', m' < m ∧ W (i + 1) m' H') ∧ ∀ x H', J.yld i H x H' → g x (L2.wipe σ vs) H' fun σ2 H2 => L2.wipe σ2 vs = L2.wipe σ vs ∧ tt σ2 H2 fun b H3 =>
    if b = true then wi1 σ2 H3 fun J1 H4 => ∃ W1 : Nat → Nat → Hp → Prop, (∃ m, W1 0 m H4) ∧ ∀ j k H, W1 j k H →
      (J1.stop j H ∧ Nx H) ∨ (J1.go j H ∧ ∃ Nx1 : Hp → Prop, (∀ H', Nx1 H' → ∃ k', k' < k ∧ W1 (j + 1) k' H') ∧ ∀ x H', J1.yld j H x H' → g1 x (L2.wipe σ2 vs1) H' fun σ3 H5 => L2.wipe σ3 vs1 = L2.wipe σ2 vs1 ∧ tt1 σ3 H5 fun b H6 =>
        if b = true then tk σ3 H6 fun y H7 => tv σ3 H7 fun z H8 => ∃ kvs k, y = kV k ∧ H8 D = some (.dK kvs) ∧ kvs.length < sizeLine ∧ Nx1 (upd H8 D (.dK (putK kvs k z))) else Nx1 H6)
    else Nx H3)
theorem dc2_core {pins : List (Addr × Obj)} {s : Shared} {σ : St} {H : Hp} {Q : VK} {kx vx tg iter tg1 iter1 : Expr} {ifs ifs1 : List Expr} {scope : Scope} {own : List (Str × Nat)} {vs1 : List Nat} {pos pos' : Pos} {wi wi1 : TI} {g g1 : TG} {tt tt1 : TT} {tk tv : TE} {use : Option (Value → Sem Unit)} {Qf : Value → Shared → Prop}
    (hc : X.calm = true) (hN : X.N.Nodup) (I : Inv X pins σ H s) (hi : PI X tg iter wi) (ok : BlkOk X.N X.env.scope scope own) (hv : ∀ i ∈ vs1, i ∈ own.map (·.2))
    (hg : ∀ (s : Shared) (H : Hp) (C : Addr) (cl : List (Str × Addr)) (fp : List Addr), PG (X.blk s H scope (compEnvC scope cl C X.env) fp) tg g) (ht : ∀ (s : Shared) (H : Hp) (C : Addr) (cl : List (Str × Addr)) (fp : List Addr), PTs (X.blk s H scope (compEnvC scope cl C X.env) fp) ifs tt)
    (he : ∀ (s : Shared) (H : Hp) (C : Addr) (cl : List (Str × Addr)) (fp : List Addr), PE (X.blk s H scope (compEnvC scope cl C X.env) fp) kx tk) (hvx : ∀ (s : Shared) (H : Hp) (C : Addr) (cl : List (Str × Addr)) (fp : List Addr), PE (X.blk s H scope (compEnvC scope cl C X.env) fp) vx tv) (hs : ∀ x, foldedSetIterable iter X.env x = pure x)
    (hi1 : ∀ (s : Shared) (H : Hp) (C : Addr) (cl : List (Str × Addr)) (fp : List Addr), PI (X.blk s H scope (compEnvC scope cl C X.env) fp) tg1 iter1 wi1)
    (hg1 : ∀ (s : Shared) (H : Hp) (C : Addr) (cl : List (Str × Addr)) (fp : List Addr), PG (X.blk s H scope (compEnvC scope cl C X.env) fp) tg1 g1)
    (ht1 : ∀ (s : Shared) (H : Hp) (C : Addr) (cl : List (Str × Addr)) (fp : List Addr), PTs (X.blk s H scope (compEnvC scope cl C X.env) fp) ifs1 tt1)
    (hs1 : ∀ env x, foldedSetIterable iter1 env x = pure x)
    (h : tDc2 wi g tt wi1 g1 tt1 tk tv (own.map (·.2)) vs1 σ H Q)
    (hRR : ∀ D C s' m H', Inv X pins σ H' s' → Q (.ref D) H' → s'.heap.Ns C m → FpOk X pins H' C → compPost (model X.prog X.w) X.A X.xe use Qf (.ref D) C (.ok .next) s') :
    wpAny (model X.prog X.w) X.A (comprehension (.DictComp kx vx [⟨tg, iter, ifs, 0⟩, ⟨tg1, iter1, ifs1, 0⟩] scope pos) scope X.env pos' newDict false (eval iter X.env) use) Qf X.xe s := by
  have hfree : ∀ y ∈ scope.names, y.2 = .free → ∃ c, X.env.cells.lookup y.1 = some c := fun y hy e => by
    rcases ok.free y hy e with k | k
    · exact I.ok.has _ (.inl k)
    · exact I.ok.has _ (.inr k)
  refine wpAny_comprehension_free (use := use) rfl hs (closure_ok hfree) ok.kind (fun y hy e => by rw [ok.uniq y hy, e])
    (thn (hi.run pins s σ H _ I h) fun xv s1 hx => thn hx fun itv s2 h2 => ?_)
  obtain ⟨it, fp, tn, J, H2, e, I2, T, st2, f2, q⟩ := h2
  subst e
  refine wpAny_newObj_type (newEnv_comp ?_)
  generalize hD : s2.heap.objs.size = D
  have hDn : H2 D = none := I2.hok.fresh (Nat.le_of_eq hD)
  obtain ⟨W, ⟨m0, w0⟩, turn⟩ := q D hDn
  -- the new list
  generalize hs3 : ({ s2 with heap := s2.heap.push { cls := .type "dict", data := .dict #[] } } : Shared) = s3
  have I3 : Inv X pins σ (upd H2 D (.dK [])) s3 := by
    rw [← hs3]
    refine I2.laid (t' := s2.toks) (fun b o e => Heap.get?_push_of_some _ e) (Nat.le_of_eq hD) ?_
    rw [← hD]
    exact dk_empty s2.heap I2.big
  have h3 : s3.heap = s2.heap.push { cls := .type "dict", data := .dict #[] } := by rw [← hs3]
  have sz : ∀ b ∈ fp, b < s2.heap.objs.size := fun b hb => by
    obtain ⟨o, e, _⟩ := T.obj _ _ st2 b hb
    exact Heap.lt_size e
  have f3 : ∀ b ∈ fp, FpOk X pins (upd H2 D (.dK [])) b ∧ b < s3.heap.objs.size := fun b hb => by
    have hlt := sz b hb
    refine ⟨⟨?_, (f2 b hb).2⟩, by rw [h3, Heap.size_push]; exact Nat.lt_succ_of_lt hlt⟩
    rw [upd_ne (by rw [← hD]; exact Nat.ne_of_lt hlt)]
    exact (f2 b hb).1
  have st3 : tn 0 s3.heap := T.keep _ _ _ st2 fun b _ o e => by rw [h3]; exact Heap.get?_push_of_some _ e
  have I4 := block_start I3 ok hN f3
  have pg := hg s3 (upd H2 D (.dK [])) s3.heap.objs.size (cellsFrom (s3.heap.objs.size + 1) scope.names (cloFrom X.env.cells scope.names [])) fp
  have pt := ht s3 (upd H2 D (.dK [])) s3.heap.objs.size (cellsFrom (s3.heap.objs.size + 1) scope.names (cloFrom X.env.cells scope.names [])) fp
  have pe := he s3 (upd H2 D (.dK [])) s3.heap.objs.size (cellsFrom (s3.heap.objs.size + 1) scope.names (cloFrom X.env.cells scope.names [])) fp
  have pvx := hvx s3 (upd H2 D (.dK [])) s3.heap.objs.size (cellsFrom (s3.heap.objs.size + 1) scope.names (cloFrom X.env.cells scope.names [])) fp
  have pi1 := hi1 s3 (upd H2 D (.dK [])) s3.heap.objs.size (cellsFrom (s3.heap.objs.size + 1) scope.names (cloFrom X.env.cells scope.names [])) fp
  have pg1 := hg1 s3 (upd H2 D (.dK [])) s3.heap.objs.size (cellsFrom (s3.heap.objs.size + 1) scope.names (cloFrom X.env.cells scope.names [])) fp
  have pt1 := ht1 s3 (upd H2 D (.dK [])) s3.heap.objs.size (cellsFrom (s3.heap.objs.size + 1) scope.names (cloFrom X.env.cells scope.names [])) fp
  show codeAny _ _ (.compStart (.DictComp kx vx [⟨tg, iter, ifs, 0⟩, ⟨tg1, iter1, ifs1, 0⟩] scope pos) 0 (.ref it) (.ref D) (compEnvC scope (cellsFrom (s3.heap.objs.size + 1) scope.names (cloFrom X.env.cells scope.names [])) s3.heap.objs.size X.env)) (compPost (model X.prog X.w) X.A X.xe use Qf (.ref D) s3.heap.objs.size) { s3 with heap := pushCells (s3.heap.push { cls := .type "dict", data := .dict #[] }) scope.names }
  have nfp : ∀ b ∈ fp, (upd H2 D (.dK [])) b = none := fun b hb => (f3 b hb).1.1
  generalize hce : compEnvC scope (cellsFrom (s3.heap.objs.size + 1) scope.names (cloFrom X.env.cells scope.names [])) s3.heap.objs.size X.env = ce at I4 pg pt pe pvx pi1 pg1 pt1 ⊢
  have cL : ce.locals = s3.heap.objs.size := by subst hce; rfl
  generalize hH3 : upd H2 D (.dK []) = H3 at I3 I4 pg pt pe pvx pi1 pg1 pt1 w0 nfp f3
  generalize hs4 : ({ s3 with heap := pushCells (s3.heap.push { cls := .type "dict", data := .dict #[] }) scope.names } : Shared) = s4 at I4 ⊢
  have st4 : tn 0 s4.heap := T.keep _ _ _ st3 fun b _ o e => by rw [← hs4]; exact pushCells_keeps _ _ _ _ (Heap.get?_push_of_some _ e)
  have stat : ∀ {σ' : St} {H' : Hp} {s' : Shared}, Inv (X.blk s3 H3 scope ce fp) [] σ' H' s' → (∀ b ∈ fp, H' b = none) → ∀ b ∈ fp, FpOk (X.blk s3 H3 scope ce fp) [] H' b := fun {σ' H' s'} I' hn b hb =>
    ⟨hn b hb, (I'.ok.exf b hb).1, I'.ok.exfs b hb, .inl hb, fun x c e => (I'.ok.exf b hb).2 x c e, fun p hp => absurd (show p ∈ ([] : List (Addr × Obj)) ++ [] from hp) (by simp)⟩
  have loop : codeAny (model X.prog X.w) X.A (.compLoop (.DictComp kx vx [⟨tg, iter, ifs, 0⟩, ⟨tg1, iter1, ifs1, 0⟩] scope pos) 0 (.ref it) (.ref D) ce) (compPost (model X.prog X.w) X.A X.xe use Qf (.ref D) s3.heap.objs.size) s4 := by
    refine compLoop2D_out (hs1 ce) (fun n s' => ∃ i H', Inv (X.blk s3 H3 scope ce fp) [] (L2.wipe σ (own.map (·.2))) H' s' ∧ tn i s'.heap ∧ (∀ b ∈ fp, H' b = none) ∧ W i n H') ?_ m0 ⟨0, H3, I4, st4, nfp, w0⟩
    rintro n s5 ⟨i, H5, I5, st5, n5, w5⟩
    rcases turn i n H5 w5 with ⟨stop, qq⟩ | ⟨go, Nx, hNx, step⟩
    · have td := T.done (X.blk s3 H3 scope ce fp) rfl rfl rfl hc i [] s5 _ H5 (fun _ _ => False) I5 (stat I5 n5) st5 stop
      refine thnF td fun r s6 ⟨hr, I6⟩ => ?_
      subst hr
      -- back in the def's context
      have I7 : Inv X pins σ H5 s6 := I3.call' (ch := fp) I6.os I6.base I6.hok I6.bare fun b hb => ⟨(f3 b hb).1.2.2.2.1, (f3 b hb).1.2.1, (f3 b hb).1.2.2.2.2.1, (f3 b hb).1.2.2.2.2.2⟩
      have nC : H5 s3.heap.objs.size = none := by
        have z : H5 ce.locals = none := I6.free
        rw [cL] at z
        exact z
      obtain ⟨m, hn, _⟩ := I6.loc
      have hn : s6.heap.Ns ce.locals m := hn
      rw [cL] at hn
      exact hRR D s3.heap.objs.size s6 m H5 I7 qq hn (I3.fpOk (Nat.le_refl _) nC)
    · have ti := T.item (X.blk s3 H3 scope ce fp) rfl rfl rfl hc i [] s5 _ H5 (fun _ _ => False) I5 (stat I5 n5) st5 go
      refine thnF ti fun r s6 ⟨u, hr, h6⟩ => ?_
      subst hr
      refine thnF h6 fun _ s7 ⟨x, H7, I7, r7, y7, st7, n7⟩ => ?_
      have I7' := I7.pinned (stat I7 n7) (T.obj _ _ st7)
      refine thnF (pg.run _ s7 _ H7 x u _ I7' r7 (step x H7 y7)) fun _ s8 ⟨σ8, H8, I8, hw8, q8⟩ => ?_
      refine thnF (pt.run _ s8 σ8 H8 _ I8 q8) fun b s9 ⟨H9, I9, q9⟩ => ?_
      -- the turn's end, from any slots that know what the block knew at its start
      have fin : ∀ {σ9 : St} {s' : Shared} {H' : Hp}, Inv (X.blk s3 H3 scope ce fp) ([] ++ pinsAt fp s7.heap) σ9 H' s' → (L2.wipe σ (own.map (·.2))).length = σ9.length → (∀ (j : Nat) v, (L2.wipe σ (own.map (·.2)))[j]? = some (some v) → σ9[j]? = some (some v)) → Nx H' →
          ∃ m, m < n ∧ ∃ i H', Inv (X.blk s3 H3 scope ce fp) [] (L2.wipe σ (own.map (·.2))) H' s' ∧ tn i s'.heap ∧ (∀ b ∈ fp, H' b = none) ∧ W i m H' := fun {σ9 s' H'} I' hl hk nx => by
        obtain ⟨m', hm, w'⟩ := hNx H' nx
        have pin' : ∀ b ∈ fp, ∀ o, s7.heap.get? b = some o → s'.heap.get? b = some o ∧ H' b = none := fun b hb o e =>
          let z := I'.pin (b, o) (List.mem_append_right _ (List.mem_append_right _ (mem_pinsAt hb e)))
          ⟨z.1, z.2.1⟩
        refine ⟨m', hm, i + 1, H', (I'.unpinned (pins := [])).weak hl hk, T.keep _ _ _ st7 fun b hb o e => (pin' b hb o e).1, fun b hb => ?_, w'⟩
        obtain ⟨o, e, _⟩ := T.obj _ _ st7 b hb
        exact (pin' b hb o e).2
      have hl8 : (L2.wipe σ (own.map (·.2))).length = σ8.length := by rw [← hw8, wipe_length]
      have hk8 : ∀ (j : Nat) v, (L2.wipe σ (own.map (·.2)))[j]? = some (some v) → σ8[j]? = some (some v) := fun j v e => by
        rw [← hw8] at e
        exact (wipe_some e).1
      have hk9 : ∀ (j : Nat) v, (L2.wipe σ (own.map (·.2)))[j]? = some (some v) → (L2.wipe σ8 vs1)[j]? = some (some v) := fun j v e => by
        rw [← hw8] at e
        obtain ⟨e1, e2⟩ := wipe_some e
        rw [wipe_out fun z => e2 (hv j z)]
        exact e1
      cases b with
      | false =>
        simp only [Bool.false_eq_true, if_false] at q9 ⊢
        exact fin I9 hl8 hk8 q9
      | true =>
        simp only [if_true] at q9 ⊢
        refine thnF (pi1.run _ s9 σ8 H9 _ I9 q9) fun xv s10 hx => thnF hx fun itv s11 h11 => ?_
        obtain ⟨it1, fp1, tn1, J1, H11, e1, I11, T1, st11, f11, W1, ⟨m1, w1⟩, turn1⟩ := h11
        subst e1
        -- the inner loop
        have stat1 : ∀ {H' : Hp}, (∀ b ∈ fp1, H' b = none) → ∀ b ∈ fp1, FpOk (X.blk s3 H3 scope ce fp) ([] ++ pinsAt fp s7.heap) H' b := fun hn b hb => ⟨hn b hb, (f11 b hb).2⟩
        have loop1 : codeAny (model X.prog X.w) X.A (.compLoop (.DictComp kx vx [⟨tg, iter, ifs, 0⟩, ⟨tg1, iter1, ifs1, 0⟩] scope pos) 1 (.ref it1) (.ref D) ce)
            (fun r s' => match r with
              | .ok _ => ∃ m, m < n ∧ ∃ i H', Inv (X.blk s3 H3 scope ce fp) [] (L2.wipe σ (own.map (·.2))) H' s' ∧ tn i s'.heap ∧ (∀ b ∈ fp, H' b = none) ∧ W i m H'
              | .error _ => False) s11 := by
          refine compLoop2D_in (fun k s' => ∃ j H', Inv (X.blk s3 H3 scope ce fp) ([] ++ pinsAt fp s7.heap) (L2.wipe σ8 vs1) H' s' ∧ tn1 j s'.heap ∧ (∀ b ∈ fp1, H' b = none) ∧ W1 j k H') ?_ m1 ⟨0, H11, I11.weak (wipe_length _ _) (fun j v e => (wipe_some e).1), st11, fun b hb => (f11 b hb).1, w1⟩
          rintro k s12 ⟨j, H12, I12, st12, n12, w12⟩
          rcases turn1 j k H12 w12 with ⟨stop1, nx1⟩ | ⟨go1, Nx1, hNx1, step1⟩
          · refine thnF (T1.done (X.blk s3 H3 scope ce fp) rfl rfl rfl hc j _ s12 (L2.wipe σ8 vs1) H12 (fun _ _ => False) I12 (stat1 n12) st12 stop1) fun r s13 ⟨hr, I13⟩ => ?_
            subst hr
            exact fin I13 (hl8.trans (wipe_length σ8 vs1).symm) hk9 nx1
          · refine thnF (T1.item (X.blk s3 H3 scope ce fp) rfl rfl rfl hc j _ s12 (L2.wipe σ8 vs1) H12 (fun _ _ => False) I12 (stat1 n12) st12 go1) fun r s13 ⟨u1, hr, h13⟩ => ?_
            subst hr
            refine thnF h13 fun _ s14 ⟨x1, H14, I14, r14, y14, st14, n14⟩ => ?_
            have I14' := I14.pinned (stat1 n14) (T1.obj _ _ st14)
            refine thnF (pg1.run _ s14 (L2.wipe σ8 vs1) H14 x1 u1 _ I14' r14 (step1 x1 H14 y14)) fun _ s15 ⟨σ15, H15, I15, hw15, q15⟩ => ?_
            refine thnF (pt1.run _ s15 σ15 H15 _ I15 q15) fun b1 s16 ⟨H16, I16, q16⟩ => ?_
            have fin1 : ∀ {s' : Shared} {H' : Hp}, Inv (X.blk s3 H3 scope ce fp) (([] ++ pinsAt fp s7.heap) ++ pinsAt fp1 s14.heap) σ15 H' s' → Nx1 H' → ∃ m, m < k ∧ ∃ j H', Inv (X.blk s3 H3 scope ce fp) ([] ++ pinsAt fp s7.heap) (L2.wipe σ8 vs1) H' s' ∧ tn1 j s'.heap ∧ (∀ b ∈ fp1, H' b = none) ∧ W1 j m H' := fun {s' H'} I' nx => by
              obtain ⟨m', hm, w'⟩ := hNx1 H' nx
              have pin' : ∀ b ∈ fp1, ∀ o, s14.heap.get? b = some o → s'.heap.get? b = some o ∧ H' b = none := fun b hb o e =>
                let z := I'.pin (b, o) (List.mem_append_right _ (List.mem_append_right _ (mem_pinsAt hb e)))
                ⟨z.1, z.2.1⟩
              refine ⟨m', hm, j + 1, H', I'.unpinned.weak (by rw [← hw15, wipe_length]) (fun j v e => by rw [← hw15] at e; exact (wipe_some e).1), T1.keep _ _ _ st14 fun b hb o e => (pin' b hb o e).1, fun b hb => ?_, w'⟩
              obtain ⟨o, e, _⟩ := T1.obj _ _ st14 b hb
              exact (pin' b hb o e).2
            cases b1 with
            | false =>
              simp only [Bool.false_eq_true, if_false] at q16 ⊢
              exact fin1 I16 q16
            | true =>
              simp only [if_true] at q16 ⊢
              refine thnF (pe.run _ s16 σ15 H16 _ I16 q16) fun z s17 ⟨yk, H17, I17, r17, q17⟩ => ?_
              refine thnF (pvx.run _ s17 σ15 H17 _ I17 q17) fun z2 s18 ⟨yv, H18, I18, r18, kvs, key, ek, hD18, hz18, nx⟩ => ?_
              subst ek
              exact d_dictSet (X := X.blk s3 H3 scope ce fp) I18 hD18 hz18 r17 r18 fun s19 I19 => fin1 I19 nx
        exact compStart1D_ok loop1 (T1.self X.A 0 _ _ _ st11 loop1)
  exact codeAny_compStart_dict loop (T.self X.A 0 _ _ _ st4 loop)
theorem pe_dc2 {kx vx tg iter tg1 iter1 : Expr} {ifs ifs1 : List Expr} {scope : Scope} {own : List (Str × Nat)} {vs1 : List Nat} {pos : Pos} {wi wi1 : TI} {g g1 : TG} {tt tt1 : TT} {tk tv : TE} (hc : X.calm = true) (hN : X.N.Nodup) (hi : PI X tg iter wi) (ok : BlkOk X.N X.env.scope scope own) (hv : ∀ i ∈ vs1, i ∈ own.map (·.2))
    (hg : ∀ (s : Shared) (H : Hp) (C : Addr) (cl : List (Str × Addr)) (fp : List Addr), PG (X.blk s H scope (compEnvC scope cl C X.env) fp) tg g) (ht : ∀ (s : Shared) (H : Hp) (C : Addr) (cl : List (Str × Addr)) (fp : List Addr), PTs (X.blk s H scope (compEnvC scope cl C X.env) fp) ifs tt)
    (hi1 : ∀ (s : Shared) (H : Hp) (C : Addr) (cl : List (Str × Addr)) (fp : List Addr), PI (X.blk s H scope (compEnvC scope cl C X.env) fp) tg1 iter1 wi1)
    (hg1 : ∀ (s : Shared) (H : Hp) (C : Addr) (cl : List (Str × Addr)) (fp : List Addr), PG (X.blk s H scope (compEnvC scope cl C X.env) fp) tg1 g1) (ht1 : ∀ (s : Shared) (H : Hp) (C : Addr) (cl : List (Str × Addr)) (fp : List Addr), PTs (X.blk s H scope (compEnvC scope cl C X.env) fp) ifs1 tt1)
    (he : ∀ (s : Shared) (H : Hp) (C : Addr) (cl : List (Str × Addr)) (fp : List Addr), PE (X.blk s H scope (compEnvC scope cl C X.env) fp) kx tk) (hvx : ∀ (s : Shared) (H : Hp) (C : Addr) (cl : List (Str × Addr)) (fp : List Addr), PE (X.blk s H scope (compEnvC scope cl C X.env) fp) vx tv) (hs : ∀ x, foldedSetIterable iter X.env x = pure x := by intro _; rfl) (hs1 : ∀ env x, foldedSetIterable iter1 env x = pure x := by intro _ _; rfl) :
    PE X (.DictComp kx vx [⟨tg, iter, ifs, 0⟩, ⟨tg1, iter1, ifs1, 0⟩] scope pos) (tDc2 wi g tt wi1 g1 tt1 tk tv (own.map (·.2)) vs1) := by
  refine ⟨fun pins s σ H Q I h => ?_⟩
  rw [arm_eval_DictComp]
  refine dc2_core hc hN I hi ok hv hg ht he hvx hs hi1 hg1 ht1 hs1 h fun D C s' m H' I' q hn f => ⟨m, hn, fun h'' sb => ?_⟩
  obtain ⟨f0, f1, f2, f3, f4, f5⟩ := f
  exact ⟨.ref D, H', I'.turned (t' := s'.toks) (fun b o hb e => (sb.2 b hb).trans e) f0 f1 f3 f4 f5, rfl, q⟩
end
end Ev

/-! Ev37: dict comprehensions of two clauses, over trees. -/
namespace Ev
open PySem PySem.Spec L2
open PyProof.Rows hiding St
variable [Tbl]
section
variable {X : Cx} {W : WX} {m : Md} {A : Addr} {L : LT} {Hz : Hp} {O O0 : Od} {gh : Gh} {ρ : EnvD} {σ : St} {H H' H1 : Hp} {Ed : Exc → Prop} {K : SEnds} {Dn : Ends} {pos spos : Pos}
theorem SE.putD {ρ' : EnvD} {σ' : St} {H6 : Hp} {Dl : Addr} {kvs : List (Key × V)} {key : Key} {w : V} (nD : H1 Dl = none) (hI : Bag (rc X A L) H1) (oA : OA (rc X A L) O) (nO : ¬ O Dl) (S6 : SE (rc X A L) Hz (fun b => O b ∨ b = Dl) ρ' σ' H6) (hz : Ex (rc X A L) Hz H1) (x6 : Ex (rc X A L) H1 H6) (hD6 : H6 Dl = some (.dK kvs))
    (hno : ∀ (i : Nat) (s : Slot), ρ'[i]? = some (some s) → isOwn s = true → σ'[i]? ≠ some (some (.ref Dl))) : Ex (rc X A L) H1 (upd H6 Dl (.dK (putK kvs key w))) ∧ SE (rc X A L) Hz (fun b => O b ∨ b = Dl) ρ' σ' (upd H6 Dl (.dK (putK kvs key w))) := by
  have nA : ¬ av (rc X A L) Dl := fun z => nO (oA _ z)
  have up : Kp (fun b => O b ∨ b = Dl) H6 (upd H6 Dl (.dK (putK kvs key w))) := Kp.wr hD6 trivial (.inr rfl)
  have exu : Ex (rc X A L) H1 (upd H6 Dl (.dK (putK kvs key w))) := fun b o e m => by
    have nb : b ≠ Dl := fun z => by rw [z, nD] at e; cases e
    rw [upd_ne nb]
    exact x6 b o e m
  refine ⟨exu, ?_, hz.trans exu, S6.oA, fun b hb => ?_, fun j s h => ?_, S6.len⟩
  · obtain ⟨ne, c0, c1, c2, ns, h0, h1, h2, h3, h4, h5, hA, hLL, hT⟩ := S6.bag
    have nAA : A ≠ Dl := fun z => nA (.inl z.symm)
    have nL : (rc X A L).L ≠ Dl := fun z => (bag_tr hI).2 (by rw [z]; exact nD)
    exact ⟨ne, c0, c1, c2, ns, h0, h1, h2, h3, h4, h5, by rw [upd_ne nAA]; exact hA, by rw [upd_ne nL]; exact hLL, tabs_wr hT hD6 (fun _ z => by cases z) (fun _ z => by cases z) trivial⟩
  · by_cases e : b = Dl
    · subst e; rw [upd_same]; intro z; cases z
    · rw [upd_ne e]; exact S6.oT b hb
  · obtain ⟨v, h1, h2⟩ := S6.slots j s h
    refine ⟨v, h1, ?_⟩
    have nd : ∀ a, isOwn s = true → v = .ref a → a ≠ Dl := by
      rintro a ho rfl rfl
      exact hno j s h ho h1
    cases s with
    | val d => exact RV.kp (show RV _ _ _ d v from h2) up
    | own ds =>
      obtain ⟨a, ws, e1, n, e2, r⟩ := h2
      exact ⟨a, ws, e1, n, by rw [upd_ne (nd a rfl e1)]; exact e2, r.kp up⟩
    | ownd ks ds =>
      obtain ⟨a, ws, e1, n, e2, r⟩ := h2
      refine ⟨a, ws, e1, n, ?_, r.kp up⟩
      rcases e2 with ⟨kvs, e2, e3⟩ | ⟨kvs, e2, e3⟩
      · exact .inl ⟨kvs, by rw [upd_ne (nd a rfl e1)]; exact e2, e3⟩
      · exact .inr ⟨kvs, by rw [upd_ne (nd a rfl e1)]; exact e2, e3⟩
theorem RB.putD {H6 : Hp} {Dl : Addr} {kvs : List (Key × V)} {key : Key} {w : V} {g : D × V} (nD : H1 Dl = none) (r1 : RB (rc X A L) O H1 g.1 g.2) (r : RB (rc X A L) (fun b => O b ∨ b = Dl) H6 g.1 g.2) (hD6 : H6 Dl = some (.dK kvs)) : RB (rc X A L) (fun b => O b ∨ b = Dl) (upd H6 Dl (.dK (putK kvs key w))) g.1 g.2 := by
  have up : Kp (fun b => O b ∨ b = Dl) H6 (upd H6 Dl (.dK (putK kvs key w))) := Kp.wr hD6 trivial (.inr rfl)
  cases e : g.1 with
  | lst es =>
    rw [e] at r r1
    obtain ⟨a, ws, e1, n, h1, r⟩ := r
    obtain ⟨a', ws', e1', _, h1', _⟩ := r1
    rw [e1] at e1'; cases e1'
    exact ⟨a, ws, e1, n, by rw [upd_ne (ne_of_none h1' nD)]; exact h1, r.kp up⟩
  | dct ks es =>
    rw [e] at r r1
    obtain ⟨a, ws, e1, n, h1, r⟩ := r
    obtain ⟨a', ws', e1', _, h1', _⟩ := r1
    rw [e1] at e1'; cases e1'
    have na : a ≠ Dl := fun z => dctAt_some h1' (by rw [z]; exact nD)
    refine ⟨a, ws, e1, n, ?_, r.kp up⟩
    rcases h1 with ⟨kvs, h1 | ⟨o, h1⟩, z, h2⟩ | ⟨kvs, h1 | ⟨o, h1⟩, z, h2⟩
    · exact .inl ⟨kvs, .inl (by rw [upd_ne na]; exact h1), fun q => by rw [upd_ne na]; exact z q, h2⟩
    · exact .inl ⟨kvs, .inr ⟨o, by rw [upd_ne na]; exact h1⟩, fun q => by rw [upd_ne na]; exact z q, h2⟩
    · exact .inr ⟨kvs, .inl (by rw [upd_ne na]; exact h1), fun q => by rw [upd_ne na]; exact z q, h2⟩
    · exact .inr ⟨kvs, .inr ⟨o, by rw [upd_ne na]; exact h1⟩, fun q => by rw [upd_ne na]; exact z q, h2⟩
  | _ =>
    rw [e] at r
    exact RV.kp (show RV (rc X A L) (fun b => O b ∨ b = Dl) H6 _ g.2 from r) up
def dc2E (vs vs1 : List Nat) (mg : MG) (mt : MT) (mi1 : MI) (mg1 : MG) (mt1 : MT) (mk mv : ME) : List D → EnvD → List D → List D → (List D → List D → Prop) → Prop
  | [], ρ, ks, xs, Q => Q ks xs
  | d :: ds, ρ, ks, xs, Q => mg d (wipeE ρ vs) fun ρ1 => mt ρ1 (fun b => if b = true then mi1 ρ1 (fun es => dcE vs1 mg1 mt1 mk mv es ρ1 ks xs fun ks' xs' => dc2E vs vs1 mg mt mi1 mg1 mt1 mk mv ds ρ ks' xs' Q) (fun _ => False) else dc2E vs vs1 mg mt mi1 mg1 mt1 mk mv ds ρ ks xs Q) (fun _ => False)
def mDc2 (vs vs1 : List Nat) (mi : MI) (mg : MG) (mt : MT) (mi1 : MI) (mg1 : MG) (mt1 : MT) (mk mv : ME) : ME := fun ρ Q E => mi ρ (fun ds => dc2E vs vs1 mg mt mi1 mg1 mt1 mk mv ds ρ [] [] fun ks xs => Q (.dct ks xs)) E
theorem dc2_go {vs vs1 : List Nat} {mi mi1 : MI} {mg mg1 : MG} {mt mt1 : MT} {mk mv : ME} {Qd : D → Prop} {Q : VK} (S : SE (rc X A L) Hz O ρ σ H) (hm : mDc2 vs vs1 mi mg mt mi1 mg1 mt1 mk mv ρ Qd Ed) (hE : ∀ x, Ed x → Bad (rc X A L) O Hz W x)
    (k : ∀ w H1 d, Ex (rc X A L) H H1 → Bag (rc X A L) H1 → RF (rc X A L) O H H1 d w → Qd d → Q w H1) : tDc2 (tI X W .al mi) (tG1 X vs mg) (tT X WF mt) (tI X WF .vl mi1) (tG1 X vs1 mg1) (tT X WF mt1) (tE X WF .vl mk) (tE X WF .vl mv) vs vs1 σ H Q := by
  refine ⟨A, L, Hz, O, ρ, _, Ed, S, hm, fun ds gs J H1 q x1 b1 hg hlim hJ => ?_, hE⟩
  intro Dl nD
  have S1 := S.ex x1 b1
  have nO : ¬ O Dl := oNew S1 nD
  have nA : ¬ av (rc X A L) Dl := fun z => nO (S.oA _ z)
  have oo : ∀ b, (O b ∨ b = Dl) → O b ∨ H1 b = none := fun b z => z.imp id fun e => by rw [e]; exact nD
  let Ok : Hp → Prop := fun H2 => SE (rc X A L) Hz (fun b => O b ∨ b = Dl) ρ σ H2 ∧ Ex (rc X A L) H1 H2 ∧ ∀ g ∈ gs, RB (rc X A L) (fun b => O b ∨ b = Dl) H2 g.1 g.2
  have slotN : ∀ {s : Slot} {v : V} {o : HO}, SlotOk (rc X A L) O H1 s v → SlotOk (rc X A L) (fun b => O b ∨ b = Dl) (upd H1 Dl o) s v := fun h => h.go (Kp.new nD) oo (Kp.new nD)
  have hno0 : ∀ (i : Nat) (s : Slot), ρ[i]? = some (some s) → isOwn s = true → σ[i]? ≠ some (some (.ref Dl)) := fun i s e o z => by
    obtain ⟨v, g1, g2⟩ := S1.slots i s e
    rw [z] at g1; cases g1
    cases s with
    | val d => cases o
    | own ds => obtain ⟨a', vs', e1, _, e2, _⟩ := g2; cases e1; rw [nD] at e2; cases e2
    | ownd ks ds => obtain ⟨a', vs', e1, _, e2, _⟩ := g2; cases e1; exact dctAt_some e2.at nD
  have hnoN : ∀ {ρ' : EnvD} {σ' : St}, Nw ρ σ ρ' σ' → ∀ (i : Nat) (s : Slot), ρ'[i]? = some (some s) → isOwn s = true → σ'[i]? ≠ some (some (.ref Dl)) := fun hn i s e o z => by
    obtain ⟨e1, e2⟩ := hn i s e o
    exact hno0 i s e1 o (e2 ▸ z)
  have ok0 : Ok (upd H1 Dl (.dK [])) := by
    refine ⟨⟨b1.new nD, S1.ext.trans (Kp.new nD), fun b z => .inl (S1.oA b z), fun b hb => ?_, fun i s h => ?_, S1.len⟩, Kp.new nD, fun g hg' => ?_⟩
    · rcases hb with hb | rfl
      · intro z
        by_cases e : b = Dl
        · subst e; rw [upd_same] at z; cases z
        · rw [upd_ne e] at z; exact S1.oT b hb z
      · rw [upd_same]; intro z; cases z
    · obtain ⟨v, h1, h2⟩ := S1.slots i s h
      exact ⟨v, h1, slotN h2⟩
    · have r : RB (rc X A L) O H1 g.1 g.2 := hg g hg'
      cases e : g.1 with
      | lst es =>
        rw [e] at r
        obtain ⟨a, ws, e1, n, h1, r⟩ := r
        exact ⟨a, ws, e1, n, by rw [upd_ne (ne_of_none h1 nD)]; exact h1, RVs.go (Kp.new nD) oo _ _ r⟩
      | dct ks es =>
        rw [e] at r
        obtain ⟨a, ws, e1, n, h1, r⟩ := r
        exact ⟨a, ws, e1, n, dctAt_kp (Kp.new (O := fun _ => False) nD) (fun z => z) h1, RVs.go (Kp.new nD) oo _ _ r⟩
      | _ =>
        rw [e] at r
        exact RV.go (Kp.new nD) oo _ _ (show RV (rc X A L) O H1 _ g.2 from r)
  refine ⟨fun i n H2 => n = ds.length - i ∧ i ≤ ds.length ∧ Ok H2 ∧ ∃ (vals : List D) (kvs : List (Key × V)), H2 Dl = some (.dK kvs) ∧ RVs (rc X A L) (fun b => O b ∨ b = Dl) H2 vals (kvs.map (·.2)) ∧ dc2E vs vs1 mg mt mi1 mg1 mt1 mk mv (ds.drop i) ρ (kvs.map fun p => keyD p.1) vals fun ks ys => Qd (.dct ks ys),
    ⟨_, rfl, Nat.zero_le _, ok0, [], [], upd_same, .nil, q⟩, ?_⟩
  rintro i n H2 ⟨rfl, hi, ⟨S2, x2, g2⟩, acc, kvs, hD, racc, q2⟩
  obtain ⟨j1, j2⟩ := hJ _ H2 S2.oA g2
  by_cases hlt : i < ds.length
  · obtain ⟨jg, jy⟩ := j1 i _ (List.getElem?_eq_getElem hlt)
    refine .inr ⟨jg, fun H' => i + 1 ≤ ds.length ∧ Ok H' ∧ ∃ (vals : List D) (kvs : List (Key × V)), H' Dl = some (.dK kvs) ∧ RVs (rc X A L) (fun b => O b ∨ b = Dl) H' vals (kvs.map (·.2)) ∧ dc2E vs vs1 mg mt mi1 mg1 mt1 mk mv (ds.drop (i + 1)) ρ (kvs.map fun p => keyD p.1) vals fun ks ys => Qd (.dct ks ys), fun H' hN => ⟨_, by omega, rfl, hN⟩, fun x H3 hy => ?_⟩
    obtain ⟨n3, r3⟩ := jy x H3 hy
    have b3 := S2.bag.newH n3
    have S3 := S2.ex n3.ex b3
    have x3 := x2.trans (n3.ex (c := rc X A L))
    have g3 : ∀ g ∈ gs, RB (rc X A L) (fun b => O b ∨ b = Dl) H3 g.1 g.2 := fun g h => RB.ex (g2 g h) n3.ex S2.oA
    have hD3 := n3.1 _ _ hD
    have racc3 := racc.kp (n3.ex.kp S2.oA)
    rw [List.drop_eq_getElem_cons hlt] at q2
    refine ⟨A, L, Hz, _, wipeE ρ vs, _, _, S3.wipe vs, r3, q2, fun ρ4 σ4 q4 S4 hw hn4 => ⟨hw.trans (wipe_idem vs σ), A, L, Hz, _, ρ4, _, _, S4, q4, fun b H5 q5 x5 b5 => ?_, fun _ z => z.elim⟩⟩
    have nw4 : Nw ρ σ ρ4 σ4 := Nw.wipe.trans hn4
    have S5 := S3.ex x5 b5
    have x5' := x3.trans x5
    have g5 : ∀ g ∈ gs, RB (rc X A L) (fun b => O b ∨ b = Dl) H5 g.1 g.2 := fun g h => RB.ex (g3 g h) x5 S3.oA
    have hD5 := x5 _ _ hD3 (.inl nA)
    have racc5 := racc3.kp (x5.kp S3.oA)
    have T5 := S4.ex x5 b5
    cases b with
    | false => exact ⟨hlt, ⟨S5, x5', g5⟩, acc, kvs, hD5, racc5, q5⟩
    | true =>
      refine ⟨A, L, Hz, _, ρ4, _, _, T5, q5, fun es gs1 J1 H6 q6 x6 b6 hg1 hlim1 hJ1 => ?_, fun _ z => z.elim⟩
      have oA' := T5.oA
      refine ⟨fun j n H7 => n = es.length - j ∧ j ≤ es.length ∧ Ok H7 ∧ SE (rc X A L) Hz (fun b => O b ∨ b = Dl) ρ4 σ4 H7 ∧ (∀ g ∈ gs1, RV (rc X A L) (fun b => O b ∨ b = Dl) H7 g.1 g.2) ∧ ∃ (vals : List D) (kvs : List (Key × V)), H7 Dl = some (.dK kvs) ∧ RVs (rc X A L) (fun b => O b ∨ b = Dl) H7 vals (kvs.map (·.2)) ∧
          dcE vs1 mg1 mt1 mk mv (es.drop j) ρ4 (kvs.map fun p => keyD p.1) vals fun ks' vals' => dc2E vs vs1 mg mt mi1 mg1 mt1 mk mv (ds.drop (i + 1)) ρ ks' vals' fun ks ys => Qd (.dct ks ys),
        ⟨_, rfl, Nat.zero_le _, ⟨S5.ex x6 b6, x5'.trans x6, fun g h => RB.ex (g5 g h) x6 S5.oA⟩, T5.ex x6 b6, hg1, acc, kvs, x6 _ _ hD5 (.inl nA), racc5.kp (x6.kp S5.oA), q6⟩, ?_⟩
      rintro j n H7 ⟨rfl, hj, ⟨S7, x7, g7⟩, T7, gg7, acc, kvs, hD7, racc7, q7⟩
      obtain ⟨k1, k2⟩ := hJ1 _ H7 T7.oA fun g hg => RV.rb T7.oA (gg7 g hg)
      by_cases hlj : j < es.length
      · obtain ⟨kg, ky⟩ := k1 j _ (List.getElem?_eq_getElem hlj)
        refine .inr ⟨kg, fun H' => j + 1 ≤ es.length ∧ Ok H' ∧ SE (rc X A L) Hz (fun b => O b ∨ b = Dl) ρ4 σ4 H' ∧ (∀ g ∈ gs1, RV (rc X A L) (fun b => O b ∨ b = Dl) H' g.1 g.2) ∧ ∃ (vals : List D) (kvs : List (Key × V)), H' Dl = some (.dK kvs) ∧ RVs (rc X A L) (fun b => O b ∨ b = Dl) H' vals (kvs.map (·.2)) ∧
          dcE vs1 mg1 mt1 mk mv (es.drop (j + 1)) ρ4 (kvs.map fun p => keyD p.1) vals fun ks' vals' => dc2E vs vs1 mg mt mi1 mg1 mt1 mk mv (ds.drop (i + 1)) ρ ks' vals' fun ks ys => Qd (.dct ks ys), fun H' hN => ⟨_, by omega, rfl, hN⟩, fun x1' H8 hy1 => ?_⟩
        obtain ⟨n8, r8⟩ := ky x1' H8 hy1
        have b8 := S7.bag.newH n8
        have e8 : Ex (rc X A L) H7 H8 := n8.ex
        have S8 := S7.ex e8 b8
        have T8 := T7.ex e8 b8
        have x8 := x7.trans e8
        have g8 : ∀ g ∈ gs, RB (rc X A L) (fun b => O b ∨ b = Dl) H8 g.1 g.2 := fun g h => RB.ex (g7 g h) e8 S7.oA
        have gg8 : ∀ g ∈ gs1, RV (rc X A L) (fun b => O b ∨ b = Dl) H8 g.1 g.2 := fun g h => RV.kp (gg7 g h) (e8.kp S7.oA)
        have hD8 := n8.1 _ _ hD7
        have racc8 := racc7.kp (e8.kp S7.oA)
        rw [List.drop_eq_getElem_cons hlj] at q7
        refine ⟨A, L, Hz, _, wipeE ρ4 vs1, _, _, T8.wipe vs1, r8, q7, fun ρ9 σ9 q9 T9 hw9 hn9 => ⟨hw9.trans (wipe_idem vs1 σ4), A, L, Hz, _, ρ9, _, _, T9, q9, fun b H10 q10 x10 b10 => ?_, fun _ z => z.elim⟩⟩
        have S10 := S8.ex x10 b10
        have T10 := T8.ex x10 b10
        have x10' := x8.trans x10
        have g10 : ∀ g ∈ gs, RB (rc X A L) (fun b => O b ∨ b = Dl) H10 g.1 g.2 := fun g h => RB.ex (g8 g h) x10 S8.oA
        have gg10 : ∀ g ∈ gs1, RV (rc X A L) (fun b => O b ∨ b = Dl) H10 g.1 g.2 := fun g h => RV.kp (gg8 g h) (x10.kp S8.oA)
        have hD10 := x10 _ _ hD8 (.inl nA)
        have racc10 := racc8.kp (x10.kp S8.oA)
        cases b with
        | false => exact ⟨hlj, ⟨S10, x10', g10⟩, T10, gg10, acc, kvs, hD10, racc10, q10⟩
        | true =>
          refine ⟨A, L, Hz, _, ρ9, _, _, T9.ex x10 b10, q10, fun y wk H11 q11 x11 b11 r11 => ⟨A, L, Hz, _, ρ9, _, _, (T9.ex x10 b10).ex x11 b11, q11, fun y2 w H12 q12 x12 b12 r12 => ?_, fun _ z => z.elim⟩, fun _ z => z.elim⟩
          obtain ⟨key, rfl, hlk, q12⟩ := q12
          have ewk : wk = kV key := key_val r11
          have S11 := S10.ex x11 b11
          have T11 := T10.ex x11 b11
          have S12 := S11.ex x12 b12
          have T12 := T11.ex x12 b12
          have x12' := (x10'.trans x11).trans x12
          have hD12 := x12 _ _ (x11 _ _ hD10 (.inl nA)) (.inl nA)
          have racc12 := (racc10.kp (x11.kp S10.oA)).kp (x12.kp S11.oA)
          have up : Kp (fun b => O b ∨ b = Dl) H12 (upd H12 Dl (.dK (putK kvs key w))) := Kp.wr hD12 trivial (.inr rfl)
          obtain ⟨exu, SU⟩ := SE.putD (key := key) (w := w) nD b1 S.oA nO S12 S1.ext x12' hD12 hno0
          obtain ⟨_, TU⟩ := SE.putD (key := key) (w := w) nD b1 S.oA nO T12 S1.ext x12' hD12 (hnoN nw4)
          obtain ⟨pk, pr⟩ := put_one (k := key) racc12 r12
          rw [← pk] at q12
          refine ⟨kvs, key, ewk, hD12, by rw [List.length_map, lim_eq] at hlk; exact hlk, hlj, ⟨SU, exu, fun g h => RB.putD nD (hg g h) (RB.ex (RB.ex (g10 g h) x11 S10.oA) x12 S11.oA) hD12⟩, TU, fun g h => RV.kp (RV.kp (RV.kp (gg10 g h) (x11.kp S10.oA)) (x12.kp S11.oA)) up, _, putK kvs key w, upd_same, pr.kp up, q12⟩
      · have e : j = es.length := by omega
        subst e
        rw [List.drop_length] at q7
        exact .inl ⟨k2, hlt, ⟨S7, x7, g7⟩, acc, kvs, hD7, racc7, q7⟩
  · have e : i = ds.length := by omega
    subst e
    rw [List.drop_length] at q2
    refine .inl ⟨j2, k _ _ (.dct _ acc) (x1.trans x2) S2.bag ⟨Dl, _, rfl, nO, ex_none x1 nA nD, .inl ⟨kvs, hD, rfl, rfl⟩, racc⟩ q2⟩
theorem ps_setDc2 {i : Nat} {y : Str} {py : Pos} {kx vx tg iter tg1 iter1 : Expr} {ifs ifs1 : List Expr} {scope : Scope} {own : List (Str × Nat)} {vs1 : List Nat} {pos spos : Pos} {wi wi1 : TI} {g g1 : TG} {tt tt1 : TT} {tk tv : TE} (hc : X.calm = true) (hN : X.N.Nodup) (hy : X.N[i]? = some y) (hyl : X.env.scope.names.lookup y = some .local)
    (hsw : swapsWith (.DictComp kx vx [⟨tg, iter, ifs, 0⟩, ⟨tg1, iter1, ifs1, 0⟩] scope pos) (some (.Name y py)) spos.line X.env = pure true) (hi : PI X tg iter wi) (ok : BlkOk X.N X.env.scope scope own) (hv : ∀ i ∈ vs1, i ∈ own.map (·.2))
    (hg : ∀ (s : Shared) (H : Hp) (C : Addr) (cl : List (Str × Addr)) (fp : List Addr), PG (X.blk s H scope (compEnvC scope cl C X.env) fp) tg g) (ht : ∀ (s : Shared) (H : Hp) (C : Addr) (cl : List (Str × Addr)) (fp : List Addr), PTs (X.blk s H scope (compEnvC scope cl C X.env) fp) ifs tt)
    (hi1 : ∀ (s : Shared) (H : Hp) (C : Addr) (cl : List (Str × Addr)) (fp : List Addr), PI (X.blk s H scope (compEnvC scope cl C X.env) fp) tg1 iter1 wi1)
    (hg1 : ∀ (s : Shared) (H : Hp) (C : Addr) (cl : List (Str × Addr)) (fp : List Addr), PG (X.blk s H scope (compEnvC scope cl C X.env) fp) tg1 g1) (ht1 : ∀ (s : Shared) (H : Hp) (C : Addr) (cl : List (Str × Addr)) (fp : List Addr), PTs (X.blk s H scope (compEnvC scope cl C X.env) fp) ifs1 tt1)
    (he : ∀ (s : Shared) (H : Hp) (C : Addr) (cl : List (Str × Addr)) (fp : List Addr), PE (X.blk s H scope (compEnvC scope cl C X.env) fp) kx tk) (hvx : ∀ (s : Shared) (H : Hp) (C : Addr) (cl : List (Str × Addr)) (fp : List Addr), PE (X.blk s H scope (compEnvC scope cl C X.env) fp) vx tv) (hs : ∀ x, foldedSetIterable iter X.env x = pure x := by intro _; rfl) (hs1 : ∀ env x, foldedSetIterable iter1 env x = pure x := by intro _ _; rfl) :
    PS X (.Assign [.Name y py] (.DictComp kx vx [⟨tg, iter, ifs, 0⟩, ⟨tg1, iter1, ifs1, 0⟩] scope pos) spos) (tAsg (tDc2 wi g tt wi1 g1 tt1 tk tv (own.map (·.2)) vs1) (gName i)) := .mk fun pins s σ H Dn I h => by
  rw [exec_Assign_Name_used _ _ _ _ hsw]
  refine wpAny_bind (wpAny_standAt (wpAny_bind (show wpAny _ X.A (do let _ ← comprehension (.DictComp kx vx [⟨tg, iter, ifs, 0⟩, ⟨tg1, iter1, ifs1, 0⟩] scope pos) scope X.env (firstIterPos [⟨tg, iter, ifs, 0⟩, ⟨tg1, iter1, ifs1, 0⟩] pos) newDict false (eval iter X.env) (some (assign (.Name y py) X.env))) _ _ s from ?_)))
  refine wpAny_bind (thn (dc2_core (Qf := fun _ s' => SP X pins Dn .next s') hc hN I hi ok hv hg ht he hvx hs hi1 hg1 ht1 hs1 (show tDc2 wi g tt wi1 g1 tt1 tk tv (own.map (·.2)) vs1 σ H (fun x H1 => gName i x σ H1 Dn.nx) from h) fun D C s' m H' I' q hn f => ?_) fun _ s' hq => wpAny_pure (wpAny_pure hq))
  refine (show wpAny _ _ (assign (.Name y py) X.env (.ref D)) _ _ _ from wpAny_assign_Name (store_ok2 (v := V.ref D) I' hN hy (.inl hyl) rfl (fun s2 I2 z => ?_) (.inr hyl)))
  obtain ⟨a, sb, ha⟩ := z
  obtain ⟨f0, f1, f2, f3, f4, f5⟩ := f
  have ne : C ≠ a := ha.elim (fun z => by rw [z]; exact f1) fun z e => f4 y a z e.symm
  exact ⟨m, hn.sameBut sb ne, fun h3 sb3 => ⟨_, H', I2.turned (t' := s2.toks) (fun b o hb e => (sb3.2 b hb).trans e) f0 f1 f3 f4 f5, q⟩⟩
theorem de_dc2 {kx vx tg iter tg1 iter1 : Expr} {ifs ifs1 : List Expr} {scope : Scope} {own : List (Str × Nat)} {vs1 : List Nat} {mi mi1 : MI} {mg mg1 : MG} {mt mt1 : MT} {mk mv : ME} (hc : X.calm = true) (hN : X.N.Nodup) (hi : DI X W .al tg iter mi) (ok : BlkOk X.N X.env.scope scope own) (hv : ∀ i ∈ vs1, i ∈ own.map (·.2))
    (hg : ∀ (s : Shared) (H : Hp) (C : Addr) (cl : List (Str × Addr)) (fp : List Addr), DG1 (X.blk s H scope (compEnvC scope cl C X.env) fp) (own.map (·.2)) tg mg) (ht : ∀ (s : Shared) (H : Hp) (C : Addr) (cl : List (Str × Addr)) (fp : List Addr), DTs (X.blk s H scope (compEnvC scope cl C X.env) fp) WF ifs mt)
    (hi1 : ∀ (s : Shared) (H : Hp) (C : Addr) (cl : List (Str × Addr)) (fp : List Addr), DI (X.blk s H scope (compEnvC scope cl C X.env) fp) WF .vl tg1 iter1 mi1)
    (hg1 : ∀ (s : Shared) (H : Hp) (C : Addr) (cl : List (Str × Addr)) (fp : List Addr), DG1 (X.blk s H scope (compEnvC scope cl C X.env) fp) vs1 tg1 mg1) (ht1 : ∀ (s : Shared) (H : Hp) (C : Addr) (cl : List (Str × Addr)) (fp : List Addr), DTs (X.blk s H scope (compEnvC scope cl C X.env) fp) WF ifs1 mt1)
    (he : ∀ (s : Shared) (H : Hp) (C : Addr) (cl : List (Str × Addr)) (fp : List Addr), DE (X.blk s H scope (compEnvC scope cl C X.env) fp) WF .vl kx mk) (hvx : ∀ (s : Shared) (H : Hp) (C : Addr) (cl : List (Str × Addr)) (fp : List Addr), DE (X.blk s H scope (compEnvC scope cl C X.env) fp) WF .vl vx mv) (hs : ∀ x, foldedSetIterable iter X.env x = pure x := by intro _; rfl) (hs1 : ∀ env x, foldedSetIterable iter1 env x = pure x := by intro _ _; rfl) :
    DE X W .fr (.DictComp kx vx [⟨tg, iter, ifs, 0⟩, ⟨tg1, iter1, ifs1, 0⟩] scope pos) (mDc2 (own.map (·.2)) vs1 mi mg mt mi1 mg1 mt1 mk mv) :=
  .by (pe_dc2 (wi := tI X W .al mi) (wi1 := tI X WF .vl mi1) (g := tG1 X (own.map fun p : Str × Nat => p.2) mg) (g1 := tG1 X vs1 mg1) (tt := tT X WF mt) (tt1 := tT X WF mt1) (tk := tE X WF .vl mk) (tv := tE X WF .vl mv) hc hN hi ok hv hg ht hi1 hg1 ht1 he hvx hs hs1) fun σ H A L Hz O ρ Qd Ed S hm hE => dc2_go S hm hE fun w H1 d x b r q => ⟨d, x, b, r, q⟩
theorem ds_setDc2 {y : Str} {py : Pos} {kx vx tg iter tg1 iter1 : Expr} {ifs ifs1 : List Expr} {scope : Scope} {own : List (Str × Nat)} {vs1 : List Nat} {mi mi1 : MI} {mg mg1 : MG} {mt mt1 : MT} {mk mv : ME} (i : Nat) (hc : X.calm = true) (hN : X.N.Nodup) (hy : X.N[i]? = some y) (hyl : X.env.scope.names.lookup y = some .local)
    (hsw : swapsWith (.DictComp kx vx [⟨tg, iter, ifs, 0⟩, ⟨tg1, iter1, ifs1, 0⟩] scope pos) (some (.Name y py)) spos.line X.env = pure true) (hi : DI X W .al tg iter mi) (ok : BlkOk X.N X.env.scope scope own) (hv : ∀ i ∈ vs1, i ∈ own.map (·.2))
    (hg : ∀ (s : Shared) (H : Hp) (C : Addr) (cl : List (Str × Addr)) (fp : List Addr), DG1 (X.blk s H scope (compEnvC scope cl C X.env) fp) (own.map (·.2)) tg mg) (ht : ∀ (s : Shared) (H : Hp) (C : Addr) (cl : List (Str × Addr)) (fp : List Addr), DTs (X.blk s H scope (compEnvC scope cl C X.env) fp) WF ifs mt)
    (hi1 : ∀ (s : Shared) (H : Hp) (C : Addr) (cl : List (Str × Addr)) (fp : List Addr), DI (X.blk s H scope (compEnvC scope cl C X.env) fp) WF .vl tg1 iter1 mi1)
    (hg1 : ∀ (s : Shared) (H : Hp) (C : Addr) (cl : List (Str × Addr)) (fp : List Addr), DG1 (X.blk s H scope (compEnvC scope cl C X.env) fp) vs1 tg1 mg1) (ht1 : ∀ (s : Shared) (H : Hp) (C : Addr) (cl : List (Str × Addr)) (fp : List Addr), DTs (X.blk s H scope (compEnvC scope cl C X.env) fp) WF ifs1 mt1)
    (he : ∀ (s : Shared) (H : Hp) (C : Addr) (cl : List (Str × Addr)) (fp : List Addr), DE (X.blk s H scope (compEnvC scope cl C X.env) fp) WF .vl kx mk) (hvx : ∀ (s : Shared) (H : Hp) (C : Addr) (cl : List (Str × Addr)) (fp : List Addr), DE (X.blk s H scope (compEnvC scope cl C X.env) fp) WF .vl vx mv) (hs : ∀ x, foldedSetIterable iter X.env x = pure x := by intro _; rfl) (hs1 : ∀ env x, foldedSetIterable iter1 env x = pure x := by intro _ _; rfl) :
    DS X W (.Assign [.Name y py] (.DictComp kx vx [⟨tg, iter, ifs, 0⟩, ⟨tg1, iter1, ifs1, 0⟩] scope pos) spos) (mSet i (mDc2 (own.map (·.2)) vs1 mi mg mt mi1 mg1 mt1 mk mv)) :=
  PS.imp (ps_setDc2 (wi := tI X W .al mi) (wi1 := tI X WF .vl mi1) (g := tG1 X (own.map fun p : Str × Nat => p.2) mg) (g1 := tG1 X vs1 mg1) (tt := tT X WF mt) (tt1 := tT X WF mt1) (tk := tE X WF .vl mk) (tv := tE X WF .vl mv) hc hN hy hyl hsw hi ok hv hg ht hi1 hg1 ht1 he hvx hs hs1) fun Dn σ H ⟨A, L, O0, gh, ρ, K, S, h, l⟩ =>
    show tDc2 (tI X W .al mi) (tG1 X (own.map fun p : Str × Nat => p.2) mg) (tT X WF mt) (tI X WF .vl mi1) (tG1 X vs1 mg1) (tT X WF mt1) (tE X WF .vl mk) (tE X WF .vl mv) (own.map fun p : Str × Nat => p.2) vs1 σ H (fun w H1 => Dn.nx (σ.set i (some w)) H1) from dc2_go S.se h l.exO fun w H1 d x b r q => l.nx _ _ H1 q (S.setF x b r)
theorem ds_setDc2V {y : Str} {py : Pos} {kx vx tg iter tg1 iter1 : Expr} {ifs ifs1 : List Expr} {scope : Scope} {own : List (Str × Nat)} {vs1 : List Nat} {mi mi1 : MI} {mg mg1 : MG} {mt mt1 : MT} {mk mv : ME} (i : Nat) (hc : X.calm = true) (hN : X.N.Nodup) (hy : X.N[i]? = some y) (hyl : X.env.scope.names.lookup y = some .local)
    (hsw : swapsWith (.DictComp kx vx [⟨tg, iter, ifs, 0⟩, ⟨tg1, iter1, ifs1, 0⟩] scope pos) (some (.Name y py)) spos.line X.env = pure true) (hi : DI X W .al tg iter mi) (ok : BlkOk X.N X.env.scope scope own) (hv : ∀ i ∈ vs1, i ∈ own.map (·.2))
    (hg : ∀ (s : Shared) (H : Hp) (C : Addr) (cl : List (Str × Addr)) (fp : List Addr), DG1 (X.blk s H scope (compEnvC scope cl C X.env) fp) (own.map (·.2)) tg mg) (ht : ∀ (s : Shared) (H : Hp) (C : Addr) (cl : List (Str × Addr)) (fp : List Addr), DTs (X.blk s H scope (compEnvC scope cl C X.env) fp) WF ifs mt)
    (hi1 : ∀ (s : Shared) (H : Hp) (C : Addr) (cl : List (Str × Addr)) (fp : List Addr), DI (X.blk s H scope (compEnvC scope cl C X.env) fp) WF .vl tg1 iter1 mi1)
    (hg1 : ∀ (s : Shared) (H : Hp) (C : Addr) (cl : List (Str × Addr)) (fp : List Addr), DG1 (X.blk s H scope (compEnvC scope cl C X.env) fp) vs1 tg1 mg1) (ht1 : ∀ (s : Shared) (H : Hp) (C : Addr) (cl : List (Str × Addr)) (fp : List Addr), DTs (X.blk s H scope (compEnvC scope cl C X.env) fp) WF ifs1 mt1)
    (he : ∀ (s : Shared) (H : Hp) (C : Addr) (cl : List (Str × Addr)) (fp : List Addr), DE (X.blk s H scope (compEnvC scope cl C X.env) fp) WF .vl kx mk) (hvx : ∀ (s : Shared) (H : Hp) (C : Addr) (cl : List (Str × Addr)) (fp : List Addr), DE (X.blk s H scope (compEnvC scope cl C X.env) fp) WF .vl vx mv) (hs : ∀ x, foldedSetIterable iter X.env x = pure x := by intro _; rfl) (hs1 : ∀ env x, foldedSetIterable iter1 env x = pure x := by intro _ _; rfl) :
    DS X W (.Assign [.Name y py] (.DictComp kx vx [⟨tg, iter, ifs, 0⟩, ⟨tg1, iter1, ifs1, 0⟩] scope pos) spos) (mSetV i (mDc2 (own.map (·.2)) vs1 mi mg mt mi1 mg1 mt1 mk mv)) :=
  PS.imp (ps_setDc2 (wi := tI X W .al mi) (wi1 := tI X WF .vl mi1) (g := tG1 X (own.map fun p : Str × Nat => p.2) mg) (g1 := tG1 X vs1 mg1) (tt := tT X WF mt) (tt1 := tT X WF mt1) (tk := tE X WF .vl mk) (tv := tE X WF .vl mv) hc hN hy hyl hsw hi ok hv hg ht hi1 hg1 ht1 he hvx hs hs1) fun Dn σ H ⟨A, L, O0, gh, ρ, K, S, h, l⟩ =>
    show tDc2 (tI X W .al mi) (tG1 X (own.map fun p : Str × Nat => p.2) mg) (tT X WF mt) (tI X WF .vl mi1) (tG1 X vs1 mg1) (tT X WF mt1) (tE X WF .vl mk) (tE X WF .vl mv) (own.map fun p : Str × Nat => p.2) vs1 σ H (fun w H1 => Dn.nx (σ.set i (some w)) H1) from dc2_go S.se h l.exO fun w H1 d x b r q => l.nx _ _ H1 q (S.setV x b r.rv)
end
end Ev

/-! Ev38: try: return e / except N: return b, b a truth. -/
namespace Ev
open PySem PySem.Spec L2
open PyProof.Rows hiding St
variable [Tbl]
/-- a class of errors by its name, its own clause -/
structure Cg (K : PySem.W.Frag) (mg : Str → Option Value) (nm : Str) : Prop where
  ex : ∃ C : Addr, mg nm = some (.ref C) ∧ PySem.W.exmOne K (.ref C) (.ref C) = some true
def mTryRet (nm : Str) (b : Bool) (me : ME) : MS := fun ρ K => me (frzE (fun _ => true) ρ) K.rt (fun x => x.cls = nm ∧ K.rt (.bl b))
section
variable {X : Cx} {W : WX} {pos : Pos}
theorem xtryret {nm : Str} {b : Bool} {e : Expr} {me : ME} {j : Nat} {np p1 p2 p3 p4 : Pos} (G : Cg X.K X.mg nm) (hs : X.stack = X.env :: X.outer) (hf : X.env.frame = some X.env.locals) (hg : Gl X nm) (hd : (nm == ("__debug__" : Str)) = false)
    (hb : ∀ (pn : List (Addr × Obj)) (xe : Value → Shared → Prop) (W' : WX), Takes (X.tr pn xe) W' → DE (X.tr pn xe) W' .vl e me) :
    DS X W (.Try [.Return (some e) p1] [.ExceptHandler (some (.Name nm np)) none [.Return (some (.Constant (.bool b) j p2)) p3] p4] [] [] pos) (mTryRet nm b me) := by
  obtain ⟨C, gC, te⟩ := G.ex
  refine PS.imp (ps_try_only (c := .ref C) (Wout := fun _ _ _ _ => False) (tb := fun W' => tRet (tE X W' .vl me)) (ts := fun _ _ _ => tRet (tC (.bl b))) hs hf ⟨hg, hd, .inl gC⟩ LamX.takes0 (fun W' pn xe tk _ => ?_) (fun _ _ _ _ _ _ _ => pss_one (ps_ret pe_bl))) fun Dn σ H ⟨A, L, O0, gh, ρ, K, S, h, l⟩ => ?_
  · exact pss_one (ps_ret (hb pn xe W' tk))
  · refine ⟨A, L, _, O0, _, _, _, S.frzAll, h, fun d v H' q x b r => l.rt d v H' q (S.se.ext.trans x) b r, fun x ⟨hc, hq⟩ σ' H' cv dd ex bg rx => ?_⟩
    obtain ⟨C', e1, e2, _⟩ := rx
    rw [hc] at e2
    have e2 : X.mg nm = some (.ref C') := e2
    rw [gC] at e2
    cases e2
    subst e1
    exact ⟨true, te, fun _ a na => l.rt (.bl b) (.bl b) H' hq ex bg mk_bl, fun z => by cases z⟩
end
end Ev

set_option maxHeartbeats 2000000
/-! EvX4: own errors over ValueError whose __init__ says super().__init__(..) and stores two fields: made (raw heaps). -/
namespace PySem
namespace EvX
open PySem.W PySem.Calls PyProof.Rows PySem.HandSPX
/-- the text of an __init__ with two fields -/
structure ErB2 (qual : Str) (params : Arguments) (body : List Stmt) (sc : Scope) (f f2 : Str) : Prop where
  ex : ∃ (p0 p1 p2 p3 p6 p4 p5 q1 q2 q3 q4 r1 r2 r3 r4 : Pos) (pl : Sem Bool), body = [eSup [.Name f p3, .Name f2 p6] p0 p1 p2 p4 p5, eSet f q1 q2 q3 q4, eSet f2 r1 r2 r3 r4] ∧ ∀ (L fI cda cc : Addr),
    eval (.Call (.Attribute (.Call (.Name "super" p0) [] [] p1) "__init__" p2) [.Name f p3, .Name f2 p6] [] p4) (ksEnv qual sc L fI (.ref cda) cc) = (do
      let ov ← attributeBase (.Call (.Name "super" p0) [] [] p1) "__init__" (ksEnv qual sc L fI (.ref cda) cc) (eval (.Call (.Name "super" p0) [] [] p1) (ksEnv qual sc L fI (.ref cda) cc))
      standAt p2.atName
      let (fn, first) ← holding [ov] (getMethod ov "__init__" pl)
      callWith p4 fn first (backTo p4 (starEach [.Name f p3, .Name f2 p6] (ksEnv qual sc L fI (.ref cda) cc))) []) ∧
    interactive (ksEnv qual sc L fI (.ref cda) cc) = false ∧
    swapsWith (.Call (.Attribute (.Call (.Name "super" p0) [] [] p1) "__init__" p2) [.Name f p3, .Name f2 p6] [] p4) none p5.line (ksEnv qual sc L fI (.ref cda) cc) = pure false ∧
    starEach [.Name f p3, .Name f2 p6] (ksEnv qual sc L fI (.ref cda) cc) = [(false, eval (.Name f p3) (ksEnv qual sc L fI (.ref cda) cc)), (false, eval (.Name f2 p6) (ksEnv qual sc L fI (.ref cda) cc))] ∧
    swapsWith (.Name f q3) (some (.Attribute (.Name "self" q1) f q2)) q4.line (ksEnv qual sc L fI (.ref cda) cc) = pure false ∧
    swapsWith (.Name f2 r3) (some (.Attribute (.Name "self" r1) f2 r2)) r4.line (ksEnv qual sc L fI (.ref cda) cc) = pure false
  kind : sc.kind = .function
  sup : sc.names.lookup ("super" : Str) = some .globalImplicit
  cls : sc.names.lookup ("__class__" : Str) = some .free
  slf : sc.names.lookup ("self" : Str) = some .local
  fld : sc.names.lookup f = some .local
  fld2 : sc.names.lookup f2 = some .local
  nc : ∀ x ∈ sc.names, x.2 ≠ .cell
  co : sc.isCoroutine = false
  gen : sc.isGenerator = false
  hd : ∃ ar, (params.posonlyargs ++ params.args).head? = some ar ∧ ar.arg = "self"
  bind : ∀ (s : Shared) (kV doc pm : Value) (an : Option Addr) (cda cc : Addr) (ct x v v2 : Value), BindsTo s (ksFn "__init__" qual params body sc .none kV doc pm an (.ref cda) ct cc) ⟨[x, v, v2], []⟩ [("self", x), (f, v), (f2, v2)]
  ns : f ≠ "self"
  ns2 : f2 ≠ "self"
  ne : f2 ≠ f
  nd : (f == ("__debug__" : Str)) = false
  nd2 : (f2 == ("__debug__" : Str)) = false
section
variable {prog : Program} {w : World} {A : Around} {R : Result → Shared → Prop}
theorem Ns.keeps3 {h h' : Heap} {L : Addr} {m : Str → Option Value} (hn : h.Ns L m) (k : ∀ o, h.get? L = some o → h'.get? L = some o) : h'.Ns L m := by
  obtain ⟨oL, es, ep, hL, r⟩ := hn
  exact ⟨oL, es, ep, k _ hL, r⟩
theorem er_init2 {C fI cda cc x t0 : Addr} {qual : Str} {params : Arguments} {body : List Stmt} {sc : Scope} {f f2 : Str} {K : Frag} {mg mb : Str → Option Value} {v v2 : Value} {s : Shared} (T : Er prog K mg C fI cda cc qual params body sc [f, f2]) (B : ErB2 qual params body sc f f2) (X : K.In s.heap) (hlim : s.heap.NoLimit)
    (glob : s.heap.Ns mainGlobals mg) (blt : s.heap.Ns builtinsNs mb) (hbt : mb "super" = bootBuiltins "super") (hx : s.heap.get? x = some (excO C t0)) (hnx : K.lookup x = none) (hroom : A.depth < recursionLimit)
    (hq : ∀ h' tk dx t1, (∀ b o, b ≠ x → s.heap.get? b = some o → h'.get? b = some o) → h'.get? x = some { cls := .ref C, dict := some dx, data := .fields #[.ref t1, .none, .none, .none, .bool false, .none] } → s.heap.objs.size ≤ dx → dx ≠ x → h'.Ns1 dx (fun y => if y = f2 then some v2 else if y = f then some v else none) →
      R (.ok (.ret .none)) { s with heap := h', toks := tk }) :
    codeAny (model prog w) A (.call (.ref fI) ⟨[.ref x, v, v2], []⟩) R s := by
  obtain ⟨oc, od, kV, doc, pm, an, ct, osl, ho, hcd⟩ := T.fn
  obtain ⟨nm, q, N, bs, bm, sn, sub, ab, col, dd, k0, k1, k2, k3, k5, hC, hbm⟩ := T.cls
  have hcl : clsIn K C = some { name := nm, bases := bs, mro := .ref C :: bm, ns := N, qualname := q, hasDict := true, slotNames := sn, subclasses := sub, abstract := ab, collection := col, hasDel := false } := by unfold clsIn; rw [hC] <;> rfl
  obtain ⟨p0, p1, p2, p3, p6, p4, p5, q1, q2, q3, q4, r1, r2, r3, r4, pl, eb, he⟩ := B.ex
  have hns : (f == ("self" : Str)) = false := by simpa using B.ns
  refine ks_codeAny_call_defAt (fd := ksFn "__init__" qual params body sc .none kV doc pm an (.ref cda) ct cc) (body := body) (binds := [("self", .ref x), (f, v), (f2, v2)]) hroom (X _ _ ho) rfl hlim (codeRec_of X hcd) rfl (B.bind _ _ _ _ _ _ _ _ _ _ _) B.nc (fun y hy => ?_) (fun h0 hn k => ?_) B.co B.gen B.kind
  · rcases List.mem_cons.mp hy with rfl | hy
    · exact B.slf
    · rcases List.mem_cons.mp hy with rfl | hy
      · exact B.fld
      · obtain rfl := List.mem_singleton.mp hy
        exact B.fld2
  · have hxL : s.heap.objs.size ≠ x := Nat.ne_of_gt (Heap.lt_size hx)
    obtain ⟨e1, e2, e3, e4, e5, e6⟩ := he s.heap.objs.size fI cda cc
    have mself : (fun y => ([("self", Value.ref x), (f, v), (f2, v2)] : List (Str × Value)).reverse.lookup y) "self" = some (.ref x) := by
      have : (("self" : Str) == f) = false := by simpa using fun e => B.ns e.symm
      have h2 : (("self" : Str) == f2) = false := by simpa using fun e => B.ns2 e.symm
      simp [List.lookup, this, h2]
    have mfld : (fun y => ([("self", Value.ref x), (f, v), (f2, v2)] : List (Str × Value)).reverse.lookup y) f = some v := by
      have h2 : (f == f2) = false := by simpa using fun e => B.ne e.symm
      simp [List.lookup, h2]
    have mfld2 : (fun y => ([("self", Value.ref x), (f, v), (f2, v2)] : List (Str × Value)).reverse.lookup y) f2 = some v2 := by simp [List.lookup]
    have hn : h0.Ns s.heap.objs.size (fun y => ([("self", Value.ref x), (f, v), (f2, v2)] : List (Str × Value)).reverse.lookup y) := hn
    generalize (fun y => ([("self", Value.ref x), (f, v), (f2, v2)] : List (Str × Value)).reverse.lookup y) = m at hn mself mfld mfld2
    have X0 := X.keeps k
    show _root_.PySem.wpAt _ _ _ (execs body (ksEnv qual sc s.heap.objs.size fI (.ref cda) cc)) _ _ _
    conv => arg 4; rw [eb]
    refine ks_wpAt_execs_cons (sup_stmt (m := m) (vs := [v, v2]) (mb := mb) T X0 (glob.keeps k) (blt.keeps k) hbt (k _ _ hx) hn mself B.kind B.sup B.cls B.slf B.hd (by rw [e4]; rfl) (by rw [sizeLine_eq]; show 2 ≤ 16777216; decide) (fun u s' Q' hn' hq' => ?_) e1 e2 e3 fun h1 tk1 t1 k1' hx1 => ?_)
    · rw [e4]
      exact evalArgs_plain (spliced_cons (ldE hn' mfld (spliced_cons (ldE hn' mfld2 (spliced_nil hq') B.kind B.fld2 B.nd2)) B.kind B.fld B.nd))
    · have hn1 : h1.Ns s.heap.objs.size m := Ns.keeps2 hn fun o e => k1' _ _ hxL e
      have X1 : K.In h1 := fun a o e => by
        have hxa : a ≠ x := by
          rintro rfl
          rw [hnx] at e
          cases e
        exact k1' _ _ hxa (X0 _ _ e)
      refine wpAt_of_wpAny ?_
      refine wpAny_execs_cons (plainObj_wpAny_Assign_Attribute (ldE hn1 mfld (ldE hn1 mself ?_ B.kind B.slf (by decide)) B.kind B.fld B.nd) e5)
      refine set_plain X1 (ox := excO C t1) (od := none) ⟨hx1, rfl, rfl, trivial⟩ T.sa ?_
      refine exc_osa X1 hx1 hcl (show refsVE (.ref C :: bm) = true from hbm) rfl (T.noN f List.mem_cons_self) (fun h3 tk3 dx k3' dn dne hx3 hn3 => ?_)
      have hLd : s.heap.objs.size ≠ dx := by
        obtain ⟨oL, es, ep, hL, r⟩ := hn1
        exact Nat.ne_of_lt (Nat.lt_of_lt_of_le (Heap.lt_size hL) dn)
      have hn3' : h3.Ns s.heap.objs.size m := Ns.keeps2 hn1 fun o e => k3' _ _ hxL e
      have X3 : K.In h3 := fun a o e => by
        have hxa : a ≠ x := by
          rintro rfl
          rw [hnx] at e
          cases e
        exact k3' _ _ hxa (X1 _ _ e)
      have hdx : K.lookup dx = none := by
        cases e : K.lookup dx with
        | none => rfl
        | some o => exact absurd (Heap.lt_size (X1 _ _ e)) (Nat.not_lt.mpr dn)
      show wpAny _ _ (execs _ _) _ _ _
      refine wpAny_execs_cons (plainObj_wpAny_Assign_Attribute (ldE hn3' mfld2 (ldE hn3' mself ?_ B.kind B.slf (by decide)) B.kind B.fld2 B.nd2) e6)
      have hwi : Within (fun y => if y = f then some v else none) [f] := fun y h => by
        by_cases e : y = f
        · simp [e]
        · exact absurd (if_neg e) h
      obtain ⟨oD, esD, epD, hoD, hdD, _⟩ := hn3.count (ns := [f]) hwi
      refine set_plain X3 (ox := { cls := .ref C, dict := some dx, data := .fields #[.ref t1, .none, .none, .none, .bool false, .none] }) (od := some oD) ⟨hx3, rfl, rfl, hoD⟩ T.sa ?_
      refine PySem.OEX.osa_old X3 hx3 hn3 (nl := [f]) hwi (by show 1 ≤ 1000; decide) hcl (show refsVE (.ref C :: bm) = true from hbm) rfl (T.noN f2 (List.mem_cons_of_mem _ List.mem_cons_self)) (fun h4 tk4 k4' hn4 => ?_)
      show wpAny _ _ (execs _ _) _ _ _
      refine wpAny_execs_nil (hq h4 tk4 dx t1 (fun b o hb e => k4' b o ?_ (k3' b o hb (k1' b o hb (k b o e)))) (k4' _ _ (Ne.symm dne) hx3) ?_ dne hn4)
      · rintro rfl
        exact absurd (Heap.lt_size (k1' _ _ hb (k _ _ e))) (Nat.not_lt.mpr dn)
      · obtain ⟨oL, es, ep, hL, r⟩ := hn1
        exact Nat.le_trans (Nat.le_of_lt (Heap.lt_size hL)) dn
theorem er_made2 {C fI cda cc : Addr} {qual : Str} {params : Arguments} {body : List Stmt} {sc : Scope} {f f2 : Str} {K : Frag} {mg mb : Str → Option Value} {v v2 : Value} {s : Shared} (T : Er prog K mg C fI cda cc qual params body sc [f, f2]) (B : ErB2 qual params body sc f f2) (X : K.In s.heap) (hlim : s.heap.NoLimit)
    (glob : s.heap.Ns mainGlobals mg) (blt : s.heap.Ns builtinsNs mb) (hbt : mb "super" = bootBuiltins "super") (hroom : A.depth + 1 < recursionLimit)
    (hq : ∀ h' tk e d, Made s.heap h' e C d (fun y => if y = f2 then some v2 else if y = f then some v else none) → R (.ok (.ret (.ref e))) { s with heap := h', toks := tk }) :
    codeAny (model prog w) A (.call (.ref C) ⟨[v, v2], []⟩) R s := by
  obtain ⟨nm, q, N, bs, bm, sn, sub, ab, col, dd, k0, k1, k2, k3, k5, hC, hbm⟩ := T.cls
  obtain ⟨hp, g, dr, tk, os⟩ := s
  have k : ∀ b o, hp.get? b = some o → ((hp.push (kdv_tup [v, v2])).push (excO C hp.objs.size)).get? b = some o := fun b o e => Heap.get?_push_of_some _ (Heap.get?_push_of_some _ e)
  have hget : ((hp.push (kdv_tup [v, v2])).push (excO C hp.objs.size)).get? (hp.objs.size + 1) = some (excO C hp.objs.size) := by heap_get
  have hnx : K.lookup (hp.objs.size + 1) = none := by
    cases e : K.lookup (hp.objs.size + 1) with
    | none => rfl
    | some o =>
      have z : hp.get? (hp.objs.size + 1) = some o := X _ _ e
      exact absurd (Nat.lt_of_succ_lt (Heap.lt_size z)) (Nat.lt_irrefl _)
  refine call_own F.excBase_ValueError (fun X => refsVE_contains X bm hbm) (X _ _ hC) (looks_findIn X T.iC) (fun self => bind_fn X self T.tC) (by rw [sizeLine_eq]; show 2 ≤ 16777216; decide) ?_
  refine er_init2 (mb := mb) (s := ⟨(hp.push (kdv_tup [v, v2])).push (excO C hp.objs.size), g, dr, tk, os⟩) T B (X.keeps k) (hlim.keeps k) (glob.keeps k) (blt.keeps k) hbt hget hnx ?_ fun h' tk' dx t1 k' hx dn dne hns => ?_
  · show A.depth + 1 < recursionLimit
    exact hroom
  · have old : ∀ b o, hp.get? b = some o → h'.get? b = some o := fun b o e => k' b o (Nat.ne_of_lt (Nat.lt_succ_of_lt (Heap.lt_size e))) (k b o e)
    have z : hp.objs.size + 1 + 1 ≤ dx := by
      first
        | (simpa only [Heap.size_push] using dn)
        | exact dn
        | (have q := dn; rw [Heap.size_push, Heap.size_push] at q; exact q)
    exact ⟨rfl, hq h' tk' (hp.objs.size + 1) dx ⟨old, Nat.le_succ _, ⟨_, _, hx, rfl, rfl, rfl, rfl⟩, Nat.le_trans (Nat.le_trans (Nat.le_succ _) (Nat.le_succ _)) z, dne, hns⟩⟩
end
end EvX
end PySem

/-! EvX5: raise of own errors of two fields. -/
namespace Ev
open PySem PySem.Spec L2
open PyProof.Rows hiding St
variable [Tbl]
open EvX (Er ErB2)
/-- an own error class of two fields -/
structure ErC2 (P : Program) (K : PySem.W.Frag) (mg : Str → Option Value) (nm f f2 : Str) : Prop where
  ex : ∃ (C fI cda cc : Addr) (qual : Str) (params : Arguments) (body : List Stmt) (sc : Scope), mg nm = some (.ref C) ∧ Er P K mg C fI cda cc qual params body sc [f, f2] ∧ ErB2 qual params body sc f f2 ∧
    PySem.W.keepIn K (.ref C) = true ∧ PySem.W.subIn K (.ref C) (.type "BaseException") = some true ∧ PySem.W.typeIn K (.ref C) = some (.type "type")
theorem relO_fld2 {f f2 : Str} {v v2 : V} {v' v2' : Value} (ne : f2 ≠ f) (r : RelV v v') (r2 : RelV v2 v2') (g : Str) : RelO (List.lookup g [(f, v), (f2, v2)]) (if g = f2 then some v2' else if g = f then some v' else none) := by
  by_cases h2 : g = f2
  · subst h2
    rw [if_pos rfl]
    have q0 : (g == f) = false := by simpa using ne
    have q : List.lookup g [(f, v), (g, v2)] = some v2 := by simp [List.lookup, q0]
    rw [q]
    exact r2
  · rw [if_neg h2]
    have qw2 : (g == f2) = false := by simpa using h2
    by_cases hw : g = f
    · subst hw
      rw [if_pos rfl]
      have q : List.lookup g [(g, v), (f2, v2)] = some v := by simp [List.lookup]
      rw [q]
      exact r
    · rw [if_neg hw]
      have qw : (g == f) = false := by simpa using hw
      have q2 : List.lookup g [(f, v), (f2, v2)] = none := by simp [List.lookup, qw, qw2]
      rw [q2]
      trivial
section
variable {X : Cx} {W : WX} {m : Md} {pos : Pos}
/-- nm(e) -/
def tMkE2 (C : Addr) (f f2 : Str) (ta : TA) : St → Hp → XK → Prop := fun σ H Q => ta σ H fun vs H1 => ∃ v v2, vs = [v, v2] ∧ ∀ d, H1 d = none → Q (.ref C) (some d) (upd H1 d (.xd [(f, v), (f2, v2)]))
theorem pmk_er2 {C fI cda cc : Addr} {qual : Str} {params : Arguments} {body : List Stmt} {sc : Scope} {nm f f2 : Str} {a a2 : Expr} {ta : TA} {p pos : Pos} {k : Nat} (gC : X.mg nm = some (.ref C)) (T : Er X.prog X.K X.mg C fI cda cc qual params body sc [f, f2]) (B : ErB2 qual params body sc f f2)
    (kC : PySem.W.keepIn X.K (.ref C) = true) (exC : PySem.W.subIn X.K (.ref C) (.type "BaseException") = some true) (tyC : PySem.W.typeIn X.K (.ref C) = some (.type "type")) (hr : Room k X.A) (ha : PA X [a, a2] ta) (hg : Gl X nm) (hd : (nm == ("__debug__" : Str)) = false)
    (he : starEach (a :: [a2]) X.env = (false, eval a X.env) :: starEach [a2] X.env) (hpl : (backTo pos (starEach [a2] X.env)).any (·.1) = false) :
    PMk X (.Call (.Name nm p) [a, a2] [] pos) (tMkE2 C f f2 ta) := by
  intro pins s σ H Q I h
  refine wpAny_Call_Name_kw (ld_glob I hg gC ?_ hd)
  refine PySem.W.callWith_K (h₀ := X.base) I.ok.mod.kin kC (thn (ha.run pos pins s σ H _ I h) fun us s1 hh => ?_) he hpl
  obtain ⟨vs, H1, I1, r1, v, v2, ev, q1⟩ := hh
  subst ev
  refine ⟨I1.kIn, ?_⟩
  cases r1 with
  | cons rv rn =>
    rename_i v' us'
    cases rn with
    | cons rv2 rn =>
    rename_i v2' us'
    cases rn
    show wpAny _ _ (call (.ref C) [v', v2']) _ _ _
    have hlim := I1.nolimit
    obtain ⟨mb, hmb1, hmb2⟩ := I1.mod.blt
    have gl : s1.heap.Ns mainGlobals X.mg := I1.mod.glob.keeps I1.bk
    have bl : s1.heap.Ns builtinsNs mb := hmb1.keeps I1.bk
    have hbt : mb "super" = bootBuiltins "super" := hmb2 _ (by decide)
    obtain ⟨hp, g, dr, tk, os⟩ := s1
    refine wpAny_call (EvX.er_made2 T B I1.kIn hlim gl bl hbt (by have := hr.dp; omega) fun h' tk' e d M => ?_)
    show MkP X pins σ Q (.ref e) ⟨h', g, dr, tk', os⟩
    obtain ⟨oe, fv, hoe, hc, hdd, hdat, h1⟩ := M.obj
    have hns := M.ns
    obtain ⟨G', g1, g2⟩ := restrict h' fun b => decide (b ≠ e)
    have gk : ∀ b, b ≠ e → G'.get? b = h'.get? b := fun b hb => g1 b (decide_eq_true hb)
    have ge : G'.get? e = none := g2 e (by simp)
    have old : ∀ b o, hp.get? b = some o → G'.get? b = some o := fun b o q => (gk b (Nat.ne_of_lt (Nat.lt_of_lt_of_le (Heap.lt_size q) M.new))).trans (M.keep b o q)
    have ob : ObjOk X.prog X.w (upd H1 d (.xd [(f, v), (f2, v2)])) G' d (.xd [(f, v), (f2, v2)]) :=
      ⟨_, hns.at (fun o q => (gk d M.dne).trans q), fun f => relO_fld2 B.ne rv rv2 f⟩
    have J : Inv X pins σ (upd H1 d (.xd [(f, v), (f2, v2)])) ⟨G', g, dr, tk', os⟩ := I1.laid (t' := tk') old M.dbig ob
    refine ⟨e, oe, fv, ⟨G', g, dr, tk', os⟩, _, .ref C, some d, rfl, J, fun b o q => ?_, ge, hoe, ⟨hc, hdd⟩, hdat, h1, ?_, rfl, I1.bare, raises_own exC tyC, q1 d (I1.hok.fresh M.dbig)⟩
    · by_cases hb : b = e
      · have q' : G'.get? b = some o := q
        rw [hb, ge] at q'; cases q'
      · exact (gk b hb).symm.trans q
    · rw [upd_ne (Ne.symm M.dne)]
      exact I1.hok.fresh M.new
def mRaise2 (nm f f2 : Str) (me me2 : ME) : MS := fun ρ K => me (frzE (fun _ => true) ρ) (fun d => me2 (frzE (fun _ => true) ρ) (fun d2 => K.ex ⟨nm, [(f, d), (f2, d2)]⟩) K.ex) K.ex
theorem xraise2 {nm f f2 : Str} {a a2 : Expr} {me me2 : ME} {p cpos : Pos} {k : Nat} (T : ErC2 X.prog X.K X.mg nm f f2) (hr : Room k X.A) (tk : Takes X W) (ha : DE X W .vl a me) (ha2 : DE X W .vl a2 me2) (hne : f2 ≠ f := by decide) (hc : X.calm = true := by rfl) (hg : Gl X nm := by rfl) (hd : (nm == ("__debug__" : Str)) = false := by decide)
    (he : starEach (a :: [a2]) X.env = (false, eval a X.env) :: starEach [a2] X.env := by rfl) (he2 : starEach (a2 :: []) X.env = (false, eval a2 X.env) :: starEach [] X.env := by rfl) (hpl : (backTo cpos (starEach [a2] X.env)).any (·.1) = false := by rfl) :
    DS X W (.Raise (some (.Call (.Name nm p) [a, a2] [] cpos)) none pos) (mRaise2 nm f f2 me me2) := by
  obtain ⟨C, fI, cda, cc, qual, params, body, sc, gC, E, B, kC, exC, tyC⟩ := T.ex
  refine PS.imp (ps_raise hc tk (pmk_er2 gC E B kC exC tyC hr (pa_cons ha (pa_cons ha2 pa_nil he2) he) hg hd he hpl)) fun Dn σ H ⟨A, L, O0, gh, ρ, K, S, h, l⟩ => ?_
  refine ⟨A, L, _, O0, _, _, _, S.frzAll, h, fun d v H' q x b r => ?_, l.ex⟩
  refine ⟨A, L, _, O0, _, _, _, S.frzAll.ex x b, q, fun d2 v2 H2 q2 x2 b2 r2 => ?_, l.ex⟩
  refine ⟨v, v2, rfl, fun dx hdx => ?_⟩
  refine l.ex _ q2 σ _ (.ref C) (some dx) (((S.se.ext.trans x).trans x2).trans (Kp.new hdx)) (b2.new hdx) ⟨C, rfl, gC, fun g d' hm => ?_⟩
  have q0 : (f2 == f) = false := by simpa using hne
  rcases List.mem_cons.mp hm with e | hm
  · cases e
    exact ⟨dx, [(f, v), (f2, v2)], v, rfl, upd_same, by simp [List.lookup], RV.kp (RV.kp r (x2.kp S.o0)) (Kp.new hdx)⟩
  · obtain ⟨rfl, rfl⟩ : g = f2 ∧ d' = d2 := by simpa using hm
    exact ⟨dx, [(f, v), (g, v2)], v2, rfl, upd_same, by simp [List.lookup, q0], RV.kp r2 (Kp.new hdx)⟩
end
end Ev

/-! Ev39: facts of errors of two fields, of classes in a clause. -/
namespace Ev
open PySem PySem.Spec L2
open PyProof.Rows hiding St
open EvX (Er ErB1 ErB2)
section
variable {K : PySem.W.Frag} {h : Heap} {mg : Str → Option Value}
open EvX (ErB2)
theorem erc_mk2 [Tbl] {P : Program} {nm f f2 qual q : Str} {C fI cda cc N : Addr} {bs bm : List Value} {sn : List Str} {sub : List Value} {ab : Bool} {col : Option Bool} {dd od an cdd cld : Option Addr} {k0 k1 k2 k3 k5 : Option Value} {oc kV doc pm ct ccl cl : Value} {osl ccs csl : Array (Option Value)} {vs : Array Value} {file : Str} {tf : Tok} {params : Arguments} {body : List Stmt} {sc : Scope}
    (X : K.In h) (G : h.Ns mainGlobals mg) (aC : PySem.W.nsIn K mainGlobals nm = some (some (.ref C))) (xL : K.lookup C = some (excClassObj nm q C N bs bm true sn sub ab col dd k0 k1 k2 k3 k5 "ValueError.__new__")) (rf : PySem.HandSPX.refsVE bm = true)
    (sa : PySem.W.findIn K (.ref C) "__setattr__" = some (some (.builtin "object.__setattr__"))) (nb : PySem.W.findIn K (.ref C) f = some none) (nb2 : PySem.W.findIn K (.ref C) f2 = some none) (iC : PySem.W.findIn K (.ref C) "__init__" = some (some (.ref fI))) (tC : PySem.W.typeIn K (.ref fI) = some (.type "function"))
    (l1 : K.lookup fI = some ⟨oc, od, .func (PySem.W.ksFn "__init__" qual params body sc .none kV doc pm an (.ref cda) ct cc), osl⟩) (c1 : PySem.W.codeIn K (.ref cda) qual = true) (l2 : K.lookup cda = some ⟨ccl, cdd, .fields vs, ccs⟩) (v2 : vs[2]? = some (.str file tf)) (fl : ((P.main.file : Str) == file) = true)
    (l3 : K.lookup cc = some ⟨cl, cld, .cell (some (.ref C)), csl⟩) (sup : PySem.W.ks_superIn K C C "__init__" = some (some (.builtin "ValueError.__init__"))) (suV : PySem.W.subIn K (.ref C) (.type "ValueError") = some true) (suC : PySem.W.mroIn K C (.ref C) = some true)
    (opq : PySem.W.nsIn K cStatics "thirdparty.any" = some none) (sp : PySem.W.nsIn K mainGlobals "super" = some none) (top : (P.main.scope.names.lookup ("super" : Str)).isSome = false) (kC : PySem.W.keepIn K (.ref C) = true) (eC : PySem.W.subIn K (.ref C) (.type "BaseException") = some true)
    (ty : PySem.W.typeIn K (.ref C) = some (.type "type")) (B : ErB2 qual params body sc f f2) : ErC2 P K mg nm f f2 :=
  ⟨C, fI, cda, cc, qual, params, body, sc, PySem.W.mg_of X G aC,
    { cls := ⟨nm, q, N, bs, bm, sn, sub, ab, col, dd, k0, k1, k2, k3, k5, xL, rf⟩, sa := sa, noN := List.forall_mem_cons.mpr ⟨nb, List.forall_mem_singleton.mpr nb2⟩, iC := iC, tC := tC, fn := ⟨oc, od, kV, doc, pm, an, ct, osl, l1, c1⟩, cod := ⟨ccl, cdd, vs, ccs, file, tf, l2, v2, fl⟩, cel := ⟨cl, cld, csl, l3⟩, sup := sup, suV := suV, suC := suC,
      opq := opq, sp := PySem.W.mg_none_of X G sp, top := top }, B, kC, eC, ty⟩
theorem cg_mk {nm : Str} {C : Addr} (X : K.In h) (G : h.Ns mainGlobals mg) (aC : PySem.W.nsIn K mainGlobals nm = some (some (.ref C))) (te : PySem.W.exmOne K (.ref C) (.ref C) = some true) : Cg K mg nm := ⟨C, PySem.W.mg_of X G aC, te⟩
end
end Ev

/-! Ev40: x[::-1] of lists and tuples. -/
namespace Ev
open PySem PySem.Spec L2
open PyProof.Rows hiding St
section
variable {prog : Program} {w : World} {A : Around} {E : Value → Shared → Prop} {s : Shared}
open PySem.Spec in
theorem sliceApplied_rev {sl : Addr} {vl vu vs : Value} {n : Nat} {Q : Int × Int × Nat → Shared → Prop} (hs : s.heap.IsSliceOf sl vl vu vs) (pl : IsPart vl none) (pu : IsPart vu none) (ps : IsPart vs (some (-1)))
    (h : Q ((n : Int) - 1, -1, n) s) : wpAny (model prog w) A (Builtin.Slice.sliceApplied (.ref sl) (pure (n : Int))) Q E s := by
  obtain ⟨os, hos, hcs, hds⟩ := id hs
  unfold Builtin.Slice.sliceApplied Builtin.Slice.sliceFields
  refine wpAny_bind (wpAny_bind (wpAny_field hos hds (x := vl) rfl (wpAny_bind (wpAny_field hos hds (x := vu) rfl (wpAny_bind (wpAny_field hos hds (x := vs) rfl (wpAny_pure ?_)))))))
  refine wpAny_bind (HT.slicePart_ ps ?_)
  show wpAny _ _ (if ((-1 : Int) == 0) = true then _ else _) _ _ s
  rw [if_neg (by decide)]
  refine wpAny_bind (HT.slicePart_ pl (wpAny_bind (HT.slicePart_ pu (wpAny_bind (wpAny_pure ?_)))))
  have e2 : Builtin.Slice.slicePlaces ((n : Int) - 1) (-1) (-1) = n := by
    unfold Builtin.Slice.slicePlaces
    rw [if_neg (by decide), show (-(-1) : Int) = 1 from rfl, Int.ediv_one]
    split <;> omega
  show wpAny _ _ (pure ((n : Int) - 1, (-1 : Int), Builtin.Slice.slicePlaces ((n : Int) - 1) (-1) (-1))) _ _ s
  rw [e2]
  exact wpAny_pure h
theorem pick_rev (xs : Array Value) : ((List.range xs.size).filterMap fun (m : Nat) => xs[(((xs.size : Int) - 1) + (m : Int) * -1).toNat]?).toArray = xs.toList.reverse.toArray := by
  have e : (fun (m : Nat) => xs[(((xs.size : Int) - 1) + (m : Int) * -1).toNat]?) = fun m => xs[xs.size - 1 - m]? := by
    funext m
    have : (((xs.size : Int) - 1) + (m : Int) * -1).toNat = xs.size - 1 - m := by omega
    rw [this]
  rw [e]
  have h1 : (List.range xs.size).filterMap (fun m => xs[xs.size - 1 - m]?) = ((List.range xs.size).map fun k => xs.size - 1 - k).filterMap (xs[·]?) := by
    rw [List.filterMap_map]; rfl
  rw [h1, PySem.W.krv_range, List.filterMap_reverse, PySem.W.krv_all]
theorem getItem_tuple_rev {t sl : Addr} {items : Array Value} {vl vu vs : Value} {Q : Value → Shared → Prop} (ht : IsTup s.heap t items) (hs : s.heap.IsSliceOf sl vl vu vs) (pl : IsPart vl none) (pu : IsPart vu none) (ps : IsPart vs (some (-1)))
    (h : Q (.ref s.heap.objs.size) { s with heap := s.heap.push { cls := .type "tuple", data := .seq items.toList.reverse.toArray } })
    (hsz : items.size ≤ sizeLine) : wpAny (model prog w) A (getItem (.ref t) (.ref sl)) Q E s := by
  have htake : sizeOk (.seq items.toList.reverse.toArray) := by
    show items.toList.reverse.toArray.size ≤ sizeLine
    rw [List.size_toArray, List.length_reverse, Array.length_toList]
    exact hsz
  obtain ⟨os, hos, hcs, hds⟩ := id hs
  have hTs : s.TypeIs (.ref sl) "slice" := ⟨os, hos, hcs⟩
  unfold getItem
  try with_reducible refine wpAny_holding ?_
  first | refine wpAny_bind (wpAny_pure ?_) | skip
  refine wpAny_bind (wpAny_sequenceKey ht.typeIs (by decide) ?_)
  refine wpAny_bind (wpAny_callSpecial?_slot (name := Str.ofString "__getitem__") ht.typeIs PyProof.Rows.slot_tuple_getitem
    (wpAny_call_entry PyProof.Rows.slot_tuple_getitem ht.typeIs entry_tuple_getitem ?_ (args_tuple_getitem _ _)))
  show wpAny _ _ (Builtin.Tuple.tupleItemsOf (.ref t) >>= _) _ _ s
  refine wpAny_bind (tupleItemsOf_ ht ?_)
  refine wpAny_bind (wpAny_typeOf hTs ?_)
  rw [if_pos (by decide)]
  refine wpAny_bind (sliceApplied_rev hs pl pu ps ?_)
  have hno : ¬ (((items.size : Int) - 1 == 0 && (-1 : Int) == 1 && items.size == items.size) = true) := by
    intro q
    rw [Bool.and_eq_true, Bool.and_eq_true] at q
    exact absurd q.1.2 (by decide)
  show wpAny _ _ (if ((items.size : Int) - 1 == 0 && (-1 : Int) == 1 && items.size == items.size) = true then _ else _) _ _ s
  rw [if_neg hno, pick_rev]
  first
    | exact wpAny_bind (m := Builtin.Tuple.tupleExact _) (wpAny_newObj_type (wpAny_pure ⟨_, rfl, wpAny_pure h⟩) htake)
    | exact wpAny_bind (m := Builtin.Tuple.tupleExact _) (wpAny_newObj_type (wpAny_bind (wpAny_pure (wpAny_pure ⟨_, rfl, wpAny_pure h⟩))) htake)
    | exact wpAny_bind (wpAny_bind (m := Builtin.Tuple.tupleExact _) (wpAny_newObj_type (wpAny_pure (wpAny_pure ⟨_, rfl, wpAny_pure h⟩)) htake))
    | exact wpAny_bind (wpAny_bind (m := Builtin.Tuple.tupleExact _) (wpAny_newObj_type (wpAny_pure ⟨_, rfl, wpAny_pure h⟩) htake))
end
variable [Tbl]
section
variable {X : Cx} {W : WX} {m : Md} {A : Addr} {L : LT} {Hz : Hp} {O : Od} {ρ : EnvD} {σ : St} {H H1 : Hp}
def tRevA (K : PySem.W.Frag) (te : TE) : TE := fun σ H Q => te σ H fun x H1 => ∃ a xs, x = .ref a ∧ ((SqL K H1 a xs ∧ ∀ p, H1 p = none → Q (.ref p) (upd H1 p (.lst xs.reverse))) ∨ (SqT K H1 a xs ∧ ∀ p, H1 p = none → Q (.ref p) (upd H1 p (.tup xs.reverse))))
theorem pe_revA {e : Expr} {te : TE} {k : Nat} {p1 p2 p3 pos : Pos} (he : PE X e te) : PE X (.Subscript e (.Slice none none (some (.UnaryOp .USub (.Constant (.int 1) k p1) p2)) p3) pos) (tRevA X.K te) := by
  refine ⟨fun pins s σ H Q I h => ?_⟩
  refine Subscript_ (thn (he.run pins s σ H _ I h) fun v s1 ⟨x, H1, I1, r1, q1⟩ => ?_)
  obtain ⟨a, xs, ex, hx⟩ := q1
  subst ex
  cases r1
  have hst : PO X (some (.UnaryOp .USub (.Constant (.int 1) k p1) p2)) (tPart (tUn (rU fun i => .int (-i)) (tC (.int 1)))) := po_some (pe_un un_neg pe_int)
  refine wpAny_Slice (thn (po_none.run pins s1 σ H1 (fun o H2 => o = none ∧ H2 = H1) I1 ⟨rfl, rfl⟩) fun vl s2 ⟨l, H2, I2, pl, el, e2⟩ => ?_)
  subst el e2
  refine thn (po_none.run pins s2 σ H2 (fun o H3 => o = none ∧ H3 = H2) I2 ⟨rfl, rfl⟩) fun vu s3 ⟨u, H3, I3, pu, eu, e3⟩ => ?_
  subst eu e3
  refine thn (hst.run pins s3 σ H3 (fun o H4 => o = some (-1) ∧ H4 = H3) I3 ⟨1, rfl, -1, rfl, rfl, rfl⟩) fun vs s4 ⟨o, H4, I4, ps, eo, e4⟩ => ?_
  subst eo e4
  have I5 : Inv X pins σ H4 { s4 with heap := s4.heap.push { cls := .type "slice", data := .fields #[vl, vu, vs] } } := I4.kept (t' := s4.toks) fun b ob q => Heap.get?_push_of_some _ q
  show wpAny (model X.prog X.w) X.A (subscriptTail e (.Slice none none (some (.UnaryOp .USub (.Constant (.int 1) k p1) p2)) p3) (.ref a) (.ref s4.heap.objs.size)) (EP X pins σ Q) X.xe { s4 with heap := s4.heap.push { cls := .type "slice", data := .fields #[vl, vu, vs] } }
  rcases hx with ⟨hx, q⟩ | ⟨hx, q⟩
  · obtain ⟨its, r, ht, hz⟩ := I5.list hx
    have hlen := r.length
    refine tail_any (ops := [.ref a, .ref s4.heap.objs.size]) ht.isList.typeIs (PySem.slot_list_getitem.lookup) ?_ (by with_unfolding_all rfl)
    refine wpAny_getItem_list_slice ht.isList (Heap.IsSliceOf.new _ vl vu vs) pl pu ps (by decide) ?_ (by rw [List.size_toArray]; omega)
    rw [PySem.W.krv_pick]
    refine ⟨.ref _, _, I5.laid (t' := s4.toks) (o := .lst xs.reverse) (fun b ob q => Heap.get?_push_of_some _ q) (Nat.le_refl _) ?_, rfl, q _ (I5.hok.fresh (Nat.le_refl _))⟩
    exact ⟨by rw [List.length_reverse]; exact hz, _, 0, r.reverse, Heap.get?_push_size _ rfl⟩
  · obtain ⟨its, r, ht, hz⟩ := I5.tuple hx
    have hlen := r.length
    refine tail_any (ops := [.ref a, .ref s4.heap.objs.size]) ht.typeIs (PyProof.Rows.slot_tuple_getitem.lookup) ?_ (by with_unfolding_all rfl)
    refine getItem_tuple_rev ht (Heap.IsSliceOf.new _ vl vu vs) pl pu ps ?_ (by rw [List.size_toArray]; omega)
    refine ⟨.ref _, _, I5.laid (t' := s4.toks) (o := .tup xs.reverse) (fun b ob q => Heap.get?_push_of_some _ q) (Nat.le_refl _) ?_, rfl, q _ (I5.hok.fresh (Nat.le_refl _))⟩
    exact ⟨by rw [List.length_reverse]; exact hz, _, r.reverse, ⟨_, Heap.get?_push_size _ rfl, rfl, 0, rfl⟩⟩
/-- x[::-1] -/
def dRev : D → Option D
  | .tup ds => some (.tup ds.reverse)
  | .lst ds => some (.lst ds.reverse)
  | _ => none
theorem RVs.rev {c : Rc} : ∀ {ds : List D} {vs : List V}, RVs c O H ds vs → RVs c O H ds.reverse vs.reverse := fun {ds vs} h => by
  refine RVs.by_get (by rw [List.length_reverse, List.length_reverse, h.length]) fun j d hj => ?_
  have hl := h.length
  have hjl : j < ds.length := by have := (List.getElem?_eq_some_iff.mp hj).1; simpa using this
  rw [List.getElem?_reverse hjl] at hj
  rw [List.getElem?_reverse (by rw [hl]; exact hjl), hl]
  exact h.get hj
theorem de_rev {e : Expr} {me : ME} {k : Nat} {p1 p2 p3 pos : Pos} (he : DE X W .al e me) : DE X W m (.Subscript e (.Slice none none (some (.UnaryOp .USub (.Constant (.int 1) k p1) p2)) p3) pos) (mUn dRev me) :=
  .by (pe_revA he) fun σ H A L Hz O ρ Qd Ed S hm hE => by
    refine tE.go S hm hE fun d1 v1 H1 q1 S1 x1 r1 => ?_
    obtain ⟨d, e, q⟩ := q1
    have rb := RM.rb r1 S.oA
    unfold dRev at e
    split at e
    · cases e
      obtain ⟨a, vs, rfl, s1, rr⟩ := rv_tupH rb
      refine ⟨a, vs, rfl, .inr ⟨.of s1, fun p n => ?_⟩⟩
      have h4 := FQ.tup S1 n rr.rev
      exact ⟨_, x1.trans h4.1, h4.2.1, RF.rm S.oA (RF.back h4.2.2 x1 S.oA), q⟩
    · cases e
      obtain ⟨a, vs, rfl, _, s1, rr⟩ := rb_lst rb
      refine ⟨a, vs, rfl, .inl ⟨.of s1, fun p n => ?_⟩⟩
      have h4 := FQ.lst S1 n rr.rev
      exact ⟨_, x1.trans h4.1, h4.2.1, RF.rm S.oA (RF.back h4.2.2 x1 S.oA), q⟩
    · cases e
end
end Ev

/-! Ev41: d.get(k), d.get(k, x). -/
namespace Ev
open PySem PySem.Spec L2
open PyProof.Rows hiding St
variable [Tbl]
section
variable {X : Cx} {W : WX} {m : Md} {A : Addr} {L : LT} {Hz : Hp} {O : Od} {ρ : EnvD} {σ : St} {H H1 : Hp}
def isDct : D → Bool
  | .dct _ _ => true
  | _ => false
/-- d.get(k, x) -/
def dGetD : D → D → D → Option D
  | .dct ks vs, k, x => if askK ks k = true then some ((valD ks vs k).getD x) else none
  | _, _, _ => none
def mGet1 (md mk : ME) : ME := fun ρ Q E => md ρ (fun d => isDct d = true ∧ mk ρ (fun k => Opt (dGetD d k .non) Q) E) E
def mGet2 (md mk mx : ME) : ME := fun ρ Q E => md ρ (fun d => isDct d = true ∧ mk ρ (fun k => mx ρ (fun x => Opt (dGetD d k x) Q) E) E) E
theorem dctAt_isD {a : Addr} {ks : List D} {ws : List V} (h : DctAt H a ks ws) : IsD H a := by
  rcases h with ⟨kvs, h, _⟩ | ⟨kvs, h, _⟩
  · exact .inl ⟨kvs, h⟩
  · exact .inr ⟨kvs, h⟩
theorem de_get1 {o e : Expr} {md mk : ME} {apos cpos : Pos} (hu : X.A.units + 100 < cLine) (ho : DE X W .al o md) (he : DE X W .al e mk) (mm : M1 X o "get" apos e cpos) : DE X W .vl (.Call (.Attribute o "get" apos) [e] [] cpos) (mGet1 md mk) := by
  refine .mk fun pins s σ H A L Hz O ρ Qd Ed I S hm hE => ?_
  refine wpAny_Call_method mm.base mm.few mm.line PySem.F.plainAttrs_dict PySem.F.slot_dict_get PySem.F.type_dict_get (thn (ho.get I S hm hE) fun u s1 ⟨x, H1, d, I1, rx, S1, x1, m1, hd0, q1⟩ => ?_)
  cases d with
  | dct ks vs =>
    have rb := RM.rb m1 S1.oA
    obtain ⟨a, ws, rfl, _, hd, r⟩ := rb_dct rb
    obtain rfl : u = Value.ref a := rx
    obtain ⟨t1, t2, _⟩ := isD_at I1 (dctAt_isD hd)
    refine ⟨t1, t2, ?_⟩
    rw [mm.trees]
    refine Calls.callWith_builtin rfl (Calls.evalArgs_plain (Calls.spliced_cons (thn (he.get I1 S1 q1 hE) fun iv s2 ⟨y, H2, dk, I2, ry, S2, x2, m2, q2⟩ => Calls.spliced_nil ?_)))
    obtain ⟨d', e', q⟩ := q2
    have e' : (if askK ks dk = true then some ((valD ks vs dk).getD .non) else none) = some d' := e'
    by_cases hk : askK ks dk = true
    · rw [if_pos hk] at e'
      cases e'
      have rb2 := RB.ex rb x2 S1.oA
      obtain ⟨a', ws2, ea, _, hd2, r2⟩ := rb_dct rb2
      cases ea
      obtain ⟨H', ov, I', g, back, _, hv, hn⟩ := dget I2 hd2 r2 (RB.rvK (RM.rb m2 S2.oA) hk) hk
      refine d_get1 (by omega) I' g ry fun w' s3 I3 rw' => ⟨ov.getD .non, H2, _, back _ I3, rw', x1.trans x2, S2.bag, ?_, q⟩
      cases ev : valD ks vs dk with
      | none => rw [hn ev]; show RV (rc X A L) O H2 .non .non; unfold RV; rfl
      | some d2 =>
        obtain ⟨w2, ew, rw2⟩ := hv _ ev
        rw [ew]
        exact rw2
    · rw [if_neg hk] at e'; cases e'
  | _ => cases hd0
theorem de_get2 {o e f : Expr} {md mk mx : ME} {apos cpos : Pos} (hu : X.A.units + 100 < cLine) (ho : DE X W .al o md) (he : DE X W .al e mk) (hf : DE X W .vl f mx) (mm : M2 X o "get" apos e f cpos) : DE X W .vl (.Call (.Attribute o "get" apos) [e, f] [] cpos) (mGet2 md mk mx) := by
  refine .mk fun pins s σ H A L Hz O ρ Qd Ed I S hm hE => ?_
  refine wpAny_Call_method mm.base mm.few mm.line PySem.F.plainAttrs_dict PySem.F.slot_dict_get PySem.F.type_dict_get (thn (ho.get I S hm hE) fun u s1 ⟨x, H1, d, I1, rx, S1, x1, m1, hd0, q1⟩ => ?_)
  cases d with
  | dct ks vs =>
    have rb := RM.rb m1 S1.oA
    obtain ⟨a, ws, rfl, _, hd, r⟩ := rb_dct rb
    obtain rfl : u = Value.ref a := rx
    obtain ⟨t1, t2, _⟩ := isD_at I1 (dctAt_isD hd)
    refine ⟨t1, t2, ?_⟩
    rw [mm.trees]
    refine Calls.callWith_builtin rfl (Calls.evalArgs_plain (Calls.spliced_cons (thn (he.get I1 S1 q1 hE) fun iv s2 ⟨y, H2, dk, I2, ry, S2, x2, m2, q2⟩ => Calls.spliced_cons (thn (hf.get I2 S2 q2 hE) fun fv s2b ⟨z, H3, dz, I3b, rz, S3, x3, m3, q3⟩ => Calls.spliced_nil ?_))))
    obtain ⟨d', e', q⟩ := q3
    have e' : (if askK ks dk = true then some ((valD ks vs dk).getD dz) else none) = some d' := e'
    by_cases hk : askK ks dk = true
    · rw [if_pos hk] at e'
      cases e'
      have rb2 := RB.ex (RB.ex rb x2 S1.oA) x3 S2.oA
      obtain ⟨a', ws2, ea, _, hd2, r2⟩ := rb_dct rb2
      cases ea
      obtain ⟨H', ov, I', g, back, _, hv, hn⟩ := dget I3b hd2 r2 (RB.rvK (RB.ex (RM.rb m2 S2.oA) x3 S2.oA) hk) hk
      refine d_get2 (by omega) I' g ry rz fun w' s3 I3 rw' => ⟨ov.getD z, H3, _, back _ I3, rw', (x1.trans x2).trans x3, S3.bag, ?_, q⟩
      cases ev : valD ks vs dk with
      | none => rw [hn ev]; exact m3
      | some d2 =>
        obtain ⟨w2, ew, rw2⟩ := hv _ ev
        rw [ew]
        exact rw2
    · rw [if_neg hk] at e'; cases e'
  | _ => cases hd0
end
end Ev

/-! Ev42: x in G, G a tuple of texts of the module's top. -/
namespace Ev
open PySem PySem.Spec L2
open PyProof.Rows hiding St
variable [Tbl]
def strsOf : List Value → List Str → Bool
  | [], [] => true
  | .str x _ :: vs, z :: zs => x == z && strsOf vs zs
  | _, _ => false
/-- a global tuple of texts -/
structure Gt (K : PySem.W.Frag) (mg : Str → Option Value) (x : Str) (zs : List Str) : Prop where
  ex : ∃ (a : Addr) (o : Obj) (its : Array Value) (n : Nat), mg x = some (.ref a) ∧ K.lookup a = some o ∧ o.cls = .type "tuple" ∧ o.data = .seq its n ∧ strsOf its.toList zs = true ∧ PyData.canLayAll0 (zs.map .str) = true
theorem readsAll_strs {h : Heap} : ∀ {vs : List Value} {zs : List Str}, strsOf vs zs = true → ∃ bs, ReadsAll h vs (zs.map .str) bs
  | [], [], _ => ⟨_, .nil⟩
  | .str x t :: vs, z :: zs, e => by
    unfold strsOf at e
    rw [Bool.and_eq_true] at e
    obtain ⟨bs, r⟩ := readsAll_strs (h := h) e.2
    have : x = z := by simpa using e.1
    subst this
    exact ⟨_, .cons (.str _ _) r⟩
section
variable {X : Cx} {W : WX} {m : Md} {A : Addr} {L : LT} {Hz : Hp} {O : Od} {ρ : EnvD} {σ : St} {H H1 : Hp}
def rG (X : Cx) (a : Addr) (ds : List D) (neg : Bool) : R2 := fun x y H Q => ∃ A L Hz O ρ σ d1 b, SE (rc X A L) Hz O ρ σ H ∧ RB (rc X A L) O H d1 x ∧ y = .ref a ∧ inData d1 ds = some b ∧ Q (.bl (b ^^ neg)) H
theorem toPDs_strs : ∀ zs : List Str, toPDs (zs.map D.str) = some (zs.map .str)
  | [] => rfl
  | z :: zs => by rw [List.map_cons, toPDs, toPDs_strs zs]; rfl
theorem op_inG {a : Addr} {o : Obj} {its : Array Value} {n : Nat} {zs : List Str} (hu : X.A.units + 65 < cLine) (l : X.K.lookup a = some o) (hc : o.cls = .type "tuple") (hd : o.data = .seq its n) (hs : strsOf its.toList zs = true) (hl : PyData.canLayAll0 (zs.map .str) = true) :
    OpR X (compareOp .In) (rG X a (zs.map D.str) false) := by
  intro pins s σ H x y v u Q I rx ry hq
  obtain ⟨A, L, Hz, O, ρ, σ', d1, b, S, h1, rfl, hb, q⟩ := hq
  obtain ⟨p, qs, e1, e2, hdp, rfl⟩ := inData_get hb
  rw [toPDs_strs] at e2
  cases e2
  obtain ⟨p1, c1⟩ := dp_rb h1 e1
  obtain ⟨as, r1⟩ := Dp.reads I p x v p1 rx
  obtain rfl : u = Value.ref a := ry
  obtain ⟨bs, r4⟩ := readsAll_strs (h := s.heap) hs
  exact SeqAt.in_tuple_reads (.tuple (I.kIn _ _ l) hc hd r4) r1 hl c1 (by omega) ⟨.bl _, H, I, rfl, by simpa using q⟩
theorem op_notInG {a : Addr} {o : Obj} {its : Array Value} {n : Nat} {zs : List Str} (hu : X.A.units + 65 < cLine) (l : X.K.lookup a = some o) (hc : o.cls = .type "tuple") (hd : o.data = .seq its n) (hs : strsOf its.toList zs = true) (hl : PyData.canLayAll0 (zs.map .str) = true) :
    OpR X (compareOp .NotIn) (rG X a (zs.map D.str) true) := by
  intro pins s σ H x y v u Q I rx ry hq
  obtain ⟨A, L, Hz, O, ρ, σ', d1, b, S, h1, rfl, hb, q⟩ := hq
  obtain ⟨p, qs, e1, e2, hdp, rfl⟩ := inData_get hb
  rw [toPDs_strs] at e2
  cases e2
  obtain ⟨p1, c1⟩ := dp_rb h1 e1
  obtain ⟨as, r1⟩ := Dp.reads I p x v p1 rx
  obtain rfl : u = Value.ref a := ry
  obtain ⟨bs, r4⟩ := readsAll_strs (h := s.heap) hs
  exact SeqAt.notIn_tuple_reads (.tuple (I.kIn _ _ l) hc hd r4) r1 hl c1 (by omega) ⟨.bl _, H, I, rfl, by simpa using q⟩
/-- e in G; e not in G -/
def mInG (zs : List Str) (neg : Bool) (me : ME) : ME := fun ρ Q E => me ρ (fun d => Opt (inData d (zs.map D.str)) fun b => Q (.bl (b ^^ neg))) E
theorem inG_go {a : Addr} {zs : List Str} {neg : Bool} {me : ME} {Qd : D → Prop} {Ed : Exc → Prop} {Q : VK} (S : SE (rc X A L) Hz O ρ σ H) (hm : mInG zs neg me ρ Qd Ed) (hE : ∀ x, Ed x → Bad (rc X A L) O Hz W x)
    (k : ∀ (b : Bool) H1, Ex (rc X A L) H H1 → Bag (rc X A L) H1 → Qd (.bl b) → Q (.bl b) H1) : tOp (rG X a (zs.map D.str) neg) (tE X W .al me) (tC (.ref a)) σ H Q := by
  refine tE.go S hm hE fun d v H1 q S1 x1 r1 => ?_
  obtain ⟨b, e, q⟩ := q
  exact ⟨A, L, Hz, O, ρ, σ, d, b, S1, RM.rb r1 S.oA, rfl, e, k _ H1 x1 S1.bag q⟩
theorem de_inG {x : Str} {zs : List Str} {e : Expr} {me : ME} {p pos : Pos} (G : Gt X.K X.mg x zs) (hu : X.A.units + 100 < cLine) (he : DE X W .al e me) (hg : Gl X x) (hd : (x == ("__debug__" : Str)) = false) (hm : behindInMarks .In (.Name x p) = false) : DE X W m (.Compare e [.In] [.Name x p] pos) (mInG zs false me) := by
  obtain ⟨a, o, its, n, ga, l, hc, hdt, hs, hl⟩ := G.ex
  exact .by (pe_cmpR (op_inG (by omega) l hc hdt hs hl) he (pe_glob (v := .ref a) hg ga rfl hd) hm) fun σ H A L Hz O ρ Qd Ed S hm hE => inG_go S hm hE fun b H1 x1 b1 q => ⟨.bl b, x1, b1, RF.rm S.oA (show RV _ _ _ _ _ by unfold RV; rfl), q⟩
theorem de_notInG {x : Str} {zs : List Str} {e : Expr} {me : ME} {p pos : Pos} (G : Gt X.K X.mg x zs) (hu : X.A.units + 100 < cLine) (he : DE X W .al e me) (hg : Gl X x) (hd : (x == ("__debug__" : Str)) = false) (hm : behindInMarks .NotIn (.Name x p) = false) : DE X W m (.Compare e [.NotIn] [.Name x p] pos) (mInG zs true me) := by
  obtain ⟨a, o, its, n, ga, l, hc, hdt, hs, hl⟩ := G.ex
  exact .by (pe_cmpR (op_notInG (by omega) l hc hdt hs hl) he (pe_glob (v := .ref a) hg ga rfl hd) hm) fun σ H A L Hz O ρ Qd Ed S hm hE => inG_go S hm hE fun b H1 x1 b1 q => ⟨.bl b, x1, b1, RF.rm S.oA (show RV _ _ _ _ _ by unfold RV; rfl), q⟩
theorem dt_inG {x : Str} {zs : List Str} {e : Expr} {me : ME} {p pos : Pos} (G : Gt X.K X.mg x zs) (hu : X.A.units + 100 < cLine) (he : DE X W .al e me) (hg : Gl X x) (hd : (x == ("__debug__" : Str)) = false) (hm : behindInMarks .In (.Name x p) = false) : DT X W (.Compare e [.In] [.Name x p] pos) (mOfBl (mInG zs false me)) := by
  obtain ⟨a, o, its, n, ga, l, hc, hdt, hs, hl⟩ := G.ex
  refine .by (pt_cmpR (op_inG (by omega) l hc hdt hs hl) he (pe_glob (v := .ref a) hg ga rfl hd) hm) fun σ H A L Hz O ρ Qd Ed S hm hE => ?_
  unfold tTest
  refine inG_go (a := a) S hm hE fun b H1 x1 b1 q => ?_
  obtain ⟨k, e, q⟩ := q
  cases e
  exact ⟨b, rfl, x1, b1, q⟩
theorem dt_notInG {x : Str} {zs : List Str} {e : Expr} {me : ME} {p pos : Pos} (G : Gt X.K X.mg x zs) (hu : X.A.units + 100 < cLine) (he : DE X W .al e me) (hg : Gl X x) (hd : (x == ("__debug__" : Str)) = false) (hm : behindInMarks .NotIn (.Name x p) = false) : DT X W (.Compare e [.NotIn] [.Name x p] pos) (mOfBl (mInG zs true me)) := by
  obtain ⟨a, o, its, n, ga, l, hc, hdt, hs, hl⟩ := G.ex
  refine .by (pt_cmpR (op_notInG (by omega) l hc hdt hs hl) he (pe_glob (v := .ref a) hg ga rfl hd) hm) fun σ H A L Hz O ρ Qd Ed S hm hE => ?_
  unfold tTest
  refine inG_go (a := a) S hm hE fun b H1 x1 b1 q => ?_
  obtain ⟨k, e, q⟩ := q
  cases e
  exact ⟨b, rfl, x1, b1, q⟩
theorem gt_mk {K : PySem.W.Frag} {h : Heap} {mg : Str → Option Value} {x : Str} {zs : List Str} {a : Addr} {cls : Value} {dd : Option Addr} {its : Array Value} {n : Nat} {sl : Array (Option Value)} (X : K.In h) (G : h.Ns mainGlobals mg) (aC : PySem.W.nsIn K mainGlobals x = some (some (.ref a))) (l : K.lookup a = some ⟨cls, dd, .seq its n, sl⟩) (hc : cls = .type "tuple") (hs : strsOf its.toList zs = true) (hl : PyData.canLayAll0 (zs.map .str) = true) : Gt K mg x zs :=
  ⟨a, _, its, n, PySem.W.mg_of X G aC, l, hc, rfl, hs, hl⟩
end
end Ev

/-! Ev43: {"a": e}. -/
namespace Ev
open PySem PySem.Spec L2
open PyProof.Rows hiding St
variable [Tbl]
section
variable {X : Cx} {W : WX} {m : Md} {A : Addr} {L : LT} {Hz : Hp} {O : Od} {ρ : EnvD} {σ : St} {H H1 : Hp}
def mDisp1 (z : Str) (me : ME) : ME := fun ρ Q E => me ρ (fun d => Q (.dct [.str z] [d])) E
theorem SE.newD {p : Addr} (S1 : SE (rc X A L) Hz O ρ σ H1) (nD : H1 p = none) : SE (rc X A L) Hz (fun b => O b ∨ b = p) ρ σ (upd H1 p (.dK [])) := by
  have oo : ∀ b, (O b ∨ b = p) → O b ∨ H1 b = none := fun b z => z.imp id fun e => by rw [e]; exact nD
  refine ⟨S1.bag.new nD, S1.ext.trans (Kp.new nD), fun b z => .inl (S1.oA b z), fun b hb => ?_, fun i s h => ?_, S1.len⟩
  · rcases hb with hb | rfl
    · intro z
      by_cases e : b = p
      · subst e; rw [upd_same] at z; cases z
      · rw [upd_ne e] at z; exact S1.oT b hb z
    · rw [upd_same]; intro z; cases z
  · obtain ⟨v, h1, h2⟩ := S1.slots i s h
    exact ⟨v, h1, h2.go (Kp.new nD) oo (Kp.new nD)⟩
theorem de_disp1 {z : Str} {v : Expr} {me : ME} {j : Nat} {p1 pos : Pos} (hv : DE X W .vl v me) : DE X W m (.Dict [some (.Constant (.str z) j p1)] [v] pos) (mDisp1 z me) :=
  .by (pe_disp (pps_cons pe_str hv pps_nil) rfl rfl (by simp) (by show 1 ≤ 15; decide)) fun σ H A L Hz O ρ Qd Ed S hm hE p hp => by
    have nO : ¬ O p := oNew S hp
    have nA : ¬ av (rc X A L) p := fun z => nO (S.oA _ z)
    refine tE.go (S.newD hp) hm (fun x hx σ' H' cv dd ex bg rx => hE x hx σ' H' cv dd ex bg (rx.anti fun b hb => .inl hb)) fun d v' H2 q S2 x2 r2 => ?_
    have hp2 : H2 p = some (.dK []) := x2 _ _ upd_same (.inl nA)
    refine ⟨hp2, [(.inr z, v')], rfl, by show 1 ≤ 15; decide, ?_⟩
    have up : Kp (fun b => O b ∨ b = p) H2 (upd H2 p (.dK [(.inr z, v')])) := Kp.wr hp2 trivial (.inr rfl)
    have xx : Ex (rc X A L) H (upd H2 p (.dK [(.inr z, v')])) := fun b o e mm => by
      have nb : b ≠ p := fun z => by rw [z, hp] at e; cases e
      rw [upd_ne nb]
      exact x2 b o (by rw [upd_ne nb]; exact e) mm
    have bb : Bag (rc X A L) (upd H2 p (.dK [(.inr z, v')])) := by
      obtain ⟨ne, c0, c1, c2, ns, h0, h1, h2, h3, h4, h5, hA, hLL, hT⟩ := S2.bag
      have nAA : A ≠ p := fun z => nA (.inl z.symm)
      have nL : (rc X A L).L ≠ p := fun z => (bag_tr S.bag).2 (by rw [z]; exact hp)
      exact ⟨ne, c0, c1, c2, ns, h0, h1, h2, h3, h4, h5, by rw [upd_ne nAA]; exact hA, by rw [upd_ne nL]; exact hLL, tabs_wr hT hp2 (fun _ z => by cases z) (fun _ z => by cases z) trivial⟩
    have rr : RV (rc X A L) (fun b => O b ∨ b = p) (upd H2 p (.dK [(.inr z, v')])) d v' := RV.kp r2 up
    refine ⟨.dct [.str z] [d], xx, bb, RF.rm S.oA ⟨p, [v'], rfl, nO, hp, .inl ⟨[(.inr z, v')], upd_same, rfl, rfl⟩, .one ?_⟩, q⟩
    exact rr
end
end Ev

/-! Ev44: str(i). -/
namespace Ev
open PySem PySem.Spec L2
open PyProof.Rows hiding St
variable [Tbl]
section
variable {X : Cx} {W : WX} {m : Md} {pos : Pos}
def bStr : List D → Option D
  | [.int i] => if i.natAbs < 10 ^ 12 ∧ (Str.ofString (toString i)).length ≤ 16777216 ∧ PyData.strOk (Str.ofString (toString i)) = true then some (.str (Str.ofString (toString i))) else none
  | _ => none
theorem log2_1920 {n : Nat} (h : n < 10 ^ 12) : n.log2 < 1920 := by
  by_cases h0 : n = 0
  · rw [h0]; decide
  · have := (Nat.log2_lt h0).mpr (Nat.lt_of_lt_of_le h (show 10 ^ 12 ≤ 2 ^ 40 by decide))
    omega
theorem dc_str : DCall X (.type "str") bStr := by
  intro pins s σ H A L Hz O ρ vs us ds d I S r h g
  unfold bStr at g
  split at g
  · split at g
    · rename_i hh
      cases g
      obtain ⟨v, rfl, h'⟩ := rbs1 h
      obtain rfl := rb_int h'
      refine call_str_int pins s σ H _ us _ I r ⟨_, rfl, ?_, FQ.str S (by rw [sizeLine_eq]; exact hh.2.1) hh.2.2⟩
      exact log2_1920 hh.1
    · cases g
  · cases g
theorem xstr {e : Expr} {es : List Expr} {ma : MA} {p : Pos} (B : Bi X.mg) (ha : DA X W .al (e :: es) ma) (hg : Gl X "str" := by rfl)
    (he : starEach (e :: es) X.env = (false, eval e X.env) :: starEach es X.env := by rfl) (hpl : (backTo pos (starEach es X.env)).any (·.1) = false := by rfl) : DE X W m (.Call (.Name "str" p) (e :: es) [] pos) (mBlt bStr ma) :=
  xbty (dc_str) B.str hg (by decide +kernel) (by decide) (by decide) ha he hpl
end
end Ev

/-! Ev45: tuple(zip(a, b)). -/
namespace Ev
open PySem PySem.Spec L2
open PyProof.Rows hiding St
section
variable {prog : Program} {w : World} {A : Around} {E : Value → Shared → Prop} {s : Shared} {z TI TO i1 i2 : Addr} {fp1 fp2 : List Addr} {n1 n2 : Nat} {P1 P2 : Nat → Value → Prop} {St1 St2 : Nat → Heap → Prop}
theorem collect_zip {Q : List Value → Shared → Prop} (S : ZipSep2 z TI TO i1 i2 fp1 fp2) (D1 : Draws prog w A.in1.in1 i1 fp1 n1 P1 St1) (D2 : Draws prog w A.in1.in1 i2 fp2 n2 P2 St2) (hn : min n1 n2 ≤ sizeLine)
    (hb : ∀ b ∈ z :: TI :: TO :: i1 :: i2 :: (fp1 ++ fp2), b < s.heap.objs.size) (hz : IsZip s.heap z TI TO .none) (hTI : IsTupOf2 s.heap TI (.ref i1) (.ref i2)) (hTO : ∃ a1 a2, IsTupOf2 s.heap TO a1 a2) (st1 : St1 0 s.heap) (st2 : St2 0 s.heap)
    (hQ : ∀ h' tk' acc', (∀ b o, b ≠ z → b ≠ TO → b ≠ i1 → b ≠ i2 → s.heap.get? b = some o → h'.get? b = some o) →
      ZAcc z TO i1 i2 s.heap.objs.size (s.heap.objs.size + 1) P1 P2 (min n1 n2) h' acc' → Q acc'.toList { s with heap := h', toks := tk' }) :
    wpAny (model prog w) A (collect (.ref z)) Q E s := by
  have ne : ∀ {b : Addr}, b < s.heap.objs.size → s.heap.objs.size ≠ b := fun h q => Nat.lt_irrefl _ (q ▸ h)
  have bz : z < s.heap.objs.size := hb z (by simp)
  have bTI : TI < s.heap.objs.size := hb TI (by simp)
  have bTO : TO < s.heap.objs.size := hb TO (by simp)
  have b1 : i1 < s.heap.objs.size := hb i1 (by simp)
  have b2 : i2 < s.heap.objs.size := hb i2 (by simp)
  unfold collect
  refine wpAny_bind (wpAny_runValue (codeAny_builtin F.entry_proto_collect ?_))
  rw [Around.under_plainId F.plain_proto_collect _]
  show wpAny _ A.in1 (newList [] >>= fun l' => again (.builtin "list.__iadd__" ⟨[l', .ref z], []⟩)) _ _ s
  refine wpAny_bind (wpAny_newObj_type ?_)
  refine wpAny_pure ⟨plainId_quiet F.plain_list_iadd _, codeAny_builtin F.entry_list_iadd ?_⟩
  rw [Around.under_plainId F.plain_list_iadd _]
  have hS : (s.heap.push { cls := .type "list", data := .seq ([] : List Value).toArray }).get? s.heap.objs.size = some { cls := .type "list", data := .seq ([] : List Value).toArray } := Heap.get?_push_size _ rfl
  have hsz : (s.heap.push { cls := .type "list", data := .seq ([] : List Value).toArray }).objs.size = s.heap.objs.size + 1 := Heap.size_push ..
  have up : ∀ b o, s.heap.get? b = some o → (s.heap.push { cls := .type "list", data := .seq ([] : List Value).toArray }).get? b = some o := fun b o e => Heap.get?_push_of_some _ e
  obtain ⟨a1, a2, hTO⟩ := hTO
  have z1 := up _ _ hz
  have hT : ({ s with heap := s.heap.push { cls := .type "list", data := .seq ([] : List Value).toArray } } : Shared).TypeIs (.ref z) "zip" := ⟨_, z1, rfl⟩
  have h1 : Builtin.List.listSameRef (.ref s.heap.objs.size) (.ref z) = false := by simp [Builtin.List.listSameRef, ne bz]
  have e2 : (Value.type "zip" == Value.type "list") = false := by decide
  have e3 : (Value.type "zip" == Value.type "tuple") = false := by decide
  show wpAny _ A.in1 (Builtin.List.listExtendWith (.ref s.heap.objs.size) (.ref z) (.ref s.heap.objs.size)) _ _ _
  unfold Builtin.List.listExtendWith
  refine wpAny_bind (wpAny_typeOf hT ?_)
  simp only [h1, e2, e3, Bool.or_false, Bool.false_eq_true, if_false]
  refine wpAny_bind (wpAny_pyIter_zip z1 ?_)
  refine wpAny_bind (wpAny_holding ?_)
  unfold Builtin.List.listLengthHint
  refine wpAny_bind (wpAny_specialOf hT zip_no_len ?_)
  show wpAny _ A.in1 (specialOf (Value.ref z) (Str.ofString "__length_hint__") >>= _) _ _ _
  refine wpAny_bind (wpAny_specialOf hT zip_no_hint ?_)
  refine wpAny_pure ?_
  show wpAny _ A.in1 (rule "list.extend.makes-room" >>= fun _ => Builtin.List.listTouch (.ref s.heap.objs.size) >>= fun _ => again (.builtin "list.extend.loop" ⟨[.ref s.heap.objs.size, .ref z, .ref s.heap.objs.size], []⟩)) _ _ _
  refine wpAny_bind (wpAny_rule ?_)
  refine wpAny_bind ?_
  show wpAny _ A.in1 (updateSeq s.heap.objs.size (·.push .none) >>= fun _ => updateSeq s.heap.objs.size (·.pop)) _ _ _
  generalize hh : s.heap.push { cls := .type "list", data := .seq ([] : List Value).toArray } = hp at hS hsz up z1 ⊢
  refine wpAny_bind (wpAny_updateSeq (s := { s with heap := hp }) hS rfl ?_)
  have hS₃ := Heap.get?_update_self (Obj.mapSeq (·.push Value.none)) hS rfl
  refine wpAny_updateSeq (hz := by seq_fits) (s := { s with heap := hp.update s.heap.objs.size (Obj.mapSeq (·.push Value.none)) }) hS₃ rfl ?_
  have hS₄ := Heap.get?_update_self (Obj.mapSeq (·.pop)) hS₃ rfl
  have oth2 : ∀ b o, s.heap.get? b = some o → ((hp.update s.heap.objs.size (Obj.mapSeq (·.push Value.none))).update s.heap.objs.size (Obj.mapSeq (·.pop))).get? b = some o :=
    fun b o e => (Heap.get?_update_other _ _ (ne (Heap.lt_size e))).trans ((Heap.get?_update_other _ _ (ne (Heap.lt_size e))).trans (up b o e))
  have hsz2 : ((hp.update s.heap.objs.size (Obj.mapSeq (·.push Value.none))).update s.heap.objs.size (Obj.mapSeq (·.pop))).objs.size = s.heap.objs.size + 1 := by rw [(Heap.SameBut.update ..).1, (Heap.SameBut.update ..).1, hsz]
  refine wpAny_pure ⟨plainId_quiet F.plain_extend_loop _, zip_extend_loop (A := A) (N0 := s.heap.objs.size + 1) S D1 D2 hn ⟨ne bz, ne bTI, ne bTO, ne b1, ne b2⟩ (fun q => ne (hb _ (by simp [q])) rfl) (fun q => ne (hb _ (by simp [q])) rfl)
    ⟨Nat.lt_succ_of_lt bz, Nat.lt_succ_of_lt bTO, Nat.lt_succ_of_lt b1, Nat.lt_succ_of_lt b2, Nat.lt_succ_self _⟩ _ s _ 0 _ s.toks #[] _ rfl (Nat.zero_le _) (Nat.le_of_eq hsz2.symm)
    ⟨.inl ⟨oth2 _ _ hz, a1, a2, oth2 _ _ hTO⟩, oth2 _ _ hTI, D1.frame _ _ _ st1 fun b _ o e => oth2 b o e, D2.frame _ _ _ st2 fun b _ o e => oth2 b o e⟩ hS₄
    ⟨[], rfl, rfl, by simp, fun T hT => by simp at hT, fun j T hj => by simp at hj⟩ fun h' tk' acc' c' hk h2 h3 => ?_⟩
  show wpAny _ A (load s.heap.objs.size >>= _) _ _ _
  refine wpAny_bind (wpAny_load h2 ?_)
  refine wpAny_pure ?_
  exact hQ h' tk' acc' (fun b o q1 q2 q3 q4 e => hk b o q1 q2 q3 q4 (fun q => ne (Heap.lt_size e) q.symm) (oth2 b o e)) h3
theorem code_tuple_new_zip {Q₁ : Value → Shared → Prop} (S : ZipSep2 z TI TO i1 i2 fp1 fp2) (D1 : Draws prog w A.in1.in1.in1 i1 fp1 n1 P1 St1) (D2 : Draws prog w A.in1.in1.in1 i2 fp2 n2 P2 St2) (hn : min n1 n2 ≤ sizeLine)
    (hb : ∀ b ∈ z :: TI :: TO :: i1 :: i2 :: (fp1 ++ fp2), b < s.heap.objs.size) (hz : IsZip s.heap z TI TO .none) (hTI : IsTupOf2 s.heap TI (.ref i1) (.ref i2)) (hTO : ∃ a1 a2, IsTupOf2 s.heap TO a1 a2) (st1 : St1 0 s.heap) (st2 : St2 0 s.heap)
    (hQ : ∀ h' tk' acc', (∀ b o, b ≠ z → b ≠ TO → b ≠ i1 → b ≠ i2 → s.heap.get? b = some o → h'.get? b = some o) →
      ZAcc z TO i1 i2 s.heap.objs.size (s.heap.objs.size + 1) P1 P2 (min n1 n2) h' acc' → Q₁ (.ref h'.objs.size) { s with heap := h'.push { cls := .type "tuple", data := .seq acc' }, toks := tk' }) :
    codeAny (model prog w) A (.call (.builtin "tuple.__new__") ⟨[.type "tuple", .ref z], []⟩) (wants Q₁ E) s := by
  refine codeAny_of_tree ?_
  show wpAny _ A.in1 (do checkBuiltinCall "tuple.__new__" ⟨[.type "tuple", .ref z], []⟩; again (.builtin "tuple.__new__" ⟨[.type "tuple", .ref z], []⟩)) _ _ s
  refine wpAny_bind (wpAny_of_eq (F.newCall_tuple_1 _) (wpAny_pure ⟨plainId_quiet F.plain_tuple_new _, codeAny_builtin F.entry_tuple_new ?_⟩))
  rw [Around.under_plainId F.plain_tuple_new _]
  have hsub := sub_tuple_self
  have hinit := init_tuple_lookup
  have hmh := madeHere_tuple
  have hTI0 : s.TypeIs (.ref z) "zip" := ⟨_, hz, rfl⟩
  wp_walk using wpAny_typeOf hTI0, collect_zip (A := A.in1) S D1 D2 hn hb hz hTI hTO st1 st2
  intro h' tk acc hk hacc
  show wpAny _ _ (Builtin.Tuple.tupleExact acc.toList.toArray >>= fun v => ret v) _ _ _
  unfold Builtin.Tuple.tupleExact
  have hsza : acc.size = min n1 n2 := by
    obtain ⟨Ts, e1, e2, _⟩ := hacc
    rw [← e2, ← List.length_map (f := Value.ref), ← e1, Array.length_toList]
  refine wpAny_bind (wpAny_newObj_type ?_ (by show acc.toList.toArray.size ≤ sizeLine; simp only [Array.toArray_toList]; rw [hsza]; exact hn))
  refine wpAny_pure ?_
  have e : acc.toList.toArray = acc := by simp
  rw [e]
  exact hQ h' tk acc hk hacc
/-- tuple(z), z a zip that was just made -/
theorem call_tuple_zip {Q : Value → Shared → Prop} (S : ZipSep2 z TI TO i1 i2 fp1 fp2) (D1 : Draws prog w A.in1.in1.in1.in1 i1 fp1 n1 P1 St1) (D2 : Draws prog w A.in1.in1.in1.in1 i2 fp2 n2 P2 St2) (hn : min n1 n2 ≤ sizeLine)
    (hb : ∀ b ∈ z :: TI :: TO :: i1 :: i2 :: (fp1 ++ fp2), b < s.heap.objs.size) (hz : IsZip s.heap z TI TO .none) (hTI : IsTupOf2 s.heap TI (.ref i1) (.ref i2)) (hTO : ∃ a1 a2, IsTupOf2 s.heap TO a1 a2) (st1 : St1 0 s.heap) (st2 : St2 0 s.heap)
    (hQ : ∀ h' tk' acc', (∀ b o, b ≠ z → b ≠ TO → b ≠ i1 → b ≠ i2 → s.heap.get? b = some o → h'.get? b = some o) →
      ZAcc z TO i1 i2 s.heap.objs.size (s.heap.objs.size + 1) P1 P2 (min n1 n2) h' acc' → Q (.ref h'.objs.size) { s with heap := h'.push { cls := .type "tuple", data := .seq acc' }, toks := tk' }) :
    wpAny (model prog w) A (call (.type "tuple") [.ref z]) Q E s := by
  refine callType_codes (Q₁ := fun obj s₁ => s₁.TypeIs obj "tuple" ∧ Q obj s₁) F.called_tuple (F.typeCall_tuple_1 _) F.entry_object_init
    (code_tuple_new_zip (A := A.in1) S D1 D2 hn hb hz hTI hTO st1 st2 fun h' tk acc hk hacc => ⟨⟨_, Heap.get?_push_size _ rfl, rfl⟩, hQ h' tk acc hk hacc⟩) fun obj s₁ h₁ => ?_
  exact ⟨h₁.1, F.args_object_init_2 obj _, object_init_meets F.called_tuple.init.lookup F.called_tuple.made (by decide) prog w A.in1 _ s₁ ⟨h₁.1, rfl, h₁.2⟩⟩
end
end Ev

/-! Ev46: tuple(zip(a, b)). -/
namespace Ev
open PySem PySem.Spec L2
open PyProof.Rows hiding St
variable [Tbl]
section
variable {X : Cx} {W : WX} {m : Md} {A : Addr} {L : LT} {Hz : Hp} {O O0 : Od} {gh : Gh} {ρ : EnvD} {σ : St} {H H' H1 : Hp} {Ed : Exc → Prop} {K : SEnds} {Dn : Ends} {pos spos : Pos}
def mTupZip (ma mb : ME) : ME := fun ρ Q E => ma ρ (fun x => mb ρ (fun y => Opt (seqD x) fun as => Opt (seqD y) fun bs => Q (.tup (zipD as bs))) E) E
theorem de_tupzip {e e2 : Expr} {p p2 pos2 : Pos} {ma mb : ME} (hc : X.calm = true) (hgl : Gl X "tuple") (hml : X.mg "tuple" = none) (hg : Gl X "zip") (hm : X.mg "zip" = none) (ha : DE X W .vl e ma) (hb : DE X W .vl e2 mb)
    (na : starEach [.Call (.Name "zip" p2) [e, e2] [] pos2] X.env = (false, eval (.Call (.Name "zip" p2) [e, e2] [] pos2) X.env) :: starEach [] X.env)
    (hs : starEach [e, e2] X.env = (false, eval e X.env) :: starEach [e2] X.env) (hs2 : starEach [e2] X.env = (false, eval e2 X.env) :: starEach [] X.env) (hpl : (backTo pos2 (starEach [e2] X.env)).any (·.1) = false) :
    DE X W m (.Call (.Name "tuple" p) [.Call (.Name "zip" p2) [e, e2] [] pos2] [] pos) (mTupZip ma mb) := by
  refine .mk fun pins s σ H A L Hz O ρ Qd Ed I S hmm hE => ?_
  refine Call_ (ld_blt I hgl hml boot_tuple (PyProof.Rows.callWith_type1 (args_cons ?_ na) na))
  refine Call_ (ld_blt I hg hm PyProof.Rows.boot_zip (PyProof.Rows.callWith_type1 (thn ((pa_cons ha (pa_cons hb pa_nil hs2) hs).run pos2 pins s σ H (fun vs H1 => ∃ v d v2 d2, vs = [v, v2] ∧ SE (rc X A L) Hz O ρ σ H1 ∧ Ex (rc X A L) H H1 ∧ RV (rc X A L) O H1 d v ∧ RV (rc X A L) O H1 d2 v2 ∧ Opt (seqD d) fun as => Opt (seqD d2) fun bs => Qd (.tup (zipD as bs))) I
    (tE.go S hmm hE fun d v H1 q S1 x1 r1 => tE.go S1 q hE fun d2 v2 H2 q2 S2 x2 r2 => ⟨v, d, v2, d2, rfl, S2, x1.trans x2, RV.kp r1 (x2.kp S2.oA), r2, q2⟩)) fun us s1 ⟨vs, H1, I1, r1, q1⟩ => ?_) hs hpl))
  obtain ⟨v, d, v2, d2, rfl, S1, x1, m1, m2, as, e1, bs, e2', q⟩ := q1
  obtain ⟨u, u2, rfl, rv, rv2⟩ := L2.vals2 r1
  have rb1 : RB (rc X A L) O H1 d v := RV.rb S1.oA m1
  have rb2 : RB (rc X A L) O H1 d2 v2 := RV.rb S1.oA m2
  obtain ⟨sa, rfl, hsa⟩ := rb_src (c := rc X A L) (pins := pins) (s := s1) rb1 rv e1
  obtain ⟨sb, rfl, hsb⟩ := rb_src (c := rc X A L) (pins := pins) (s := s1) rb2 rv2 e2'
  obtain ⟨ws, hi, hlen, hget⟩ := hsa O H1 S1.oA rb1
  have hlim := src_len (c := rc X A L) I1 hi (src_text (rb_text rb1 rv))
  obtain ⟨ws2, hi2, hlen2, hget2⟩ := hsb O H1 S1.oA rb2
  obtain ⟨Ha, Ba, hBa⟩ := Sc.begins I1 hi
  obtain ⟨Hb, Bb, hBb⟩ := Sc.begins I1 hi2
  refine zip_begins2 Ba Bb hBa hBb fun h' hz hTI hTO hit1 hit2 hsz hk => args_nil ?_
  have I2 : Inv X pins σ H1 { s1 with heap := h' } := I1.kept (t' := s1.toks) hk
  have hB : X.A.in1.in1.in1.in1.handled = none := I1.ok.hd hc
  have la := Sc.ltItems I1 hi
  have lb := Sc.ltItems I1 hi2
  have na1 : s1.heap.objs.size ∉ sa.at? := fun z => Nat.lt_irrefl _ (la _ z)
  have nb1 : s1.heap.objs.size + 1 ∉ sb.at? := fun z => Nat.not_succ_lt_self (lb _ z)
  obtain ⟨P1, T1, D1, st1, hP1⟩ := Sc.drawsB X.A.in1.in1.in1.in1 hB I2 hi (Sc.st0 hit1) na1
  obtain ⟨P2, T2, D2, st2, hP2⟩ := Sc.drawsB X.A.in1.in1.in1.in1 hB I2 hi2 (Sc.st0 hit2) nb1
  refine call_tuple_zip (A := X.A) (s := { s1 with heap := h' }) (zip_sep2 la lb) D1 D2 (by have := hlim; rw [lim_eq] at this; exact Nat.le_trans (Nat.min_le_left _ _) this) (fun b hb => ?_) hz hTI ⟨_, _, hTO⟩ st1 st2 fun h2 tk2 acc hk2 hacc => ?_
  · show b < h'.objs.size
    rw [hsz]
    have low : b < s1.heap.objs.size ∨ b = s1.heap.objs.size + 4 ∨ b = s1.heap.objs.size + 2 ∨ b = s1.heap.objs.size + 3 ∨ b = s1.heap.objs.size ∨ b = s1.heap.objs.size + 1 := by
      simp only [List.mem_cons, List.mem_append] at hb
      rcases hb with z | z | z | z | z | (z | z) | (z | z)
      · exact .inr (.inl z)
      · exact .inr (.inr (.inl z))
      · exact .inr (.inr (.inr (.inl z)))
      · exact .inr (.inr (.inr (.inr (.inl z))))
      · exact .inr (.inr (.inr (.inr (.inr z))))
      · exact .inr (.inr (.inr (.inr (.inl z))))
      · exact .inl (la _ z)
      · exact .inr (.inr (.inr (.inr (.inr z))))
      · exact .inl (lb _ z)
    rcases low with z | z | z | z | z | z
    · exact Nat.lt_of_lt_of_le z (Nat.le_add_right _ _)
    all_goals rw [z]; first | exact Nat.lt_add_of_pos_right (by decide) | exact Nat.add_lt_add_left (by decide) _
  · have hacc : ZAcc (s1.heap.objs.size + 4) (s1.heap.objs.size + 3) s1.heap.objs.size (s1.heap.objs.size + 1) h'.objs.size (h'.objs.size + 1) P1 P2 (min ws.length ws2.length) h2 acc := hacc
    have hk2 : ∀ b o, b ≠ s1.heap.objs.size + 4 → b ≠ s1.heap.objs.size + 3 → b ≠ s1.heap.objs.size → b ≠ s1.heap.objs.size + 1 → h'.get? b = some o → h2.get? b = some o := hk2
    show ∃ v H1 d, L2.Inv X pins σ H1 { s1 with heap := h2.push { cls := .type "tuple", data := .seq acc }, toks := tk2 } ∧ L2.RelV v (Value.ref h2.objs.size) ∧ Ex (rc X A L) H H1 ∧ Bag (rc X A L) H1 ∧ RM m (rc X A L) O H H1 d v ∧ Qd d
    have hNS : s1.heap.objs.size ≤ h'.objs.size := by rw [hsz]; exact Nat.le_add_right _ _
    generalize h'.objs.size = SL at hacc hNS
    have pushed : ∀ b o, h2.get? b = some o → (h2.push { cls := .type "tuple", data := .seq acc }).get? b = some o := fun b o e => Heap.get?_push_of_some _ e
    have atT : (h2.push { cls := .type "tuple", data := .seq acc }).get? h2.objs.size = some { cls := .type "tuple", data := .seq acc } := Heap.get?_push_size _ rfl
    obtain ⟨Ts, t1, t2, t3, t4, t5⟩ := hacc
    have old2 : ∀ b o, s1.heap.get? b = some o → h2.get? b = some o := fun b o e => by
      have hlt : b < s1.heap.objs.size := Heap.lt_size e
      exact hk2 b o (Nat.ne_of_lt (Nat.lt_of_lt_of_le hlt (Nat.le_add_right _ _))) (Nat.ne_of_lt (Nat.lt_of_lt_of_le hlt (Nat.le_add_right _ _))) (Nat.ne_of_lt hlt) (Nat.ne_of_lt (Nat.lt_of_lt_of_le hlt (Nat.le_add_right _ _))) (hk b o e)
    have hsl2 : s1.heap.objs.size ≤ h2.objs.size := Nat.le_of_not_lt fun hlt => by
      -- the old heap's last place lies in the new one
      have h4 : (h'.get? (s1.heap.objs.size + 2)) = some _ := hTI
      have := hk2 _ _ (by simp) (by simp) (by simp) (by simp) h4
      have := Heap.lt_size this
      exact absurd hlt (Nat.not_lt.mpr (Nat.le_trans (Nat.le_add_right _ 2) (Nat.le_of_lt this)))
    generalize hTA : h2.objs.size = TA at atT hsl2
    have ltT : ∀ T ∈ Ts, T < TA := fun T hT => by
      obtain ⟨j, hj⟩ := List.getElem?_of_mem hT
      obtain ⟨_, _, _, _, hT'⟩ := t5 j T hj
      rw [← hTA]
      exact Heap.lt_size hT'
    have old : ∀ b o, s1.heap.get? b = some o → (h2.push { cls := .type "tuple", data := .seq acc }).get? b = some o := fun b o e => pushed b o (old2 b o e)
    have nTA : TA ∉ Ts := fun z => Nat.lt_irrefl _ (ltT _ z)
    have newS : H1 TA = none := I1.hok.fresh hsl2
    have newT : ∀ T ∈ Ts, s1.heap.objs.size ≤ T := fun T hT => Nat.le_trans hNS (Nat.le_of_lt (t4 T hT).1)
    let ps := ws.zip ws2
    let H2 : Hp := upd (putZ H1 SL Ts ps) TA (.tup (Ts.map V.ref))
    have atS : H2 TA = some (.tup (Ts.map V.ref)) := upd_same
    have off : ∀ b, b ≠ TA → b ∉ Ts → H2 b = H1 b := fun b h1 h2 => by
      show upd _ _ _ _ = _
      rw [upd_ne h1, putZ_off h2]
    have keep : ∀ b o, H1 b = some o → H2 b = some o := fun b o e => by
      rw [off b (fun z => by rw [z, newS] at e; cases e) fun z => by rw [I1.hok.fresh (newT _ z)] at e; cases e]
      exact e
    have tj : ∀ (j : Nat) (T : Addr), Ts[j]? = some T → ∃ x y x' y', ws[j]? = some x ∧ ws2[j]? = some y ∧ RelV x x' ∧ RelV y y' ∧ IsTupOf2 (h2.push { cls := .type "tuple", data := .seq acc }) T x' y' ∧ H2 T = some (.tup [x, y]) := fun j T hj => by
      obtain ⟨x', y', p1, p2, hT⟩ := t5 j T hj
      obtain ⟨x, hx, rx⟩ := hP1 j x' p1
      obtain ⟨y, hy, ry⟩ := hP2 j y' p2
      refine ⟨x, y, x', y', hx, hy, rx, ry, pushed _ _ hT, ?_⟩
      have hp : ps[j]? = some (x, y) := by
        show (ws.zip ws2)[j]? = _
        rw [List.getElem?_zip_eq_some]
        exact ⟨hx, hy⟩
      have nT : T ≠ TA := fun z => nTA (by rw [← z]; exact List.mem_of_getElem? hj)
      show upd _ _ _ _ = _
      rw [upd_ne nT]
      exact putZ_at t3 hj hp
    have hlenT : (Ts.map V.ref).length ≤ sizeLine := by
      rw [List.length_map, t2]
      have := hlim; rw [lim_eq] at this
      exact Nat.le_trans (Nat.min_le_left _ _) this
    have I3 : Inv X pins σ H2 { s1 with heap := h2.push { cls := .type "tuple", data := .seq acc }, toks := tk2 } := inv_many I1 old fun b => by
      by_cases h1 : b = TA
      · subst h1
        refine .inr ⟨hsl2, fun u hu => ?_⟩
        rw [atS] at hu; cases hu
        exact ⟨hlenT, acc.toList, by rw [t1]; exact vals_refs' Ts, ⟨_, atT, rfl, _, by rw [Array.toArray_toList]⟩⟩
      · by_cases h3 : b ∈ Ts
        · refine .inr ⟨newT b h3, fun u hu => ?_⟩
          obtain ⟨j, hj⟩ := List.getElem?_of_mem h3
          obtain ⟨x, y, x', y', _, _, rx, ry, hT, hH⟩ := tj j b hj
          rw [hH] at hu; cases hu
          exact ⟨by show 2 ≤ sizeLine; decide, [x', y'], .cons rx (.cons ry .nil), ⟨_, hT, rfl, _, rfl⟩⟩
        · exact .inl (off b h1 h3)
    have ex2 : Ex (rc X A L) H1 H2 := fun b o e _ => keep b o e
    have kpO : Kp O H1 H2 := fun b o e _ => keep b o e
    have rf : RF (rc X A L) O H H2 (.tup (zipD as bs)) (.ref TA) := by
      show RV _ _ _ _ _
      refine mk_tup atS (RVs.by_get ?_ fun j dd hj => ?_)
      · rw [List.length_map, t2, zipD_length, hlen, hlen2]
      · obtain ⟨a', b', ha', hb', rfl⟩ := zipD_get hj
        obtain ⟨x, hx, rx⟩ := hget j a' ha'
        obtain ⟨y, hy, ry⟩ := hget2 j b' hb'
        have hjl : j < Ts.length := by
          rw [t2]
          exact Nat.lt_min.mpr ⟨(List.getElem?_eq_some_iff.mp hx).1, (List.getElem?_eq_some_iff.mp hy).1⟩
        have hT := List.getElem?_eq_getElem hjl
        obtain ⟨x0, y0, _, _, hx0, hy0, _, _, _, hH⟩ := tj j _ hT
        rw [hx] at hx0; cases hx0
        rw [hy] at hy0; cases hy0
        exact ⟨.ref (Ts[j]), by rw [List.getElem?_map, hT]; rfl, mk_tup hH (RVs.cons (RV.kp rx kpO) (.one (RV.kp ry kpO)))⟩
    exact ⟨.ref TA, H2, .tup (zipD as bs), I3, rfl, x1.trans ex2, S1.bag.keep keep, RF.rm S.oA rf, q⟩
end
end Ev

/-! Ev47: what the law never reaches: nothing is said of it. -/
namespace Ev
open PySem PySem.Spec L2
open PyProof.Rows hiding St
variable [Tbl]
/-- an expression that is never reached -/
def mNo : ME := fun _ _ _ => False
theorem de_no {X : Cx} {W : WX} {m : Md} {e : Expr} : DE X W m e mNo := .by (t := fun _ _ _ => False) ⟨fun _ _ _ _ _ _ h => h.elim⟩ fun _ _ _ _ _ _ _ _ _ _ h _ => h.elim
end Ev

/-! Ev48: try: return e / except N as x: return (x.f, x.g). -/
namespace Ev
open PySem PySem.Spec L2
open PyProof.Rows hiding St
variable [Tbl]
/-- a class of errors of two fields by its name, its own clause -/
structure Cf2 (K : PySem.W.Frag) (mg : Str → Option Value) (nm f g : Str) : Prop where
  ex : ∃ C : Addr, mg nm = some (.ref C) ∧ PySem.W.exmOne K (.ref C) (.ref C) = some true ∧ XfC K C ∧ PySem.W.findIn K (.ref C) f = some none ∧ PySem.W.findIn K (.ref C) g = some none
def mTryAs2 (nm f g : Str) (me : ME) : MS := fun ρ K => me (frzE (fun _ => true) ρ) K.rt (fun x => x.cls = nm ∧ ∃ d1 d2, x.fields = [(f, d1), (g, d2)] ∧ K.rt (.tup [d1, d2]))
section
variable {X : Cx} {W : WX} {pos : Pos}
theorem xtryas2 {nm f g n : Str} {e : Expr} {me : ME} {k1 : _} {np p1 p3 p4 q1 q2 q3 q4 q5 : Pos} (i : Nat) (G : Cf2 X.K X.mg nm f g) (hN : X.N.Nodup) (hi : X.N[i]? = some n) (hln : X.env.kindOf n = some .local)
    (hb : ∀ (pn : List (Addr × Obj)) (xe : Value → Shared → Prop) (W' : WX), Takes (X.tr pn xe) W' → DE (X.tr pn xe) W' .vl e me)
    (hs : X.stack = X.env :: X.outer := by rfl) (hf : X.env.frame = some X.env.locals := by rfl) (hg : Gl X nm := by rfl) (hd : (nm == ("__debug__" : Str)) = false := by decide) (hnd : (n == ("__debug__" : Str)) = false := by decide) (hnc : (n == ("__classdict__" : Str)) = false := by decide)
    (hb1 : attributeBase (.Name n q1) f X.env (eval (.Name n q1) X.env) = eval (.Name n q1) X.env := by rfl) (hb2 : attributeBase (.Name n q3) g X.env (eval (.Name n q3) X.env) = eval (.Name n q3) X.env := by rfl) :
    DS X W (.Try [.Return (some e) p1] [.ExceptHandler (some (.Name nm np)) (some n) [.Return (some (.Tuple [.Attribute (.Name n q1) f q2, .Attribute (.Name n q3) g q4] k1 q5)) p3] p4] [] [] pos) (mTryAs2 nm f g me) := by
  obtain ⟨C, gC, te, XF, hno1, hno2⟩ := G.ex
  refine PS.imp (ps_try_as (c := .ref C) (i := i) (Wout := fun _ _ _ _ => False) (tb := fun W' => tRet (tE X (fun cls d σ H => σ.length = X.N.length → W' cls d σ H) .vl me))
    (ts := fun ax cls d => tRet (tTup (tCons (tXf ax cls d C f (tVar i)) (tCons (tXf ax cls d C g (tVar i)) tNil)))) hs hf hN hi hln ⟨hg, hd, .inl gC⟩ LamX.takes0
      (fun W' pn xe tk _ => pss_one (ps_ret (hb pn xe _ (takes_len tk)))) (fun ax oe cls d pn hz hf => pss_one (ps_ret (pe_tup (pa_cons (pe_xf XF hno1 hz hf (pe_var hi (.inl hln) hnd hnc) hb1) (pa_cons (pe_xf XF hno2 hz hf (pe_var hi (.inl hln) hnd hnc) hb2) pa_nil)))))) fun Dn σ H ⟨A, L, O0, gh, ρ, K, S, h, l⟩ => ?_
  refine ⟨A, L, _, O0, _, _, _, S.frzAll, h, fun d v H' q x b r => l.rt d v H' q (S.se.ext.trans x) b r, fun x ⟨hc, d1, d2, hfd, hq⟩ σ' H' cv dd ex bg rx => ?_⟩
  obtain ⟨C', e1, e2, hfl⟩ := rx
  rw [hc] at e2
  have e2 : X.mg nm = some (.ref C') := e2
  rw [gC] at e2
  cases e2
  subst e1
  intro hlen
  refine ⟨true, te, fun _ a na => ?_, fun z => by cases z⟩
  have hil : i < X.N.length := (List.getElem?_eq_some_iff.mp hi).1
  have hv : (σ'.set i (some (V.ref a)))[i]? = some (some (V.ref a)) := List.getElem?_set_self (by rw [hlen]; exact hil)
  obtain ⟨ax, fs, v1, a1, a2, a3, r1⟩ := hfl f d1 (by rw [hfd]; exact List.mem_cons_self)
  obtain ⟨bx, fs', v2, b1, b2, b3, r2⟩ := hfl g d2 (by rw [hfd]; simp)
  refine ⟨_, hv, rfl, rfl, ax, fs, v1, a1, a2, a3, _, hv, rfl, rfl, bx, fs', v2, b1, b2, b3, by rw [sizeLine_eq]; show 2 ≤ 16777216; decide, fun p hp => ?_⟩
  exact l.rt _ _ _ hq (ex.trans (Kp.new hp)) (bg.new hp) (mk_tup upd_same ((RVs.cons r1 (.one r2)).kp (Kp.new hp)))
end
end Ev

/-! Ev31: the plain side: comprehensions and loops over lists, by what each item gives. -/
namespace Ev
open PySem PySem.Spec L2
open PyProof.Rows hiding St
variable [Tbl]
/-- each item gives one answer: some, or none where the tests fail -/
theorem lcE_det {vs : List Nat} {mg : MG} {mt : MT} {me : ME} {ρ : EnvD} {f : D → Option D} {Q : List D → Prop} : ∀ {ds : List D} {acc : List D},
    (∀ d ∈ ds, ∀ C : Option D → Prop, C (f d) → mg d (wipeE ρ vs) fun ρ1 => mt ρ1 (fun b => if b = true then me ρ1 (fun y => C (some y)) (fun _ => False) else C none) (fun _ => False)) →
    Q (acc ++ ds.filterMap f) → lcE vs mg mt me ds ρ acc Q
  | [], acc, _, q => by
    unfold lcE
    simpa using q
  | d :: ds, acc, h, q => by
    unfold lcE
    have h0 := h d List.mem_cons_self (fun o => match o with
      | some y => lcE vs mg mt me ds ρ (acc ++ [y]) Q
      | none => lcE vs mg mt me ds ρ acc Q)
    refine h0 ?_
    cases e : f d with
    | none =>
      refine lcE_det (fun d' hd => h d' (List.mem_cons_of_mem _ hd)) ?_
      simpa [List.filterMap_cons, e] using q
    | some y =>
      refine lcE_det (fun d' hd => h d' (List.mem_cons_of_mem _ hd)) ?_
      simpa [List.filterMap_cons, e] using q
/-- all items stay, each becomes one -/
theorem lcE_map {vs : List Nat} {mg : MG} {mt : MT} {me : ME} {ρ : EnvD} {f : D → D} {Q : List D → Prop} {ds acc : List D}
    (h : ∀ d ∈ ds, ∀ C : Option D → Prop, C (some (f d)) → mg d (wipeE ρ vs) fun ρ1 => mt ρ1 (fun b => if b = true then me ρ1 (fun y => C (some y)) (fun _ => False) else C none) (fun _ => False))
    (q : Q (acc ++ ds.map f)) : lcE vs mg mt me ds ρ acc Q :=
  lcE_det (f := fun d => some (f d)) h (by rw [List.filterMap_eq_map'] <;> exact q)
/-- each item gives some answer out of many -/
theorem lcE_any {vs : List Nat} {mg : MG} {mt : MT} {me : ME} {ρ : EnvD} {R : D → D → Prop} {Q : List D → Prop} : ∀ {ds : List D} {acc : List D},
    (∀ d ∈ ds, ∀ C : Option D → Prop, (∀ y, R d y → C (some y)) → mg d (wipeE ρ vs) fun ρ1 => mt ρ1 (fun b => if b = true then me ρ1 (fun y => C (some y)) (fun _ => False) else C none) (fun _ => False)) →
    (∀ ys, Paired R ds ys → Q (acc ++ ys)) → lcE vs mg mt me ds ρ acc Q
  | [], acc, _, q => by
    unfold lcE
    simpa using q [] .nil
  | d :: ds, acc, h, q => by
    unfold lcE
    refine h d List.mem_cons_self (fun o => match o with
      | some y => lcE vs mg mt me ds ρ (acc ++ [y]) Q
      | none => lcE vs mg mt me ds ρ acc Q) fun y hy => ?_
    refine lcE_any (fun d' hd => h d' (List.mem_cons_of_mem _ hd)) fun ys hys => ?_
    have := q (y :: ys) (.cons hy hys)
    simpa using this
end Ev

/-! Ev32: the plain side: operators by values. -/
namespace Ev
open PySem PySem.Spec L2
open PyProof.Rows hiding St
section
variable {a b : Int} {p q : Bool} {x y : D}
theorem lt_int : PySem.W.dataLt (.int a) (.int b) = decide (a < b) := by
  show PyProof.Rows.lexLt itemOrd [Sum.inl a] [Sum.inl b] = _
  by_cases h : a < b
  · simp [PyProof.Rows.lexLt, itemOrd, itemLt, h]
  · simp [PyProof.Rows.lexLt, itemOrd, itemLt, h]
@[simp] theorem dLt_int : dLt (.int a) (.int b) = some (.bl (decide (a < b))) := by
  simp [dLt, dLtv, toPD, PyData.depth, PySem.W.alike, notNone, lt_int]
theorem not_lt_dec : (!decide (a < b)) = decide (b ≤ a) := by
  by_cases h : a < b
  · simp [h]
  · simp [h]; omega
@[simp] theorem dGe_int : dGe (.int a) (.int b) = some (.bl (decide (b ≤ a))) := by
  rw [← not_lt_dec]
  simp [dGe, dLtv, toPD, PyData.depth, PySem.W.alike, notNone, lt_int]
@[simp] theorem dGt_int : dGt (.int a) (.int b) = some (.bl (decide (b < a))) := by
  simp [dGt, dLtv', toPD, PyData.depth, PySem.W.alike, notNone, lt_int]
@[simp] theorem dLe_int : dLe (.int a) (.int b) = some (.bl (decide (a ≤ b))) := by
  rw [← not_lt_dec]
  simp [dLe, dLtv', toPD, PyData.depth, PySem.W.alike, notNone, lt_int]
@[simp] theorem dEq_int : dEq (.int a) (.int b) = some (.bl (decide (a = b))) := by
  simp [dEq, dEqv, toPD, PyData.depth, PyData.eqv]
  try (by_cases h : a = b <;> simp [h])
@[simp] theorem dNe_int : dNe (.int a) (.int b) = some (.bl (decide (a ≠ b))) := by
  simp [dNe, dEqv, toPD, PyData.depth, PyData.eqv]
  try (by_cases h : a = b <;> simp [h])
@[simp] theorem dAdd_int : dAdd (.int a) (.int b) = some (.int (a + b)) := rfl
@[simp] theorem dAddI_int : dAddI (.int a) (.int b) = some (.int (a + b)) := rfl
@[simp] theorem dSub_int : dSub (.int a) (.int b) = some (.int (a - b)) := rfl
@[simp] theorem dMod_int : dMod (.int a) (.int b) = if 0 < b then some (.int (a % b)) else none := rfl
@[simp] theorem dDiv_int : dDiv (.int a) (.int b) = if 0 < b ∧ b < 1073741824 then some (.int (a / b)) else none := rfl
@[simp] theorem dMul_int : dMul (.int a) (.int b) = if (-(2 ^ 64) < a ∧ a < 2 ^ 64) ∨ (-(2 ^ 64) < b ∧ b < 2 ^ 64) then some (.int (a * b)) else none := rfl
@[simp] theorem dPow_int : dPow (.int a) (.int b) = if 0 ≤ b ∧ b ≤ 1000000 ∧ a.natAbs < 2 ^ 64 then some (.int (a ^ b.toNat)) else none := rfl
@[simp] theorem bInt_int : bInt [.int a] = some (.int a) := rfl
@[simp] theorem dAdd_lst {xs ys : List D} : dAdd (.lst xs) (.lst ys) = if xs.length + ys.length ≤ lim then some (.lst (xs ++ ys)) else none := rfl
@[simp] theorem dAdd_tup {xs ys : List D} : dAdd (.tup xs) (.tup ys) = if xs.length + ys.length ≤ lim then some (.tup (xs ++ ys)) else none := rfl
@[simp] theorem dIx_tup {xs : List D} : dIx (.tup xs) (.int a) = atI xs a := rfl
@[simp] theorem dIx_lst {xs : List D} : dIx (.lst xs) (.int a) = atI xs a := rfl
@[simp] theorem bLen_lst {xs : List D} : bLen [.lst xs] = some (.int xs.length) := rfl
@[simp] theorem bLen_tup {xs : List D} : bLen [.tup xs] = some (.int xs.length) := rfl
@[simp] theorem bLen_dct {ks vs : List D} : bLen [.dct ks vs] = some (.int ks.length) := rfl
theorem bMax2_int : bMax2 [.int a, .int b] = some (.int (if b > a then b else a)) := rfl
theorem bMin2_int : bMin2 [.int a, .int b] = some (.int (if b < a then b else a)) := rfl
@[simp] theorem dNeg_int : dNeg (.int a) = some (.int (-a)) := rfl
@[simp] theorem bAbs_int : bAbs [.int a] = some (.int (if a < 0 then -a else a)) := rfl
end
end Ev

/-! Pl0: the plain side: what the terms of the specifications say, as rules of simp. -/
namespace Ev
open PySem PySem.Spec L2
open PyProof.Rows hiding St
variable [Tbl]
/-- a truth, an integer .. out of a tree -/
def OfBl (d : D) (Q : Bool → Prop) : Prop := ∃ b, d = .bl b ∧ Q b
def OfInt (d : D) (Q : Int → Prop) : Prop := ∃ i, d = .int i ∧ Q i
def OfNat' (d : D) (Q : Nat → Prop) : Prop := ∃ i : Nat, d = .int i ∧ Q i
def One (es : List D) (Q : D → Prop) : Prop := ∃ d, es = [d] ∧ Q d
def OneL (es : List D) (Q : List D → Prop) : Prop := ∃ fs, es = [.lst fs] ∧ Q fs
def OneI (es : List D) (Q : Int → Prop) : Prop := ∃ j, es = [.int j] ∧ Q j
/-- sorted(set(d)) of integers -/
def SortSetD (d : D) (Q : D → Prop) : Prop := ∃ ns : List Int, (d = .lst (ns.map .int) ∨ d = .tup (ns.map .int)) ∧ ns.length < 64 ∧ ∀ os, IsSet ns os → Q (.lst (os.map .int))
/-- an exception heard -/
def HeardX (nm fld : Str) (x : Exc) (Q : D → Prop) : Prop := x.cls = nm ∧ ∃ d, x.fields = [(fld, d)] ∧ Q d
@[simp] theorem heardX_one {nm fld : Str} {d : D} {Q : D → Prop} : HeardX nm fld ⟨nm, [(fld, d)]⟩ Q = Q d := propext ⟨fun ⟨_, _, e, q⟩ => by cases e; exact q, fun q => ⟨rfl, _, rfl, q⟩⟩
/-- Refused -/
def rfd (w : Str) : Exc := ⟨"Refused", [("why", .str w)]⟩
@[simp] theorem heardX_rfd {w : Str} {Q : D → Prop} : HeardX "Refused" "why" (rfd w) Q = Q (.str w) := heardX_one
@[simp] theorem noX_rfd {w : Str} : noX (rfd w) = true := rfl
theorem rfd_eq {w : Str} : Exc.mk "Refused" [("why", .str w)] = rfd w := rfl
def TwoI (es : List D) (Q : Int → Int → Prop) : Prop := ∃ i j, es = [.int i, .int j] ∧ Q i j
@[simp] theorem ofBl_bl {b : Bool} {Q : Bool → Prop} : OfBl (.bl b) Q = Q b := propext ⟨fun ⟨_, e, q⟩ => by cases e; exact q, fun q => ⟨_, rfl, q⟩⟩
@[simp] theorem ofInt_int {b : Int} {Q : Int → Prop} : OfInt (.int b) Q = Q b := propext ⟨fun ⟨_, e, q⟩ => by cases e; exact q, fun q => ⟨_, rfl, q⟩⟩
@[simp] theorem ofNat_nat {b : Nat} {Q : Nat → Prop} : OfNat' (.int b) Q = Q b := propext ⟨fun ⟨_, e, q⟩ => by have e := Int.ofNat.inj (D.int.inj e); subst e; exact q, fun q => ⟨_, rfl, q⟩⟩
@[simp] theorem ofNat_zero {Q : Nat → Prop} : OfNat' (.int 0) Q = Q 0 := ofNat_nat (b := 0)
@[simp] theorem one_one {x : D} {Q : D → Prop} : One [x] Q = Q x := propext ⟨fun ⟨_, e, q⟩ => by cases e; exact q, fun q => ⟨_, rfl, q⟩⟩
@[simp] theorem oneL_one {x : List D} {Q : List D → Prop} : OneL [.lst x] Q = Q x := propext ⟨fun ⟨_, e, q⟩ => by cases e; exact q, fun q => ⟨_, rfl, q⟩⟩
@[simp] theorem oneI_one {x : Int} {Q : Int → Prop} : OneI [.int x] Q = Q x := propext ⟨fun ⟨_, e, q⟩ => by cases e; exact q, fun q => ⟨_, rfl, q⟩⟩
@[simp] theorem twoI_one {x y : Int} {Q : Int → Int → Prop} : TwoI [.int x, .int y] Q = Q x y := propext ⟨fun ⟨_, _, e, q⟩ => by cases e; exact q, fun q => ⟨_, _, rfl, q⟩⟩
section
variable {α β : Type} {ρ ρ' : EnvD} {Q : D → Prop} {E : Exc → Prop} {i j n : Nat} {s : Slot} {o : Option Slot} {d x y : D} {ds es ks xs ys : List D} {a b c me : ME} {ma : MA} {mt mu : MT} {mb : MB} {mi : MI} {ms mz : MS} {nx bk ct : EnvD → Prop} {rt : D → Prop} {ex : Exc → Prop} {g g' : D → D → Option D}
@[simp] theorem p_opt_some {a : α} {Q : α → Prop} : Opt (some a) Q = Q a := opt_some
@[simp] theorem p_opt_none {Q : α → Prop} : Opt none Q = False := by
  apply propext
  exact ⟨fun ⟨_, e, _⟩ => (by cases e), False.elim⟩
@[simp] theorem p_opt_ite {p : Prop} [Decidable p] {a b : Option α} {Q : α → Prop} : Opt (if p then a else b) Q = if p then Opt a Q else Opt b Q := by
  split <;> rfl
@[simp] theorem p_opt_map {f : α → β} {a : Option α} {Q : β → Prop} : Opt (a.map f) Q = Opt a fun x => Q (f x) := by
  cases a <;> simp
-- names
@[simp] theorem rdv_val : rdv 0 (some (.val d) :: ρ) = some d := rfl
@[simp] theorem rdv_own : rdv 0 (some (.own ds) :: ρ) = some (.lst ds) := rfl
@[simp] theorem rdv_ownd : rdv 0 (some (.ownd ks ds) :: ρ) = some (.dct ks ds) := rfl
@[simp] theorem rdv_succ : rdv (i + 1) (o :: ρ) = rdv i ρ := rfl
@[simp] theorem kpv_val : kpv 0 (some (.val d) :: ρ) = some d := rfl
@[simp] theorem kpv_succ : kpv (i + 1) (o :: ρ) = kpv i ρ := rfl
@[simp] theorem ownAt_zero : ownAt 0 (some s :: ρ) = isOwn s := rfl
@[simp] theorem ownAt_succ : ownAt (i + 1) (o :: ρ) = ownAt i ρ := rfl
@[simp] theorem isOwn_val : isOwn (.val d) = false := rfl
@[simp] theorem isOwn_own : isOwn (.own ds) = true := rfl
@[simp] theorem isOwn_ownd : isOwn (.ownd ks ds) = true := rfl
@[simp] theorem ownL_zero : ownL 0 (some (.own ds) :: ρ) = some ds := rfl
@[simp] theorem ownL_succ : ownL (i + 1) (o :: ρ) = ownL i ρ := rfl
@[simp] theorem ownDct_zero : ownDct 0 (some (.ownd ks ds) :: ρ) = some (ks, ds) := rfl
@[simp] theorem ownDct_succ : ownDct (i + 1) (o :: ρ) = ownDct i ρ := rfl
@[simp] theorem setE_zero : setE 0 s (o :: ρ) = some s :: ρ := rfl
@[simp] theorem setE_succ : setE (i + 1) s (o :: ρ) = o :: setE i s ρ := rfl
@[simp] theorem wipeE_nil : wipeE ρ [] = ρ := rfl
@[simp] theorem wipeE_cons {v : Nat} {vs : List Nat} : wipeE ρ (v :: vs) = (wipeE ρ vs).set v none := rfl
@[simp] theorem frzE_nil {f : Nat → Bool} : frzE f [] = [] := rfl
@[simp] theorem frzE_cons {f : Nat → Bool} : frzE f (o :: ρ) = (if f 0 = true then o.map frzS else o) :: frzE (fun i => f (i + 1)) ρ := by
  unfold frzE
  rw [List.mapIdx_cons]
@[simp] theorem frzE_false : frzE (fun _ => false) ρ = ρ := by
  unfold frzE
  induction ρ with
  | nil => rfl
  | cons o ρ ih => rw [List.mapIdx_cons, ih]; rfl
@[simp] theorem only_ap : only i j = (j == i) := rfl
@[simp] theorem frzS_val : frzS (.val d) = .val d := rfl
@[simp] theorem frzS_own : frzS (.own ds) = .val (.lst ds) := rfl
@[simp] theorem frzS_ownd : frzS (.ownd ks ds) = .val (.dct ks ds) := rfl
@[simp] theorem slotOf_lst : slotOf (.lst ds) = .own ds := rfl
@[simp] theorem slotOf_dct : slotOf (.dct ks ds) = .ownd ks ds := rfl
@[simp] theorem slotOf_int {k : Int} : slotOf (.int k) = .val (.int k) := rfl
@[simp] theorem slotOf_bl {k : Bool} : slotOf (.bl k) = .val (.bl k) := rfl
@[simp] theorem slotOf_non : slotOf .non = .val .non := rfl
@[simp] theorem slotOf_str {k : Str} : slotOf (.str k) = .val (.str k) := rfl
@[simp] theorem slotOf_tup : slotOf (.tup ds) = .val (.tup ds) := rfl
-- expressions
@[simp] theorem s_mVar : mVar i ρ Q E = Opt (rdv i ρ) Q := rfl
@[simp] theorem s_mKp : mKp i ρ Q E = Opt (kpv i ρ) Q := rfl
@[simp] theorem s_mC : mC d ρ Q E = Q d := rfl
@[simp] theorem s_mBin : mBin g a b ρ Q E = a ρ (fun x => b ρ (fun y => Opt (g x y) Q) E) E := rfl
@[simp] theorem s_mUn {g : D → Option D} : mUn g a ρ Q E = a ρ (fun x => Opt (g x) Q) E := rfl
@[simp] theorem s_mOfBl {Q : Bool → Prop} : mOfBl a ρ Q E = a ρ (fun d => OfBl d Q) E := rfl
@[simp] theorem s_mChain : mChain g g' a b c ρ Q E = a ρ (fun x => b ρ (fun y => Opt (g x y) fun d => OfBl d fun b => if b = true then c ρ (fun z => Opt (g' y z) Q) E else Q (.bl false)) E) E := rfl
@[simp] theorem s_mChn {t : MC} : mChn a t ρ Q E = a ρ (fun d => t d ρ Q E) E := rfl
@[simp] theorem s_cLast : cLast g a d ρ Q E = a ρ (fun y => Opt (g d y) Q) E := rfl
@[simp] theorem s_cLink {t : MC} : cLink g a t d ρ Q E = a ρ (fun y => Opt (g d y) fun z => OfBl z fun b => if b = true then t y ρ Q E else Q (.bl false)) E := rfl
@[simp] theorem s_mTru {Q : Bool → Prop} : mTru a ρ Q E = a ρ (fun d => Opt (dTru d) Q) E := rfl
@[simp] theorem s_mNotT {Q : Bool → Prop} : mNotT mt ρ Q E = mt ρ (fun b => Q (!b)) E := rfl
@[simp] theorem s_mAndT {Q : Bool → Prop} : mAndT mt mu ρ Q E = mt ρ (fun b => if b = true then mu ρ Q E else Q false) E := rfl
@[simp] theorem s_mOrT {Q : Bool → Prop} : mOrT mt mu ρ Q E = mt ρ (fun b => if b = true then Q true else mu ρ Q E) E := rfl
@[simp] theorem s_mAndV : mAndV a b ρ Q E = a ρ (fun d => Opt (dTru d) fun t => if t = true then b ρ Q E else Q d) E := rfl
@[simp] theorem s_mOrV : mOrV a b ρ Q E = a ρ (fun d => Opt (dTru d) fun t => if t = true then Q d else b ρ Q E) E := rfl
@[simp] theorem s_mNotV : mNotV a ρ Q E = a ρ (fun d => Opt (dTru d) fun t => Q (.bl (!t))) E := rfl
@[simp] theorem s_mIfE : mIfE mt a b ρ Q E = mt ρ (fun t => if t = true then a ρ Q E else b ρ Q E) E := rfl
@[simp] theorem s_mNil {Q : List D → Prop} : mNil ρ Q E = Q [] := rfl
@[simp] theorem s_mCons {Q : List D → Prop} : mCons a ma ρ Q E = a ρ (fun d => ma ρ (fun ds => Q (d :: ds)) E) E := rfl
@[simp] theorem s_mTup : mTup ma ρ Q E = ma ρ (fun ds => ds.length ≤ lim ∧ Q (.tup ds)) E := rfl
@[simp] theorem s_mLst : mLst ma ρ Q E = ma ρ (fun ds => ds.length ≤ lim ∧ Q (.lst ds)) E := rfl
@[simp] theorem s_mIx : mIx a b ρ Q E = a ρ (fun x => b ρ (fun y => Opt (dIx x y) Q) E) E := rfl
@[simp] theorem s_mNoPart {Q : Option Int → Prop} : mNoPart ρ Q E = Q none := rfl
@[simp] theorem s_mPart {Q : Option Int → Prop} : mPart a ρ Q E = a ρ (fun d => OfInt d fun i => Q (some i)) E := rfl
@[simp] theorem s_mSl {ml mh : MO} : mSl a ml mh ρ Q E = a ρ (fun d => ml ρ (fun lo => mh ρ (fun hi => Opt (dSl lo hi d) Q) E) E) E := rfl
@[simp] theorem s_mBlt {g : List D → Option D} : mBlt g ma ρ Q E = ma ρ (fun ds => Opt (g ds) Q) E := rfl
@[simp] theorem s_mBltR {r : RS} : mBltR r ma ρ Q E = ma ρ (fun ds => r ds Q) E := rfl
@[simp] theorem s_mIs {k : Cl} : mIs k a ρ Q E = a ρ (fun d => Opt (isD k d) fun b => Q (.bl b)) E := rfl
@[simp] theorem s_mIs2 {k l : Cl} : mIs2 k l a ρ Q E = a ρ (fun d => Opt (isD2 k l d) fun b => Q (.bl b)) E := rfl
@[simp] theorem s_nNil {Q : List D → Bool → Prop} : nNil ρ Q E = Q [] false := rfl
@[simp] theorem s_nCons {Q : List D → Bool → Prop} : nCons a mb ρ Q E = a ρ (fun d => mb ρ (fun ds b => Q (d :: ds) b) E) E := rfl
@[simp] theorem s_nName {Q : List D → Bool → Prop} : nName i mb ρ Q E = Opt (rdv i ρ) fun d => mb ρ (fun ds b => Q (d :: ds) (ownAt i ρ || b)) E := rfl
@[simp] theorem s_mCall {S : FS} : mCall S mb ρ Q E = mb ρ (fun ds b => S ds (fun d => (b = true → noL d = true) ∧ Q d) (fun x => (b = true → noX x = true) ∧ E x)) E := rfl
@[simp] theorem s_mHeard {nm fld told refd : Str} : mHeard nm fld told refd a ρ Q E = a ρ (fun d => Q (.tup [.str told, d])) (fun x => HeardX nm fld x fun d => Q (.tup [.str refd, d])) := rfl
@[simp] theorem s_mRg1 {Q : Int → Int → Prop} : mRg1 a ρ Q E = a ρ (fun d => OfInt d fun n => Q 0 n) E := rfl
@[simp] theorem s_mRg2 {Q : Int → Int → Prop} : mRg2 a b ρ Q E = a ρ (fun d => OfInt d fun i => b ρ (fun d2 => OfInt d2 fun j => Q i j) E) E := rfl
@[simp] theorem s_mLstRg {mr : MR} : mLstRg mr ρ Q E = mr ρ (fun a b => (-(2 ^ 62) ≤ a ∧ a < 2 ^ 62 ∧ -(2 ^ 62) ≤ b ∧ b < 2 ^ 62 ∧ b - a ≤ 16777216) ∧ Q (.lst (rngD a b))) E := rfl
@[simp] theorem s_mTupRg {mr : MR} : mTupRg mr ρ Q E = mr ρ (fun a b => (-(2 ^ 62) ≤ a ∧ a < 2 ^ 62 ∧ -(2 ^ 62) ≤ b ∧ b < 2 ^ 62 ∧ b - a ≤ 16777216) ∧ Q (.tup (rngD a b))) E := rfl
@[simp] theorem s_mListZip : mListZip a b ρ Q E = a ρ (fun x => b ρ (fun y => Opt (seqD x) fun as => Opt (seqD y) fun bs => Q (.lst (zipD as bs))) E) E := rfl
@[simp] theorem s_mSortSet : mSortSet a ρ Q E = a ρ (fun d => SortSetD d Q) E := rfl
-- iterated things
@[simp] theorem s_mSeqI {Q : List D → Prop} : mSeqI a ρ Q E = a ρ (fun d => Opt (seqD d) Q) E := rfl
@[simp] theorem s_mRng1 {Q : List D → Prop} : mRng1 ma ρ Q E = ma ρ (fun ds => OneI ds fun j => (-(2 ^ 62) ≤ j ∧ j ≤ 16777216) ∧ Q (rngD 0 j)) E := rfl
@[simp] theorem s_mRng2 {Q : List D → Prop} : mRng2 ma ρ Q E = ma ρ (fun ds => TwoI ds fun i j => (-(2 ^ 62) ≤ i ∧ i < 2 ^ 62 ∧ -(2 ^ 62) ≤ j ∧ j < 2 ^ 62 ∧ j - i ≤ 16777216) ∧ Q (rngD i j)) E := rfl
@[simp] theorem s_mEnum {Q : List D → Prop} : mEnum a ρ Q E = a ρ (fun d => Opt (seqD d) fun ds => Q (enumFrom 0 ds)) E := rfl
@[simp] theorem s_mZip {Q : List D → Prop} : mZip a b ρ Q E = a ρ (fun x => b ρ (fun y => Opt (seqD x) fun as => Opt (seqD y) fun bs => Q (zipD as bs)) E) E := rfl
@[simp] theorem s_mZip3 {Q : List D → Prop} : mZip3 a b c ρ Q E = a ρ (fun x => b ρ (fun y => c ρ (fun z => Opt (seqD x) fun as => Opt (seqD y) fun bs => Opt (seqD z) fun cs => Q (zipD3 as bs cs)) E) E) E := rfl
@[simp] theorem s_mYes {Q : Bool → Prop} : mYes ρ Q E = Q true := rfl
@[simp] theorem s_mLc {vs : List Nat} {mg : MG} : mLc vs mi mg mt me ρ Q E = mi ρ (fun ds => lcE vs mg mt me ds ρ [] fun ys => Q (.lst ys)) E := rfl
@[simp] theorem s_mLc2 {vs vs1 : List Nat} {mg mg1 : MG} {mi1 : MI} {mt1 : MT} : mLc2 vs vs1 mi mg mt mi1 mg1 mt1 me ρ Q E = mi ρ (fun ds => ds.length ≤ 4095 ∧ lc2E vs vs1 mg mt mi1 mg1 mt1 me ds ρ [] fun ys => Q (.lst ys)) E := rfl
-- targets
@[simp] theorem s_gN {Q : EnvD → Prop} : gN i d ρ Q = Q (setE i (.val d) ρ) := rfl
@[simp] theorem s_gNilD {Q : EnvD → Prop} : gNilD [] ρ Q = Q ρ := by
  apply propext
  exact ⟨fun h => h.2, fun h => ⟨rfl, h⟩⟩
@[simp] theorem s_gConsD {g : MG} {r : MGs} {Q : EnvD → Prop} : gConsD g r (d :: ds) ρ Q = g d ρ (fun ρ' => r ds ρ' Q) := by
  apply propext
  exact ⟨fun ⟨_, _, e, q⟩ => by cases e; exact q, fun q => ⟨_, _, rfl, q⟩⟩
@[simp] theorem s_gTupD {r : MGs} {Q : EnvD → Prop} : gTupD n r (.tup ds) ρ Q = (ds.length = n ∧ r ds ρ Q) := by
  apply propext
  exact ⟨fun ⟨_, e, q⟩ => by cases e; exact q, fun q => ⟨_, rfl, q⟩⟩
-- statements
@[simp] theorem s_mSkip : mSkip ρ ⟨nx, rt, bk, ct, ex⟩ = nx ρ := rfl
@[simp] theorem s_mSeq : mSeq ms mz ρ ⟨nx, rt, bk, ct, ex⟩ = ms ρ ⟨fun ρ' => mz ρ' ⟨nx, rt, bk, ct, ex⟩, rt, bk, ct, ex⟩ := rfl
@[simp] theorem s_mBrk : mBrk ρ ⟨nx, rt, bk, ct, ex⟩ = bk ρ := rfl
@[simp] theorem s_mCnt : mCnt ρ ⟨nx, rt, bk, ct, ex⟩ = ct ρ := rfl
@[simp] theorem s_mEx : mEx a ρ ⟨nx, rt, bk, ct, ex⟩ = a ρ (fun _ => nx ρ) ex := rfl
@[simp] theorem s_mRet : mRet a ρ ⟨nx, rt, bk, ct, ex⟩ = a (frzE (fun _ => true) ρ) rt ex := rfl
@[simp] theorem s_mRetN : mRetN ρ ⟨nx, rt, bk, ct, ex⟩ = rt .non := rfl
@[simp] theorem s_mIf : mIf mt ms mz ρ ⟨nx, rt, bk, ct, ex⟩ = mt ρ (fun t => if t = true then ms ρ ⟨nx, rt, bk, ct, ex⟩ else mz ρ ⟨nx, rt, bk, ct, ex⟩) ex := rfl
@[simp] theorem s_mSet : mSet i a ρ ⟨nx, rt, bk, ct, ex⟩ = a ρ (fun d => nx (setE i (slotOf d) ρ)) ex := rfl
@[simp] theorem s_mSetV : mSetV i a ρ ⟨nx, rt, bk, ct, ex⟩ = a ρ (fun d => nx (setE i (.val d) ρ)) ex := rfl
@[simp] theorem s_mMove : mMove i j ρ ⟨nx, rt, bk, ct, ex⟩ = Opt (rdv j ρ) fun d => nx (setE i (.val d) (frzE (only j) ρ)) := rfl
@[simp] theorem s_mAug : mAug i g a ρ ⟨nx, rt, bk, ct, ex⟩ = Opt (kpv i ρ) fun d1 => a ρ (fun d2 => Opt (g d1 d2) fun d => nx (setE i (.val d) ρ)) ex := rfl
@[simp] theorem s_mAsg {g : MG} : mAsg g a ρ ⟨nx, rt, bk, ct, ex⟩ = a ρ (fun d => g d ρ nx) ex := rfl
@[simp] theorem s_mFrz {f : Nat → Bool} : mFrz f ms ρ ⟨nx, rt, bk, ct, ex⟩ = ms (frzE f ρ) ⟨nx, rt, bk, ct, ex⟩ := rfl
@[simp] theorem s_mFor {f : Nat → Bool} {g : MG} : mFor f mi g ms ρ ⟨nx, rt, bk, ct, ex⟩ = mi (frzE f ρ) (fun ds => forE g ms ds (frzE f ρ) ⟨nx, rt, bk, ct, ex⟩) ex := rfl
@[simp] theorem s_mWhile : mWhile mt ms ρ ⟨nx, rt, bk, ct, ex⟩ = ∃ n, whileN mt ms n ρ ⟨nx, rt, bk, ct, ex⟩ := rfl
@[simp] theorem s_mAppend : mAppend i ma ρ ⟨nx, rt, bk, ct, ex⟩ = Opt (ownL i ρ) fun ds => ma ρ (fun es => One es fun d => ds.length < lim ∧ nx (setE i (.own (ds ++ [d])) ρ)) ex := rfl
@[simp] theorem s_mExtend : mExtend i ma ρ ⟨nx, rt, bk, ct, ex⟩ = Opt (ownL i ρ) fun ds => ma ρ (fun es => OneL es fun fs => ds.length + fs.length ≤ lim ∧ nx (setE i (.own (ds ++ fs)) ρ)) ex := rfl
@[simp] theorem s_mPop : mPop j i ρ ⟨nx, rt, bk, ct, ex⟩ = Opt (ownL i ρ) fun ds => Opt ds.getLast? fun d => nx (setE j (.val d) (setE i (.own ds.dropLast) ρ)) := rfl
@[simp] theorem s_mAppPop : mAppPop i j a ρ ⟨nx, rt, bk, ct, ex⟩ = Opt (ownL i ρ) fun ds => Opt (ownL j ρ) fun es => a ρ (fun d => OfNat' d fun n => Opt es[n]? fun y => ds.length < lim ∧ es.length ≤ lim ∧ nx (setE i (.own (ds ++ [y])) (setE j (.own (es.eraseIdx n)) ρ))) ex := rfl
@[simp] theorem s_mDput : mDput i a b ρ ⟨nx, rt, bk, ct, ex⟩ = b ρ (fun v => Opt (ownDct i ρ) fun kv => a ρ (fun k => askK kv.1 k = true ∧ kv.1.length < lim ∧ nx (setE i (.ownd (putKs kv.1 k) (putVs kv.1 kv.2 k v)) ρ)) ex) ex := rfl
@[simp] theorem s_mRaise {nm f : Str} : mRaise nm f a ρ ⟨nx, rt, bk, ct, ex⟩ = a (frzE (fun _ => true) ρ) (fun d => ex ⟨nm, [(f, d)]⟩) ex := rfl
@[simp] theorem s_mPar {is : List Nat} {mf : MF} : mPar is mf ρ ⟨nx, rt, bk, ct, ex⟩ = mf ρ (fun ss => ss.length = is.length ∧ nx (setsE is ss ρ)) ex := rfl
@[simp] theorem s_fNil {Q : List Slot → Prop} : fNil ρ Q E = Q [] := rfl
@[simp] theorem s_fFr {mr : MF} {Q : List Slot → Prop} : fFr a mr ρ Q E = a ρ (fun d => mr ρ (fun ss => Q (slotOf d :: ss)) E) E := rfl
@[simp] theorem s_fVl {mr : MF} {Q : List Slot → Prop} : fVl a mr ρ Q E = a ρ (fun d => mr ρ (fun ss => Q (.val d :: ss)) E) E := rfl
@[simp] theorem setsE_nil {ss : List Slot} : setsE [] ss ρ = ρ := rfl
@[simp] theorem setsE_cons {is : List Nat} {ss : List Slot} : setsE (i :: is) (s :: ss) ρ = setsE is ss (setE i s ρ) := rfl
@[simp] theorem s_mBag {k : Int} : mBag j k ρ Q E = (kpv j ρ = some .bag ∧ ∀ n : Int, 0 ≤ n → (k = 1 → n < 2147483647) → Q (.int n)) := rfl
@[simp] theorem s_mBagL : mBagL j ρ Q E = (kpv j ρ = some .bag ∧ ∀ ns : List Int, ns.length ≤ 63 → (∀ n ∈ ns, 0 ≤ n) → Q (.lst (ns.map .int))) := rfl
@[simp] theorem s_mBagSet {k : Int} : mBagSet j k a ρ ⟨nx, rt, bk, ct, ex⟩ = a ρ (fun d => kpv j ρ = some .bag ∧ OfInt d fun n => 0 ≤ n ∧ (k = 1 → n < 2147483647) ∧ nx ρ) ex := rfl
@[simp] theorem s_mBagInc : mBagInc j ρ ⟨nx, rt, bk, ct, ex⟩ = (kpv j ρ = some .bag ∧ nx ρ) := rfl
theorem s_mCallL {T : Tb} : mCallL T i mb ρ Q E = ∃ g S, kpv i ρ = some (.fn g) ∧ (g, S) ∈ T ∧ mCall S mb ρ Q E := rfl
-- loops
@[simp] theorem forE_nil {g : MG} : forE g ms [] ρ ⟨nx, rt, bk, ct, ex⟩ = nx ρ := rfl
theorem forE_cons {g : MG} : forE g ms (d :: ds) ρ ⟨nx, rt, bk, ct, ex⟩ = g d ρ fun ρ1 => ms ρ1 ⟨fun ρ' => forE g ms ds ρ' ⟨nx, rt, bk, ct, ex⟩, rt, nx, fun ρ' => forE g ms ds ρ' ⟨nx, rt, bk, ct, ex⟩, ex⟩ := rfl
theorem whileN_succ : whileN mt ms (n + 1) ρ ⟨nx, rt, bk, ct, ex⟩ = mt ρ (fun t => if t = true then ms ρ ⟨fun ρ' => whileN mt ms n ρ' ⟨nx, rt, bk, ct, ex⟩, rt, nx, fun ρ' => whileN mt ms n ρ' ⟨nx, rt, bk, ct, ex⟩, ex⟩ else nx ρ) ex := rfl
-- sequences
@[simp] theorem seqD_tup : seqD (.tup ds) = some ds := rfl
@[simp] theorem seqD_lst : seqD (.lst ds) = some ds := rfl
@[simp] theorem enumFrom_nil : enumFrom n [] = [] := rfl
@[simp] theorem enumFrom_cons : enumFrom n (d :: ds) = .tup [.int n, d] :: enumFrom (n + 1) ds := rfl
-- truth
@[simp] theorem dTru_non : dTru .non = some false := rfl
@[simp] theorem dTru_bl {b : Bool} : dTru (.bl b) = some b := rfl
@[simp] theorem dTru_int {b : Int} : dTru (.int b) = some (b != 0) := rfl
@[simp] theorem dTru_str {b : Str} : dTru (.str b) = some ((b.length : Int) != 0) := rfl
@[simp] theorem dTru_tup : dTru (.tup ds) = some (!ds.isEmpty) := rfl
@[simp] theorem dTru_lst : dTru (.lst ds) = some (!ds.isEmpty) := rfl
@[simp] theorem lim_val : lim = 16777216 := rfl
@[simp] theorem noL_non : noL .non = true := rfl
@[simp] theorem noL_bl {b : Bool} : noL (.bl b) = true := rfl
@[simp] theorem noL_int {b : Int} : noL (.int b) = true := rfl
@[simp] theorem noL_str {b : Str} : noL (.str b) = true := rfl
@[simp] theorem noL_tup : noL (.tup ds) = noLs ds := rfl
@[simp] theorem noLs_nil : noLs [] = true := rfl
@[simp] theorem noLs_cons : noLs (d :: ds) = (noL d && noLs ds) := rfl
end
end Ev

/-! Pl1: the plain side: kinds of data, their equality and order. -/
namespace Ev
open PySem PySem.Spec L2
open PyProof.Rows hiding St
/-- a kind of data: all alike, equal only if the same -/
class Dt (α : Type) where
  enc : α → D
  pd : α → PyData
  dep : Nat
  hpd : ∀ a, toPD (enc a) = some (pd a)
  hdep : ∀ a, (pd a).depth ≤ dep
  heq : ∀ a b, PyData.eqv (pd a) (pd b) = true ↔ a = b
  hal : ∀ a b, PySem.W.alike (pd a) (pd b) = true
  hno : ∀ a, pd a ≠ .none
open Dt (enc)
instance : Dt Int := ⟨D.int, PyData.int, 0, fun _ => rfl, fun _ => Nat.le_refl _, fun a b => by simp [PyData.eqv], fun _ _ => rfl, fun _ h => by cases h⟩
instance : Dt Str := ⟨D.str, PyData.str, 0, fun _ => rfl, fun _ => Nat.le_refl _, fun a b => by simp [PyData.eqv], fun _ _ => rfl, fun _ h => by cases h⟩
instance : Dt Bool := ⟨D.bl, PyData.bool, 0, fun _ => rfl, fun _ => Nat.le_refl _, fun a b => by simp [PyData.eqv], fun _ _ => rfl, fun _ h => by cases h⟩
section
variable {α β γ : Type} [Dt α] [Dt β] [Dt γ]
theorem toPDs_encs : ∀ (xs : List α), toPDs (xs.map enc) = some (xs.map Dt.pd)
  | [] => rfl
  | x :: xs => by
    show toPDs (enc x :: xs.map enc) = _
    unfold toPDs
    rw [Dt.hpd x, toPDs_encs xs]
    rfl
theorem eqvAll_enc : ∀ (xs ys : List α), PyData.eqvAll (xs.map Dt.pd) (ys.map Dt.pd) = true ↔ xs = ys
  | [], [] => by simp [PyData.eqvAll]
  | [], _ :: _ => by simp [PyData.eqvAll]
  | _ :: _, [] => by simp [PyData.eqvAll]
  | x :: xs, y :: ys => by
    rw [List.map_cons, List.map_cons, PyData.eqvAll, Bool.and_eq_true, Dt.heq, eqvAll_enc xs ys]
    simp
theorem alikeAll_enc : ∀ (xs ys : List α), PySem.W.alikeAll (xs.map Dt.pd) (ys.map Dt.pd) = true
  | [], _ => by simp [PySem.W.alikeAll]
  | _ :: _, [] => by simp [PySem.W.alikeAll]
  | x :: xs, y :: ys => by
    rw [List.map_cons, List.map_cons, PySem.W.alikeAll, Dt.hal, alikeAll_enc xs ys]; rfl
theorem depthAll_enc : ∀ (xs : List α), PyData.depthAll (xs.map Dt.pd) ≤ Dt.dep α
  | [] => by simp [PyData.depthAll]
  | x :: xs => by
    rw [List.map_cons, PyData.depthAll]
    exact Nat.max_le.mpr ⟨Dt.hdep x, depthAll_enc xs⟩
end
instance {α : Type} [Dt α] : Dt (List α) := ⟨fun xs => .tup (xs.map enc), fun xs => .tuple (xs.map Dt.pd), Dt.dep α + 1,
  fun xs => by show toPD (.tup _) = _; unfold toPD; rw [toPDs_encs]; rfl,
  fun xs => by rw [PyData.depth]; have := depthAll_enc xs; omega,
  fun xs ys => by rw [PyData.eqv]; exact eqvAll_enc xs ys,
  fun xs ys => by rw [PySem.W.alike]; exact alikeAll_enc xs ys, fun _ h => by cases h⟩
instance {α β : Type} [Dt α] [Dt β] : Dt (α × β) := ⟨fun p => .tup [enc p.1, enc p.2], fun p => .tuple [Dt.pd p.1, Dt.pd p.2], max (Dt.dep α) (Dt.dep β) + 1,
  fun p => by show toPD (.tup _) = _; unfold toPD toPDs toPDs toPDs; rw [Dt.hpd, Dt.hpd]; rfl,
  fun p => by rw [PyData.depth, PyData.depthAll, PyData.depthAll, PyData.depthAll]; have := Dt.hdep p.1; have := Dt.hdep p.2; omega,
  fun p q => by rw [PyData.eqv, PyData.eqvAll, PyData.eqvAll, PyData.eqvAll, Bool.and_eq_true, Bool.and_eq_true, Dt.heq, Dt.heq]; exact ⟨fun h => Prod.ext h.1 h.2.1, fun h => h ▸ ⟨rfl, rfl, rfl⟩⟩,
  fun p q => by rw [PySem.W.alike, PySem.W.alikeAll, PySem.W.alikeAll, PySem.W.alikeAll, Dt.hal, Dt.hal]; rfl, fun _ h => by cases h⟩
/-- lists, as lists -/
structure Ls (α : Type) where
  xs : List α
deriving DecidableEq
instance {α : Type} [Dt α] : Dt (Ls α) := ⟨fun x => .lst (x.xs.map enc), fun x => .list (x.xs.map Dt.pd), Dt.dep α + 1,
  fun xs => by show toPD (.lst _) = _; unfold toPD; rw [toPDs_encs]; rfl,
  fun xs => by rw [PyData.depth]; have := depthAll_enc xs.xs; omega,
  fun xs ys => by rw [PyData.eqv]; exact (eqvAll_enc xs.xs ys.xs).trans ⟨fun h => by cases xs; cases ys; cases h; rfl, fun h => h ▸ rfl⟩,
  fun xs ys => by rw [PySem.W.alike]; exact alikeAll_enc xs.xs ys.xs, fun _ h => by cases h⟩
/-- triples -/
structure T3 (α β γ : Type) where
  a : α
  b : β
  c : γ
deriving DecidableEq
instance {α β γ : Type} [Dt α] [Dt β] [Dt γ] : Dt (T3 α β γ) := ⟨fun p => .tup [enc p.a, enc p.b, enc p.c], fun p => .tuple [Dt.pd p.a, Dt.pd p.b, Dt.pd p.c], max (Dt.dep α) (max (Dt.dep β) (Dt.dep γ)) + 1,
  fun p => by show toPD (.tup _) = _; unfold toPD toPDs toPDs toPDs toPDs; rw [Dt.hpd, Dt.hpd, Dt.hpd]; rfl,
  fun p => by rw [PyData.depth, PyData.depthAll, PyData.depthAll, PyData.depthAll, PyData.depthAll]; have := Dt.hdep p.a; have := Dt.hdep p.b; have := Dt.hdep p.c; omega,
  fun p q => by
    rw [PyData.eqv, PyData.eqvAll, PyData.eqvAll, PyData.eqvAll, PyData.eqvAll, Bool.and_eq_true, Bool.and_eq_true, Bool.and_eq_true, Dt.heq, Dt.heq, Dt.heq]
    exact ⟨fun h => by cases p; cases q; obtain ⟨h1, h2, h3, _⟩ := h; cases h1; cases h2; cases h3; rfl, fun h => h ▸ ⟨rfl, rfl, rfl, rfl⟩⟩,
  fun p q => by rw [PySem.W.alike, PySem.W.alikeAll, PySem.W.alikeAll, PySem.W.alikeAll, PySem.W.alikeAll, Dt.hal, Dt.hal, Dt.hal]; rfl, fun _ h => by cases h⟩
/-- a kind by another one -/
@[reducible] def Dt.via {α β : Type} [Dt β] (f : α → β) (hf : ∀ a b, f a = f b → a = b) : Dt α := ⟨fun a => enc (f a), fun a => Dt.pd (f a), Dt.dep β, fun a => Dt.hpd (f a), fun a => Dt.hdep (f a),
  fun a b => (Dt.heq _ _).trans ⟨hf a b, fun h => h ▸ rfl⟩, fun a b => Dt.hal _ _, fun a => Dt.hno _⟩
@[simp] theorem enc_int {a : Int} : enc a = D.int a := rfl
@[simp] theorem enc_str {a : Str} : enc a = D.str a := rfl
@[simp] theorem enc_bl {a : Bool} : enc a = D.bl a := rfl
section
variable {α β γ : Type} [Dt α] [Dt β] [Dt γ]
@[simp] theorem enc_list {xs : List α} : enc xs = D.tup (xs.map enc) := rfl
@[simp] theorem enc_pair {p : α × β} : enc p = D.tup [enc p.1, enc p.2] := rfl
@[simp] theorem enc_ls {p : Ls α} : enc p = D.lst (p.xs.map enc) := rfl
@[simp] theorem enc_t3 {p : T3 α β γ} : enc p = D.tup [enc p.a, enc p.b, enc p.c] := rfl
theorem encD_enc {a : α} : encD (enc a) = Dt.pd a := by
  unfold encD
  rw [Dt.hpd]
  rfl
theorem pd_eqv [DecidableEq α] {a b : α} : PyData.eqv (Dt.pd a) (Dt.pd b) = decide (a = b) := by
  by_cases h : a = b
  · rw [decide_eq_true h]; exact (Dt.heq a b).mpr h
  · rw [decide_eq_false h]
    cases e : PyData.eqv (Dt.pd a) (Dt.pd b) with
    | false => rfl
    | true => exact absurd ((Dt.heq a b).mp e) h
theorem dEqv_enc [DecidableEq α] {a b : α} (hd : Dt.dep α ≤ 64) : dEqv (enc a) (enc b) = some (decide (a = b)) := by
  unfold dEqv
  rw [Dt.hpd, Dt.hpd]
  show (if _ then _ else _) = _
  rw [if_pos (Nat.le_trans (Nat.min_le_left _ _) (Nat.le_trans (Dt.hdep a) hd)), pd_eqv]
theorem dEq_enc [DecidableEq α] {a b : α} (hd : Dt.dep α ≤ 64) : dEq (enc a) (enc b) = some (.bl (decide (a = b))) := by
  unfold dEq; rw [dEqv_enc hd]; rfl
theorem dNe_enc [DecidableEq α] {a b : α} (hd : Dt.dep α ≤ 64) : dNe (enc a) (enc b) = some (.bl (decide (a ≠ b))) := by
  unfold dNe; rw [dEqv_enc hd]; simp
theorem any_enc [DecidableEq α] {a : α} : ∀ {xs : List α}, ((xs.map Dt.pd).any fun q => PyData.eqv q (Dt.pd a)) = decide (a ∈ xs)
  | [] => rfl
  | x :: xs => by
    rw [List.map_cons, List.any_cons, pd_eqv, any_enc]
    by_cases h : x = a
    · simp [h]
    · have h' : ¬ a = x := fun z => h z.symm
      simp [h, h']
theorem inData_enc [DecidableEq α] {a : α} {xs : List α} (hd : Dt.dep α ≤ 64) : inData (enc a) (xs.map enc) = some (decide (a ∈ xs)) := by
  unfold inData
  rw [Dt.hpd, toPDs_encs]
  show (if _ then _ else _) = _
  rw [if_pos (Nat.le_trans (Dt.hdep a) hd), any_enc]
theorem dIn_lst_enc [DecidableEq α] {a : α} {xs : List α} (hd : Dt.dep α ≤ 64) : dIn (enc a) (.lst (xs.map enc)) = some (.bl (decide (a ∈ xs))) := by
  show (inData _ _).map D.bl = _; rw [inData_enc hd]; rfl
theorem dIn_tup_enc [DecidableEq α] {a : α} {xs : List α} (hd : Dt.dep α ≤ 64) : dIn (enc a) (.tup (xs.map enc)) = some (.bl (decide (a ∈ xs))) := by
  show (inData _ _).map D.bl = _; rw [inData_enc hd]; rfl
theorem dNotIn_lst_enc [DecidableEq α] {a : α} {xs : List α} (hd : Dt.dep α ≤ 64) : dNotIn (enc a) (.lst (xs.map enc)) = some (.bl (decide (a ∉ xs))) := by
  show (inData _ _).map (fun b => D.bl !b) = _; rw [inData_enc hd]; simp
theorem dNotIn_tup_enc [DecidableEq α] {a : α} {xs : List α} (hd : Dt.dep α ≤ 64) : dNotIn (enc a) (.tup (xs.map enc)) = some (.bl (decide (a ∉ xs))) := by
  show (inData _ _).map (fun b => D.bl !b) = _; rw [inData_enc hd]; simp
/-- a list with nothing -/
theorem dEqv_lst_nil {xs : List α} : dEqv (.lst (xs.map enc)) (.lst []) = some (decide (xs = [])) := by
  have := dEqv_enc (α := Ls Int) (a := ⟨[]⟩) (b := ⟨[]⟩) (by decide)
  unfold dEqv
  rw [show toPD (.lst (xs.map enc)) = some (.list (xs.map Dt.pd)) by unfold toPD; rw [toPDs_encs]; rfl]
  show (if _ then some (PyData.eqv (.list _) (.list [])) else _) = _
  rw [if_pos (Nat.le_trans (Nat.min_le_right _ _) (by decide))]
  cases xs <;> simp [PyData.eqv, PyData.eqvAll]
theorem dEqv_tup_nil {xs : List α} : dEqv (.tup (xs.map enc)) (.tup []) = some (decide (xs = [])) := by
  unfold dEqv
  rw [show toPD (.tup (xs.map enc)) = some (.tuple (xs.map Dt.pd)) by unfold toPD; rw [toPDs_encs]; rfl]
  show (if _ then some (PyData.eqv (.tuple _) (.tuple [])) else _) = _
  rw [if_pos (Nat.le_trans (Nat.min_le_right _ _) (by decide))]
  cases xs <;> simp [PyData.eqv, PyData.eqvAll]
theorem dEq_lst_nil {xs : List α} : dEq (.lst (xs.map enc)) (.lst []) = some (.bl (decide (xs = []))) := by
  unfold dEq; rw [dEqv_lst_nil]; rfl
theorem dNe_lst_nil {xs : List α} : dNe (.lst (xs.map enc)) (.lst []) = some (.bl (decide (xs ≠ []))) := by
  unfold dNe; rw [dEqv_lst_nil]; simp
theorem dEq_tup_nil {xs : List α} : dEq (.tup (xs.map enc)) (.tup []) = some (.bl (decide (xs = []))) := by
  unfold dEq; rw [dEqv_tup_nil]; rfl
theorem dNe_tup_nil {xs : List α} : dNe (.tup (xs.map enc)) (.tup []) = some (.bl (decide (xs ≠ []))) := by
  unfold dNe; rw [dEqv_tup_nil]; simp
/-! ### order -/
/-- Python's order of data of a kind -/
def leK (a b : α) : Bool := leD (enc a) (enc b)
theorem leK_eq {a b : α} : leK a b = !PySem.W.dataLt (Dt.pd b) (Dt.pd a) := by
  unfold leK leD PySem.W.dataLe PySem.W.sortLe PySem.W.dataLt
  show (!PyProof.Rows.lexLt itemOrd (PySem.W.keyToks (encD (enc b))) (PySem.W.keyToks (encD (enc a)))) = _
  rw [encD_enc, encD_enc]
theorem toks_eq {x y : PyData} (h : PySem.W.alike x y = true) (e : PySem.W.keyToks x = PySem.W.keyToks y) : PyData.eqv x y = true := by
  cases q : PyData.eqv x y with
  | true => rfl
  | false =>
    have := (PySem.W.toks_eqv x y h).2 q [] [Sum.inl 0]
    rw [e, PySem.W.lex_pre] at this
    rw [show PyProof.Rows.lexLt itemOrd (PySem.W.keyToks y) (PySem.W.keyToks y) = false from PyProof.Rows.lex_irrefl _] at this
    exact absurd this (by decide)
theorem leK_anti {a b : α} (h1 : leK a b = true) (h2 : leK b a = true) : a = b := by
  rw [leK_eq] at h1 h2
  have := PyProof.Rows.lex_total (O := itemOrd) _ _ (by simpa [PySem.W.dataLt] using h2) (by simpa [PySem.W.dataLt] using h1)
  exact (Dt.heq a b).mp (toks_eq (Dt.hal a b) this)
theorem leK_refl {a : α} : leK a a = true := by
  rw [leK_eq]; unfold PySem.W.dataLt; rw [PyProof.Rows.lex_irrefl]; rfl
theorem leD_tot : PySem.W.TotalLe leD := PySem.W.sortLe_total (PyProof.Rows.listOrd itemOrd) false fun b => PySem.W.keyToks (encD b)
theorem leK_total {a b : α} : leK a b = true ∨ leK b a = true := by
  have := leD_tot.total (enc a) (enc b)
  simpa [leK] using this
theorem leK_trans {a b c : α} (h1 : leK a b = true) (h2 : leK b c = true) : leK a c = true := leD_tot.trans _ _ _ h1 h2
/-- a < b -/
def ltK (a b : α) : Bool := PySem.W.dataLt (Dt.pd a) (Dt.pd b)
theorem leK_not {a b : α} : leK a b = !ltK b a := leK_eq
theorem ltK_not {a b : α} : ltK a b = !leK b a := by rw [leK_not]; simp
theorem dLtv_enc {a b : α} (hd : Dt.dep α ≤ 64) : dLtv (enc a) (enc b) = some (ltK a b) := by
  unfold dLtv
  rw [Dt.hpd, Dt.hpd]
  show (if _ then _ else _) = _
  rw [if_pos ⟨Nat.le_trans (Nat.min_le_left _ _) (Nat.le_trans (Dt.hdep a) hd), Dt.hal a b, by have := Dt.hno a; cases e : Dt.pd a <;> first | rfl | exact absurd e this⟩]
  rfl
theorem dLtv'_enc {a b : α} (hd : Dt.dep α ≤ 64) : dLtv' (enc a) (enc b) = some (ltK b a) := by
  unfold dLtv'
  rw [Dt.hpd, Dt.hpd]
  show (if _ then _ else _) = _
  rw [if_pos ⟨Nat.le_trans (Nat.min_le_left _ _) (Nat.le_trans (Dt.hdep a) hd), Dt.hal a b, by have := Dt.hno a; cases e : Dt.pd a <;> first | rfl | exact absurd e this⟩]
  rfl
theorem dLt_enc {a b : α} (hd : Dt.dep α ≤ 64) : dLt (enc a) (enc b) = some (.bl (ltK a b)) := by unfold dLt; rw [dLtv_enc hd]; rfl
theorem dGt_enc {a b : α} (hd : Dt.dep α ≤ 64) : dGt (enc a) (enc b) = some (.bl (ltK b a)) := by unfold dGt; rw [dLtv'_enc hd]; rfl
theorem dGe_enc {a b : α} (hd : Dt.dep α ≤ 64) : dGe (enc a) (enc b) = some (.bl (leK b a)) := by unfold dGe; rw [dLtv_enc hd, leK_not]; rfl
theorem dLe_enc {a b : α} (hd : Dt.dep α ≤ 64) : dLe (enc a) (enc b) = some (.bl (leK a b)) := by unfold dLe; rw [dLtv'_enc hd, leK_not]; rfl
theorem ltK_int {a b : Int} : ltK a b = decide (a < b) := PySem.W.dataLt_int a b
theorem leK_int {a b : Int} : leK a b = decide (a ≤ b) := by
  rw [leK_not, ltK_int]
  by_cases h : b < a
  · simp [h]
  · simp [h]; omega
theorem ltK_str {a b : Str} : ltK a b = decide (a.cps.toList < b.cps.toList) := PySem.W.dataLt_str a b
theorem lt_all_cons {x y : α} {xs ys : List PyData} : PyProof.Rows.lexLt itemOrd (PySem.W.keyToksAll (Dt.pd x :: xs)) (PySem.W.keyToksAll (Dt.pd y :: ys)) = (ltK x y || (leK x y && PyProof.Rows.lexLt itemOrd (PySem.W.keyToksAll xs) (PySem.W.keyToksAll ys))) := by
  cases e : PyData.eqv (Dt.pd x) (Dt.pd y) with
  | true =>
    rw [PySem.W.dataLt_all_yes (Dt.hal x y) e]
    have h := (Dt.heq x y).mp e
    subst h
    rw [ltK_not, leK_refl]; rfl
  | false =>
    rw [PySem.W.dataLt_all_no (Dt.hal x y) e]
    have ne : ¬ x = y := fun h => by rw [(Dt.heq x y).mpr h] at e; cases e
    show ltK x y = _
    cases q : ltK x y with
    | true => rfl
    | false =>
      rw [ltK_not] at q
      have h1 : leK y x = true := by simpa using q
      cases q2 : leK x y with
      | false => rfl
      | true => exact absurd (leK_anti q2 h1) ne
theorem ltK_pair {p q : α × β} : ltK p q = (ltK p.1 q.1 || (leK p.1 q.1 && ltK p.2 q.2)) := by
  show PySem.W.dataLt (.tuple [_, _]) (.tuple [_, _]) = _
  rw [PySem.W.dataLt_tuple, lt_all_cons, lt_all_cons]
  rw [show PyProof.Rows.lexLt itemOrd (PySem.W.keyToksAll []) (PySem.W.keyToksAll []) = false from PyProof.Rows.lex_irrefl _]
  simp
theorem ltK_nil {xs : List α} : ltK ([] : List α) xs = !xs.isEmpty := by
  show PySem.W.dataLt (.tuple []) (.tuple _) = _
  rw [PySem.W.dataLt_tuple]
  cases xs with
  | nil => exact PyProof.Rows.lex_irrefl _
  | cons x xs => rw [List.map_cons, PySem.W.toks_all_cons]; rfl
theorem ltK_cons_nil {x : α} {xs : List α} : ltK (x :: xs) [] = false := by
  show PySem.W.dataLt (.tuple _) (.tuple []) = _
  rw [PySem.W.dataLt_tuple, List.map_cons, PySem.W.toks_all_cons]; rfl
theorem ltK_cons {x y : α} {xs ys : List α} : ltK (x :: xs) (y :: ys) = (ltK x y || (leK x y && ltK xs ys)) := by
  show PySem.W.dataLt (.tuple _) (.tuple _) = _
  rw [PySem.W.dataLt_tuple, List.map_cons, List.map_cons, lt_all_cons]
  show _ = (_ || (_ && PySem.W.dataLt (.tuple _) (.tuple _)))
  rw [PySem.W.dataLt_tuple]
/-! ### sorted -/
theorem canSort_enc {xs : List α} (hd : Dt.dep α ≤ 64) (hl : xs.length ≤ lim) (hs : PySem.W.Sortable (xs.map Dt.pd)) : CanSort (xs.map enc) := by
  have e : (xs.map enc).map encD = xs.map Dt.pd := by
    rw [List.map_map]
    exact List.map_congr_left fun a _ => encD_enc
  refine ⟨⟨_, toPDs_encs xs⟩, ?_, ?_, ?_, by simpa using hl⟩
  · rw [e]
    intro d hd d' hd'
    obtain ⟨a, _, rfl⟩ := List.mem_map.mp hd
    obtain ⟨b, _, rfl⟩ := List.mem_map.mp hd'
    exact Dt.hal a b
  · rw [e]; exact hs
  · intro d h
    obtain ⟨a, _, rfl⟩ := List.mem_map.mp h
    rw [encD_enc]
    exact Nat.le_trans (Dt.hdep a) hd
theorem isSort_enc {xs : List α} {es : List D} (h : IsSort (xs.map enc) es) : ∃ ys : List α, es = ys.map enc ∧ ys.Perm xs ∧ ys.Pairwise fun a b => leK a b = true := by
  obtain ⟨p, s⟩ := h
  have key : ∀ {es fs : List D}, es.Perm fs → ∀ {xs : List α}, fs = xs.map enc → ∃ ys : List α, es = ys.map enc ∧ ys.Perm xs := by
    intro es fs p
    induction p with
    | nil => intro xs e; cases xs with
      | nil => exact ⟨[], rfl, .nil⟩
      | cons x xs => cases e
    | cons x p ih =>
      intro xs e
      cases xs with
      | nil => cases e
      | cons y xs =>
        rw [List.map_cons] at e
        cases e
        obtain ⟨ys, e, q⟩ := ih rfl
        exact ⟨y :: ys, by rw [e]; rfl, .cons _ q⟩
    | swap x y l =>
      intro xs e
      match xs, e with
      | a :: b :: xs, e =>
        rw [List.map_cons, List.map_cons] at e
        cases e
        exact ⟨b :: a :: xs, rfl, .swap _ _ _⟩
    | trans p q ih1 ih2 =>
      intro xs e
      obtain ⟨ys, e1, q1⟩ := ih2 e
      obtain ⟨zs, e2, q2⟩ := ih1 e1
      exact ⟨zs, e2, q2.trans q1⟩
  obtain ⟨ys, rfl, q⟩ := key p rfl
  exact ⟨ys, rfl, q, List.pairwise_map.mp s⟩
/-- sorted: the one list -/
def sortK (xs : List α) : List α := xs.mergeSort leK
theorem sortK_perm {xs : List α} : (sortK xs).Perm xs := List.mergeSort_perm _ _
theorem sortK_pairwise {xs : List α} : (sortK xs).Pairwise fun a b => leK a b = true := List.pairwise_mergeSort (le := leK) (fun a b c => leK_trans) (fun a b => by rcases leK_total (a := a) (b := b) with h | h <;> simp [h]) xs
theorem sortK_uniq {xs ys : List α} (p : ys.Perm xs) (s : ys.Pairwise fun a b => leK a b = true) : ys = sortK xs :=
  List.Perm.eq_of_pairwise (fun a b _ _ h1 h2 => leK_anti h1 h2) s sortK_pairwise (p.trans sortK_perm.symm)
theorem sortK_mem {xs : List α} {a : α} : a ∈ sortK xs ↔ a ∈ xs := sortK_perm.mem_iff
theorem sortK_length {xs : List α} : (sortK xs).length = xs.length := sortK_perm.length_eq
theorem sorted_enc {xs : List α} {Q : D → Prop} (hd : Dt.dep α ≤ 64) (hl : xs.length ≤ lim) (hs : PySem.W.Sortable (xs.map Dt.pd)) (q : Q (.lst ((sortK xs).map enc))) (t : D) (ht : t = .lst (xs.map enc) ∨ t = .tup (xs.map enc)) : rSorted [t] Q := by
  refine ⟨xs.map enc, ?_, canSort_enc hd hl hs, fun es he => ?_⟩
  · rcases ht with rfl | rfl
    · exact .inl rfl
    · exact .inr (.inl rfl)
  · obtain ⟨ys, rfl, p, s⟩ := isSort_enc he
    rw [sortK_uniq p s]; exact q
theorem sorted_dct {xs : List α} {vs : List D} {Q : D → Prop} (hd : Dt.dep α ≤ 64) (hl : xs.length ≤ lim) (hs : PySem.W.Sortable (xs.map Dt.pd)) (hk : (xs.map enc).all keyOk2 = true) (q : Q (.lst ((sortK xs).map enc))) : rSorted [.dct (xs.map enc) vs] Q := by
  refine ⟨xs.map enc, .inr (.inr ⟨vs, rfl, hk⟩), canSort_enc hd hl hs, fun es he => ?_⟩
  obtain ⟨ys, rfl, p, s⟩ := isSort_enc he
  rw [sortK_uniq p s]; exact q
theorem sortable_int {xs : List Int} : PySem.W.Sortable (xs.map Dt.pd) := .inr fun d hd => by
  obtain ⟨a, _, rfl⟩ := List.mem_map.mp hd
  exact ⟨fun h => (by cases h), fun xs h => (by cases h)⟩
theorem sortable_str {xs : List Str} : PySem.W.Sortable (xs.map Dt.pd) := .inr fun d hd => by
  obtain ⟨a, _, rfl⟩ := List.mem_map.mp hd
  exact ⟨fun h => (by cases h), fun xs h => (by cases h)⟩
theorem sortable_pair {xs : List (α × β)} : PySem.W.Sortable (xs.map Dt.pd) := .inl fun d hd => by
  obtain ⟨a, _, rfl⟩ := List.mem_map.mp hd
  exact ⟨_, _, rfl⟩
theorem sortable_t3 {xs : List (T3 α β γ)} : PySem.W.Sortable (xs.map Dt.pd) := .inl fun d hd => by
  obtain ⟨a, _, rfl⟩ := List.mem_map.mp hd
  exact ⟨_, _, rfl⟩
theorem sortable_tup {xs : List (List α)} (h : ∀ x ∈ xs, x ≠ []) : PySem.W.Sortable (xs.map Dt.pd) := .inl fun d hd => by
  obtain ⟨a, ha, rfl⟩ := List.mem_map.mp hd
  cases a with
  | nil => exact absurd rfl (h _ ha)
  | cons x xs => exact ⟨_, _, rfl⟩
end
/-- in rising order -/
theorem sortK_int_id {xs : List Int} (h : xs.Pairwise (· ≤ ·)) : sortK xs = xs :=
  (sortK_uniq (List.Perm.refl _) (h.imp fun h => by rw [leK_int]; exact decide_eq_true h)).symm
end Ev

/-! Pl2: the plain side: operators on values, dicts, loops. -/
namespace Ev
open PySem PySem.Spec L2
open PyProof.Rows hiding St
open Dt (enc)
instance : Dt Nat := ⟨fun n => .int n, fun n => .int n, 0, fun _ => rfl, fun _ => Nat.le_refl _, fun a b => by simp only [PyData.eqv, beq_iff_eq]; omega, fun _ _ => rfl, fun _ h => by cases h⟩
@[simp] theorem enc_nat {a : Nat} : enc a = D.int a := rfl
@[simp] theorem natCast_eq' {a b : Nat} : ((a : Int) = (b : Int)) ↔ a = b := Int.ofNat_inj
theorem ltK_nat {a b : Nat} : ltK a b = decide (a < b) := by
  show PySem.W.dataLt (.int _) (.int _) = _
  rw [PySem.W.dataLt_int]
  simp
theorem leK_nat {a b : Nat} : leK a b = decide (a ≤ b) := by
  rw [leK_not, ltK_nat]
  by_cases h : b < a
  · simp [h]
  · simp [h]; omega
theorem sortable_nat {xs : List Nat} : PySem.W.Sortable (xs.map Dt.pd) := .inr fun d hd => by
  obtain ⟨a, _, rfl⟩ := List.mem_map.mp hd
  exact ⟨fun h => (by cases h), fun xs h => (by cases h)⟩
theorem sortK_nat_id {xs : List Nat} (h : xs.Pairwise (· ≤ ·)) : sortK xs = xs :=
  (sortK_uniq (List.Perm.refl _) (h.imp fun h => by rw [leK_nat]; exact decide_eq_true h)).symm
@[simp] theorem ofString_inj {a b : String} : Str.ofString a = Str.ofString b ↔ a = b := by
  rw [Str.ofString_eq_toList, Str.ofString_eq_toList]
  constructor
  · intro h
    have h1 : a.toList.map Char.toNat = b.toList.map Char.toNat := by simpa using h
    have h2 : ∀ xs ys : List Char, xs.map Char.toNat = ys.map Char.toNat → xs = ys := fun xs => by
      induction xs with
      | nil => intro ys h; cases ys <;> simp at h; rfl
      | cons x xs ih =>
        intro ys h
        cases ys with
        | nil => simp at h
        | cons y ys =>
          simp only [List.map_cons, List.cons.injEq] at h
          rw [Char.toNat_inj.mp h.1, ih ys h.2]
    exact String.ext (h2 _ _ h1)
  · exact fun h => h ▸ rfl
section
variable {a b : Int} {x y : Str} {p q : Bool} {ds es : List D} {d e : D} {f : Str}
@[simp] theorem dEq_str : dEq (.str x) (.str y) = some (.bl (decide (x = y))) := dEq_enc (α := Str) (by decide)
@[simp] theorem dNe_str : dNe (.str x) (.str y) = some (.bl (decide (x ≠ y))) := dNe_enc (α := Str) (by decide)
@[simp] theorem dEq_bl : dEq (.bl p) (.bl q) = some (.bl (decide (p = q))) := dEq_enc (α := Bool) (by decide)
@[simp] theorem dNe_bl : dNe (.bl p) (.bl q) = some (.bl (decide (p ≠ q))) := dNe_enc (α := Bool) (by decide)
@[simp] theorem dEq_non : dEq .non .non = some (.bl true) := rfl
@[simp] theorem dNe_non : dNe .non .non = some (.bl false) := rfl
@[simp] theorem isD_int_int : isD .int (.int a) = some true := rfl
@[simp] theorem isD_int_bl : isD .int (.bl p) = some true := rfl
@[simp] theorem isD_int_non : isD .int .non = some false := rfl
@[simp] theorem isD_int_str : isD .int (.str x) = some false := rfl
@[simp] theorem isD_int_tup : isD .int (.tup ds) = some false := rfl
@[simp] theorem isD_int_lst : isD .int (.lst ds) = some false := rfl
@[simp] theorem isD_int_dct : isD .int (.dct ds es) = some false := rfl
@[simp] theorem isD_bool_int : isD .bool (.int a) = some false := rfl
@[simp] theorem isD_bool_bl : isD .bool (.bl p) = some true := rfl
@[simp] theorem isD_bool_non : isD .bool .non = some false := rfl
@[simp] theorem isD_bool_str : isD .bool (.str x) = some false := rfl
@[simp] theorem isD_bool_tup : isD .bool (.tup ds) = some false := rfl
@[simp] theorem isD_bool_lst : isD .bool (.lst ds) = some false := rfl
@[simp] theorem isD_bool_dct : isD .bool (.dct ds es) = some false := rfl
@[simp] theorem isD_str_int : isD .str (.int a) = some false := rfl
@[simp] theorem isD_str_bl : isD .str (.bl p) = some false := rfl
@[simp] theorem isD_str_non : isD .str .non = some false := rfl
@[simp] theorem isD_str_str : isD .str (.str x) = some true := rfl
@[simp] theorem isD_str_tup : isD .str (.tup ds) = some false := rfl
@[simp] theorem isD_str_lst : isD .str (.lst ds) = some false := rfl
@[simp] theorem isD_str_dct : isD .str (.dct ds es) = some false := rfl
@[simp] theorem isD_tuple_int : isD .tuple (.int a) = some false := rfl
@[simp] theorem isD_tuple_bl : isD .tuple (.bl p) = some false := rfl
@[simp] theorem isD_tuple_non : isD .tuple .non = some false := rfl
@[simp] theorem isD_tuple_str : isD .tuple (.str x) = some false := rfl
@[simp] theorem isD_tuple_tup : isD .tuple (.tup ds) = some true := rfl
@[simp] theorem isD_tuple_lst : isD .tuple (.lst ds) = some false := rfl
@[simp] theorem isD_tuple_dct : isD .tuple (.dct ds es) = some false := rfl
@[simp] theorem isD_list_int : isD .list (.int a) = some false := rfl
@[simp] theorem isD_list_bl : isD .list (.bl p) = some false := rfl
@[simp] theorem isD_list_non : isD .list .non = some false := rfl
@[simp] theorem isD_list_str : isD .list (.str x) = some false := rfl
@[simp] theorem isD_list_tup : isD .list (.tup ds) = some false := rfl
@[simp] theorem isD_list_lst : isD .list (.lst ds) = some true := rfl
@[simp] theorem isD_list_dct : isD .list (.dct ds es) = some false := rfl
@[simp] theorem isD_dict_int : isD .dict (.int a) = some false := rfl
@[simp] theorem isD_dict_bl : isD .dict (.bl p) = some false := rfl
@[simp] theorem isD_dict_non : isD .dict .non = some false := rfl
@[simp] theorem isD_dict_str : isD .dict (.str x) = some false := rfl
@[simp] theorem isD_dict_tup : isD .dict (.tup ds) = some false := rfl
@[simp] theorem isD_dict_lst : isD .dict (.lst ds) = some false := rfl
@[simp] theorem isD_dict_dct : isD .dict (.dct ds es) = some true := rfl
theorem isD2_of {k l : Cl} {d : D} {p q : Bool} (h1 : isD k d = some p) (h2 : isD l d = some q) : isD2 k l d = some (p || q) := by
  unfold isD2; rw [h1, h2]
@[simp] theorem isD2_int {k l : Cl} : isD2 k l (.int a) = match isD k (.int a), isD l (.int a) with
  | some a, some b => some (a || b)
  | _, _ => none := rfl
@[simp] theorem isD2_bl {k l : Cl} : isD2 k l (.bl p) = match isD k (.bl p), isD l (.bl p) with
  | some a, some b => some (a || b)
  | _, _ => none := rfl
@[simp] theorem isD2_non {k l : Cl} : isD2 k l .non = match isD k .non, isD l .non with
  | some a, some b => some (a || b)
  | _, _ => none := rfl
@[simp] theorem isD2_str {k l : Cl} : isD2 k l (.str x) = match isD k (.str x), isD l (.str x) with
  | some a, some b => some (a || b)
  | _, _ => none := rfl
@[simp] theorem isD2_tup {k l : Cl} : isD2 k l (.tup ds) = match isD k (.tup ds), isD l (.tup ds) with
  | some a, some b => some (a || b)
  | _, _ => none := rfl
@[simp] theorem isD2_lst {k l : Cl} : isD2 k l (.lst ds) = match isD k (.lst ds), isD l (.lst ds) with
  | some a, some b => some (a || b)
  | _, _ => none := rfl
@[simp] theorem bMax2_max : bMax2 [.int a, .int b] = some (.int (max a b)) := by rw [bMax2_int, Int.max_def]; congr 2; split <;> split <;> omega
@[simp] theorem bMin2_min : bMin2 [.int a, .int b] = some (.int (min a b)) := by rw [bMin2_int, Int.min_def]; congr 2; split <;> split <;> omega
@[simp high] theorem bMax2_nat {a b : Nat} : bMax2 [.int a, .int b] = some (.int ((max a b : Nat) : Int)) := by rw [bMax2_max]; congr 2; omega
@[simp high] theorem bMin2_nat {a b : Nat} : bMin2 [.int a, .int b] = some (.int ((min a b : Nat) : Int)) := by rw [bMin2_min]; congr 2; omega
@[simp] theorem bTuple_lst : bTuple [.lst ds] = some (.tup ds) := rfl
@[simp] theorem bTuple_tup : bTuple [.tup ds] = some (.tup ds) := rfl
@[simp] theorem bList_lst : bList [.lst ds] = some (.lst ds) := rfl
@[simp] theorem bList_tup : bList [.tup ds] = some (.lst ds) := rfl
theorem blsD_map {ns : List Bool} : blsD (ns.map .bl) = some ns := by
  induction ns with
  | nil => rfl
  | cons n ns ih => rw [List.map_cons]; unfold blsD; rw [ih]; rfl
theorem intsD_map {ns : List Int} : intsD (ns.map .int) = some ns := by
  induction ns with
  | nil => rfl
  | cons n ns ih => rw [List.map_cons]; unfold intsD; rw [ih]; rfl
@[simp] theorem bAll_bls {ns : List Bool} : bAll [.lst (ns.map .bl)] = some (.bl (ns.all id)) := by show (blsD _).map _ = _; rw [blsD_map]; rfl
@[simp] theorem bAny_bls {ns : List Bool} : bAny [.lst (ns.map .bl)] = some (.bl (ns.any id)) := by show (blsD _).map _ = _; rw [blsD_map]; rfl
@[simp] theorem bSum_ints {ns : List Int} : bSum [.lst (ns.map .int)] = some (.int ns.sum) := by show (intsD _).map _ = _; rw [intsD_map]; rfl
@[simp] theorem bAll_map {α : Type} {f : α → Bool} {xs : List α} : bAll [.lst (xs.map fun x => .bl (f x))] = some (.bl (xs.all f)) := by
  have := bAll_bls (ns := xs.map f)
  rw [List.map_map, List.all_map] at this
  exact this
@[simp] theorem bAny_map {α : Type} {f : α → Bool} {xs : List α} : bAny [.lst (xs.map fun x => .bl (f x))] = some (.bl (xs.any f)) := by
  have := bAny_bls (ns := xs.map f)
  rw [List.map_map, List.any_map] at this
  exact this
/-! sequences -/
theorem atI_lt {α : Type} {xs : List α} {i : Nat} (h : i < xs.length) : atI xs (i : Int) = some xs[i] := by
  unfold atI ixN
  rw [if_pos (by omega), if_pos (by omega)]
  simp [h]
@[simp] theorem atI_zero {α : Type} {x : α} {xs : List α} : atI (x :: xs) 0 = some x := by
  have := atI_lt (xs := x :: xs) (i := 0) (by simp)
  simpa using this
@[simp] theorem atI_one {α : Type} {x y : α} {xs : List α} : atI (x :: y :: xs) 1 = some y := by
  have := atI_lt (xs := x :: y :: xs) (i := 1) (by simp)
  simpa using this
@[simp] theorem atI_two {α : Type} {x y z : α} {xs : List α} : atI (x :: y :: z :: xs) 2 = some z := by
  have := atI_lt (xs := x :: y :: z :: xs) (i := 2) (by simp)
  simpa using this
@[simp] theorem atI_three {α : Type} {x y z u : α} {xs : List α} : atI (x :: y :: z :: u :: xs) 3 = some u := by
  have := atI_lt (xs := x :: y :: z :: u :: xs) (i := 3) (by simp)
  simpa using this
theorem atI_last {α : Type} {xs : List α} (h : xs ≠ []) : atI xs (-1) = some (xs.getLast h) := by
  have hl := List.length_pos_iff.mpr h
  unfold atI ixN
  rw [if_neg (by decide), if_pos (by omega)]
  rw [List.getLast_eq_getElem, show (-1 + (xs.length : Int)).toNat = xs.length - 1 by omega]
  exact List.getElem?_eq_getElem (by omega)
theorem atI_map {α β : Type} {f : α → β} {xs : List α} {i : Int} : atI (xs.map f) i = (atI xs i).map f := by
  unfold atI
  rw [List.length_map]
  cases ixN xs.length i <;> simp
@[simp] theorem rngD_nat {n : Nat} : rngD 0 (n : Int) = (List.range n).map enc := by
  unfold rngD
  simp [enc]
@[simp] theorem rngD_0 : rngD 0 0 = (List.range 0).map enc := rngD_nat (n := 0)
@[simp] theorem rngD_1 : rngD 0 1 = (List.range 1).map enc := rngD_nat (n := 1)
@[simp] theorem rngD_2 : rngD 0 2 = (List.range 2).map enc := rngD_nat (n := 2)
@[simp] theorem rngD_3 : rngD 0 3 = (List.range 3).map enc := rngD_nat (n := 3)
@[simp] theorem rngD_4 : rngD 0 4 = (List.range 4).map enc := rngD_nat (n := 4)
@[simp] theorem rngD_5 : rngD 0 5 = (List.range 5).map enc := rngD_nat (n := 5)
@[simp] theorem rngD_6 : rngD 0 6 = (List.range 6).map enc := rngD_nat (n := 6)
@[simp] theorem rngD_7 : rngD 0 7 = (List.range 7).map enc := rngD_nat (n := 7)
@[simp] theorem rngD_8 : rngD 0 8 = (List.range 8).map enc := rngD_nat (n := 8)
@[simp] theorem rngD_9 : rngD 0 9 = (List.range 9).map enc := rngD_nat (n := 9)
@[simp] theorem rngD_10 : rngD 0 10 = (List.range 10).map enc := rngD_nat (n := 10)
@[simp] theorem rngD_11 : rngD 0 11 = (List.range 11).map enc := rngD_nat (n := 11)
@[simp] theorem rngD_12 : rngD 0 12 = (List.range 12).map enc := rngD_nat (n := 12)
@[simp] theorem rngD_13 : rngD 0 13 = (List.range 13).map enc := rngD_nat (n := 13)
@[simp] theorem rngD_14 : rngD 0 14 = (List.range 14).map enc := rngD_nat (n := 14)
@[simp] theorem rngD_15 : rngD 0 15 = (List.range 15).map enc := rngD_nat (n := 15)
@[simp] theorem rngD_16 : rngD 0 16 = (List.range 16).map enc := rngD_nat (n := 16)
@[simp] theorem rngD_17 : rngD 0 17 = (List.range 17).map enc := rngD_nat (n := 17)
@[simp] theorem rngD_18 : rngD 0 18 = (List.range 18).map enc := rngD_nat (n := 18)
@[simp] theorem rngD_19 : rngD 0 19 = (List.range 19).map enc := rngD_nat (n := 19)
@[simp] theorem rngD_20 : rngD 0 20 = (List.range 20).map enc := rngD_nat (n := 20)
@[simp] theorem rngD_21 : rngD 0 21 = (List.range 21).map enc := rngD_nat (n := 21)
@[simp] theorem rngD_22 : rngD 0 22 = (List.range 22).map enc := rngD_nat (n := 22)
@[simp] theorem rngD_23 : rngD 0 23 = (List.range 23).map enc := rngD_nat (n := 23)
@[simp] theorem rngD_24 : rngD 0 24 = (List.range 24).map enc := rngD_nat (n := 24)
@[simp] theorem rngD_25 : rngD 0 25 = (List.range 25).map enc := rngD_nat (n := 25)
@[simp] theorem rngD_26 : rngD 0 26 = (List.range 26).map enc := rngD_nat (n := 26)
@[simp] theorem rngD_27 : rngD 0 27 = (List.range 27).map enc := rngD_nat (n := 27)
@[simp] theorem rngD_28 : rngD 0 28 = (List.range 28).map enc := rngD_nat (n := 28)
@[simp] theorem rngD_29 : rngD 0 29 = (List.range 29).map enc := rngD_nat (n := 29)
@[simp] theorem rngD_30 : rngD 0 30 = (List.range 30).map enc := rngD_nat (n := 30)
theorem rngD_int {n : Int} (h : 0 ≤ n) : rngD 0 n = (List.range n.toNat).map enc := by
  obtain ⟨k, rfl⟩ := Int.eq_ofNat_of_zero_le h
  exact rngD_nat
theorem enumFrom_map {α : Type} {f : α → D} : ∀ {xs : List α} {k : Nat}, enumFrom k (xs.map f) = (xs.zipIdx k).map fun p => .tup [.int (p.2 : Nat), f p.1]
  | [], k => rfl
  | x :: xs, k => by rw [List.map_cons, List.zipIdx_cons, List.map_cons]; unfold enumFrom; rw [enumFrom_map]
theorem zipD_map {α β : Type} {f : α → D} {g : β → D} : ∀ {xs : List α} {ys : List β}, zipD (xs.map f) (ys.map g) = (xs.zip ys).map fun p => .tup [f p.1, g p.2]
  | [], ys => by cases ys <;> rfl
  | x :: xs, [] => rfl
  | x :: xs, y :: ys => by
    show zipD (f x :: xs.map f) (g y :: ys.map g) = _
    unfold zipD
    rw [zipD_map]; rfl
theorem zipD_nil : zipD [] ds = [] := by cases ds <;> rfl
theorem zipD_cons : zipD (d :: ds) (e :: es) = .tup [d, e] :: zipD ds es := rfl
theorem zipD3_cons {c : D} {cs : List D} : zipD3 (d :: ds) (e :: es) (c :: cs) = .tup [d, e, c] :: zipD3 ds es cs := rfl
@[simp] theorem zipD3_nil : zipD3 [] [] [] = [] := rfl
end
/-! dicts -/
/-- a kind of data that can be keys -/
class Ky (α : Type) [Dt α] where
  key : α → DKey
  hkey : ∀ a : α, dkOf (enc a) = some (key a)
  inj : ∀ a b : α, key a = key b → a = b
  kind : ∀ a b : α, kindK (enc a) (enc b) = true
instance : Ky Int := ⟨fun a => .one (.inl a), fun _ => rfl, fun a b h => by cases h; rfl, fun _ _ => rfl⟩
instance : Ky Nat := ⟨fun a => .one (.inl a), fun _ => rfl, fun a b h => by simp at h; omega, fun _ _ => rfl⟩
instance : Ky Str := ⟨fun a => .one (.inr a), fun _ => rfl, fun a b h => by cases h; rfl, fun _ _ => rfl⟩
theorem keysOf_ints {xs : List Int} : keysOf (xs.map .int) = some (xs.map .inl) := by
  induction xs with
  | nil => rfl
  | cons x xs ih => rw [List.map_cons]; unfold keysOf; rw [ih]; rfl
theorem keysOf_nats {xs : List Nat} : keysOf (xs.map enc) = some (xs.map fun n : Nat => .inl (n : Int)) := by
  induction xs with
  | nil => rfl
  | cons x xs ih => rw [List.map_cons]; unfold keysOf; rw [ih]; rfl
theorem keysOf_strs {xs : List Str} : keysOf (xs.map .str) = some (xs.map .inr) := by
  induction xs with
  | nil => rfl
  | cons x xs ih => rw [List.map_cons]; unfold keysOf; rw [ih]; rfl
theorem map_inj' {α β : Type} {f : α → β} (hf : ∀ a b, f a = f b → a = b) : ∀ {xs ys : List α}, xs.map f = ys.map f → xs = ys
  | [], [], _ => rfl
  | [], _ :: _, h => by cases h
  | _ :: _, [], h => by cases h
  | x :: xs, y :: ys, h => by
    rw [List.map_cons, List.map_cons] at h
    have h1 := (List.cons.inj h).1
    have h2 := (List.cons.inj h).2
    rw [hf _ _ h1, map_inj' hf h2]
theorem dk_ints {xs : List Int} : dkOf (enc xs) = some (.tup (xs.map .inl)) := by show (keysOf (xs.map D.int)).map DKey.tup = _; rw [keysOf_ints]; rfl
theorem dk_nats {xs : List Nat} : dkOf (enc xs) = some (.tup (xs.map fun n : Nat => .inl (n : Int))) := by show (keysOf (xs.map enc)).map DKey.tup = _; rw [keysOf_nats]; rfl
theorem dk_strs {xs : List Str} : dkOf (enc xs) = some (.tup (xs.map .inr)) := by show (keysOf (xs.map D.str)).map DKey.tup = _; rw [keysOf_strs]; rfl
theorem kindK_of {x y : D} {k l : List Key} (h1 : dkOf x = some (.tup k)) (h2 : dkOf y = some (.tup l)) : kindK x y = true := by unfold kindK; rw [h1, h2]
instance : Ky (List Int) := ⟨fun xs => .tup (xs.map .inl), fun xs => dk_ints, fun a b h => map_inj' (fun _ _ h => by cases h; rfl) (DKey.tup.inj h), fun a b => kindK_of dk_ints dk_ints⟩
instance : Ky (List Nat) := ⟨fun xs => .tup (xs.map fun n : Nat => .inl (n : Int)), fun xs => dk_nats, fun a b h => map_inj' (fun _ _ h => by have := Sum.inl.inj h; omega) (DKey.tup.inj h), fun a b => kindK_of dk_nats dk_nats⟩
instance : Ky (List Str) := ⟨fun xs => .tup (xs.map .inr), fun xs => dk_strs, fun a b h => map_inj' (fun _ _ h => by cases h; rfl) (DKey.tup.inj h), fun a b => kindK_of dk_strs dk_strs⟩
instance : Ky (Int × Int) := ⟨fun p => .tup [.inl p.1, .inl p.2], fun _ => rfl, fun a b h => by simp at h; exact Prod.ext (by omega) (by omega), fun a b => rfl⟩
instance : Ky (Nat × Nat) := ⟨fun p => .tup [.inl p.1, .inl p.2], fun _ => rfl, fun a b h => by simp at h; exact Prod.ext (by omega) (by omega), fun a b => rfl⟩
section
variable {α : Type} [Dt α] [Ky α]
theorem dk_eq [DecidableEq α] {a b : α} : decide (dkOf (enc a) = dkOf (enc b)) = decide (a = b) := by
  rw [Ky.hkey, Ky.hkey]
  by_cases h : a = b
  · subst h; simp
  · rw [decide_eq_false h, decide_eq_false]
    intro z
    exact h (Ky.inj _ _ (Option.some.inj z))
theorem hasK_enc [DecidableEq α] {xs : List α} {a : α} : hasK (xs.map enc) (enc a) = decide (a ∈ xs) := by
  unfold hasK
  induction xs with
  | nil => rfl
  | cons x xs ih =>
    rw [List.map_cons, List.any_cons, ih, dk_eq]
    by_cases h : x = a
    · simp [h]
    · have h' : ¬ a = x := fun z => h z.symm
      simp [h, h']
theorem askK_enc {xs : List α} {a : α} : askK (xs.map enc) (enc a) = true := by
  unfold askK
  rw [Ky.hkey, Bool.and_eq_true]
  refine ⟨rfl, List.all_eq_true.mpr fun k hk => ?_⟩
  obtain ⟨b, _, rfl⟩ := List.mem_map.mp hk
  exact Ky.kind b a
theorem putKs_enc [DecidableEq α] {xs : List α} {a : α} : putKs (xs.map enc) (enc a) = (if a ∈ xs then xs else xs ++ [a]).map enc := by
  unfold putKs
  rw [hasK_enc]
  by_cases h : a ∈ xs <;> simp [h]
theorem keyOk2_nat {a : Nat} : keyOk2 (enc a) = true := rfl
theorem keyOk2_int {a : Int} : keyOk2 (enc a) = true := rfl
theorem keyOk2_nn {a : Nat × Nat} : keyOk2 (enc a) = true := rfl
theorem keyOk2_ii {a : Int × Int} : keyOk2 (enc a) = true := rfl
theorem all_enc {xs : List α} {p : D → Bool} (h : ∀ a : α, p (enc a) = true) : (xs.map enc).all p = true := List.all_eq_true.mpr fun d hd => by
  obtain ⟨a, _, rfl⟩ := List.mem_map.mp hd
  exact h a
end
theorem filterMap_cg {α β : Type} {f g : α → Option β} : ∀ {xs : List α}, (∀ x ∈ xs, f x = g x) → xs.filterMap f = xs.filterMap g
  | [], _ => rfl
  | x :: xs, h => by
    rw [List.filterMap_cons, List.filterMap_cons, h x List.mem_cons_self, filterMap_cg fun y hy => h y (List.mem_cons_of_mem _ hy)]
theorem paired_right {α β : Type} {R : α → β → Prop} {xs : List α} {ys : List β} (h : Paired R xs ys) : ∀ y ∈ ys, ∃ x ∈ xs, R x y := by
  induction h with
  | nil => intro y hy; cases hy
  | cons h t ih =>
    intro y hy
    rcases List.mem_cons.mp hy with rfl | hy
    · exact ⟨_, List.mem_cons_self, h⟩
    · obtain ⟨x, hx, r⟩ := ih y hy
      exact ⟨x, List.mem_cons_of_mem _ hx, r⟩
theorem flatMap_len {α β : Type} {f : α → List β} (k : Nat) : ∀ {xs : List α}, (∀ x ∈ xs, (f x).length ≤ k) → (xs.flatMap f).length ≤ xs.length * k
  | [], _ => by simp
  | x :: xs, h => by
    rw [List.flatMap_cons, List.length_append, List.length_cons, Nat.succ_mul]
    have h1 := h x List.mem_cons_self
    have h2 := flatMap_len k fun y hy => h y (List.mem_cons_of_mem _ hy)
    omega
/-! loops -/
section
variable [Tbl]
variable {α β : Type} {vs : List Nat} {mg : MG} {mt : MT} {me : ME} {ms : MS} {ρ : EnvD} {nx bk ct : EnvD → Prop} {rt : D → Prop} {ex : Exc → Prop}
/-- a comprehension: what each item gives -/
theorem lcE_eq (e : α → D) (e' : β → D) (f : α → Option β) {xs : List α} {acc : List D} {Q : List D → Prop}
    (h : ∀ x ∈ xs, ∀ C : Option D → Prop, (mg (e x) (wipeE ρ vs) fun ρ1 => mt ρ1 (fun b => if b = true then me ρ1 (fun y => C (some y)) (fun _ => False) else C none) (fun _ => False)) = C ((f x).map e')) :
    lcE vs mg mt me (xs.map e) ρ acc Q = Q (acc ++ (xs.filterMap f).map e') := by
  induction xs generalizing acc with
  | nil => simp [lcE]
  | cons x xs ih =>
    have h0 := h x List.mem_cons_self (fun o => match o with
      | some y => lcE vs mg mt me (xs.map e) ρ (acc ++ [y]) Q
      | none => lcE vs mg mt me (xs.map e) ρ acc Q)
    rw [List.map_cons]
    unfold lcE
    refine h0.trans ?_
    have ih := fun acc => @ih acc fun x hx => h x (List.mem_cons_of_mem _ hx)
    cases q : f x with
    | none =>
      simp only [Option.map_none]
      rw [ih, List.filterMap_cons, q]
    | some y =>
      simp only [Option.map_some]
      rw [ih, List.filterMap_cons, q]
      simp
theorem lcE_mapE (e : α → D) (e' : β → D) (f : α → β) {xs : List α} {acc : List D} {Q : List D → Prop}
    (h : ∀ x ∈ xs, ∀ C : Option D → Prop, (mg (e x) (wipeE ρ vs) fun ρ1 => mt ρ1 (fun b => if b = true then me ρ1 (fun y => C (some y)) (fun _ => False) else C none) (fun _ => False)) = C (some (e' (f x)))) :
    lcE vs mg mt me (xs.map e) ρ acc Q = Q (acc ++ (xs.map f).map e') := by
  rw [lcE_eq e e' (fun x => some (f x)) h, List.filterMap_eq_map']
theorem lcE_filE (e : α → D) (e' : β → D) (p : α → Bool) (f : α → β) {xs : List α} {acc : List D} {Q : List D → Prop}
    (h : ∀ x ∈ xs, ∀ C : Option D → Prop, (mg (e x) (wipeE ρ vs) fun ρ1 => mt ρ1 (fun b => if b = true then me ρ1 (fun y => C (some y)) (fun _ => False) else C none) (fun _ => False)) = if p x = true then C (some (e' (f x))) else C none) :
    lcE vs mg mt me (xs.map e) ρ acc Q = Q (acc ++ ((xs.filter p).map f).map e') := by
  rw [lcE_eq e e' (fun x => if p x = true then some (f x) else none) (fun x hx C => (h x hx C).trans (by cases p x <;> simp))]
  congr 3
  induction xs with
  | nil => rfl
  | cons x xs ih =>
    have ih := ih fun y hy => h y (List.mem_cons_of_mem _ hy)
    rw [List.filterMap_cons, List.filter_cons]
    cases p x <;> simp [ih]
theorem lc2E_eq {vs1 : List Nat} {mi1 : MI} {mg1 : MG} {mt1 : MT} (e : α → D) (e' : β → D) (f : α → List β) {xs : List α} {acc : List D} {Q : List D → Prop}
    (h : ∀ x ∈ xs, ∀ (acc : List D) (C : List D → Prop), (mg (e x) (wipeE ρ vs) fun ρ1 => mt ρ1 (fun b => if b = true then mi1 ρ1 (fun es => es.length ≤ 4096 ∧ lcE vs1 mg1 mt1 me es ρ1 acc C) (fun _ => False) else C acc) (fun _ => False)) = C (acc ++ (f x).map e')) :
    lc2E vs vs1 mg mt mi1 mg1 mt1 me (xs.map e) ρ acc Q = Q (acc ++ (xs.flatMap f).map e') := by
  induction xs generalizing acc with
  | nil => simp [lc2E]
  | cons x xs ih =>
    have ih := fun acc => @ih acc fun x hx => h x (List.mem_cons_of_mem _ hx)
    rw [List.map_cons]
    unfold lc2E
    refine (h x List.mem_cons_self acc fun acc' => lc2E vs vs1 mg mt mi1 mg1 mt1 me (xs.map e) ρ acc' Q).trans ?_
    rw [ih, List.flatMap_cons, List.map_append, List.append_assoc]
theorem lcE_I (e : α → D) (e' : β → D) (f : α → Option β) {xs : List α} {acc : List D} {Q : List D → Prop}
    (h : ∀ x ∈ xs, ∀ C : Option D → Prop, C ((f x).map e') → (mg (e x) (wipeE ρ vs) fun ρ1 => mt ρ1 (fun b => if b = true then me ρ1 (fun y => C (some y)) (fun _ => False) else C none) (fun _ => False)))
    (q : Q (acc ++ (xs.filterMap f).map e')) : lcE vs mg mt me (xs.map e) ρ acc Q := by
  induction xs generalizing acc with
  | nil => simpa [lcE] using q
  | cons x xs ih =>
    rw [List.map_cons]
    unfold lcE
    refine h x List.mem_cons_self (fun o => match o with
      | some y => lcE vs mg mt me (xs.map e) ρ (acc ++ [y]) Q
      | none => lcE vs mg mt me (xs.map e) ρ acc Q) ?_
    have ih := fun acc => @ih acc fun x hx => h x (List.mem_cons_of_mem _ hx)
    rw [List.filterMap_cons] at q
    cases e1 : f x with
    | none => rw [e1] at q; exact ih _ q
    | some y => rw [e1] at q; exact ih _ (by simpa using q)
theorem lcE_filI (e : α → D) (e' : β → D) (p : α → Bool) (f : α → β) {xs : List α} {acc : List D} {Q : List D → Prop}
    (h : ∀ x ∈ xs, ∀ C : Option D → Prop, (if p x = true then C (some (e' (f x))) else C none) → (mg (e x) (wipeE ρ vs) fun ρ1 => mt ρ1 (fun b => if b = true then me ρ1 (fun y => C (some y)) (fun _ => False) else C none) (fun _ => False)))
    (q : Q (acc ++ ((xs.filter p).map f).map e')) : lcE vs mg mt me (xs.map e) ρ acc Q := by
  refine lcE_I e e' (fun x => if p x = true then some (f x) else none) (fun x hx C hC => h x hx C (by cases e1 : p x <;> simpa [e1] using hC)) ?_
  have e2 : xs.filterMap (fun x => if p x = true then some (f x) else none) = (xs.filter p).map f := by
    clear h q
    induction xs with
    | nil => rfl
    | cons x xs ih => rw [List.filterMap_cons, List.filter_cons]; cases p x <;> simp [ih]
  rw [e2]; exact q
theorem lcE_mapI (e : α → D) (e' : β → D) (f : α → β) {xs : List α} {acc : List D} {Q : List D → Prop}
    (h : ∀ x ∈ xs, ∀ C : Option D → Prop, C (some (e' (f x))) → (mg (e x) (wipeE ρ vs) fun ρ1 => mt ρ1 (fun b => if b = true then me ρ1 (fun y => C (some y)) (fun _ => False) else C none) (fun _ => False)))
    (q : Q (acc ++ (xs.map f).map e')) : lcE vs mg mt me (xs.map e) ρ acc Q :=
  lcE_I e e' (fun x => some (f x)) h (by rw [List.filterMap_eq_map']; exact q)
theorem lc2E_I {vs1 : List Nat} {mi1 : MI} {mg1 : MG} {mt1 : MT} (e : α → D) (e' : β → D) (f : α → List β) {xs : List α} {acc : List D} {Q : List D → Prop}
    (h : ∀ x ∈ xs, ∀ (acc : List D) (C : List D → Prop), C (acc ++ (f x).map e') → (mg (e x) (wipeE ρ vs) fun ρ1 => mt ρ1 (fun b => if b = true then mi1 ρ1 (fun es => es.length ≤ 4096 ∧ lcE vs1 mg1 mt1 me es ρ1 acc C) (fun _ => False) else C acc) (fun _ => False)))
    (q : Q (acc ++ (xs.flatMap f).map e')) : lc2E vs vs1 mg mt mi1 mg1 mt1 me (xs.map e) ρ acc Q := by
  induction xs generalizing acc with
  | nil => simpa [lc2E] using q
  | cons x xs ih =>
    have ih := fun acc => @ih acc fun x hx => h x (List.mem_cons_of_mem _ hx)
    rw [List.map_cons]
    unfold lc2E
    refine h x List.mem_cons_self acc (fun acc' => lc2E vs vs1 mg mt mi1 mg1 mt1 me (xs.map e) ρ acc' Q) (ih _ ?_)
    rw [List.flatMap_cons, List.map_append, ← List.append_assoc] at q
    exact q
/-- for: an invariant over what is done -/
theorem forE_pre {g : MG} (e : α → D) {I : List α → EnvD → Prop} {xs : List α}
    (h : ∀ pre x post, xs = pre ++ x :: post → ∀ ρ, I pre ρ → ∀ n : EnvD → Prop, (∀ ρ', I (pre ++ [x]) ρ' → n ρ') → g (e x) ρ fun ρ1 => ms ρ1 ⟨n, rt, nx, n, ex⟩)
    (h0 : I [] ρ) (hk : ∀ ρ', I xs ρ' → nx ρ') : forE g ms (xs.map e) ρ ⟨nx, rt, bk, ct, ex⟩ := by
  suffices H : ∀ (post pre : List α) (ρ : EnvD), xs = pre ++ post → I pre ρ → forE g ms (post.map e) ρ ⟨nx, rt, bk, ct, ex⟩ from H xs [] ρ rfl h0
  intro post
  induction post with
  | nil =>
    intro pre ρ e1 hI
    rw [List.append_nil] at e1
    subst e1
    exact hk ρ hI
  | cons x post ih =>
    intro pre ρ e1 hI
    rw [List.map_cons, forE_cons]
    exact h pre x post e1 ρ hI _ fun ρ' hI' => ih (pre ++ [x]) ρ' (by rw [e1, List.append_assoc]; rfl) hI'
/-- for: nothing is carried on -/
theorem forE_each {g : MG} (e : α → D) {I : EnvD → Prop} {xs : List α}
    (h : ∀ x ∈ xs, ∀ ρ, I ρ → ∀ n : EnvD → Prop, (∀ ρ', I ρ' → n ρ') → g (e x) ρ fun ρ1 => ms ρ1 ⟨n, rt, nx, n, ex⟩)
    (h0 : I ρ) (hk : ∀ ρ', I ρ' → nx ρ') : forE g ms (xs.map e) ρ ⟨nx, rt, bk, ct, ex⟩ :=
  forE_pre (I := fun _ => I) e (fun pre x post e1 ρ hI n hn => h x (by rw [e1]; simp) ρ hI n hn) h0 hk
/-- a comprehension of drawn things -/
theorem lcE_anyT (e : α → D) (e' : β → D) (R : α → β → Prop) : ∀ {xs : List α} {acc : List D} {Q : List D → Prop},
    (∀ x ∈ xs, ∀ C : Option D → Prop, (∀ y : β, R x y → C (some (e' y))) → mg (e x) (wipeE ρ vs) fun ρ1 => mt ρ1 (fun b => if b = true then me ρ1 (fun y => C (some y)) (fun _ => False) else C none) (fun _ => False)) →
    (∀ ys : List β, Paired R xs ys → Q (acc ++ ys.map e')) → lcE vs mg mt me (xs.map e) ρ acc Q
  | [], acc, Q, _, q => by
    have := q [] .nil
    simpa [lcE] using this
  | x :: xs, acc, Q, h, q => by
    rw [List.map_cons]
    unfold lcE
    refine h x List.mem_cons_self (fun o => match o with
      | some y => lcE vs mg mt me (xs.map e) ρ (acc ++ [y]) Q
      | none => lcE vs mg mt me (xs.map e) ρ acc Q) fun y hy => ?_
    refine lcE_anyT e e' R (fun x' hx => h x' (List.mem_cons_of_mem _ hx)) fun ys hys => ?_
    have := q (y :: ys) (.cons hy hys)
    simpa using this
/-- for over trees: nothing is carried on -/
theorem forE_eachD {g : MG} {I : EnvD → Prop} {ds : List D}
    (h : ∀ d ∈ ds, ∀ ρ, I ρ → ∀ n : EnvD → Prop, (∀ ρ', I ρ' → n ρ') → g d ρ fun ρ1 => ms ρ1 ⟨n, rt, nx, n, ex⟩)
    (h0 : I ρ) (hk : ∀ ρ', I ρ' → nx ρ') : forE g ms ds ρ ⟨nx, rt, bk, ct, ex⟩ := by
  have := forE_each (rt := rt) (nx := nx) (bk := bk) (ct := ct) (ex := ex) (ms := ms) (g := g) id (I := I) (xs := ds) h h0 hk
  rwa [List.map_id] at this
/-- while: a measure -/
theorem while_go {I : Nat → EnvD → Prop}
    (h : ∀ n ρ, I n ρ → ∀ W : EnvD → Prop, (∀ m ρ', m < n → I m ρ' → W ρ') → mt ρ (fun t => if t = true then ms ρ ⟨W, rt, nx, W, ex⟩ else nx ρ) ex)
    {n : Nat} (h0 : I n ρ) : ∃ k, whileN mt ms k ρ ⟨nx, rt, bk, ct, ex⟩ := by
  suffices H : ∀ (k n : Nat) (ρ : EnvD), n ≤ k → I n ρ → whileN mt ms (k + 1) ρ ⟨nx, rt, bk, ct, ex⟩ from ⟨_, H n n ρ (Nat.le_refl _) h0⟩
  intro k
  induction k with
  | zero =>
    intro n ρ hn hI
    rw [whileN_succ]
    exact h n ρ hI _ fun m ρ' hm _ => by omega
  | succ k ih =>
    intro n ρ hn hI
    rw [whileN_succ]
    exact h n ρ hI _ fun m ρ' hm hI' => ih m ρ' (by omega) hI'
end
end Ev

/-! Pl3: the plain side: trees that are data, their sizes; comparisons of them. -/
namespace Ev
open PySem PySem.Spec L2
open PyProof.Rows hiding St
open Dt (enc)
mutual
def datD : D → Bool
  | .non | .bl _ | .int _ | .str _ => true
  | .tup ds => datDs ds
  | .lst ds => datDs ds
  | _ => false
def datDs : List D → Bool
  | [] => true
  | d :: ds => datD d && datDs ds
end
mutual
def szD : D → Nat
  | .tup ds => szDs ds + 1
  | .lst ds => szDs ds + 1
  | _ => 1
def szDs : List D → Nat
  | [] => 0
  | d :: ds => szD d + szDs ds
end
@[simp] theorem datD_non : datD .non = true := rfl
@[simp] theorem datD_bl {b : Bool} : datD (.bl b) = true := rfl
@[simp] theorem datD_int {b : Int} : datD (.int b) = true := rfl
@[simp] theorem datD_str {b : Str} : datD (.str b) = true := rfl
@[simp] theorem datD_tup {ds : List D} : datD (.tup ds) = datDs ds := by rw [datD]
@[simp] theorem datD_lst {ds : List D} : datD (.lst ds) = datDs ds := by rw [datD]
@[simp] theorem datDs_nil : datDs [] = true := rfl
@[simp] theorem datDs_cons {d : D} {ds : List D} : datDs (d :: ds) = (datD d && datDs ds) := by rw [datDs]
@[simp] theorem szD_non : szD .non = 1 := rfl
@[simp] theorem szD_bl {b : Bool} : szD (.bl b) = 1 := rfl
@[simp] theorem szD_int {b : Int} : szD (.int b) = 1 := rfl
@[simp] theorem szD_str {b : Str} : szD (.str b) = 1 := rfl
@[simp] theorem szD_tup {ds : List D} : szD (.tup ds) = szDs ds + 1 := by rw [szD]
@[simp] theorem szD_lst {ds : List D} : szD (.lst ds) = szDs ds + 1 := by rw [szD]
@[simp] theorem szDs_nil : szDs [] = 0 := rfl
@[simp] theorem szDs_cons {d : D} {ds : List D} : szDs (d :: ds) = szD d + szDs ds := by rw [szDs]
theorem datDs_all : ∀ {ds : List D}, datDs ds = true ↔ ∀ d ∈ ds, datD d = true
  | [] => by simp
  | d :: ds => by simp [datDs_all (ds := ds)]
theorem datDs_map {α : Type} {f : α → D} {xs : List α} (h : ∀ x ∈ xs, datD (f x) = true) : datDs (xs.map f) = true := datDs_all.mpr fun d hd => by
  obtain ⟨x, hx, rfl⟩ := List.mem_map.mp hd
  exact h x hx
theorem szDs_map {α : Type} {f : α → D} (k : Nat) : ∀ {xs : List α}, (∀ x ∈ xs, szD (f x) ≤ k) → szDs (xs.map f) ≤ xs.length * k
  | [], _ => by simp
  | x :: xs, h => by
    rw [List.map_cons, szDs_cons, List.length_cons, Nat.succ_mul]
    have h1 := h x List.mem_cons_self
    have h2 := szDs_map k fun y hy => h y (List.mem_cons_of_mem _ hy)
    omega
theorem szDs_app : ∀ {xs ys : List D}, szDs (xs ++ ys) = szDs xs + szDs ys
  | [], ys => by simp
  | x :: xs, ys => by rw [List.cons_append, szDs_cons, szDs_cons, szDs_app]; omega
theorem datDs_app {xs ys : List D} : datDs (xs ++ ys) = (datDs xs && datDs ys) := by
  rw [Bool.eq_iff_iff, Bool.and_eq_true, datDs_all, datDs_all, datDs_all]
  simp only [List.mem_append]
  exact ⟨fun h => ⟨fun d hd => h d (.inl hd), fun d hd => h d (.inr hd)⟩, fun h d hd => hd.elim (h.1 d) (h.2 d)⟩
theorem szD_pos : ∀ (d : D), 1 ≤ szD d
  | .non | .bl _ | .int _ | .str _ | .bag | .fn _ | .ty _ | .dct _ _ => Nat.le_refl _
  | .tup _ => by simp
  | .lst _ => by simp
theorem szDs_len : ∀ {ds : List D}, ds.length ≤ szDs ds
  | [] => by simp
  | d :: ds => by
    have := szD_pos d
    have := szDs_len (ds := ds)
    simp; omega
theorem zip_self {α : Type} : ∀ (xs : List α), xs.zip xs = xs.map fun x => (x, x)
  | [] => rfl
  | x :: xs => by simp [zip_self xs]
theorem zipD_self {xs : List D} : zipD xs xs = xs.map fun x => .tup [x, x] := by
  have := zipD_map (f := id) (g := id) (xs := xs) (ys := xs)
  rw [List.map_id, zip_self, List.map_map] at this
  exact this
mutual
theorem toPD_dat : ∀ {d : D}, datD d = true → ∃ p, toPD d = some p
  | .non, _ | .bl _, _ | .int _, _ | .str _, _ => ⟨_, rfl⟩
  | .tup ds, h => by
    rw [datD_tup] at h
    obtain ⟨p, e, _⟩ := toPDs_dat h
    exact ⟨.tuple p, by unfold toPD; rw [e]; rfl⟩
  | .lst ds, h => by
    rw [datD_lst] at h
    obtain ⟨p, e, _⟩ := toPDs_dat h
    exact ⟨.list p, by unfold toPD; rw [e]; rfl⟩
theorem toPDs_dat : ∀ {ds : List D}, datDs ds = true → ∃ ps, toPDs ds = some ps ∧ ps.length = ds.length
  | [], _ => ⟨[], rfl, rfl⟩
  | d :: ds, h => by
    rw [datDs_cons, Bool.and_eq_true] at h
    obtain ⟨p, e⟩ := toPD_dat h.1
    obtain ⟨ps, e2, l⟩ := toPDs_dat h.2
    exact ⟨p :: ps, by unfold toPDs; rw [e, e2], by simp [l]⟩
end
theorem dEqv_nil {ds : List D} (h : datDs ds = true) : dEqv (.lst ds) (.lst []) = some ds.isEmpty ∧ dEqv (.tup ds) (.tup []) = some ds.isEmpty := by
  obtain ⟨ps, e, l⟩ := toPDs_dat h
  constructor
  · unfold dEqv
    rw [show toPD (.lst ds) = some (.list ps) by unfold toPD; rw [e]; rfl]
    show (if _ then some (PyData.eqv (.list _) (.list [])) else _) = _
    rw [if_pos (Nat.le_trans (Nat.min_le_right _ _) (by decide))]
    cases ds <;> cases ps <;> simp [PyData.eqv, PyData.eqvAll] at l ⊢
  · unfold dEqv
    rw [show toPD (.tup ds) = some (.tuple ps) by unfold toPD; rw [e]; rfl]
    show (if _ then some (PyData.eqv (.tuple _) (.tuple [])) else _) = _
    rw [if_pos (Nat.le_trans (Nat.min_le_right _ _) (by decide))]
    cases ds <;> cases ps <;> simp [PyData.eqv, PyData.eqvAll] at l ⊢
@[simp] theorem dEq_lnil {ds : List D} (h : datDs ds = true) : dEq (.lst ds) (.lst []) = some (.bl ds.isEmpty) := by unfold dEq; rw [(dEqv_nil h).1]; rfl
@[simp] theorem dNe_lnil {ds : List D} (h : datDs ds = true) : dNe (.lst ds) (.lst []) = some (.bl (!ds.isEmpty)) := by unfold dNe; rw [(dEqv_nil h).1]; rfl
@[simp] theorem dEq_tnil {ds : List D} (h : datDs ds = true) : dEq (.tup ds) (.tup []) = some (.bl ds.isEmpty) := by unfold dEq; rw [(dEqv_nil h).2]; rfl
@[simp] theorem dNe_tnil {ds : List D} (h : datDs ds = true) : dNe (.tup ds) (.tup []) = some (.bl (!ds.isEmpty)) := by unfold dNe; rw [(dEqv_nil h).2]; rfl
@[simp] theorem dEq_nn : dEq (.lst []) (.lst []) = some (.bl true) := rfl
@[simp] theorem dNe_nn : dNe (.lst []) (.lst []) = some (.bl false) := rfl
@[simp] theorem dEq_tt : dEq (.tup []) (.tup []) = some (.bl true) := rfl
@[simp] theorem dNe_tt : dNe (.tup []) (.tup []) = some (.bl false) := rfl
mutual
theorem eqv_self : ∀ {d : D} {p : PyData}, toPD d = some p → PyData.eqv p p = true
  | .non, p, h | .bl _, p, h | .int _, p, h | .str _, p, h => by cases h; simp [PyData.eqv]
  | .tup ds, p, h => by
    unfold toPD at h
    cases e : toPDs ds with
    | none => rw [e] at h; cases h
    | some ps => rw [e] at h; cases h; rw [PyData.eqv]; exact eqvs_self e
  | .lst ds, p, h => by
    unfold toPD at h
    cases e : toPDs ds with
    | none => rw [e] at h; cases h
    | some ps => rw [e] at h; cases h; rw [PyData.eqv]; exact eqvs_self e
  | .dct _ _, p, h | .bag, p, h | .fn _, p, h | .ty _, p, h => by cases h
theorem eqvs_self : ∀ {ds : List D} {ps : List PyData}, toPDs ds = some ps → PyData.eqvAll ps ps = true
  | [], ps, h => by cases h; rfl
  | d :: ds, ps, h => by
    unfold toPDs at h
    cases e : toPD d with
    | none => rw [e] at h; cases h
    | some p =>
      cases e2 : toPDs ds with
      | none => rw [e, e2] at h; cases h
      | some qs => rw [e, e2] at h; cases h; rw [PyData.eqvAll, eqv_self e, eqvs_self e2]; rfl
end
mutual
/-- how deep -/
def dpD : D → Nat
  | .tup ds => dpDs ds + 1
  | .lst ds => dpDs ds + 1
  | _ => 0
def dpDs : List D → Nat
  | [] => 0
  | d :: ds => max (dpD d) (dpDs ds)
end
@[simp] theorem dpD_non : dpD .non = 0 := rfl
@[simp] theorem dpD_bl {b : Bool} : dpD (.bl b) = 0 := rfl
@[simp] theorem dpD_int {b : Int} : dpD (.int b) = 0 := rfl
@[simp] theorem dpD_str {b : Str} : dpD (.str b) = 0 := rfl
@[simp] theorem dpD_tup {ds : List D} : dpD (.tup ds) = dpDs ds + 1 := by rw [dpD]
@[simp] theorem dpD_lst {ds : List D} : dpD (.lst ds) = dpDs ds + 1 := by rw [dpD]
@[simp] theorem dpDs_nil : dpDs [] = 0 := rfl
@[simp] theorem dpDs_cons {d : D} {ds : List D} : dpDs (d :: ds) = max (dpD d) (dpDs ds) := by rw [dpDs]
theorem dpDs_map {α : Type} {f : α → D} (k : Nat) : ∀ {xs : List α}, (∀ x ∈ xs, dpD (f x) ≤ k) → dpDs (xs.map f) ≤ k
  | [], _ => by simp
  | x :: xs, h => by
    rw [List.map_cons, dpDs_cons]
    exact Nat.max_le.mpr ⟨h x List.mem_cons_self, dpDs_map k fun y hy => h y (List.mem_cons_of_mem _ hy)⟩
mutual
theorem depth_dp : ∀ {d : D} {p : PyData}, toPD d = some p → p.depth ≤ dpD d + 1
  | .non, p, h | .bl _, p, h | .int _, p, h | .str _, p, h => by cases h; simp [PyData.depth]
  | .tup ds, p, h => by
    unfold toPD at h
    cases e : toPDs ds with
    | none => rw [e] at h; cases h
    | some ps => rw [e] at h; cases h; rw [PyData.depth, dpD_tup]; have := depths_dp e; omega
  | .lst ds, p, h => by
    unfold toPD at h
    cases e : toPDs ds with
    | none => rw [e] at h; cases h
    | some ps => rw [e] at h; cases h; rw [PyData.depth, dpD_lst]; have := depths_dp e; omega
  | .dct _ _, p, h | .bag, p, h | .fn _, p, h | .ty _, p, h => by cases h
theorem depths_dp : ∀ {ds : List D} {ps : List PyData}, toPDs ds = some ps → PyData.depthAll ps ≤ dpDs ds + 1
  | [], ps, h => by cases h; simp [PyData.depthAll]
  | d :: ds, ps, h => by
    unfold toPDs at h
    cases e : toPD d with
    | none => rw [e] at h; cases h
    | some p =>
      cases e2 : toPDs ds with
      | none => rw [e, e2] at h; cases h
      | some qs =>
        rw [e, e2] at h; cases h
        rw [PyData.depthAll, dpDs_cons]
        have := depth_dp e
        have := depths_dp e2
        omega
end
/-- a thing equals itself -/
theorem dEqv_refl {d : D} (h : datD d = true) (hd : dpD d ≤ 60) : dEqv d d = some true := by
  obtain ⟨p, e⟩ := toPD_dat h
  have := depth_dp e
  unfold dEqv
  rw [e]
  show (if _ then _ else _) = _
  rw [if_pos (by omega), eqv_self e]
theorem dEq_refl {d : D} (h : datD d = true) (hd : dpD d ≤ 60) : dEq d d = some (.bl true) := by unfold dEq; rw [dEqv_refl h hd]; rfl
theorem dNe_refl {d : D} (h : datD d = true) (hd : dpD d ≤ 60) : dNe d d = some (.bl false) := by unfold dNe; rw [dEqv_refl h hd]; rfl
section
variable {a b c d : Bool}
@[simp] theorem bAll_0 : bAll [.lst []] = some (.bl true) := rfl
@[simp] theorem bAll_1 : bAll [.lst [.bl a]] = some (.bl a) := (bAll_bls (ns := [a])).trans (by simp)
@[simp] theorem bAll_2 : bAll [.lst [.bl a, .bl b]] = some (.bl (a && b)) := (bAll_bls (ns := [a, b])).trans (by simp)
@[simp] theorem bAll_3 : bAll [.lst [.bl a, .bl b, .bl c]] = some (.bl (a && (b && c))) := (bAll_bls (ns := [a, b, c])).trans (by simp)
@[simp] theorem bAny_0 : bAny [.lst []] = some (.bl false) := rfl
@[simp] theorem bAny_1 : bAny [.lst [.bl a]] = some (.bl a) := (bAny_bls (ns := [a])).trans (by simp)
@[simp] theorem bAny_2 : bAny [.lst [.bl a, .bl b]] = some (.bl (a || b)) := (bAny_bls (ns := [a, b])).trans (by simp)
end
section
variable {α β γ : Type} [Dt α] [Dt β] [Dt γ]
mutual
theorem dat_of_pd : ∀ {d : D} {p : PyData}, toPD d = some p → datD d = true
  | .non, p, h | .bl _, p, h | .int _, p, h | .str _, p, h => rfl
  | .tup ds, p, h => by
    unfold toPD at h
    cases e : toPDs ds with
    | none => rw [e] at h; cases h
    | some ps => rw [datD_tup]; exact dats_of_pd e
  | .lst ds, p, h => by
    unfold toPD at h
    cases e : toPDs ds with
    | none => rw [e] at h; cases h
    | some ps => rw [datD_lst]; exact dats_of_pd e
  | .dct _ _, p, h | .bag, p, h | .fn _, p, h | .ty _, p, h => by cases h
theorem dats_of_pd : ∀ {ds : List D} {ps : List PyData}, toPDs ds = some ps → datDs ds = true
  | [], ps, h => rfl
  | d :: ds, ps, h => by
    unfold toPDs at h
    cases e : toPD d with
    | none => rw [e] at h; cases h
    | some p =>
      cases e2 : toPDs ds with
      | none => rw [e, e2] at h; cases h
      | some qs => rw [datDs_cons, dat_of_pd e, dats_of_pd e2]; rfl
end
@[simp] theorem datD_enc {a : α} : datD (enc a) = true := dat_of_pd (Dt.hpd a)
@[simp] theorem datDs_enc {xs : List α} : datDs (xs.map enc) = true := dats_of_pd (toPDs_encs xs)
end
end Ev

/-! Pl4: lists in rising order, sets, walks along couples. -/
namespace Ev
open PySem PySem.Spec L2
open PyProof.Rows hiding St
open Dt (enc)
theorem nodup_len {α : Type} [DecidableEq α] : ∀ {xs ys : List α}, xs.Nodup → (∀ x ∈ xs, x ∈ ys) → xs.length ≤ ys.length
  | [], _, _, _ => by simp
  | x :: xs, ys, hn, hs => by
    have hx := hs x List.mem_cons_self
    have hn := List.nodup_cons.mp hn
    have := nodup_len (ys := ys.erase x) hn.2 fun y hy => (List.mem_erase_of_ne (by rintro rfl; exact hn.1 hy)).mpr (hs y (List.mem_cons_of_mem _ hy))
    rw [List.length_erase_of_mem hx] at this
    have := List.length_pos_of_mem hx
    simp; omega
theorem nodup_lt {n : Nat} {xs : List Nat} (h : xs.Nodup) (hs : ∀ x ∈ xs, x < n) : xs.length ≤ n := by
  have := nodup_len (ys := List.range n) h fun x hx => List.mem_range.mpr (hs x hx)
  simpa using this
section
variable {α : Type} [DecidableEq α]
def dedupK : List α → List α
  | [] => []
  | x :: xs => if x ∈ xs then dedupK xs else x :: dedupK xs
theorem mem_dedupK {a : α} : ∀ {xs : List α}, a ∈ dedupK xs ↔ a ∈ xs
  | [] => Iff.rfl
  | x :: xs => by
    unfold dedupK
    split
    · rename_i h
      rw [mem_dedupK, List.mem_cons]
      exact ⟨.inr, fun z => z.elim (fun e => e ▸ h) id⟩
    · rw [List.mem_cons, mem_dedupK, List.mem_cons]
theorem nodup_dedupK : ∀ {xs : List α}, (dedupK xs).Nodup
  | [] => List.nodup_nil
  | x :: xs => by
    unfold dedupK
    split
    · exact nodup_dedupK
    · rename_i h
      exact List.nodup_cons.mpr ⟨fun z => h (mem_dedupK.mp z), nodup_dedupK⟩
theorem length_dedupK : ∀ {xs : List α}, (dedupK xs).length ≤ xs.length
  | [] => Nat.le_refl _
  | x :: xs => by
    have := length_dedupK (xs := xs)
    unfold dedupK
    split <;> simp <;> omega
end
section
variable {α : Type} [Dt α]
theorem ltK_irrefl {a : α} : ltK a a = false := by rw [ltK_not, leK_refl]; rfl
theorem ltK_le {a b : α} (h : ltK a b = true) : leK a b = true := by
  rcases leK_total (a := a) (b := b) with q | q
  · exact q
  · rw [ltK_not, q] at h; cases h
theorem ltK_trans {a b c : α} (h1 : ltK a b = true) (h2 : ltK b c = true) : ltK a c = true := by
  rw [ltK_not]
  cases e : leK c a with
  | false => rfl
  | true =>
    have := leK_trans e (ltK_le h1)
    rw [ltK_not, this] at h2
    cases h2
/-- strictly rising -/
abbrev Asc (xs : List α) : Prop := xs.Pairwise fun a b => ltK a b = true
theorem Asc.nodup {xs : List α} (h : Asc xs) : xs.Nodup := h.imp fun {a b} h e => by subst e; rw [ltK_irrefl] at h; cases h
theorem Asc.le {xs : List α} (h : Asc xs) : xs.Pairwise fun a b => leK a b = true := h.imp ltK_le
theorem asc_ext {xs ys : List α} (h1 : Asc xs) (h2 : Asc ys) (h : ∀ a, a ∈ xs ↔ a ∈ ys) : xs = ys :=
  List.Perm.eq_of_pairwise (fun a b _ _ h1 h2 => leK_anti h1 h2) h1.le h2.le ((List.perm_ext_iff_of_nodup h1.nodup h2.nodup).mpr h)
theorem asc_sort {xs : List α} (h : xs.Nodup) : Asc (sortK xs) := by
  have h1 : (sortK xs).Nodup := sortK_perm.nodup_iff.mpr h
  refine (sortK_pairwise (xs := xs)).imp₂ (fun a b h1 h2 => ?_) h1
  rw [ltK_not]
  cases e : leK b a with
  | false => rfl
  | true => exact absurd (leK_anti h1 e) h2
theorem sort_asc {xs : List α} (h : Asc xs) : sortK xs = xs := (sortK_uniq (List.Perm.refl _) h.le).symm
/-- sorted(set(xs)) -/
def setK [DecidableEq α] (xs : List α) : List α := sortK (dedupK xs)
theorem mem_setK [DecidableEq α] {xs : List α} {a : α} : a ∈ setK xs ↔ a ∈ xs := sortK_mem.trans mem_dedupK
theorem asc_setK [DecidableEq α] {xs : List α} : Asc (setK xs) := asc_sort nodup_dedupK
theorem length_setK [DecidableEq α] {xs : List α} : (setK xs).length ≤ xs.length := by unfold setK; rw [sortK_length]; exact length_dedupK
theorem setK_eq [DecidableEq α] {xs ys : List α} (h1 : Asc ys) (h : ∀ a, a ∈ ys ↔ a ∈ xs) : setK xs = ys := asc_ext asc_setK h1 fun a => mem_setK.trans (h a).symm
end
theorem asc_nat {xs : List Nat} : Asc xs ↔ xs.Pairwise (· < ·) := by
  constructor
  · exact fun h => h.imp fun h => by rw [ltK_nat] at h; exact of_decide_eq_true h
  · exact fun h => h.imp fun h => by rw [ltK_nat]; exact decide_eq_true h
theorem asc_int {xs : List Int} : Asc xs ↔ xs.Pairwise (· < ·) := by
  constructor
  · exact fun h => h.imp fun h => by rw [ltK_int] at h; exact of_decide_eq_true h
  · exact fun h => h.imp fun h => by rw [ltK_int]; exact decide_eq_true h
theorem asc_range {n : Nat} : Asc (List.range n) := asc_nat.mpr List.pairwise_lt_range
theorem asc_filter {α : Type} [Dt α] {xs : List α} {p : α → Bool} (h : Asc xs) : Asc (xs.filter p) := List.Pairwise.filter p h
theorem asc_cast {xs : List Nat} (h : Asc xs) : (xs.map fun n : Nat => (n : Int)).Pairwise (· < ·) := List.pairwise_map.mpr ((asc_nat.mp h).imp fun h => by omega)
theorem enc_cast {xs : List Nat} : xs.map enc = (xs.map fun n : Nat => (n : Int)).map D.int := by rw [List.map_map]; rfl
theorem int_inj : ∀ {ns ms : List Int}, ns.map D.int = ms.map D.int → ns = ms
  | [], [], _ => rfl
  | [], _ :: _, h => by cases h
  | _ :: _, [], h => by cases h
  | n :: ns, m :: ms, h => by
    rw [List.map_cons, List.map_cons] at h
    have h1 := D.int.inj (List.cons.inj h).1
    rw [h1, int_inj (List.cons.inj h).2]
theorem sortSet_int {xs : List Int} {Q : D → Prop} (hl : xs.length < 64) (t : D) (ht : t = .lst (xs.map enc) ∨ t = .tup (xs.map enc)) : SortSetD t Q = Q (.lst ((setK xs).map enc)) := by
  have key : ∀ os, IsSet xs os → os = setK xs := fun os h => (setK_eq (asc_int.mpr h.1) h.2).symm
  apply propext
  constructor
  · rintro ⟨ns, e, h1, h2⟩
    have : xs = ns := by
      rcases ht with rfl | rfl
      · rcases e with e | e
        · exact int_inj (D.lst.inj e)
        · cases e
      · rcases e with e | e
        · cases e
        · exact int_inj (D.tup.inj e)
    subst this
    exact h2 _ ⟨asc_int.mp asc_setK, fun k => mem_setK⟩
  · intro q
    refine ⟨xs, ht, hl, fun os h => ?_⟩
    rw [key os h]
    exact q
theorem setK_cast {xs : List Nat} : (setK xs).map (fun n : Nat => (n : Int)) = setK (xs.map fun n : Nat => (n : Int)) := by
  refine (setK_eq (asc_int.mpr (asc_cast asc_setK)) fun a => ?_).symm
  simp only [List.mem_map, mem_setK]
theorem sortSet_nat {xs : List Nat} {Q : D → Prop} (hl : xs.length < 64) (t : D) (ht : t = .lst (xs.map enc) ∨ t = .tup (xs.map enc)) : SortSetD t Q = Q (.lst ((setK xs).map enc)) := by
  rw [enc_cast] at ht ⊢
  rw [sortSet_int (xs := xs.map fun n : Nat => (n : Int)) (by simpa using hl) t ht, setK_cast]
  rfl
/-! ### walks -/
/-- a way of so many couples -/
def Way (cs : List (Nat × Nat)) : Nat → Nat → Nat → Prop
  | 0, u, v => u = v
  | k + 1, u, v => ∃ w, Way cs k u w ∧ (w, v) ∈ cs
/-- a way of one couple or more -/
def Reach (cs : List (Nat × Nat)) (u v : Nat) : Prop := ∃ k, Way cs (k + 1) u v
theorem way_one {cs : List (Nat × Nat)} {u v : Nat} : Way cs 1 u v ↔ (u, v) ∈ cs := ⟨fun ⟨w, e, h⟩ => by cases e; exact h, fun h => ⟨u, rfl, h⟩⟩
theorem way_add {cs : List (Nat × Nat)} {u v w : Nat} {i : Nat} (h1 : Way cs i u v) : ∀ {j : Nat} {w : Nat}, Way cs j v w → Way cs (i + j) u w
  | 0, w, h => by cases h; exact h1
  | j + 1, w, ⟨x, h2, h3⟩ => ⟨x, way_add (w := w) h1 h2, h3⟩
theorem walk_cons {cs : List (Nat × Nat)} {u v w : Nat} {j : Nat} (h1 : (u, v) ∈ cs) (h2 : Way cs j v w) : Way cs (j + 1) u w := by
  have := way_add (w := w) (way_one.mpr h1) h2
  rwa [Nat.add_comm] at this
theorem walk_split {cs : List (Nat × Nat)} {u w : Nat} {i : Nat} : ∀ {j : Nat} {w : Nat}, Way cs (i + j) u w → ∃ v, Way cs i u v ∧ Way cs j v w
  | 0, w, h => ⟨w, h, rfl⟩
  | j + 1, w, ⟨x, h1, h2⟩ => by
    obtain ⟨v, h3, h4⟩ := walk_split (w := w) h1
    exact ⟨v, h3, x, h4, h2⟩
theorem walk_front {cs : List (Nat × Nat)} {u w : Nat} {j : Nat} (h : Way cs (j + 1) u w) : ∃ v, (u, v) ∈ cs ∧ Way cs j v w := by
  rw [Nat.add_comm] at h
  obtain ⟨v, h1, h2⟩ := walk_split (w := w) h
  exact ⟨v, way_one.mp h1, h2⟩
theorem Reach.trans {cs : List (Nat × Nat)} {u v w : Nat} (h1 : Reach cs u v) (h2 : Reach cs v w) : Reach cs u w := by
  obtain ⟨i, h1⟩ := h1
  obtain ⟨j, h2⟩ := h2
  exact ⟨i + 1 + j, way_add (w := w) h1 h2⟩
theorem Reach.one {cs : List (Nat × Nat)} {u v : Nat} (h : (u, v) ∈ cs) : Reach cs u v := ⟨0, way_one.mpr h⟩
theorem Reach.last {cs : List (Nat × Nat)} {u v : Nat} (h : Reach cs u v) : ∃ w, (w, v) ∈ cs := by
  obtain ⟨k, w, _, h⟩ := h
  exact ⟨w, h⟩
theorem Reach.first {cs : List (Nat × Nat)} {u v : Nat} (h : Reach cs u v) : ∃ w, (u, w) ∈ cs := by
  obtain ⟨k, h⟩ := h
  obtain ⟨w, h, _⟩ := walk_front h
  exact ⟨w, h⟩
/-- the units on a way, behind its first -/
theorem walk_path {cs : List (Nat × Nat)} {u : Nat} : ∀ {k v : Nat}, Way cs k u v → ∃ f : Nat → Nat, f 0 = u ∧ f k = v ∧ ∀ i, i < k → (f i, f (i + 1)) ∈ cs
  | 0, v, h => ⟨fun _ => u, rfl, h, fun i hi => by omega⟩
  | k + 1, v, ⟨w, h1, h2⟩ => by
    obtain ⟨f, h3, h4, h5⟩ := walk_path h1
    refine ⟨fun i => if i ≤ k then f i else v, by simpa using h3, if_neg (by omega), fun i hi => ?_⟩
    by_cases h : i < k
    · simp [show i ≤ k by omega, show i + 1 ≤ k by omega]
      exact h5 i h
    · obtain rfl : i = k := by omega
      have e : ¬ i + 1 ≤ i := by omega
      simp only [Nat.le_refl, if_true, e, if_false, h4]
      exact h2
theorem path_walk {cs : List (Nat × Nat)} {f : Nat → Nat} : ∀ {i j : Nat}, (∀ x, i ≤ x → x < i + j → (f x, f (x + 1)) ∈ cs) → Way cs j (f i) (f (i + j))
  | i, 0, _ => rfl
  | i, j + 1, h => ⟨f (i + j), path_walk fun x h1 h2 => h x h1 (by omega), h (i + j) (by omega) (by omega)⟩
/-- a way is no longer than the units are many -/
theorem walk_short {cs : List (Nat × Nat)} {n u v : Nat} (hc : ∀ p ∈ cs, p.2 < n) : ∀ {k : Nat}, Way cs (k + 1) u v → ∃ j, j + 1 ≤ n ∧ Way cs (j + 1) u v := by
  intro k
  induction k using Nat.strongRecOn with
  | ind k ih =>
    intro h
    by_cases hk : k + 1 ≤ n
    · exact ⟨k, hk, h⟩
    · obtain ⟨f, h0, h1, h2⟩ := walk_path h
      have hlt : ∀ i, i < k + 1 → f (i + 1) < n := fun i hi => hc _ (h2 i hi)
      have nd : ¬ ((List.range (k + 1)).map fun i => f (i + 1)).Nodup := fun nd => by
        have := nodup_lt nd (fun x hx => by
          obtain ⟨i, hi, rfl⟩ := List.mem_map.mp hx
          exact hlt i (List.mem_range.mp hi))
        simp at this
        omega
      have : ∃ i j, i < j ∧ j < k + 1 ∧ f (i + 1) = f (j + 1) := by
        apply Classical.byContradiction
        intro hn
        apply nd
        rw [List.Nodup, List.pairwise_map]
        refine (List.pairwise_lt_range (n := k + 1)).imp_of_mem fun {a b} ha hb hab e => ?_
        exact hn ⟨a, b, hab, List.mem_range.mp hb, e⟩
      obtain ⟨i, j, hij, hj, e⟩ := this
      have w1 : Way cs (i + 1) (f 0) (f (0 + (i + 1))) := path_walk fun x _ hx => h2 x (by omega)
      have w2 : Way cs (k + 1 - (j + 1)) (f (j + 1)) (f (j + 1 + (k + 1 - (j + 1)))) := path_walk fun x _ hx => h2 x (by omega)
      rw [show j + 1 + (k + 1 - (j + 1)) = k + 1 by omega, h1] at w2
      rw [Nat.zero_add, e, h0] at w1
      have := way_add (w := v) w1 w2
      obtain ⟨m, hm⟩ : ∃ m, i + 1 + (k + 1 - (j + 1)) = m + 1 := ⟨i + (k + 1 - (j + 1)), by omega⟩
      rw [hm] at this
      exact ih m (by omega) this
theorem reach_short {cs : List (Nat × Nat)} {n u v : Nat} (hc : ∀ p ∈ cs, p.2 < n) : Reach cs u v ↔ ∃ j, 1 ≤ j ∧ j ≤ n ∧ Way cs j u v := by
  constructor
  · rintro ⟨k, h⟩
    obtain ⟨j, h1, h2⟩ := walk_short hc h
    exact ⟨j + 1, by omega, h1, h2⟩
  · rintro ⟨j, h1, h2, h3⟩
    obtain ⟨m, rfl⟩ : ∃ m, j = m + 1 := ⟨j - 1, by omega⟩
    exact ⟨m, h3⟩
/-- what rises along couples -/
theorem reach_rank {cs : List (Nat × Nat)} {α : Type} {lt : α → α → Prop} (tr : ∀ a b c, lt a b → lt b c → lt a c) {f : Nat → α} (h : ∀ p ∈ cs, lt (f p.1) (f p.2)) {u v : Nat} (r : Reach cs u v) : lt (f u) (f v) := by
  obtain ⟨k, r⟩ := r
  induction k generalizing v with
  | zero => exact h (u, v) (way_one.mp r)
  | succ k ih =>
    obtain ⟨w, h1, h2⟩ := r
    exact tr _ _ _ (ih h1) (h (w, v) h2)
open Classical in
/-- the units that one leads down to -/
noncomputable def belowL (n : Nat) (cs : List (Nat × Nat)) (u : Nat) : List Nat := (List.range n).filter fun v => decide (Reach cs u v)
theorem mem_belowL {n : Nat} {cs : List (Nat × Nat)} {u v : Nat} (hc : ∀ p ∈ cs, p.2 < n) : v ∈ belowL n cs u ↔ Reach cs u v := by
  unfold belowL
  simp only [List.mem_filter, List.mem_range, decide_eq_true_eq]
  refine ⟨fun h => h.2, fun h => ⟨?_, h⟩⟩
  obtain ⟨w, h⟩ := h.last
  exact hc _ h
theorem asc_belowL {n : Nat} {cs : List (Nat × Nat)} {u : Nat} : Asc (belowL n cs u) := asc_filter asc_range
end Ev

namespace Ev
open PySem PySem.Spec L2
open PyProof.Rows hiding St
open Dt (enc)
variable [Tbl]
section
variable {ρ : EnvD} {Q : D → Prop} {E : Exc → Prop} {i : Nat} {mb : MB} {T : Tb} {g : Str} {S : FS}
@[simp] theorem s_mCallL_nil : mCallL [] i mb ρ Q E = False := propext ⟨fun ⟨_, _, _, h, _⟩ => (by cases h), False.elim⟩
@[simp] theorem s_mCallL_cons : mCallL ((g, S) :: T) i mb ρ Q E = ((kpv i ρ = some (.fn g) ∧ mCall S mb ρ Q E) ∨ mCallL T i mb ρ Q E) := by
  apply propext
  constructor
  · rintro ⟨g', S', h1, h2, h3⟩
    rcases List.mem_cons.mp h2 with e | h2
    · cases e; exact .inl ⟨h1, h3⟩
    · exact .inr ⟨g', S', h1, h2, h3⟩
  · rintro (⟨h1, h3⟩ | ⟨g', S', h1, h2, h3⟩)
    · exact ⟨g, S, h1, List.mem_cons_self, h3⟩
    · exact ⟨g', S', h1, List.mem_cons_of_mem _ h2, h3⟩
end
end Ev

/-! Pl6: the plain side of dict comprehensions, starred items, repr. -/
namespace Ev
open PySem PySem.Spec L2
open PyProof.Rows hiding St
open Dt (enc)
variable [Tbl]
section
variable {ρ : EnvD} {Q : D → Prop} {E : Exc → Prop} {ds : List D} {me mk mv : ME} {mr : MA} {mi : MI} {mg : MG} {mt : MT} {vs : List Nat}
@[simp] theorem s_mStar {Q : List D → Prop} : mStar me mr ρ Q E = me ρ (fun d => Opt (stD d) fun ds => mr ρ (fun es => Q (ds ++ es)) E) E := rfl
@[simp] theorem stD_tup : stD (.tup ds) = some ds := rfl
@[simp] theorem stD_lst : stD (.lst ds) = some ds := rfl
@[simp] theorem s_mDc : mDc vs mi mg mt mk mv ρ Q E = mi ρ (fun ds => dcE vs mg mt mk mv ds ρ [] [] fun ks xs => Q (.dct ks xs)) E := rfl
/-- a dict comprehension whose keys are different things each time: by what each item gives -/
theorem dcE_put {α β : Type} [Dt α] [DecidableEq α] [Ky α] (e : β → D) (f : β → Option (α × D)) (hα : ∀ a : α, ∃ k, enc a = keyD k) {xs : List β} {ks : List α} {vals : List D} {P : List D → List D → Prop} (hl : ks.length + xs.length < 16777216)
    (h : ∀ x ∈ xs, ∀ C : Option (D × D) → Prop, C ((f x).map fun p => (enc p.1, p.2)) → mg (e x) (wipeE ρ vs) fun ρ1 => mt ρ1 (fun b => if b = true then mk ρ1 (fun y => mv ρ1 (fun z => C (some (y, z))) (fun _ => False)) (fun _ => False) else C none) (fun _ => False))
    (q : ∀ (ks' : List α) (vals' : List D), (∀ a, a ∈ ks' ↔ a ∈ ks ∨ ∃ x ∈ xs, ∃ d, f x = some (a, d)) → P (ks'.map enc) vals') : dcE vs mg mt mk mv (xs.map e) ρ (ks.map enc) vals P := by
  induction xs generalizing ks vals with
  | nil => exact q ks vals (by simp)
  | cons x xs ih =>
    rw [List.map_cons]
    unfold dcE
    have ih := fun (ks : List α) vals hl => @ih ks vals hl (fun y hy => h y (List.mem_cons_of_mem _ hy))
    have h0 := h x List.mem_cons_self (fun o => match o with
      | some (y, z) => ∃ k : Key, y = keyD k ∧ (ks.map enc).length < lim ∧ dcE vs mg mt mk mv (xs.map e) ρ (putKs (ks.map enc) y) (putVs (ks.map enc) vals y z) P
      | none => dcE vs mg mt mk mv (xs.map e) ρ (ks.map enc) vals P)
    refine h0 ?_
    cases e1 : f x with
    | none =>
      simp only [Option.map_none]
      refine ih ks vals (by simp at hl; omega) fun ks' vals' hk => q ks' vals' fun a => ?_
      rw [hk]
      simp [e1]
    | some p =>
      obtain ⟨a, d⟩ := p
      simp only [Option.map_some]
      obtain ⟨k, hk⟩ := hα a
      refine ⟨k, hk, by simp at hl ⊢; omega, ?_⟩
      rw [putKs_enc]
      refine ih _ _ (by split <;> simp at hl ⊢ <;> omega) fun ks' vals' hk => q ks' vals' fun b => ?_
      rw [hk]
      simp only [List.mem_cons, exists_eq_or_imp, e1, Option.some.injEq, Prod.mk.injEq]
      split
      · rename_i ha
        constructor
        · rintro (h | h)
          · exact .inl h
          · exact .inr (.inr h)
        · rintro (h | ⟨d', rfl, _⟩ | h)
          · exact .inl h
          · exact .inl ha
          · exact .inr h
      · rename_i ha
        simp only [List.mem_append, List.mem_singleton]
        constructor
        · rintro ((h | rfl) | h)
          · exact .inl h
          · exact .inr (.inl ⟨d, rfl, rfl⟩)
          · exact .inr (.inr h)
        · rintro (h | ⟨d', rfl, _⟩ | h)
          · exact .inl (.inl h)
          · exact .inl (.inr rfl)
          · exact .inr h
theorem dIn_dct {α : Type} [Dt α] [DecidableEq α] [Ky α] {a : α} {ks : List α} {vals : List D} : dIn (enc a) (.dct (ks.map enc) vals) = some (.bl (decide (a ∈ ks))) := by
  show (if askK (ks.map enc) (enc a) = true then some (hasK (ks.map enc) (enc a)) else none).map D.bl = _
  rw [if_pos askK_enc, hasK_enc]; rfl
theorem dNotIn_dct {α : Type} [Dt α] [DecidableEq α] [Ky α] {a : α} {ks : List α} {vals : List D} : dNotIn (enc a) (.dct (ks.map enc) vals) = some (.bl (decide (a ∉ ks))) := by
  show (if askK (ks.map enc) (enc a) = true then some (hasK (ks.map enc) (enc a)) else none).map (fun b => D.bl !b) = _
  rw [if_pos askK_enc, hasK_enc]; simp
end
end Ev

/-! Pl7: the plain side of repr: of small things it is some text. -/
namespace Ev
open PySem PySem.Spec L2
open PyProof.Rows hiding St
open Dt (enc)
theorem strOk_all {x : Str} : PyData.strOk x = true ↔ ∀ c ∈ x.cps.toList, c < 0x110000 := by
  unfold PyData.strOk
  rw [← Array.all_toList, List.all_eq_true]
  simp
theorem strOk_ofString {s : String} : PyData.strOk (Str.ofString s) = true := by
  rw [Str.ofString_eq_toList, strOk_all]
  intro c hc
  simp at hc
  obtain ⟨a, _, rfl⟩ := hc
  have h : a.toNat.isValidChar := a.valid
  rcases h with h | h
  · omega
  · exact h.2
theorem strOk_app {a b : Str} (h1 : PyData.strOk a = true) (h2 : PyData.strOk b = true) : PyData.strOk (a ++ b) = true := by
  rw [strOk_all] at *
  intro c hc
  have hc : c ∈ (a.cps ++ b.cps).toList := hc
  rw [Array.toList_append, List.mem_append] at hc
  exact hc.elim (h1 c) (h2 c)
theorem strOk_textFrom : ∀ {ts : List Str} {k : Nat} {acc : Str}, (∀ t ∈ ts, PyData.strOk t = true) → PyData.strOk acc = true → PyData.strOk (textFrom k acc ts) = true
  | [], _, _, _, h => h
  | t :: ts, k, acc, h, ha => by
    unfold textFrom
    exact strOk_textFrom (fun u hu => h u (List.mem_cons_of_mem _ hu)) (strOk_app (strOk_app ha strOk_ofString) (h t List.mem_cons_self))
theorem strOk_join : ∀ {ts : List Str}, (∀ t ∈ ts, PyData.strOk t = true) → PyData.strOk (Str.join ", " ts) = true
  | [], _ => by rw [strOk_all]; intro c hc; exact absurd hc (by simp [Str.join, Str.empty])
  | [x], h => h x List.mem_cons_self
  | x :: y :: r, h => strOk_app (strOk_app (h x List.mem_cons_self) strOk_ofString) (strOk_join fun t ht => h t (List.mem_cons_of_mem _ ht))
mutual
def okR : D → Bool
  | .non | .bl _ => true
  | .int i => decide (i.natAbs < 10 ^ 12)
  | .str x => PyData.strOk x && PyData.strOk (reprText x) && decide (x.length ≤ 1000)
  | .tup ds => okRs ds
  | .lst ds => okRs ds
  | _ => false
def okRs : List D → Bool
  | [] => true
  | d :: ds => okR d && okRs ds
end
@[simp] theorem okR_non : okR .non = true := rfl
@[simp] theorem okR_bl {b : Bool} : okR (.bl b) = true := rfl
@[simp] theorem okR_int {i : Int} : okR (.int i) = decide (i.natAbs < 10 ^ 12) := rfl
@[simp] theorem okR_tup {ds : List D} : okR (.tup ds) = okRs ds := by rw [okR]
@[simp] theorem okR_lst {ds : List D} : okR (.lst ds) = okRs ds := by rw [okR]
@[simp] theorem okRs_nil : okRs [] = true := rfl
@[simp] theorem okRs_cons {d : D} {ds : List D} : okRs (d :: ds) = (okR d && okRs ds) := by rw [okRs]
theorem okRs_all : ∀ {ds : List D}, okRs ds = true ↔ ∀ d ∈ ds, okR d = true
  | [] => by simp
  | d :: ds => by simp [okRs_all (ds := ds)]
theorem okRs_map {α : Type} {f : α → D} {xs : List α} (h : ∀ x ∈ xs, okR (f x) = true) : okRs (xs.map f) = true := okRs_all.mpr fun d hd => by
  obtain ⟨x, hx, rfl⟩ := List.mem_map.mp hd
  exact h x hx
theorem log2_small {n : Nat} (h : n < 10 ^ 12) : n.log2 < 40 := by
  by_cases h0 : n = 0
  · subst h0; decide
  · exact (Nat.log2_lt h0).mpr (by omega)
mutual
theorem okR_pd : ∀ {d : D} {p : PyData}, toPD d = some p → okR d = true → p.showable = true ∧ p.leavesShort 13 = true ∧ PyData.strOk p.shown = true ∧ p.weight + 1 ≤ 1001 * szD d
  | .non, p, h, _ => by cases h; exact ⟨rfl, rfl, by rw [PyData.shown]; exact strOk_ofString, by simp [PyData.weight]⟩
  | .bl b, p, h, _ => by cases h; exact ⟨rfl, rfl, by rw [PyData.shown]; cases b <;> exact strOk_ofString, by simp [PyData.weight]⟩
  | .int i, p, h, o => by
    cases h
    have o : i.natAbs < 10 ^ 12 := of_decide_eq_true o
    have l := log2_small o
    refine ⟨by rw [PyData.showable]; exact decide_eq_true (by omega), ?_, by rw [PyData.shown]; exact strOk_ofString, ?_⟩
    · simp only [PyData.leavesShort, decide_eq_true_eq]
      exact PyData.shown_int_le o
    · rw [PyData.weight]
      split <;> simp <;> omega
  | .str x, p, h, o => by
    cases h
    rw [okR, Bool.and_eq_true, Bool.and_eq_true, decide_eq_true_eq] at o
    refine ⟨rfl, ?_, by rw [PyData.shown]; exact o.1.2, ?_⟩
    · simp only [PyData.leavesShort, List.all_eq_true, decide_eq_true_eq]
      intro c hc
      have := strOk_all.mp o.1.1 c hc
      omega
    · rw [PyData.weight]
      have l : x.cps.size ≤ 1000 := o.2
      simp
      omega
  | .tup ds, p, h, o => by
    unfold toPD at h
    cases e : toPDs ds with
    | none => rw [e] at h; cases h
    | some ps =>
      rw [e] at h; cases h
      obtain ⟨h1, h2, h3, h4⟩ := okRs_pd e (by simpa using o)
      refine ⟨by rw [PyData.showable]; exact h1, by rw [PyData.leavesShort]; exact h2, ?_, by rw [PyData.weight, szD_tup]; omega⟩
      rw [PyData.shown]
      exact strOk_app (strOk_app strOk_ofString (strOk_join h3)) (by split <;> exact strOk_ofString)
  | .lst ds, p, h, o => by
    unfold toPD at h
    cases e : toPDs ds with
    | none => rw [e] at h; cases h
    | some ps =>
      rw [e] at h; cases h
      obtain ⟨h1, h2, h3, h4⟩ := okRs_pd e (by simpa using o)
      refine ⟨by rw [PyData.showable]; exact h1, by rw [PyData.leavesShort]; exact h2, ?_, by rw [PyData.weight, szD_lst]; omega⟩
      rw [PyData.shown]
      exact strOk_app (strOk_textFrom h3 strOk_ofString) strOk_ofString
  | .dct _ _, p, h, _ | .bag, p, h, _ | .fn _, p, h, _ | .ty _, p, h, _ => by cases h
theorem okRs_pd : ∀ {ds : List D} {ps : List PyData}, toPDs ds = some ps → okRs ds = true → PyData.showableAll ps = true ∧ PyData.leavesShortAll 13 ps = true ∧ (∀ t ∈ PyData.shownAll ps, PyData.strOk t = true) ∧ PyData.weightAll ps ≤ 1001 * szDs ds
  | [], ps, h, _ => by cases h; exact ⟨rfl, rfl, fun t ht => (by cases ht), by simp [PyData.weightAll]⟩
  | d :: ds, ps, h, o => by
    unfold toPDs at h
    cases e : toPD d with
    | none => rw [e] at h; cases h
    | some p =>
      cases e2 : toPDs ds with
      | none => rw [e, e2] at h; cases h
      | some qs =>
        rw [e, e2] at h; cases h
        rw [okRs_cons, Bool.and_eq_true] at o
        obtain ⟨h1, h2, h3, h4⟩ := okR_pd e o.1
        obtain ⟨g1, g2, g3, g4⟩ := okRs_pd e2 o.2
        refine ⟨by rw [PyData.showableAll, h1, g1]; rfl, by rw [PyData.leavesShortAll, h2, g2]; rfl, fun t ht => ?_, by rw [PyData.weightAll, szDs_cons]; omega⟩
        rw [PyData.shownAll] at ht
        rcases List.mem_cons.mp ht with rfl | ht
        · exact h3
        · exact g3 t ht
end
variable [Tbl]
/-- repr of a small tuple or list is some text -/
theorem bRepr_ok {d : D} (ht : ∃ ds, d = .tup ds ∨ d = .lst ds) (h1 : datD d = true) (h2 : okR d = true) (h3 : szD d ≤ 1000) (h4 : dpD d ≤ 60) : ∃ z, bRepr [d] = some (.str z) := by
  obtain ⟨p, e⟩ := toPD_dat h1
  obtain ⟨a, b, c, w⟩ := okR_pd e h2
  have dp := depth_dp e
  have l : p.shown.length ≤ lim := by rw [lim_eq]; exact PyData.shown_fits (by decide) (by decide) b (by omega)
  have k : (p.showable && PyData.strOk p.shown && decide (p.shown.length ≤ lim) && decide (p.depth ≤ 64)) = true := by
    rw [a, c, decide_eq_true l, decide_eq_true (by omega : p.depth ≤ 64)]; rfl
  obtain ⟨ds, rfl | rfl⟩ := ht
  · refine ⟨p.shown, ?_⟩
    unfold bRepr
    simp only [e, k, if_true]
  · refine ⟨p.shown, ?_⟩
    unfold bRepr
    simp only [e, k, if_true]
end Ev

/-! Pl8: the plain side of dict comprehensions of two clauses. -/
namespace Ev
open PySem PySem.Spec L2
open PyProof.Rows hiding St
open Dt (enc)
variable [Tbl]
section
variable {ρ : EnvD} {Q : D → Prop} {E : Exc → Prop} {ds : List D} {me mk mv : ME} {mr : MA} {mi mi1 : MI} {mg mg1 : MG} {mt mt1 : MT} {vs vs1 : List Nat}
@[simp] theorem s_mDc2 : mDc2 vs vs1 mi mg mt mi1 mg1 mt1 mk mv ρ Q E = mi ρ (fun ds => dc2E vs vs1 mg mt mi1 mg1 mt1 mk mv ds ρ [] [] fun ks xs => Q (.dct ks xs)) E := rfl
/-- the same with the number of keys -/
theorem dcE_putN {α β : Type} [Dt α] [DecidableEq α] [Ky α] (e : β → D) (f : β → Option (α × D)) (hα : ∀ a : α, ∃ k, enc a = keyD k) {xs : List β} {ks : List α} {vals : List D} {P : List D → List D → Prop} (hl : ks.length + xs.length < 16777216) (hd : ks.Nodup)
    (h : ∀ x ∈ xs, ∀ C : Option (D × D) → Prop, C ((f x).map fun p => (enc p.1, p.2)) → mg (e x) (wipeE ρ vs) fun ρ1 => mt ρ1 (fun b => if b = true then mk ρ1 (fun y => mv ρ1 (fun z => C (some (y, z))) (fun _ => False)) (fun _ => False) else C none) (fun _ => False))
    (q : ∀ (ks' : List α) (vals' : List D), ks'.Nodup → ks'.length ≤ ks.length + xs.length → (∀ a, a ∈ ks' ↔ a ∈ ks ∨ ∃ x ∈ xs, ∃ d, f x = some (a, d)) → P (ks'.map enc) vals') : dcE vs mg mt mk mv (xs.map e) ρ (ks.map enc) vals P := by
  induction xs generalizing ks vals with
  | nil => exact q ks vals hd (by simp) (by simp)
  | cons x xs ih =>
    rw [List.map_cons]
    unfold dcE
    have ih := fun (ks : List α) vals hl hd => @ih ks vals hl hd (fun y hy => h y (List.mem_cons_of_mem _ hy))
    have h0 := h x List.mem_cons_self (fun o => match o with
      | some (y, z) => ∃ k : Key, y = keyD k ∧ (ks.map enc).length < lim ∧ dcE vs mg mt mk mv (xs.map e) ρ (putKs (ks.map enc) y) (putVs (ks.map enc) vals y z) P
      | none => dcE vs mg mt mk mv (xs.map e) ρ (ks.map enc) vals P)
    refine h0 ?_
    cases e1 : f x with
    | none =>
      simp only [Option.map_none]
      refine ih ks vals (by simp at hl; omega) hd fun ks' vals' hnd hn hk => q ks' vals' hnd (by simp; omega) fun a => ?_
      rw [hk]
      simp [e1]
    | some p =>
      obtain ⟨a, d⟩ := p
      simp only [Option.map_some]
      obtain ⟨k, hk⟩ := hα a
      refine ⟨k, hk, by simp at hl ⊢; omega, ?_⟩
      rw [putKs_enc]
      refine ih _ _ (by split <;> simp at hl ⊢ <;> omega) (by
        split
        · exact hd
        · rename_i ha; exact List.nodup_append.mpr ⟨hd, by simp, fun a h b hb => by simp at hb; rintro rfl; exact ha (hb ▸ h)⟩) fun ks' vals' hnd hn hk => q ks' vals' hnd (by split at hn <;> simp at hn ⊢ <;> omega) fun b => ?_
      rw [hk]
      simp only [List.mem_cons, exists_eq_or_imp, e1, Option.some.injEq, Prod.mk.injEq]
      split
      · rename_i ha
        constructor
        · rintro (h | h)
          · exact .inl h
          · exact .inr (.inr h)
        · rintro (h | ⟨d', rfl, _⟩ | h)
          · exact .inl h
          · exact .inl ha
          · exact .inr h
      · rename_i ha
        simp only [List.mem_append, List.mem_singleton]
        constructor
        · rintro ((h | rfl) | h)
          · exact .inl h
          · exact .inr (.inl ⟨d, rfl, rfl⟩)
          · exact .inr (.inr h)
        · rintro (h | ⟨d', rfl, _⟩ | h)
          · exact .inl (.inl h)
          · exact .inl (.inr rfl)
          · exact .inr h
/-- a dict comprehension of two clauses: the keys -/
theorem dc2E_put {α β : Type} [Dt α] (e : β → D) (f : β → List α) (c : Nat) {xs : List β} {ks : List α} {vals : List D} {P : List D → List D → Prop} (hl : ks.length + xs.length * c < 16777216) (hd : ks.Nodup)
    (h : ∀ x ∈ xs, ∀ (ks : List α) (vals : List D) (R : List D → List D → Prop), ks.Nodup → ks.length + c < 16777216 → (∀ (ks' : List α) (vals' : List D), ks'.Nodup → ks'.length ≤ ks.length + c → (∀ a, a ∈ ks' ↔ a ∈ ks ∨ a ∈ f x) → R (ks'.map enc) vals') →
      mg (e x) (wipeE ρ vs) fun ρ1 => mt ρ1 (fun b => if b = true then mi1 ρ1 (fun es => dcE vs1 mg1 mt1 mk mv es ρ1 (ks.map enc) vals R) (fun _ => False) else R (ks.map enc) vals) (fun _ => False))
    (q : ∀ (ks' : List α) (vals' : List D), ks'.Nodup → ks'.length ≤ ks.length + xs.length * c → (∀ a, a ∈ ks' ↔ a ∈ ks ∨ ∃ x ∈ xs, a ∈ f x) → P (ks'.map enc) vals') : dc2E vs vs1 mg mt mi1 mg1 mt1 mk mv (xs.map e) ρ (ks.map enc) vals P := by
  induction xs generalizing ks vals with
  | nil => exact q ks vals hd (by simp) (by simp)
  | cons x xs ih =>
    rw [List.map_cons]
    unfold dc2E
    rw [List.length_cons, Nat.succ_mul] at hl
    refine h x List.mem_cons_self ks vals _ hd (by omega) fun ks' vals' hnd hn hk => ?_
    refine ih (by omega) hnd (fun y hy => h y (List.mem_cons_of_mem _ hy)) fun ks2 vals2 hnd2 hn2 hk2 => ?_
    refine q ks2 vals2 hnd2 (by rw [List.length_cons, Nat.succ_mul]; omega) fun a => ?_
    rw [hk2, hk]
    simp only [List.mem_cons, exists_eq_or_imp, or_assoc]
end
end Ev

/-! Pl9: min and max of a list; integers or None. -/
namespace Ev
open PySem PySem.Spec L2
open PyProof.Rows hiding St
open Dt (enc)
/-- kinds of data that are no lists -/
class At (α : Type) [Dt α] : Prop where
  atom : ∀ a : α, atomD (enc a) = true
  non : ∀ a : α, Dt.pd a ≠ .none
instance : At Int := ⟨fun _ => rfl, fun _ h => by cases h⟩
instance : At Str := ⟨fun _ => rfl, fun _ h => by cases h⟩
instance : At Bool := ⟨fun _ => rfl, fun _ h => by cases h⟩
instance {α : Type} [Dt α] : At (List α) := ⟨fun _ => rfl, fun _ h => by cases h⟩
instance {α β : Type} [Dt α] [Dt β] : At (α × β) := ⟨fun _ => rfl, fun _ h => by cases h⟩
instance {α β γ : Type} [Dt α] [Dt β] [Dt γ] : At (T3 α β γ) := ⟨fun _ => rfl, fun _ h => by cases h⟩
section
variable {α : Type} [Dt α] [At α] {xs : List α} {a : α} {Q : D → Prop}
theorem canCmp_enc (hd : Dt.dep α ≤ 64) (h : xs ≠ []) : CanCmp (xs.map enc) := by
  have e : (xs.map enc).map encD = xs.map Dt.pd := by
    rw [List.map_map]
    exact List.map_congr_left fun a _ => encD_enc
  refine ⟨fun e => h (List.map_eq_nil_iff.mp e), ⟨_, toPDs_encs xs⟩, ?_, ?_⟩
  · rw [e]
    refine ⟨fun d hd d' hd' => ?_, fun d hd => ?_⟩
    · obtain ⟨a, _, rfl⟩ := List.mem_map.mp hd
      obtain ⟨b, _, rfl⟩ := List.mem_map.mp hd'
      exact Dt.hal a b
    · obtain ⟨a, _, rfl⟩ := List.mem_map.mp hd
      exact At.non a
  · intro d h
    obtain ⟨a, _, rfl⟩ := List.mem_map.mp h
    rw [encD_enc]
    exact ⟨Nat.le_trans (Dt.hdep a) hd, At.atom a⟩
theorem min_enc (hd : Dt.dep α ≤ 64) (ha : a ∈ xs) (hl : ∀ b ∈ xs, leK a b = true) (t : D) (ht : t = .lst (xs.map enc) ∨ t = .tup (xs.map enc)) : rMinS [t] Q = Q (enc a) := by
  refine propext ⟨fun ⟨ys, e, _, h⟩ => ?_, fun h => ⟨xs.map enc, by rcases ht with rfl | rfl <;> simp, canCmp_enc hd (List.ne_nil_of_mem ha), fun d hd1 h2 => ?_⟩⟩
  · have : ys = xs.map enc := by
      rcases ht with rfl | rfl
      · rcases e with e | e <;> cases e; rfl
      · rcases e with e | e <;> cases e; rfl
    subst this
    refine h _ (List.mem_map.mpr ⟨a, ha, rfl⟩) fun d hd => ?_
    obtain ⟨b, hb, rfl⟩ := List.mem_map.mp hd
    exact hl b hb
  · obtain ⟨b, hb, rfl⟩ := List.mem_map.mp hd1
    have e : b = a := leK_anti (h2 _ (List.mem_map.mpr ⟨a, ha, rfl⟩)) (hl b hb)
    rw [e]
    exact h
theorem max_enc (hd : Dt.dep α ≤ 64) (ha : a ∈ xs) (hl : ∀ b ∈ xs, leK b a = true) (t : D) (ht : t = .lst (xs.map enc) ∨ t = .tup (xs.map enc)) : rMaxS [t] Q = Q (enc a) := by
  refine propext ⟨fun ⟨ys, e, _, h⟩ => ?_, fun h => ⟨xs.map enc, by rcases ht with rfl | rfl <;> simp, canCmp_enc hd (List.ne_nil_of_mem ha), fun d hd1 h2 => ?_⟩⟩
  · have : ys = xs.map enc := by
      rcases ht with rfl | rfl
      · rcases e with e | e <;> cases e; rfl
      · rcases e with e | e <;> cases e; rfl
    subst this
    refine h _ (List.mem_map.mpr ⟨a, ha, rfl⟩) fun d hd => ?_
    obtain ⟨b, hb, rfl⟩ := List.mem_map.mp hd
    exact hl b hb
  · obtain ⟨b, hb, rfl⟩ := List.mem_map.mp hd1
    have e : b = a := leK_anti (hl b hb) (h2 _ (List.mem_map.mpr ⟨a, ha, rfl⟩))
    rw [e]
    exact h
/-- the least, the greatest one -/
def minK (xs : List α) : Option α := (sortK xs).head?
def maxK (xs : List α) : Option α := (sortK xs).getLast?
omit [At α] in
theorem minK_some : minK xs = some a ↔ a ∈ xs ∧ ∀ b ∈ xs, leK a b = true := by
  have key : ∀ a, minK xs = some a → a ∈ xs ∧ ∀ b ∈ xs, leK a b = true := fun a h => by
    unfold minK at h
    have p := sortK_pairwise (xs := xs)
    have m := fun b => sortK_mem (xs := xs) (a := b)
    cases e : sortK xs with
    | nil => rw [e] at h; cases h
    | cons y ys =>
      rw [e] at h p
      cases h
      refine ⟨(m a).mp (by rw [e]; simp), fun b hb => ?_⟩
      have := (m b).mpr hb
      rw [e] at this
      rcases List.mem_cons.mp this with rfl | h
      · exact leK_refl
      · exact (List.pairwise_cons.mp p).1 b h
  refine ⟨key a, fun ⟨h1, h2⟩ => ?_⟩
  cases e : minK xs with
  | none =>
    unfold minK at e
    have := sortK_mem.mpr h1
    rw [List.head?_eq_none_iff] at e
    rw [e] at this
    cases this
  | some b =>
    obtain ⟨q1, q2⟩ := key b e
    rw [leK_anti (q2 a h1) (h2 b q1)]
omit [At α] in
theorem maxK_some : maxK xs = some a ↔ a ∈ xs ∧ ∀ b ∈ xs, leK b a = true := by
  have key : ∀ a, maxK xs = some a → a ∈ xs ∧ ∀ b ∈ xs, leK b a = true := fun a h => by
    unfold maxK at h
    have p := sortK_pairwise (xs := xs)
    have m := fun b => sortK_mem (xs := xs) (a := b)
    obtain ⟨ys, e⟩ := List.getLast?_eq_some_iff.mp h
    rw [e] at p
    refine ⟨(m a).mp (by rw [e]; simp), fun b hb => ?_⟩
    have := (m b).mpr hb
    rw [e] at this
    rcases List.mem_append.mp this with h | h
    · exact (List.pairwise_append.mp p).2.2 b h a (by simp)
    · have : b = a := by simpa using h
      rw [this]; exact leK_refl
  refine ⟨key a, fun ⟨h1, h2⟩ => ?_⟩
  cases e : maxK xs with
  | none =>
    unfold maxK at e
    have := sortK_mem.mpr h1
    rw [List.getLast?_eq_none_iff] at e
    rw [e] at this
    cases this
  | some b =>
    obtain ⟨q1, q2⟩ := key b e
    rw [leK_anti (h2 b q1) (q2 a h1)]
omit [At α] in
theorem minK_none : minK xs = none ↔ xs = [] := by
  unfold minK
  rw [List.head?_eq_none_iff, ← List.length_eq_zero_iff, sortK_length, List.length_eq_zero_iff]
omit [At α] in
theorem maxK_none : maxK xs = none ↔ xs = [] := by
  unfold maxK
  rw [List.getLast?_eq_none_iff, ← List.length_eq_zero_iff, sortK_length, List.length_eq_zero_iff]
end
theorem minI_some {xs : List Int} {a : Int} : minK xs = some a ↔ a ∈ xs ∧ ∀ b ∈ xs, a ≤ b := by
  rw [minK_some]; simp [leK_int]
theorem maxI_some {xs : List Int} {a : Int} : maxK xs = some a ↔ a ∈ xs ∧ ∀ b ∈ xs, b ≤ a := by
  rw [maxK_some]; simp [leK_int]
/-- an integer or None -/
def oI : Option Int → D
  | none => .non
  | some i => .int i
@[simp] theorem oI_none : oI none = .non := rfl
@[simp] theorem oI_some {i : Int} : oI (some i) = .int i := rfl
section
variable {Q : D → Prop} {xs : List Int}
theorem min_int (h : xs ≠ []) : rMinS [.lst (xs.map D.int)] Q = Q (oI (minK xs)) := by
  cases e : minK xs with
  | none => exact absurd (minK_none.mp e) h
  | some a =>
    obtain ⟨h1, h2⟩ := minK_some.mp e
    exact min_enc (by decide) h1 h2 _ (.inl rfl)
theorem max_int (h : xs ≠ []) : rMaxS [.lst (xs.map D.int)] Q = Q (oI (maxK xs)) := by
  cases e : maxK xs with
  | none => exact absurd (maxK_none.mp e) h
  | some a =>
    obtain ⟨h1, h2⟩ := maxK_some.mp e
    exact max_enc (by decide) h1 h2 _ (.inl rfl)
/-- max(xs) if xs else None -/
theorem maxIf_int : (if xs.map D.int ≠ [] then rMaxS [.lst (xs.map D.int)] Q else Q .non) = Q (oI (maxK xs)) := by
  by_cases h : xs = []
  · subst h; simp [show maxK ([] : List Int) = none from maxK_none.mpr rfl]
  · rw [if_pos (by simpa using h), max_int h]
theorem minIf_int : (if xs.map D.int ≠ [] then rMinS [.lst (xs.map D.int)] Q else Q .non) = Q (oI (minK xs)) := by
  by_cases h : xs = []
  · subst h; simp [show minK ([] : List Int) = none from minK_none.mpr rfl]
  · rw [if_pos (by simpa using h), min_int h]
end
theorem maxIf_of {Q : D → Prop} {xs : List Int} [Decidable (xs = [])] (h : Q (oI (maxK xs))) : if xs = [] then Q .non else rMaxS [.lst (xs.map D.int)] Q := by
  split
  · rename_i e; subst e; rw [show maxK ([] : List Int) = none from maxK_none.mpr rfl] at h; exact h
  · rename_i e; rw [max_int e]; exact h
theorem minIf_of {Q : D → Prop} {xs : List Int} [Decidable (xs = [])] (h : Q (oI (minK xs))) : if xs = [] then Q .non else rMinS [.lst (xs.map D.int)] Q := by
  split
  · rename_i e; subst e; rw [show minK ([] : List Int) = none from minK_none.mpr rfl] at h; exact h
  · rename_i e; rw [min_int e]; exact h
/-! ### is None -/
@[simp] theorem dIs_nn : dIs .non .non = some (.bl true) := rfl
@[simp] theorem dIs_in {i : Int} : dIs (.int i) .non = some (.bl false) := rfl
@[simp] theorem dIs_bn {b : Bool} : dIs (.bl b) .non = some (.bl false) := rfl
@[simp] theorem dIs_sn {s : Str} : dIs (.str s) .non = some (.bl false) := rfl
@[simp] theorem dIs_tn {ds : List D} : dIs (.tup ds) .non = some (.bl false) := rfl
@[simp] theorem dIs_ln {ds : List D} : dIs (.lst ds) .non = some (.bl false) := rfl
@[simp] theorem dIsNot_nn : dIsNot .non .non = some (.bl false) := rfl
@[simp] theorem dIsNot_in {i : Int} : dIsNot (.int i) .non = some (.bl true) := rfl
@[simp] theorem dIsNot_bn {b : Bool} : dIsNot (.bl b) .non = some (.bl true) := rfl
@[simp] theorem dIsNot_sn {s : Str} : dIsNot (.str s) .non = some (.bl true) := rfl
@[simp] theorem dIsNot_tn {ds : List D} : dIsNot (.tup ds) .non = some (.bl true) := rfl
@[simp] theorem dIsNot_ln {ds : List D} : dIsNot (.lst ds) .non = some (.bl true) := rfl
@[simp] theorem dIs_bb {a b : Bool} : dIs (.bl a) (.bl b) = some (.bl (decide (a = b))) := rfl
@[simp] theorem dIsNot_bb {a b : Bool} : dIsNot (.bl a) (.bl b) = some (.bl (!decide (a = b))) := rfl
@[simp] theorem dIs_oI {o : Option Int} : dIs (oI o) .non = some (.bl o.isNone) := by cases o <;> rfl
@[simp] theorem dIsNot_oI {o : Option Int} : dIsNot (oI o) .non = some (.bl o.isSome) := by cases o <;> rfl
end Ev

/-! PlA: simp rules of the later terms. -/
namespace Ev
open PySem PySem.Spec L2
open PyProof.Rows hiding St
open Dt (enc)
variable [Tbl]
section
variable {ρ : EnvD} {Q : D → Prop} {E : Exc → Prop} {md mk mx me me2 : ME} {nx bk ct : EnvD → Prop} {rt : D → Prop} {ex : Exc → Prop} {ds : List D} {zs : List Str} {neg : Bool} {z nm f f2 : Str} {b : Bool}
@[simp] theorem s_mGet1 : mGet1 md mk ρ Q E = md ρ (fun d => isDct d = true ∧ mk ρ (fun k => Opt (dGetD d k .non) Q) E) E := rfl
@[simp] theorem s_mGet2 : mGet2 md mk mx ρ Q E = md ρ (fun d => isDct d = true ∧ mk ρ (fun k => mx ρ (fun x => Opt (dGetD d k x) Q) E) E) E := rfl
@[simp] theorem isDct_dct {ks vs : List D} : isDct (.dct ks vs) = true := rfl
@[simp] theorem s_mInG : mInG zs neg me ρ Q E = me ρ (fun d => Opt (inData d (zs.map D.str)) fun b => Q (.bl (b ^^ neg))) E := rfl
@[simp] theorem s_mDisp1 : mDisp1 z me ρ Q E = me ρ (fun d => Q (.dct [.str z] [d])) E := rfl
@[simp] theorem s_mTryRet : mTryRet nm b me ρ ⟨nx, rt, bk, ct, ex⟩ = me (frzE (fun _ => true) ρ) rt (fun x => x.cls = nm ∧ rt (.bl b)) := rfl
@[simp] theorem s_mRaise2 : mRaise2 nm f f2 me me2 ρ ⟨nx, rt, bk, ct, ex⟩ = me (frzE (fun _ => true) ρ) (fun d => me2 (frzE (fun _ => true) ρ) (fun d2 => ex ⟨nm, [(f, d), (f2, d2)]⟩) ex) ex := rfl
@[simp] theorem dRev_tup : dRev (.tup ds) = some (.tup ds.reverse) := rfl
@[simp] theorem dRev_lst : dRev (.lst ds) = some (.lst ds.reverse) := rfl
end
end Ev

/-! PlB: simp rules of the later terms. -/
namespace Ev
open PySem PySem.Spec L2
open PyProof.Rows hiding St
open Dt (enc)
variable [Tbl]
section
variable {ρ : EnvD} {Q : D → Prop} {E : Exc → Prop} {a b : ME}
@[simp] theorem s_mTupZip : mTupZip a b ρ Q E = a ρ (fun x => b ρ (fun y => Opt (seqD x) fun as => Opt (seqD y) fun bs => Q (.tup (zipD as bs))) E) E := rfl
@[simp] theorem dSl_tup {ds : List D} {lo hi : Option Int} : dSl lo hi (.tup ds) = some (.tup (cutL ds lo hi)) := rfl
@[simp] theorem dSl_lst {ds : List D} {lo hi : Option Int} : dSl lo hi (.lst ds) = some (.lst (cutL ds lo hi)) := rfl
theorem dMul_one {d : D} {n : Nat} (h : n ≤ 1000) : dMul (.tup [d]) (.int (n : Int)) = some (.tup (List.replicate n d)) := by
  show (if _ then _ else _) = _
  rw [if_pos ⟨by omega, by omega, by simp⟩]
  rw [Int.toNat_natCast]
  congr 2
  induction n with
  | zero => rfl
  | succ n ih => rw [List.replicate_succ, List.flatten_cons, ih (by omega), List.replicate_succ]; rfl
theorem cutL_map {α β : Type} {f : α → β} {xs : List α} {lo hi : Option Int} : cutL (xs.map f) lo hi = (cutL xs lo hi).map f := by
  unfold cutL
  rw [List.length_map, ← List.map_drop, ← List.map_take]
theorem cutL_mem {α : Type} {xs : List α} {lo hi : Option Int} {x : α} (h : x ∈ cutL xs lo hi) : x ∈ xs := by
  unfold cutL at h
  exact List.mem_of_mem_drop (List.mem_of_mem_take h)
theorem dMul_tup {ds : List D} {b : Int} : dMul (.tup ds) (.int b) = if -(2 ^ 63) ≤ b ∧ b ≤ 1000 ∧ ds.length ≤ 1000 then some (.tup (List.replicate b.toNat ds).flatten) else none := rfl
@[simp] theorem s_mAsked {nm fld : Str} : mAsked nm fld a ρ Q E = a ρ Q (fun x => HeardX nm fld x Q) := rfl
@[simp] theorem s_mTryAs2 {nm f g : Str} {nx bk ct : EnvD → Prop} {rt : D → Prop} {ex : Exc → Prop} : mTryAs2 nm f g a ρ ⟨nx, rt, bk, ct, ex⟩ = a (frzE (fun _ => true) ρ) rt (fun x => x.cls = nm ∧ ∃ d1 d2, x.fields = [(f, d1), (g, d2)] ∧ rt (.tup [d1, d2])) := rfl
@[simp] theorem bSum_tup {ns : List Int} : bSum [.tup (ns.map .int)] = some (.int ns.sum) := by show (intsD _).map _ = _; rw [intsD_map]; rfl
@[simp] theorem dIs_ib {i : Int} {p : Bool} : dIs (.int i) (.bl p) = some (.bl false) := rfl
@[simp] theorem dIs_nb {p : Bool} : dIs .non (.bl p) = some (.bl false) := rfl
@[simp] theorem dIsNot_ib {i : Int} {p : Bool} : dIsNot (.int i) (.bl p) = some (.bl true) := rfl
@[simp] theorem dIsNot_nb {p : Bool} : dIsNot .non (.bl p) = some (.bl true) := rfl
@[simp] theorem s_mNo : mNo ρ Q E = False := rfl
end
end Ev

namespace Lw
open PySem PySem.Spec L2 Ev
open Dt (enc)
variable [Tbl]
abbrev N__law_take : List Str := ["bag", "many", "cell", "stirred", "value", "begin", "second"]
def m__law_take : MS := (mSeq (mIf (mOfBl (mBin dEq (mBag 0 0) (mC (.int 0)))) (mSeq (mSetV 2 (mIx (mBin dAdd (mSl (mBagL 0) (mPart (mBag 0 2)) mNoPart) (mLst (mCons (mC (.int 0)) mNil))) (mC (.int 0)))) (mSeq (mBagInc 0) (mSeq (mIf (mOfBl (mBin dGe (mVar 2) (mBin dPow (mC (.int 10)) (mC (.int 18))))) (mBagSet 0 0 (mKp 2)) mSkip) (mSeq (mSetV 3 (mBin dAdd (mBin dAdd (mBin dMul (mBag 0 1) (mC (.int 48271))) (mBin dMod (mBlt bInt (mCons (mVar 2) mNil)) (mC (.int 2147483647)))) (mBin dMul (mC (.int 7919)) (mBag 0 2)))) (mBagSet 0 1 (mBin dMod (mBlt bInt (mCons (mVar 3) mNil)) (mC (.int 2147483647)))))))) mSkip) (mSeq (mIf (mOfBl (mBin dGt (mBag 0 0) (mC (.int 0)))) (mSeq (mSetV 4 (mBin dMod (mBlt bInt (mCons (mBag 0 0) mNil)) (mVar 1))) (mSeq (mBagSet 0 0 (mBin dDiv (mBlt bInt (mCons (mBag 0 0) mNil)) (mVar 1))) (mRet (mKp 4)))) mSkip) (mSeq (mSetV 5 (mBin dMod (mBlt bInt (mCons (mBin dMul (mBin dAdd (mBag 0 1) (mC (.int 1))) (mC (.int 39373))) mNil)) (mC (.int 1000000007)))) (mSeq (mSetV 6 (mBin dMod (mBlt bInt (mCons (mBin dMul (mBin dMod (mBlt bInt (mCons (mBin dMul (mVar 5) (mVar 5)) mNil)) (mC (.int 998244353))) (mC (.int 30011))) mNil)) (mC (.int 998244353)))) (mRet (mBin dMod (mBlt bInt (mCons (mBin dDiv (mVar 6) (mC (.int 7))) mNil)) (mVar 1)))))))
def S__law_take : FS := fun ds Q E => ds.length = 2 ∧ m__law_take (startE N__law_take ds) (endsE Q E)
theorem u__law_take {a0 a1 : D} {Q : D → Prop} {E : Exc → Prop} : S__law_take [a0, a1] Q E = m__law_take [some (.val a0), some (.val a1), none, none, none, none, none] ⟨fun _ => Q .non, Q, fun _ => False, fun _ => False, E⟩ := propext ⟨fun h => h.2, fun h => ⟨rfl, h⟩⟩
abbrev N__law_mixed : List Str := ["bag", "things", "left", "found"]
def b1__law_mixed : MS := (mAppPop 3 2 (mCall S__law_take (nName 0 (nCons (mBlt bLen (mCons (mVar 2) mNil)) nNil))))
def m__law_mixed : MS := (mSeq (mPar [2, 3] (fFr (mBlt bList (mCons (mVar 1) mNil)) (fFr (mLst mNil) fNil))) (mSeq (mWhile (mOfBl (mBin dNe (mVar 2) (mLst mNil))) b1__law_mixed) (mRet (mKp 3))))
def S__law_mixed : FS := fun ds Q E => ds.length = 2 ∧ m__law_mixed (startE N__law_mixed ds) (endsE Q E)
theorem u__law_mixed {a0 a1 : D} {Q : D → Prop} {E : Exc → Prop} : S__law_mixed [a0, a1] Q E = m__law_mixed [some (.val a0), some (.val a1), none, none] ⟨fun _ => Q .non, Q, fun _ => False, fun _ => False, E⟩ := propext ⟨fun h => h.2, fun h => ⟨rfl, h⟩⟩
abbrev N__law_staff : List Str := ["day", "hands", "found", "unit", "longer", "some", "crew"]
def b1__law_staff : MS := (mExtend 4 (mCons (mLc [6] (mRng1 (mCons (mBlt bLen (mCons (mVar 1) mNil)) mNil)) (gN 6) (mAndT (mOfBl (mBin dNotIn (mVar 6) (mVar 5))) (mOfBl (mBin dIn (mVar 3) (mIx (mVar 1) (mVar 6))))) (mBin dAdd (mVar 5) (mTup (mCons (mKp 6) mNil)))) mNil))
def b2__law_staff : MS := (mSeq (mSet 4 (mLst mNil)) (mSeq (mFor (fun _ => false) (mSeqI (mKp 2)) (gN 5) b1__law_staff) (mMove 2 4)))
def m__law_staff : MS := (mSeq (mSetV 2 (mLst (mCons (mTup mNil) mNil))) (mSeq (mFor (fun _ => false) (mSeqI (mKp 0)) (gN 3) b2__law_staff) (mRet (mIfE (mOfBl (mBin dNe (mVar 2) (mLst mNil))) (mBltR rMinS (mCons (mVar 2) mNil)) (mC .non)))))
def S__law_staff : FS := fun ds Q E => ds.length = 2 ∧ m__law_staff (startE N__law_staff ds) (endsE Q E)
theorem u__law_staff {a0 a1 : D} {Q : D → Prop} {E : Exc → Prop} : S__law_staff [a0, a1] Q E = m__law_staff [some (.val a0), some (.val a1), none, none, none, none, none] ⟨fun _ => Q .non, Q, fun _ => False, fun _ => False, E⟩ := propext ⟨fun h => h.2, fun h => ⟨rfl, h⟩⟩
abbrev N__law_stuck : List Str := ["day", "hands", "lots", "unit", "lot", "bad", "able_v", "hand"]
def b1__law_stuck : MS := (mSetV 2 (mBin dAdd (mVar 2) (mLc [4] (mSeqI (mVar 2)) (gN 4) mYes (mBin dAdd (mVar 4) (mTup (mCons (mKp 3) mNil))))))
def b2__law_stuck : MS := (mSeq (mSetV 6 (mBlt bLen (mCons (mLc [7] (mSeqI (mVar 1)) (gN 7) (mOfBl (mBin dNe (mLc [3] (mSeqI (mVar 4)) (gN 3) (mOfBl (mBin dIn (mVar 3) (mVar 7))) (mC (.int 1))) (mLst mNil))) (mC (.int 1))) mNil))) (mSetV 5 (mBin dAdd (mVar 5) (mBin dMul (mLst (mCons (mTup (mCons (mBlt bLen (mCons (mVar 4) mNil)) (mCons (mKp 4) mNil))) mNil)) (mBlt bInt (mCons (mBin dLt (mVar 6) (mBlt bLen (mCons (mVar 4) mNil))) mNil))))))
def m__law_stuck : MS := (mSeq (mSetV 2 (mLst (mCons (mTup mNil) mNil))) (mSeq (mFor (fun _ => false) (mSeqI (mKp 0)) (gN 3) b1__law_stuck) (mSeq (mSetV 5 (mLst mNil)) (mSeq (mFor (fun _ => false) (mSeqI (mKp 2)) (gN 4) b2__law_stuck) (mRet (mIfE (mOfBl (mBin dNe (mVar 5) (mLst mNil))) (mIx (mBltR rMinS (mCons (mVar 5) mNil)) (mC (.int 1))) (mC .non)))))))
def S__law_stuck : FS := fun ds Q E => ds.length = 2 ∧ m__law_stuck (startE N__law_stuck ds) (endsE Q E)
theorem u__law_stuck {a0 a1 : D} {Q : D → Prop} {E : Exc → Prop} : S__law_stuck [a0, a1] Q E = m__law_stuck [some (.val a0), some (.val a1), none, none, none, none, none, none] ⟨fun _ => Q .non, Q, fun _ => False, fun _ => False, E⟩ := propext ⟨fun h => h.2, fun h => ⟨rfl, h⟩⟩
abbrev N__law_alike : List Str := ["found", "due", "pairs", "at", "one", "other"]
def b1__law_alike : MS := (mSeq (mAsg (gTupD 2 (gConsD (gN 4) (gConsD (gN 5) gNilD))) (mIx (mVar 2) (mVar 3))) (mSeq (mAug 3 dAddI (mC (.int 1))) (mSeq (mIf (mOrT (mOfBl (mBin dNe (mIs .bool (mVar 4)) (mIs .bool (mVar 5)))) (mOfBl (mBin dNe (mIs .str (mVar 4)) (mIs .str (mVar 5))))) (mRet (mC (.bl false))) mSkip) (mSeq (mIf (mOfBl (mBin dNe (mIs2 .tuple .list (mVar 4)) (mIs2 .tuple .list (mVar 5)))) (mRet (mC (.bl false))) mSkip) (mIf (mTru (mIs2 .tuple .list (mVar 4))) (mSeq (mIf (mOrT (mOfBl (mBin dNe (mIs .tuple (mVar 4)) (mIs .tuple (mVar 5)))) (mOfBl (mBin dNe (mBlt bLen (mCons (mVar 4) mNil)) (mBlt bLen (mCons (mVar 5) mNil))))) (mRet (mC (.bl false))) mSkip) (mExtend 2 (mCons (mListZip (mKp 4) (mKp 5)) mNil))) (mIf (mOfBl (mBin dNe (mVar 4) (mVar 5))) (mRet (mC (.bl false))) mSkip))))))
def m__law_alike : MS := (mSeq (mPar [2, 3] (fFr (mLst (mCons (mTup (mCons (mKp 0) (mCons (mKp 1) mNil))) mNil)) (fVl (mC (.int 0)) fNil))) (mSeq (mWhile (mOfBl (mBin dLt (mVar 3) (mBlt bLen (mCons (mVar 2) mNil)))) b1__law_alike) (mRet (mC (.bl true)))))
def S__law_alike : FS := fun ds Q E => ds.length = 2 ∧ m__law_alike (startE N__law_alike ds) (endsE Q E)
theorem u__law_alike {a0 a1 : D} {Q : D → Prop} {E : Exc → Prop} : S__law_alike [a0, a1] Q E = m__law_alike [some (.val a0), some (.val a1), none, none, none, none] ⟨fun _ => Q .non, Q, fun _ => False, fun _ => False, E⟩ := propext ⟨fun h => h.2, fun h => ⟨rfl, h⟩⟩
abbrev N_lots_of : List Str := ["day", "found", "unit", "lot", "many"]
def b1_lots_of : MS := (mSetV 1 (mBin dAdd (mVar 1) (mLc [3] (mSeqI (mVar 1)) (gN 3) mYes (mTup (mStar (mVar 3) (mCons (mKp 2) mNil))))))
def m_lots_of : MS := (mSeq (mSetV 1 (mLst (mCons (mTup mNil) mNil))) (mSeq (mFor (fun _ => false) (mSeqI (mKp 0)) (gN 2) b1_lots_of) (mRet (mLc [4, 3] (mSeqI (mBltR rSorted (mCons (mLc [3] (mSeqI (mVar 1)) (gN 3) mYes (mTup (mCons (mBlt bLen (mCons (mVar 3) mNil)) (mCons (mKp 3) mNil)))) mNil))) (gTupD 2 (gConsD (gN 4) (gConsD (gN 3) gNilD))) mYes (mKp 3)))))
def S_lots_of : FS := fun ds Q E => ds.length = 1 ∧ m_lots_of (startE N_lots_of ds) (endsE Q E)
theorem u_lots_of {a0 : D} {Q : D → Prop} {E : Exc → Prop} : S_lots_of [a0] Q E = m_lots_of [some (.val a0), none, none, none, none] ⟨fun _ => Q .non, Q, fun _ => False, fun _ => False, E⟩ := propext ⟨fun h => h.2, fun h => ⟨rfl, h⟩⟩
abbrev N_able : List Str := ["hands", "unit", "crew", "some"]
def m_able : MS := (mRet (mLc [2, 3] (mEnum (mVar 0)) (gTupD 2 (gConsD (gN 2) (gConsD (gN 3) gNilD))) (mOfBl (mBin dIn (mVar 1) (mVar 3))) (mKp 2)))
def S_able : FS := fun ds Q E => ds.length = 2 ∧ m_able (startE N_able ds) (endsE Q E)
theorem u_able {a0 a1 : D} {Q : D → Prop} {E : Exc → Prop} : S_able [a0, a1] Q E = m_able [some (.val a0), some (.val a1), none, none] ⟨fun _ => Q .non, Q, fun _ => False, fun _ => False, E⟩ := propext ⟨fun h => h.2, fun h => ⟨rfl, h⟩⟩
abbrev N_short_lot : List Str := ["day", "hands", "lot", "crews", "unit", "crew"]
def b1_short_lot : MS := (mSeq (mSetV 3 (mDc2 [4, 5] [5] (mSeqI (mVar 2)) (gN 4) mYes (mSeqI (mCall S_able (nName 1 (nName 4 nNil)))) (gN 5) mYes (mKp 5) (mC (.bl true)))) (mIf (mOfBl (mBin dLt (mBlt bLen (mCons (mVar 3) mNil)) (mBlt bLen (mCons (mVar 2) mNil)))) (mRet (mKp 2)) mSkip))
def m_short_lot : MS := (mSeq (mFor (fun _ => false) (mSeqI (mCall S_lots_of (nName 0 nNil))) (gN 2) b1_short_lot) (mRet (mC .non)))
def S_short_lot : FS := fun ds Q E => ds.length = 2 ∧ m_short_lot (startE N_short_lot ds) (endsE Q E)
theorem u_short_lot {a0 a1 : D} {Q : D → Prop} {E : Exc → Prop} : S_short_lot [a0, a1] Q E = m_short_lot [some (.val a0), some (.val a1), none, none, none, none] ⟨fun _ => Q .non, Q, fun _ => False, fun _ => False, E⟩ := propext ⟨fun h => h.2, fun h => ⟨rfl, h⟩⟩
abbrev N_stuck_day : List Str := ["days", "hands", "some", "at", "day", "stuck", "lot"]
def m_stuck_day : MS := (mSeq (mSetV 2 (mLc [3, 4] (mEnum (mVar 0)) (gTupD 2 (gConsD (gN 3) (gConsD (gN 4) gNilD))) mYes (mTup (mCons (mKp 3) (mCons (mCall S_short_lot (nName 4 (nName 1 nNil))) mNil))))) (mSeq (mSetV 5 (mLc [3, 6] (mSeqI (mVar 2)) (gTupD 2 (gConsD (gN 3) (gConsD (gN 6) gNilD))) (mOfBl (mBin dIsNot (mVar 6) (mC .non))) (mTup (mCons (mKp 3) (mCons (mKp 6) mNil))))) (mRet (mIfE (mOfBl (mBin dNe (mVar 5) (mLst mNil))) (mIx (mVar 5) (mC (.int 0))) (mC .non)))))
def S_stuck_day : FS := fun ds Q E => ds.length = 2 ∧ m_stuck_day (startE N_stuck_day ds) (endsE Q E)
theorem u_stuck_day {a0 a1 : D} {Q : D → Prop} {E : Exc → Prop} : S_stuck_day [a0, a1] Q E = m_stuck_day [some (.val a0), some (.val a1), none, none, none, none, none] ⟨fun _ => Q .non, Q, fun _ => False, fun _ => False, E⟩ := propext ⟨fun h => h.2, fun h => ⟨rfl, h⟩⟩
abbrev N_staff_of : List Str := ["day", "hands", "found", "unit", "row", "crew"]
def b1_staff_of : MS := (mSetV 2 (mLc2 [4, 5] [5] (mSeqI (mVar 2)) (gN 4) mYes (mSeqI (mCall S_able (nName 1 (nName 3 nNil)))) (gN 5) (mOfBl (mBin dNotIn (mVar 5) (mVar 4))) (mTup (mStar (mVar 4) (mCons (mKp 5) mNil)))))
def m_staff_of : MS := (mSeq (mSetV 2 (mLst (mCons (mTup mNil) mNil))) (mSeq (mFor (fun _ => false) (mSeqI (mKp 0)) (gN 3) b1_staff_of) (mRet (mIfE (mOfBl (mBin dNe (mVar 2) (mLst mNil))) (mBltR rMinS (mCons (mVar 2) mNil)) (mC .non)))))
def S_staff_of : FS := fun ds Q E => ds.length = 2 ∧ m_staff_of (startE N_staff_of ds) (endsE Q E)
theorem u_staff_of {a0 a1 : D} {Q : D → Prop} {E : Exc → Prop} : S_staff_of [a0, a1] Q E = m_staff_of [some (.val a0), some (.val a1), none, none, none, none] ⟨fun _ => Q .non, Q, fun _ => False, fun _ => False, E⟩ := propext ⟨fun h => h.2, fun h => ⟨rfl, h⟩⟩
abbrev N_staffed : List Str := ["days", "hands", "found", "day"]
def m_staffed : MS := (mSeq (mSetV 2 (mBlt bTuple (mCons (mLc [3] (mSeqI (mVar 0)) (gN 3) mYes (mCall S_staff_of (nName 3 (nName 1 nNil)))) mNil))) (mRet (mIfE (mOfBl (mBin dIn (mC .non) (mVar 2))) (mC .non) (mKp 2))))
def S_staffed : FS := fun ds Q E => ds.length = 2 ∧ m_staffed (startE N_staffed ds) (endsE Q E)
theorem u_staffed {a0 a1 : D} {Q : D → Prop} {E : Exc → Prop} : S_staffed [a0, a1] Q E = m_staffed [some (.val a0), some (.val a1), none, none] ⟨fun _ => Q .non, Q, fun _ => False, fun _ => False, E⟩ := propext ⟨fun h => h.2, fun h => ⟨rfl, h⟩⟩
abbrev N_idle_days : List Str := ["days", "hands", "found", "row", "crew"]
def m_idle_days : MS := (mSeq (mSetV 2 (mCall S_staffed (nName 0 (nName 1 nNil)))) (mSeq (mIf (mOfBl (mBin dIs (mVar 2) (mC .non))) (mRaise "Refused" "why" (mC (.str "stuck"))) mSkip) (mRet (mBlt bTuple (mCons (mLc [4] (mRng1 (mCons (mBlt bLen (mCons (mVar 1) mNil)) mNil)) (gN 4) mYes (mBlt bLen (mCons (mLc [3] (mSeqI (mVar 2)) (gN 3) (mOfBl (mBin dNotIn (mVar 4) (mVar 3))) (mKp 3)) mNil))) mNil)))))
def S_idle_days : FS := fun ds Q E => ds.length = 2 ∧ m_idle_days (startE N_idle_days ds) (endsE Q E)
theorem u_idle_days {a0 a1 : D} {Q : D → Prop} {E : Exc → Prop} : S_idle_days [a0, a1] Q E = m_idle_days [some (.val a0), some (.val a1), none, none, none] ⟨fun _ => Q .non, Q, fun _ => False, fun _ => False, E⟩ := propext ⟨fun h => h.2, fun h => ⟨rfl, h⟩⟩
abbrev N__law_some : List Str := ["bag", "things"]
def m__law_some : MS := (mRet (mIx (mVar 1) (mCall S__law_take (nName 0 (nCons (mBlt bLen (mCons (mVar 1) mNil)) nNil)))))
def S__law_some : FS := fun ds Q E => ds.length = 2 ∧ m__law_some (startE N__law_some ds) (endsE Q E)
theorem u__law_some {a0 a1 : D} {Q : D → Prop} {E : Exc → Prop} : S__law_some [a0, a1] Q E = m__law_some [some (.val a0), some (.val a1)] ⟨fun _ => Q .non, Q, fun _ => False, fun _ => False, E⟩ := propext ⟨fun h => h.2, fun h => ⟨rfl, h⟩⟩
abbrev N__law_odd : List Str := ["bag", "some"]
def m__law_odd : MS := (mSeq (mSetV 1 (mLst (mCons (mC .non) (mCons (mC (.bl true)) (mCons (mC (.bl false)) (mCons (mC (.int 0)) (mCons (mUn dNeg (mC (.int 1))) (mCons (mC (.int 7)) (mCons (mBin dPow (mC (.int 10)) (mC (.int 30))) (mCons (mC (.str "")) (mCons (mC (.str "a")) (mCons (mC (.str "beat")) (mCons (mTup mNil) (mCons (mLst mNil) (mCons (mC (.dct [] [])) (mCons (mTup (mCons (mC (.int 0)) mNil)) (mCons (mTup (mCons (mTup mNil) mNil)) (mCons (mLst (mCons (mC (.int 1)) mNil)) (mCons (mDisp1 "a" (mC (.int 1))) (mCons (mTup (mCons (mTup (mCons (mC (.int 1)) (mCons (mC (.int 2)) mNil))) mNil)) (mCons (mTup (mCons (mC (.str "a")) (mCons (mC (.int 0)) mNil))) mNil))))))))))))))))))))) (mRet (mCall S__law_some (nName 0 (nName 1 nNil)))))
def S__law_odd : FS := fun ds Q E => ds.length = 1 ∧ m__law_odd (startE N__law_odd ds) (endsE Q E)
theorem u__law_odd {a0 : D} {Q : D → Prop} {E : Exc → Prop} : S__law_odd [a0] Q E = m__law_odd [some (.val a0), none] ⟨fun _ => Q .non, Q, fun _ => False, fun _ => False, E⟩ := propext ⟨fun h => h.2, fun h => ⟨rfl, h⟩⟩
abbrev N__law_bent : List Str := ["bag", "thing", "depth", "at", "longer"]
def m__law_bent (R : FS) : MS := (mSeq (mIf (mAndT (mTru (mIs .tuple (mVar 1))) (mAndT (mOfBl (mBin dNe (mVar 1) (mTup mNil))) (mAndT (mOfBl (mBin dGt (mVar 2) (mC (.int 0)))) (mOfBl (mBin dGt (mCall S__law_take (nName 0 (nCons (mC (.int 4)) nNil))) (mC (.int 0))))))) (mSeq (mSetV 3 (mCall S__law_take (nName 0 (nCons (mBlt bLen (mCons (mVar 1) mNil)) nNil)))) (mRet (mBin dAdd (mBin dAdd (mSl (mVar 1) mNoPart (mPart (mVar 3))) (mTup (mCons (mCall R (nName 0 (nCons (mIx (mVar 1) (mVar 3)) (nCons (mBin dSub (mVar 2) (mC (.int 1))) nNil)))) mNil))) (mSl (mVar 1) (mPart (mBin dAdd (mVar 3) (mC (.int 1)))) mNoPart)))) mSkip) (mSeq (mIf (mTru (mIs .bool (mVar 1))) (mRet (mCall S__law_some (nName 0 (nCons (mLst (mCons (mNotV (mVar 1)) (mCons (mBlt bInt (mCons (mVar 1) mNil)) (mCons (mC .non) mNil)))) nNil)))) mSkip) (mSeq (mIf (mTru (mIs .int (mVar 1))) (mRet (mCall S__law_some (nName 0 (nCons (mLst (mCons (mBin dAdd (mVar 1) (mC (.int 1))) (mCons (mBin dSub (mVar 1) (mC (.int 1))) (mCons (mUn dNeg (mVar 1)) (mCons (mBin dEq (mVar 1) (mC (.int 1))) (mCons (mTup (mCons (mKp 1) mNil)) (mCons (mBin dPow (mC (.int 10)) (mC (.int 30))) mNil))))))) nNil)))) mSkip) (mSeq (mIf (mAndT (mTru (mIs .tuple (mVar 1))) (mOfBl (mBin dNe (mVar 1) (mTup mNil)))) (mSeq (mSetV 3 (mCall S__law_take (nName 0 (nCons (mBlt bLen (mCons (mVar 1) mNil)) nNil)))) (mSeq (mSetV 4 (mBin dAdd (mBin dAdd (mSl (mVar 1) mNoPart (mPart (mVar 3))) (mTup (mCons (mIx (mVar 1) (mVar 3)) mNil))) (mSl (mVar 1) (mPart (mVar 3)) mNoPart))) (mRet (mCall S__law_some (nName 0 (nCons (mLst (mCons (mBlt bList (mCons (mVar 1) mNil)) (mCons (mBin dAdd (mSl (mVar 1) mNoPart (mPart (mVar 3))) (mSl (mVar 1) (mPart (mBin dAdd (mVar 3) (mC (.int 1)))) mNoPart)) (mCons (mKp 4) (mCons (mUn dRev (mVar 1)) (mCons (mCall S__law_odd (nName 0 nNil)) mNil)))))) nNil)))))) mSkip) (mRet (mCall S__law_odd (nName 0 nNil)))))))
def S__law_bent : Nat → FS
  | 0 => fun _ _ _ => False
  | k + 1 => fun ds Q E => ds.length = 3 ∧ m__law_bent (S__law_bent k) (startE N__law_bent ds) (endsE Q E)
theorem u__law_bent {k : Nat} {a0 a1 a2 : D} {Q : D → Prop} {E : Exc → Prop} : S__law_bent (k + 1) [a0, a1, a2] Q E = m__law_bent (S__law_bent k) [some (.val a0), some (.val a1), some (.val a2), none, none] ⟨fun _ => Q .non, Q, fun _ => False, fun _ => False, E⟩ := propext ⟨fun h => h.2, fun h => ⟨rfl, h⟩⟩
abbrev N__law_is_int : List Str := ["thing"]
def m__law_is_int : MS := (mRet (mAndV (mIs .int (mVar 0)) (mNotV (mIs .bool (mVar 0)))))
def S__law_is_int : FS := fun ds Q E => ds.length = 1 ∧ m__law_is_int (startE N__law_is_int ds) (endsE Q E)
theorem u__law_is_int {a0 : D} {Q : D → Prop} {E : Exc → Prop} : S__law_is_int [a0] Q E = m__law_is_int [some (.val a0)] ⟨fun _ => Q .non, Q, fun _ => False, fun _ => False, E⟩ := propext ⟨fun h => h.2, fun h => ⟨rfl, h⟩⟩
abbrev N__law_are_hands : List Str := ["thing", "hand", "one", "other"]
def b1__law_are_hands : MS := (mSeq (mIf (mOrT (mNotT (mTru (mIs .tuple (mVar 1)))) (mOfBl (mBin dNe (mLc [2] (mSeqI (mVar 1)) (gN 2) (mOrT (mNotT (mTru (mCall S__law_is_int (nName 2 nNil)))) (mNotT (mOfBl (mChain dLe dLe (mC (.int 0)) (mVar 2) (mC (.int 11)))))) (mC (.int 1))) (mLst mNil)))) (mRet (mC (.bl false))) mSkip) (mIf (mOfBl (mBin dNe (mLc [2, 3] (mZip (mVar 1) (mSl (mVar 1) (mPart (mC (.int 1))) mNoPart)) (gTupD 2 (gConsD (gN 2) (gConsD (gN 3) gNilD))) (mOfBl (mBin dGe (mVar 2) (mVar 3))) (mC (.int 1))) (mLst mNil))) (mRet (mC (.bl false))) mSkip))
def m__law_are_hands : MS := (mSeq (mIf (mOrT (mNotT (mTru (mIs .tuple (mVar 0)))) (mNotT (mOfBl (mChain dLe dLe (mC (.int 1)) (mBlt bLen (mCons (mVar 0) mNil)) (mC (.int 6)))))) (mRet (mC (.bl false))) mSkip) (mSeq (mFor (fun _ => false) (mSeqI (mKp 0)) (gN 1) b1__law_are_hands) (mRet (mC (.bl true)))))
def S__law_are_hands : FS := fun ds Q E => ds.length = 1 ∧ m__law_are_hands (startE N__law_are_hands ds) (endsE Q E)
theorem u__law_are_hands {a0 : D} {Q : D → Prop} {E : Exc → Prop} : S__law_are_hands [a0] Q E = m__law_are_hands [some (.val a0), none, none, none] ⟨fun _ => Q .non, Q, fun _ => False, fun _ => False, E⟩ := propext ⟨fun h => h.2, fun h => ⟨rfl, h⟩⟩
abbrev N_is_integer : List Str := ["thing"]
def m_is_integer : MS := (mRet (mAndV (mIs .int (mVar 0)) (mNotV (mIs .bool (mVar 0)))))
def S_is_integer : FS := fun ds Q E => ds.length = 1 ∧ m_is_integer (startE N_is_integer ds) (endsE Q E)
theorem u_is_integer {a0 : D} {Q : D → Prop} {E : Exc → Prop} : S_is_integer [a0] Q E = m_is_integer [some (.val a0)] ⟨fun _ => Q .non, Q, fun _ => False, fun _ => False, E⟩ := propext ⟨fun h => h.2, fun h => ⟨rfl, h⟩⟩
abbrev N_are_all__is_integer : List Str := ["thing", "fits", "member"]
def m_are_all__is_integer : MS := (mRet (mAndV (mIs .tuple (mVar 0)) (mBlt bAll (mCons (mLc [2] (mSeqI (mVar 0)) (gN 2) mYes (mCallL [("is_integer", S_is_integer)] 1 (nName 2 nNil))) mNil))))
def S_are_all__is_integer : FS := fun ds Q E => ds.length = 2 ∧ m_are_all__is_integer (startE N_are_all__is_integer ds) (endsE Q E)
theorem u_are_all__is_integer {a0 a1 : D} {Q : D → Prop} {E : Exc → Prop} : S_are_all__is_integer [a0, a1] Q E = m_are_all__is_integer [some (.val a0), some (.val a1), none] ⟨fun _ => Q .non, Q, fun _ => False, fun _ => False, E⟩ := propext ⟨fun h => h.2, fun h => ⟨rfl, h⟩⟩
abbrev N_are_integers : List Str := ["thing"]
def m_are_integers : MS := (mRet (mCall S_are_all__is_integer (nName 0 (nCons (mC (.fn "is_integer")) nNil))))
def S_are_integers : FS := fun ds Q E => ds.length = 1 ∧ m_are_integers (startE N_are_integers ds) (endsE Q E)
theorem u_are_integers {a0 : D} {Q : D → Prop} {E : Exc → Prop} : S_are_integers [a0] Q E = m_are_integers [some (.val a0)] ⟨fun _ => Q .non, Q, fun _ => False, fun _ => False, E⟩ := propext ⟨fun h => h.2, fun h => ⟨rfl, h⟩⟩
abbrev N_is_name : List Str := ["thing", "sign"]
def m_is_name : MS := (mSeq (mIf (mOrT (mNotT (mTru (mIs .str (mVar 0)))) (mOrT (mNotT (mOfBl (mChain dLe dLe (mC (.int 1)) (mBlt bLen (mCons (mVar 0) mNil)) (mC (.int 8))))) (mOfBl (mInG ["above", "all", "back", "below", "box", "close", "cut", "day", "dig", "find", "in", "kind", "last", "layer", "none", "of", "open", "out", "pit", "redo", "row", "to", "undo", "unit", "year"] false (mVar 0))))) (mRet (mC (.bl false))) mSkip) (mRet (mBlt bAll (mCons (mLc [1] (mSeqI (mVar 0)) (gN 1) mYes (mBin dIn (mVar 1) (mC (.str "abcdefghijklmnopqrstuvwxyz")))) mNil))))
def S_is_name : FS := fun ds Q E => ds.length = 1 ∧ m_is_name (startE N_is_name ds) (endsE Q E)
theorem u_is_name {a0 : D} {Q : D → Prop} {E : Exc → Prop} : S_is_name [a0] Q E = m_is_name [some (.val a0), none] ⟨fun _ => Q .non, Q, fun _ => False, fun _ => False, E⟩ := propext ⟨fun h => h.2, fun h => ⟨rfl, h⟩⟩
abbrev N_are_all__is_name : List Str := ["thing", "fits", "member"]
def m_are_all__is_name : MS := (mRet (mAndV (mIs .tuple (mVar 0)) (mBlt bAll (mCons (mLc [2] (mSeqI (mVar 0)) (gN 2) mYes (mCallL [("is_name", S_is_name)] 1 (nName 2 nNil))) mNil))))
def S_are_all__is_name : FS := fun ds Q E => ds.length = 2 ∧ m_are_all__is_name (startE N_are_all__is_name ds) (endsE Q E)
theorem u_are_all__is_name {a0 a1 : D} {Q : D → Prop} {E : Exc → Prop} : S_are_all__is_name [a0, a1] Q E = m_are_all__is_name [some (.val a0), some (.val a1), none] ⟨fun _ => Q .non, Q, fun _ => False, fun _ => False, E⟩ := propext ⟨fun h => h.2, fun h => ⟨rfl, h⟩⟩
abbrev N_are_names : List Str := ["thing"]
def m_are_names : MS := (mRet (mCall S_are_all__is_name (nName 0 (nCons (mC (.fn "is_name")) nNil))))
def S_are_names : FS := fun ds Q E => ds.length = 1 ∧ m_are_names (startE N_are_names ds) (endsE Q E)
theorem u_are_names {a0 : D} {Q : D → Prop} {E : Exc → Prop} : S_are_names [a0] Q E = m_are_names [some (.val a0)] ⟨fun _ => Q .non, Q, fun _ => False, fun _ => False, E⟩ := propext ⟨fun h => h.2, fun h => ⟨rfl, h⟩⟩
abbrev N_are_all__are_integers : List Str := ["thing", "fits", "member"]
def m_are_all__are_integers : MS := (mRet (mAndV (mIs .tuple (mVar 0)) (mBlt bAll (mCons (mLc [2] (mSeqI (mVar 0)) (gN 2) mYes (mCallL [("are_integers", S_are_integers)] 1 (nName 2 nNil))) mNil))))
def S_are_all__are_integers : FS := fun ds Q E => ds.length = 2 ∧ m_are_all__are_integers (startE N_are_all__are_integers ds) (endsE Q E)
theorem u_are_all__are_integers {a0 a1 : D} {Q : D → Prop} {E : Exc → Prop} : S_are_all__are_integers [a0, a1] Q E = m_are_all__are_integers [some (.val a0), some (.val a1), none] ⟨fun _ => Q .non, Q, fun _ => False, fun _ => False, E⟩ := propext ⟨fun h => h.2, fun h => ⟨rfl, h⟩⟩
abbrev N_do_rise : List Str := ["thing", "one", "other"]
def m_do_rise : MS := (mSeq (mIf (mAndT (mNotT (mTru (mCall S_are_integers (nName 0 nNil)))) (mAndT (mNotT (mTru (mCall S_are_names (nName 0 nNil)))) (mNotT (mTru (mCall S_are_all__are_integers (nName 0 (nCons (mC (.fn "are_integers")) nNil))))))) (mRet (mC (.bl false))) mSkip) (mRet (mBlt bAll (mCons (mLc [1, 2] (mZip (mVar 0) (mSl (mVar 0) (mPart (mC (.int 1))) mNoPart)) (gTupD 2 (gConsD (gN 1) (gConsD (gN 2) gNilD))) mYes (mBin dLt (mVar 1) (mVar 2))) mNil))))
def S_do_rise : FS := fun ds Q E => ds.length = 1 ∧ m_do_rise (startE N_do_rise ds) (endsE Q E)
theorem u_do_rise {a0 : D} {Q : D → Prop} {E : Exc → Prop} : S_do_rise [a0] Q E = m_do_rise [some (.val a0), none, none] ⟨fun _ => Q .non, Q, fun _ => False, fun _ => False, E⟩ := propext ⟨fun h => h.2, fun h => ⟨rfl, h⟩⟩
abbrev N_are_hands : List Str := ["thing", "some", "unit"]
def m_are_hands : MS := (mSeq (mIf (mOrT (mNotT (mTru (mIs .tuple (mVar 0)))) (mNotT (mOfBl (mChain dLe dLe (mC (.int 1)) (mBlt bLen (mCons (mVar 0) mNil)) (mC (.int 6)))))) (mRet (mC (.bl false))) mSkip) (mSeq (mIf (mNotT (mTru (mBlt bAll (mCons (mLc [1] (mSeqI (mVar 0)) (gN 1) mYes (mAndV (mCall S_are_integers (nName 1 nNil)) (mCall S_do_rise (nName 1 nNil)))) mNil)))) (mRet (mC (.bl false))) mSkip) (mRet (mBlt bAll (mCons (mLc2 [1, 2] [2] (mSeqI (mVar 0)) (gN 1) mYes (mSeqI (mKp 1)) (gN 2) mYes (mChain dLe dLe (mC (.int 0)) (mVar 2) (mC (.int 11)))) mNil)))))
def S_are_hands : FS := fun ds Q E => ds.length = 1 ∧ m_are_hands (startE N_are_hands ds) (endsE Q E)
theorem u_are_hands {a0 : D} {Q : D → Prop} {E : Exc → Prop} : S_are_hands [a0] Q E = m_are_hands [some (.val a0), none, none] ⟨fun _ => Q .non, Q, fun _ => False, fun _ => False, E⟩ := propext ⟨fun h => h.2, fun h => ⟨rfl, h⟩⟩
abbrev N_law : List Str := ["script", "bag", "turn", "units", "days", "at", "day", "more", "hands", "unit", "crew", "own", "bad", "due", "idle", "crews", "again", "thing", "bend"]
def b1_law : MS := (mSeq (mSetV 7 (mBin dAdd (mC (.int 1)) (mCall S__law_take (nName 1 (nCons (mC (.int 3)) nNil))))) (mSeq (mAppend 4 (mCons (mBlt bTuple (mCons (mBltR rSorted (mCons (mSl (mVar 3) (mPart (mVar 5)) (mPart (mBin dAdd (mVar 5) (mVar 7)))) mNil)) mNil)) mNil)) (mAug 5 dAddI (mVar 7))))
def b2_law : MS := (mSetV 17 (mCall (S__law_bent 6) (nName 1 (nName 17 (nCons (mC (.int 2)) nNil)))))
def b3_law : MS := (mSeq (mMove 17 8) (mSeq (mFor (fun _ => false) (mRng1 (mCons (mCall S__law_some (nName 1 (nCons (mLst (mCons (mC (.int 0)) (mCons (mC (.int 1)) (mCons (mC (.int 1)) mNil)))) nNil))) mNil)) (gN 18) b2_law) (mIf (mNotT (mTru (mCall S__law_alike (nCons (mCall S_are_hands (nName 17 nNil)) (nCons (mCall S__law_are_hands (nName 17 nNil)) nNil))))) (mRet (mC (.bl false))) mSkip)))
def b4_law : MS := (mSeq (mSetV 3 (mCall S__law_mixed (nName 1 (nCons (mLstRg (mRg1 (mC (.int 7)))) nNil)))) (mSeq (mPar [4, 5] (fFr (mLst mNil) (fVl (mC (.int 0)) fNil))) (mSeq (mFor (fun _ => false) (mRng1 (mCons (mBin dAdd (mC (.int 1)) (mCall S__law_take (nName 1 (nCons (mC (.int 4)) nNil)))) mNil)) (gN 6) b1_law) (mSeq (mSet 4 (mBlt bTuple (mCons (mLc [6] (mSeqI (mVar 4)) (gN 6) (mOfBl (mBin dNe (mVar 6) (mTup mNil))) (mKp 6)) mNil))) (mSeq (mSetV 8 (mBlt bTuple (mCons (mLc [10] (mRng1 (mCons (mBin dAdd (mC (.int 1)) (mCall S__law_take (nName 1 (nCons (mC (.int 3)) nNil)))) mNil)) (gN 10) mYes (mBlt bTuple (mCons (mLc [9] (mRng1 (mCons (mC (.int 7)) mNil)) (gN 9) (mOfBl (mBin dEq (mCall S__law_take (nName 1 (nCons (mC (.int 2)) nNil))) (mC (.int 0)))) (mKp 9)) mNil))) mNil))) (mSeq (mSetV 11 (mLc [6] (mSeqI (mVar 4)) (gN 6) mYes (mCall S__law_staff (nName 6 (nName 8 nNil))))) (mSeq (mSetV 12 (mLc [5, 6] (mEnum (mVar 4)) (gTupD 2 (gConsD (gN 5) (gConsD (gN 6) gNilD))) (mOfBl (mBin dIsNot (mCall S__law_stuck (nName 6 (nName 8 nNil))) (mC .non))) (mTup (mCons (mKp 5) (mCons (mCall S__law_stuck (nName 6 (nName 8 nNil))) mNil))))) (mSeq (mIf (mOfBl (mBin dNe (mBin dIn (mC .non) (mVar 11)) (mBin dNe (mVar 12) (mLst mNil)))) (mRet (mC (.bl false))) mSkip) (mSeq (mSetV 13 (mIfE (mOfBl (mBin dIn (mC .non) (mVar 11))) (mC .non) (mBlt bTuple (mCons (mVar 11) mNil)))) (mSeq (mIf (mNotT (mTru (mCall S__law_alike (nCons (mLst (mCons (mCall S_staffed (nName 4 (nName 8 nNil))) (mCons (mCall S_stuck_day (nName 4 (nName 8 nNil))) mNil))) (nCons (mLst (mCons (mKp 13) (mCons (mIfE (mOfBl (mBin dNe (mVar 12) (mLst mNil))) (mIx (mVar 12) (mC (.int 0))) (mC .non)) mNil))) nNil))))) (mRet (mC (.bl false))) mSkip) (mSeq (mIf (mOfBl (mBin dIs (mVar 13) (mC .non))) (mIf (mOfBl (mBin dNe (mAsked "Refused" "why" (mCall S_idle_days (nName 4 (nName 8 nNil)))) (mC (.str "stuck")))) (mRet (mC (.bl false))) mSkip) (mSeq (mSetV 14 (mBlt bTuple (mCons (mLc [10] (mRng1 (mCons (mBlt bLen (mCons (mVar 8) mNil)) mNil)) (gN 10) mYes (mBlt bLen (mCons (mLc [15] (mSeqI (mVar 13)) (gN 15) (mOfBl (mBin dNotIn (mVar 10) (mVar 15))) (mC (.int 1))) mNil))) mNil))) (mIf (mNotT (mTru (mCall S__law_alike (nCons (mCall S_idle_days (nName 4 (nName 8 nNil))) (nName 14 nNil))))) (mRet (mC (.bl false))) mSkip))) (mFor (fun _ => false) (mRng1 (mCons (mC (.int 3)) mNil)) (gN 16) b3_law))))))))))))
def m_law : MS := (mSeq (mFor (fun _ => false) (mRng1 (mCons (mC (.int 5)) mNil)) (gN 2) b4_law) (mRet (mC (.bl true))))
theorem u_law : m_law (lawE N_law) (endsE (fun d => d = .bl true) fun _ => False) = m_law [none, some (.val .bag), none, none, none, none, none, none, none, none, none, none, none, none, none, none, none, none, none] ⟨fun _ => D.non = .bl true, fun d => d = .bl true, fun _ => False, fun _ => False, fun _ => False⟩ := rfl
end Lw

namespace Lw
open PySem PySem.Spec L2 Ev
open Dt (enc)
variable [Tbl]
theorem zipIdx_range {α : Type} (d0 : α) (xs : List α) : xs.zipIdx = (List.range xs.length).map fun k => (xs.getD k d0, k) := by
  refine List.ext_getElem (by simp) fun i h1 h2 => ?_
  simp at h1 h2
  simp [h1]
/-- the crews that can dig a unit -/
def crewL (hs : List (List Nat)) (u : Nat) : List Nat := (List.range hs.length).filter fun c => decide (u ∈ hs.getD c [])
/-- rows of crews, none twice, one out of each lot -/
def rowsA (As : List (List Nat)) : List (List Nat) := As.foldl (fun rows A => rows.flatMap fun r => (A.filter fun c => decide (c ∉ r)).map fun c => r ++ [c]) [[]]
def rowsL (hs : List (List Nat)) (day : List Nat) : List (List Nat) := day.foldl (fun rows u => rows.flatMap fun r => ((crewL hs u).filter fun c => decide (c ∉ r)).map fun c => r ++ [c]) [[]]
theorem rowsL_eq {hs : List (List Nat)} {day : List Nat} : rowsL hs day = rowsA (day.map (crewL hs)) := by
  unfold rowsL rowsA
  rw [List.foldl_map]
def lotsL {α : Type} (day : List α) : List (List α) := day.foldl (fun ls u => ls ++ ls.map fun l => l ++ [u]) [[]]
theorem lots_map' {α β : Type} (f : α → β) : ∀ (day : List α) (ls : List (List α)), (day.foldl (fun ls u => ls ++ ls.map fun l => l ++ [u]) ls).map (fun l => l.map f) = (day.map f).foldl (fun ls u => ls ++ ls.map fun l => l ++ [u]) (ls.map fun l => l.map f)
  | [], ls => rfl
  | u :: day, ls => by
    rw [List.foldl_cons, lots_map' f day, List.map_cons, List.foldl_cons]
    congr 1
    simp
theorem lots_map {α β : Type} {f : α → β} {day : List α} : (lotsL day).map (fun l => l.map f) = lotsL (day.map f) := lots_map' f day [[]]
/-- how many crews some lots together name -/
def namedA (n : Nat) (S : List (List Nat)) : Nat := ((List.range n).filter fun c => S.any fun A => A.contains c).length
def shortB (n : Nat) (S : List (List Nat)) : Bool := decide (namedA n S < S.length)
def hallB (n : Nat) (As : List (List Nat)) : Bool := (rowsA As).isEmpty == (lotsL As).any (shortB n)
def subsN (n : Nat) : List (List Nat) := lotsL (List.range n)
theorem hall_check : ((List.range 4).all fun n => hallB n [] && (subsN n).all fun A => hallB n [A] && (subsN n).all fun B => hallB n [A, B] && (subsN n).all fun C => hallB n [A, B, C]) = true := by decide +kernel
theorem mem_subsN {n : Nat} (hn : n < 4) (p : Nat → Bool) : (List.range n).filter p ∈ subsN n := by
  have : n = 0 ∨ n = 1 ∨ n = 2 ∨ n = 3 := by omega
  rcases this with rfl | rfl | rfl | rfl
  · simp [subsN, lotsL]
  · cases h0 : p 0 <;> simp [subsN, lotsL, List.range_succ, h0]
  · cases h0 : p 0 <;> cases h1 : p 1 <;> simp [subsN, lotsL, List.range_succ, h0, h1]
  · cases h0 : p 0 <;> cases h1 : p 1 <;> cases h2 : p 2 <;> simp [subsN, lotsL, List.range_succ, h0, h1, h2]
theorem hall_of {n : Nat} {As : List (List Nat)} (hn : n < 4) (hl : As.length < 4) (h : ∀ A ∈ As, A ∈ subsN n) : hallB n As = true := by
  have hc := List.all_eq_true.mp hall_check n (by simpa using hn)
  rw [Bool.and_eq_true] at hc
  rcases As with _ | ⟨A, _ | ⟨B, _ | ⟨C, _ | ⟨D, r⟩⟩⟩⟩
  · exact hc.1
  · have h1 := List.all_eq_true.mp hc.2 A (h A (by simp))
    rw [Bool.and_eq_true] at h1
    exact h1.1
  · have h1 := List.all_eq_true.mp hc.2 A (h A (by simp))
    rw [Bool.and_eq_true] at h1
    have h2 := List.all_eq_true.mp h1.2 B (h B (by simp))
    rw [Bool.and_eq_true] at h2
    exact h2.1
  · have h1 := List.all_eq_true.mp hc.2 A (h A (by simp))
    rw [Bool.and_eq_true] at h1
    have h2 := List.all_eq_true.mp h1.2 B (h B (by simp))
    rw [Bool.and_eq_true] at h2
    exact List.all_eq_true.mp h2.2 C (h C (by simp))
  · simp at hl; omega
/-- how many crews can dig some unit of a lot -/
def ableN (hs : List (List Nat)) (lot : List Nat) : Nat := (hs.filter fun h => lot.any fun u => decide (u ∈ h)).length
def badLot (hs : List (List Nat)) (lot : List Nat) : Bool := decide (ableN hs lot < lot.length)
theorem filter_idx_len {α : Type} (d0 : α) (xs : List α) (p : α → Bool) : (xs.filter p).length = ((List.range xs.length).filter fun k => p (xs.getD k d0)).length := by
  have h1 : xs = (List.range xs.length).map fun k => xs.getD k d0 := by
    refine List.ext_getElem (by simp) fun i h1 h2 => ?_
    simp [h1]
  conv => lhs; rw [h1, List.filter_map, List.length_map]
  rfl
theorem able_named {hs : List (List Nat)} {lot : List Nat} : ableN hs lot = namedA hs.length (lot.map (crewL hs)) := by
  unfold ableN namedA
  rw [filter_idx_len ([] : List Nat)]
  congr 1
  refine List.filter_congr fun c hc => ?_
  rw [List.any_map, Bool.eq_iff_iff, List.any_eq_true, List.any_eq_true]
  refine exists_congr fun u => and_congr_right fun _ => ?_
  simp [crewL]
  intro h
  simpa using hc
theorem hall_day {hs : List (List Nat)} {day : List Nat} (hn : hs.length < 4) (hl : day.length < 4) : rowsL hs day = [] ↔ ∃ lot ∈ lotsL day, badLot hs lot = true := by
  have h := hall_of hn (As := day.map (crewL hs)) (by simpa using hl) (fun A hA => by
    obtain ⟨u, _, rfl⟩ := List.mem_map.mp hA
    exact mem_subsN hn _)
  unfold hallB at h
  rw [beq_iff_eq, ← rowsL_eq, ← lots_map, List.any_map, Bool.eq_iff_iff, List.isEmpty_iff, List.any_eq_true] at h
  rw [h]
  refine exists_congr fun l => and_congr_right fun _ => ?_
  simp [badLot, shortB, able_named]
end Lw

namespace Lw
open PySem PySem.Spec L2 Ev
open Dt (enc)
variable [Tbl]
theorem cut_len {α : Type} {xs : List α} {lo hi : Option Int} : (cutL xs lo hi).length ≤ xs.length := by
  unfold cutL
  rw [List.length_take, List.length_drop]
  omega
theorem p__law_take {many : Int} {Q : D → Prop} {E : Exc → Prop} (h0 : 0 < many) (h1 : many < 1073741824) (h : ∀ r : Nat, (r : Int) < many → Q (.int r)) : S__law_take [.bag, .int many] Q E := by
  have h : ∀ r : Int, 0 ≤ r → r < many → Q (.int r) := fun r a b => by obtain ⟨k, rfl⟩ := Int.eq_ofNat_of_zero_le a; exact h k b
  have hm : ∀ z : Int, Q (.int (z % many)) := fun z => h _ (Int.emod_nonneg _ (by omega)) (Int.emod_lt_of_pos _ h0)
  have md : ∀ z : Int, 0 ≤ z % 2147483647 ∧ z % 2147483647 < 2147483647 := fun z => ⟨Int.emod_nonneg _ (by decide), Int.emod_lt_of_pos _ (by decide)⟩
  have divn : ∀ n : Int, 0 ≤ n → 0 ≤ n / many := fun n hn => Int.ediv_nonneg hn (by omega)
  have d7 : ∀ z : Int, dDiv (.int z) (.int 7) = some (.int (z / 7)) := fun z => by simp
  have dm : ∀ z : Int, dMod (.int z) (.int many) = some (.int (z % many)) := fun z => by simp [h0]
  have dv : ∀ z : Int, dDiv (.int z) (.int many) = some (.int (z / many)) := fun z => by simp [h0, h1]
  have m9 : ∀ z : Int, dMod (.int z) (.int 1000000007) = some (.int (z % 1000000007)) := fun z => by simp
  have m8 : ∀ z : Int, dMod (.int z) (.int 998244353) = some (.int (z % 998244353)) := fun z => by simp
  have m7 : ∀ z : Int, dMod (.int z) (.int 2147483647) = some (.int (z % 2147483647)) := fun z => by simp
  have mu : ∀ z k : Int, -(2 ^ 64) < k → k < 2 ^ 64 → dMul (.int z) (.int k) = some (.int (z * k)) := fun z k a b => by simp only [dMul_int]; rw [if_pos (.inr ⟨a, b⟩)]
  have mul : ∀ z k : Int, -(2 ^ 64) < z → z < 2 ^ 64 → dMul (.int z) (.int k) = some (.int (z * k)) := fun z k a b => by simp only [dMul_int]; rw [if_pos (.inl ⟨a, b⟩)]
  have sq : ∀ z : Int, dMul (.int (z % 1000000007)) (.int (z % 1000000007)) = some (.int ((z % 1000000007) * (z % 1000000007))) := fun z => mul _ _ (by omega) (by omega)
  rw [u__law_take]
  unfold m__law_take
  simp only [s_mSeq, s_mIf, s_mOfBl, s_mBin, s_mBag, s_mC, kpv_val, true_and, dEq_int, p_opt_some, ofBl_bl]
  intro n hn _
  by_cases hz : n = 0
  · simp only [hz, decide_true, if_true]
    simp only [s_mSetV, s_mIx, s_mBin, s_mSl, s_mBagL, s_mPart, s_mBag, s_mNoPart, kpv_val, true_and, ofInt_int, s_mLst, s_mCons, s_mNil, s_mC, s_mBagInc]
    intro ns hns hnn k hk _
    -- the cell
    have hcell : ∃ z : Int, 0 ≤ z ∧ ∃ xs : List D, xs.length ≤ 63 ∧ dSl (some k) none (D.lst (List.map D.int ns)) = some (.lst xs) ∧ atI (xs ++ [D.int 0]) 0 = some (.int z) := by
      have hd : cutL ns (some k) none = ns.drop (HT.sIx ns.length 0 (some k)) := by
        unfold cutL
        rw [show HT.sIx ns.length ns.length none = ns.length from rfl]
        rw [List.take_of_length_le (by rw [List.length_drop]; exact Nat.le_refl _)]
      have hc : cutL (List.map D.int ns) (some k) none = (cutL ns (some k) none).map D.int := by
        unfold cutL
        rw [List.length_map, ← List.map_drop, ← List.map_take]
      have hle : (cutL ns (some k) none).length ≤ 63 := Nat.le_trans cut_len hns
      have hmem : ∀ n ∈ cutL ns (some k) none, 0 ≤ n := fun n hn => hnn n (by rw [hd] at hn; exact List.mem_of_mem_drop hn)
      cases hq : cutL ns (some k) none with
      | nil => exact ⟨0, by decide, [], by decide, by show some (D.lst (cutL _ _ _)) = _; rw [hc, hq]; rfl, rfl⟩
      | cons y ys =>
        rw [hq] at hle hmem
        exact ⟨y, hmem y List.mem_cons_self, (y :: ys).map D.int, by rw [List.length_map]; exact hle, by show some (D.lst (cutL _ _ _)) = _; rw [hc, hq], by
          simp⟩
    obtain ⟨z, hz, xs, hxs, e1, e2⟩ := hcell
    rw [e1]
    have hl : xs.length + [D.int 0].length ≤ lim := by simp; omega
    simp only [p_opt_some, dAdd_lst, hl, if_true, dIx_lst, e2, s_mBag, setE_succ, setE_zero, kpv_val, true_and, s_mIf, s_mSetV, s_mBin, s_mC, s_mOfBl, s_mVar, rdv_succ, rdv_val, s_mBagSet, s_mSkip, s_mKp, kpv_succ, s_mSeq]
    refine ⟨by simp, ?_⟩
    have hm2 : ∀ n k : Int, 0 ≤ (n * 48271 + z % 2147483647 + 7919 * k) % 2147483647 ∧ (n * 48271 + z % 2147483647 + 7919 * k) % 2147483647 < 2147483647 := fun n k => md _
    have pw : dPow (.int 10) (.int 18) = some (.int (10 ^ 18)) := by simp
    have m1 : ∀ n : Int, dMul (.int n) (.int 48271) = some (.int (n * 48271)) := fun n => mu _ _ (by decide) (by decide)
    have m2 : ∀ n : Int, dMul (.int 7919) (.int n) = some (.int (7919 * n)) := fun n => mul _ _ (by decide) (by decide)
    simp only [pw, p_opt_some, dGe_int, ofBl_bl, decide_eq_true_eq]
    split
    · simp only [ofInt_int]
      refine ⟨hz, fun e => absurd e (by decide), ?_⟩
      simp only [m1, m2, m7, p_opt_some, s_mBlt, s_mCons, s_mNil, bInt_int, s_mVar, rdv_succ, rdv_val, dAdd_int, s_mC, s_mBag, kpv_val, kpv_succ, true_and]
      intro n hn hn2 k2 hk2 _
      simp only [ofInt_int]
      refine ⟨(hm2 n k2).1, fun _ => (hm2 n k2).2, ?_⟩
      simp only [s_mSeq, s_mIf, s_mOfBl, s_mBin, s_mBag, s_mC, kpv_val, true_and, dGt_int, p_opt_some, ofBl_bl, decide_eq_true_eq]
      intro n hn _
      split
      · simp [dm, dv, hm]
        exact fun _ _ n hn => divn n hn
      · simp [dm, dv, hm, m9, m8, d7, sq, mu, mul]
    · simp only [m1, m2, m7, p_opt_some, s_mBlt, s_mCons, s_mNil, bInt_int, s_mVar, rdv_succ, rdv_val, dAdd_int, s_mC, s_mBag, kpv_val, kpv_succ, true_and]
      intro n hn hn2 k2 hk2 _
      simp only [ofInt_int]
      refine ⟨(hm2 n k2).1, fun _ => (hm2 n k2).2, ?_⟩
      simp only [s_mSeq, s_mIf, s_mOfBl, s_mBin, s_mBag, s_mC, kpv_val, true_and, dGt_int, p_opt_some, ofBl_bl, decide_eq_true_eq]
      intro n hn _
      split
      · simp [dm, dv, hm]
        exact fun _ _ n hn => divn n hn
      · simp [dm, dv, hm, m9, m8, d7, sq, mu, mul]
  · simp only [hz, decide_false]
    simp only [Bool.false_eq_true, if_false, s_mSkip]
    simp only [s_mSeq, s_mIf, s_mOfBl, s_mBin, s_mBag, s_mC, kpv_val, true_and, dGt_int, p_opt_some, ofBl_bl, decide_eq_true_eq]
    intro n hn _
    split
    · simp [dm, dv, hm]
      exact fun _ _ n hn => divn n hn
    · simp [dm, dv, hm, m9, m8, d7, sq, mu, mul]
theorem perm_erase {α : Type} : ∀ {ls : List α} {i : Nat} (h : i < ls.length), (ls[i] :: ls.eraseIdx i).Perm ls
  | l :: ls, 0, h => List.Perm.refl _
  | l :: ls, i + 1, h => by
    have h' : i < ls.length := by simpa using h
    have e : (l :: ls)[i + 1] = ls[i] := rfl
    rw [e, List.eraseIdx_cons_succ]
    exact (List.Perm.swap _ _ _).trans (.cons _ (perm_erase h'))
theorem map_eraseIdx {α β : Type} (f : α → β) : ∀ (ls : List α) (i : Nat), (ls.map f).eraseIdx i = (ls.eraseIdx i).map f
  | [], _ => rfl
  | l :: ls, 0 => rfl
  | l :: ls, i + 1 => by simp [map_eraseIdx f ls i]
theorem p__law_mixed {α : Type} [Dt α] {xs : List α} {Q : D → Prop} {E : Exc → Prop} (h1 : xs.length < 16777216) (h : ∀ ys : List α, ys.Perm xs → Q (.lst (ys.map enc))) (t : D) (ht : t = .lst (xs.map enc) ∨ t = .tup (xs.map enc)) : S__law_mixed [.bag, t] Q E := by
  rw [u__law_mixed]
  have go : ∃ k, whileN (mOfBl (mBin dNe (mVar 2) (mLst mNil))) b1__law_mixed k [some (.val .bag), some (.val t), some (.own (xs.map enc)), some (.own [])] ⟨fun ρ' => Opt (kpv 3 (frzE (fun _ => true) ρ')) Q, Q, fun _ => False, fun _ => False, E⟩ := by
    refine while_go (I := fun n ρ => ∃ ls fs : List α, ρ = [some (.val .bag), some (.val t), some (.own (ls.map enc)), some (.own (fs.map enc))] ∧ n = ls.length ∧ (fs ++ ls).Perm xs) ?_ (n := xs.length) ⟨xs, [], rfl, rfl, by simp⟩
    rintro n ρ ⟨ls, fs, rfl, rfl, hp⟩ W hW
    simp [dNe_lst_nil]
    have hlx : fs.length + ls.length = xs.length := by rw [← List.length_append]; exact hp.length_eq
    split
    · rename_i e
      subst e
      exact h _ (by simpa using hp)
    · rename_i e
      have hl : 0 < ls.length := List.length_pos_iff.mpr e
      unfold b1__law_mixed
      simp
      refine p__law_take (by omega) (by omega) fun r hr => ?_
      have hi : r < ls.length := by omega
      simp
      rw [List.getElem?_eq_getElem hi]
      simp
      refine ⟨by omega, by omega, ?_⟩
      refine hW (ls.eraseIdx r).length _ (by rw [List.length_eraseIdx_of_lt hi]; omega) ⟨ls.eraseIdx r, fs ++ [ls[r]], ?_, rfl, ?_⟩
      · simp [map_eraseIdx]
      · refine List.Perm.trans ?_ hp
        rw [List.append_assoc]
        exact List.Perm.append_left fs (perm_erase hi)
  unfold m__law_mixed
  rcases ht with rfl | rfl
  all_goals
    simp
    simpa using go
theorem dNe_self {d : D} (h : datD d = true) (n1 : ∀ ds, d ≠ .tup ds) (n2 : ∀ ds, d ≠ .lst ds) : dNe d d = some (.bl false) := by
  cases d with
  | non => rfl
  | bl b => simp
  | int b => simp
  | str b => simp
  | tup ds => exact absurd rfl (n1 ds)
  | lst ds => exact absurd rfl (n2 ds)
  | dct _ _ => cases h
  | bag => cases h
  | fn _ => cases h
  | ty _ => cases h
theorem p__law_alike {x y : D} {Q : D → Prop} {E : Exc → Prop} (e : x = y) (h1 : datD x = true) (h2 : szD x ≤ 16777216) (h : Q (.bl true)) : S__law_alike [x, y] Q E := by
  subst e
  rw [u__law_alike]
  have go : ∃ k, whileN (mOfBl (mBin dLt (mVar 3) (mBlt bLen (mCons (mVar 2) mNil)))) b1__law_alike k [some (.val x), some (.val x), some (.own [.tup [x, x]]), some (.val (.int 0)), none, none] ⟨fun ρ' => Q (.bl true), Q, fun _ => False, fun _ => False, E⟩ := by
    refine while_go (I := fun n ρ => ∃ (X : List D) (k : Nat) (o1 o2 : Option Slot), ρ = [some (.val x), some (.val x), some (.own (X.map fun x => .tup [x, x])), some (.val (.int k)), o1, o2] ∧ n = szDs (X.drop k) ∧ k ≤ X.length ∧ datDs X = true ∧ k + szDs (X.drop k) = szD x) ?_ (n := szD x) ⟨[x], 0, none, none, rfl, by simp, by simp, by simpa using h1, by simp⟩
    rintro n ρ ⟨X, k, o1, o2, rfl, rfl, hk, hd, hs⟩ W hW
    simp
    split
    · rename_i hlt
      have hX : X.length ≤ k + szDs (X.drop k) := by have := szDs_len (ds := X.drop k); rw [List.length_drop] at this; omega
      have hdr := List.drop_eq_getElem_cons hlt
      have hat : atI (X.map fun x => D.tup [x, x]) (k : Int) = some (.tup [X[k], X[k]]) := by
        rw [atI_lt (by simpa using hlt)]; simp
      have hdk : datD X[k] = true := datDs_all.mp hd _ (List.getElem_mem hlt)
      have next : ∀ (fs : List D), datDs fs = true → szD X[k] = szDs fs + 1 → ∀ o1 o2, W [some (.val x), some (.val x), some (.own ((X ++ fs).map fun x => .tup [x, x])), some (.val (.int ((k + 1 : Nat) : Int))), o1, o2] := fun fs hf hz o1 o2 => by
        have e1 : (X ++ fs).drop (k + 1) = X.drop (k + 1) ++ fs := List.drop_append_of_le_length (by omega)
        have e2 : szDs ((X ++ fs).drop (k + 1)) + 1 = szDs (X.drop k) := by rw [e1, szDs_app, hdr, szDs_cons, hz]; omega
        exact hW _ _ (by omega) ⟨X ++ fs, k + 1, o1, o2, rfl, rfl, by simp; omega, by rw [datDs_app, hd, hf]; rfl, by omega⟩
      unfold b1__law_alike
      simp [hat]
      have lst : ∀ (fs : List D), datDs fs = true → szD X[k] = szDs fs + 1 → X.length + fs.length ≤ 16777216 := fun fs hf hz => by
        have := szDs_len (ds := fs)
        rw [hdr, szDs_cons, hz] at hs hX
        have := szDs_len (ds := X.drop (k + 1))
        rw [List.length_drop] at this
        omega
      have nx0 := next []
      simp at nx0
      generalize X[k] = d at *
      cases d with
      | non => simp [dNe_self]; exact nx0 rfl _ _
      | bl b => simp [dNe_self]; exact nx0 rfl _ _
      | int b => simp [dNe_self]; exact nx0 rfl _ _
      | str b => simp [dNe_self]; exact nx0 rfl _ _
      | tup ds =>
        simp [zipD_self]
        refine ⟨lst ds (by simpa using hdk) (by simp), ?_⟩
        have := next ds (by simpa using hdk) (by simp)
        simpa using this _ _
      | lst ds =>
        simp [zipD_self]
        refine ⟨lst ds (by simpa using hdk) (by simp), ?_⟩
        have := next ds (by simpa using hdk) (by simp)
        simpa using this _ _
      | dct _ _ => cases hdk
      | bag => cases hdk
      | fn _ => cases hdk
      | ty _ => cases hdk
    · exact h
  unfold m__law_alike
  simp
  simpa using go
theorem p__law_some {xs : List D} {Q : D → Prop} {E : Exc → Prop} (h0 : xs ≠ []) (h1 : xs.length < 1073741824) (h : ∀ x ∈ xs, Q x) (t : D) (ht : t = .lst xs ∨ t = .tup xs) : S__law_some [.bag, t] Q E := by
  have hl : 0 < xs.length := List.length_pos_iff.mpr h0
  rw [u__law_some]
  rcases ht with rfl | rfl
  all_goals
    simp [m__law_some]
    refine p__law_take (by omega) (by omega) fun r hr => ?_
    have hi : r < xs.length := by omega
    simp [atI_lt hi]
    exact h _ (List.getElem_mem hi)
mutual
/-- a value of any kind, at most 64 parts at a time -/
def plD : D → Bool
  | .non | .bl _ | .int _ | .str _ => true
  | .tup ds => decide (ds.length ≤ 64) && plDs ds
  | .lst ds => decide (ds.length ≤ 64) && plDs ds
  | .dct _ _ => true
  | _ => false
def plDs : List D → Bool
  | [] => true
  | d :: ds => plD d && plDs ds
end
section
variable {a : Int} {b : Bool} {s : Str} {d : D} {ds es : List D} {Q : D → Prop} {E : Exc → Prop}
@[simp] theorem plD_non : plD .non = true := rfl
@[simp] theorem plD_bl : plD (.bl b) = true := rfl
@[simp] theorem plD_int : plD (.int a) = true := rfl
@[simp] theorem plD_str : plD (.str s) = true := rfl
@[simp] theorem plD_tup : plD (.tup ds) = (decide (ds.length ≤ 64) && plDs ds) := by rw [plD]
@[simp] theorem plD_lst : plD (.lst ds) = (decide (ds.length ≤ 64) && plDs ds) := by rw [plD]
@[simp] theorem plD_dct : plD (.dct ds es) = true := rfl
@[simp] theorem plDs_nil : plDs [] = true := rfl
@[simp] theorem plDs_cons : plDs (d :: ds) = (plD d && plDs ds) := by rw [plDs]
theorem plDs_all : ∀ {ds : List D}, plDs ds = true ↔ ∀ d ∈ ds, plD d = true
  | [] => by simp
  | d :: ds => by simp [plDs_all (ds := ds)]
theorem plDs_map {α : Type} {f : α → D} {xs : List α} (h : ∀ x ∈ xs, plD (f x) = true) : plDs (xs.map f) = true := plDs_all.mpr fun d hd => by
  obtain ⟨x, hx, rfl⟩ := List.mem_map.mp hd
  exact h x hx
@[simp] theorem plDs_app : plDs (ds ++ es) = (plDs ds && plDs es) := by
  rw [Bool.eq_iff_iff, Bool.and_eq_true, plDs_all, plDs_all, plDs_all]
  exact ⟨fun h => ⟨fun d hd => h d (by simp [hd]), fun d hd => h d (by simp [hd])⟩, fun ⟨h1, h2⟩ d hd => (List.mem_append.mp hd).elim (h1 d) (h2 d)⟩
theorem plDs_sub (h : plDs ds = true) (hs : ∀ d ∈ es, d ∈ ds) : plDs es = true := plDs_all.mpr fun d hd => plDs_all.mp h d (hs d hd)
def isIntD : D → Bool
  | .int _ => true
  | _ => false
def areIntsD : D → Bool
  | .tup ds => ds.all isIntD
  | _ => false
@[simp] theorem isIntD_int : isIntD (.int a) = true := rfl
theorem isIntD_iff : isIntD d = true ↔ ∃ a, d = .int a := by cases d <;> simp [isIntD]
theorem ints_of : ∀ {ds : List D}, ds.all isIntD = true → ∃ xs : List Int, ds = xs.map D.int
  | [], _ => ⟨[], rfl⟩
  | d :: ds, h => by
    simp at h
    obtain ⟨a, rfl⟩ := isIntD_iff.mp h.1
    obtain ⟨xs, rfl⟩ := ints_of (ds := ds) (by simpa using h.2)
    exact ⟨a :: xs, rfl⟩
@[simp] theorem all_ints {xs : List Int} : (xs.map D.int).all isIntD = true := by simp
theorem areInts_of (h : areIntsD d = true) : ∃ xs : List Int, d = .tup (xs.map D.int) := by
  cases d with
  | tup ds => obtain ⟨xs, rfl⟩ := ints_of h; exact ⟨xs, rfl⟩
  | _ => cases h
theorem e_law_is_int_pl (h : plD d = true) : S__law_is_int [d] Q E = Q (.bl (isIntD d)) := by
  rw [u__law_is_int]
  cases d <;> first | (cases h; done) | simp [m__law_is_int, isIntD]
theorem e_is_integer_pl (h : plD d = true) : S_is_integer [d] Q E = Q (.bl (isIntD d)) := by
  rw [u_is_integer]
  cases d <;> first | (cases h; done) | simp [m_is_integer, isIntD]
end
section
variable {a : Int} {b : Bool} {s : Str} {d : D} {ds es : List D} {Q : D → Prop} {E : Exc → Prop}
theorem e_are_integers_pl (h : plD d = true) : S_are_integers [d] Q E = Q (.bl (areIntsD d)) := by
  rw [u_are_integers]
  simp [m_are_integers]
  rw [u_are_all__is_integer]
  cases d with
  | tup ds =>
    simp at h
    have l1 : ds.length ≤ 4096 := by omega
    simp [m_are_all__is_integer, l1]
    have := fun (Q : List D → Prop) => lcE_mapE (ρ := [some (.val (.tup ds)), some (.val (.fn "is_integer")), none]) (vs := [2]) (mg := gN 2) (mt := mYes) (me := mCallL [("is_integer", S_is_integer)] 1 (nName 2 nNil)) id D.bl isIntD (xs := ds) (acc := []) (Q := Q) (fun x hx C => by
      simp
      rw [e_is_integer_pl (plDs_all.mp h.2 x hx)])
    rw [List.map_id] at this
    rw [this]
    simp only [List.nil_append]
    rw [bAll_bls]
    simp [areIntsD]
  | bag => cases h
  | fn _ => cases h
  | ty _ => cases h
  | _ => simp [m_are_all__is_integer, areIntsD]
end
mutual
/-- integers, None and tuples of them, none longer than 30 -/
def wiD : D → Bool
  | .non | .int _ => true
  | .tup ds => decide (ds.length ≤ 30) && wiDs ds
  | _ => false
def wiDs : List D → Bool
  | [] => true
  | d :: ds => wiD d && wiDs ds
end
section
variable {a : Int} {d : D} {ds es : List D}
@[simp] theorem wiD_non : wiD .non = true := rfl
@[simp] theorem wiD_int : wiD (.int a) = true := rfl
@[simp] theorem wiD_tup : wiD (.tup ds) = (decide (ds.length ≤ 30) && wiDs ds) := by rw [wiD]
@[simp] theorem wiDs_nil : wiDs [] = true := rfl
@[simp] theorem wiDs_cons : wiDs (d :: ds) = (wiD d && wiDs ds) := by rw [wiDs]
theorem wiDs_all : ∀ {ds : List D}, wiDs ds = true ↔ ∀ d ∈ ds, wiD d = true
  | [] => by simp
  | d :: ds => by simp [wiDs_all (ds := ds)]
theorem wiDs_map {α : Type} {f : α → D} {xs : List α} (h : ∀ x ∈ xs, wiD (f x) = true) : wiDs (xs.map f) = true := wiDs_all.mpr fun d hd => by
  obtain ⟨x, hx, rfl⟩ := List.mem_map.mp hd
  exact h x hx
mutual
theorem wi_pl : ∀ {d : D}, wiD d = true → plD d = true ∧ datD d = true
  | .non, _ => ⟨rfl, rfl⟩
  | .int _, _ => ⟨rfl, rfl⟩
  | .tup ds, h => by
    simp at h
    obtain ⟨h1, h2⟩ := wis_pl h.2
    simp [h1, h2]
    omega
  | .bl _, h => by cases h
  | .str _, h => by cases h
  | .lst _, h => by cases h
  | .dct _ _, h => by cases h
  | .bag, h => by cases h
  | .fn _, h => by cases h
  | .ty _, h => by cases h
theorem wis_pl : ∀ {ds : List D}, wiDs ds = true → plDs ds = true ∧ datDs ds = true
  | [], _ => ⟨rfl, rfl⟩
  | d :: ds, h => by
    simp at h
    obtain ⟨h1, h2⟩ := wi_pl h.1
    obtain ⟨h3, h4⟩ := wis_pl h.2
    simp [h1, h2, h3, h4]
end
theorem plDs_cut {lo hi : Option Int} (h : plDs ds = true) : plDs (cutL ds lo hi) = true := plDs_sub h fun d hd => cutL_mem hd
theorem plDs_rev (h : plDs ds = true) : plDs ds.reverse = true := plDs_sub h fun d hd => by simpa using hd
end
theorem p__law_odd {Q : D → Prop} {E : Exc → Prop} (h : ∀ d, plD d = true → Q d) : S__law_odd [.bag] Q E := by
  rw [u__law_odd]
  simp [m__law_odd]
  refine p__law_some (by simp) (by simp) (fun x hx => h x ?_) _ (.inl rfl)
  refine plDs_all.mp ?_ x hx
  simp
theorem p__law_bent : ∀ (dep k : Nat) (d : D) {Q : D → Prop} {E : Exc → Prop}, wiD d = true → dep < k → (∀ e, plD e = true → Q e) → S__law_bent k [.bag, d, .int dep] Q E := by
  intro dep
  induction dep with
  | zero =>
    intro k d Q E hw hk h
    obtain ⟨k, rfl⟩ : ∃ j, k = j + 1 := ⟨k - 1, by omega⟩
    rw [u__law_bent]
    cases d with
    | non =>
      simp [m__law_bent]
      exact p__law_odd h
    | int x =>
      simp [m__law_bent]
      refine p__law_some (by simp) (by simp) (fun x hx => h x ?_) _ (.inl rfl)
      refine plDs_all.mp ?_ x hx
      simp
    | tup ds =>
      have hp := wi_pl hw
      have hl : ds.length ≤ 30 := by simp at hw; exact hw.1
      have hdat : datDs ds = true := by simpa using hp.2
      have hpl : plDs ds = true := by have := hp.1; simp at this; exact this.2
      replace hp : (True ∧ plDs ds = true) ∧ True := ⟨⟨trivial, hpl⟩, trivial⟩
      have e0 : dNe (.tup ds) (.tup []) = some (.bl (!ds.isEmpty)) := by unfold dNe; rw [(dEqv_nil hdat).2]; rfl
      have hc : ∀ lo hi, (cutL ds lo hi).length ≤ 30 := fun lo hi => Nat.le_trans cut_len hl
      have hcp : ∀ lo hi, plDs (cutL ds lo hi) = true := fun lo hi => plDs_cut hpl
      have a1 : ∀ lo hi lo' hi', (cutL ds lo hi).length + (cutL ds lo' hi').length ≤ 16777216 := fun lo hi lo' hi' => by have := hc lo hi; have := hc lo' hi'; omega
      have a3 : ∀ lo hi, (cutL ds lo hi).length + 1 ≤ 16777216 := fun lo hi => by have := hc lo hi; omega
      have a4 : ∀ lo hi lo' hi', (cutL ds lo hi).length + (1 + (cutL ds lo' hi').length) ≤ 16777216 := fun lo hi lo' hi' => by have := hc lo hi; have := hc lo' hi'; omega
      cases hn : ds.isEmpty with
      | true =>
        simp [m__law_bent, e0, hn]
        exact p__law_odd h
      | false =>
        have h1 : 0 < ds.length := by cases ds <;> simp at hn ⊢
        simp [m__law_bent, e0, hn]
        refine p__law_take (by omega) (by omega) fun r hr => ?_
        have hri : r < ds.length := by omega
        have c1 := hc none (some (r : Int))
        have c2 := hc (some ((r : Int) + 1)) none
        have c3 := hc (some (r : Int)) none
        have pr : plD ds[r] = true := plDs_all.mp hp.1.2 _ (List.getElem_mem hri)
        simp [a1, a3, a4, Nat.add_assoc, atI_lt hri]
        refine ⟨by omega, p__law_odd fun e he => p__law_some (by simp) (by simp) (fun x hx => h x (plDs_all.mp ?_ x hx)) _ (.inl rfl)⟩
        simp [hcp, hp.1.2, he, pr, plDs_rev hp.1.2]
        omega
    | _ => cases hw
  | succ dep ih =>
    intro k d Q E hw hk h
    obtain ⟨k, rfl⟩ : ∃ j, k = j + 1 := ⟨k - 1, by omega⟩
    rw [u__law_bent]
    cases d with
    | non =>
      simp [m__law_bent]
      exact p__law_odd h
    | int x =>
      simp [m__law_bent]
      refine p__law_some (by simp) (by simp) (fun x hx => h x ?_) _ (.inl rfl)
      refine plDs_all.mp ?_ x hx
      simp
    | tup ds =>
      have hp := wi_pl hw
      have hl : ds.length ≤ 30 := by simp at hw; exact hw.1
      have hdat : datDs ds = true := by simpa using hp.2
      have hpl : plDs ds = true := by have := hp.1; simp at this; exact this.2
      replace hp : (True ∧ plDs ds = true) ∧ True := ⟨⟨trivial, hpl⟩, trivial⟩
      have e0 : dNe (.tup ds) (.tup []) = some (.bl (!ds.isEmpty)) := by unfold dNe; rw [(dEqv_nil hdat).2]; rfl
      have hc : ∀ lo hi, (cutL ds lo hi).length ≤ 30 := fun lo hi => Nat.le_trans cut_len hl
      have hcp : ∀ lo hi, plDs (cutL ds lo hi) = true := fun lo hi => plDs_cut hpl
      have a1 : ∀ lo hi lo' hi', (cutL ds lo hi).length + (cutL ds lo' hi').length ≤ 16777216 := fun lo hi lo' hi' => by have := hc lo hi; have := hc lo' hi'; omega
      have a3 : ∀ lo hi, (cutL ds lo hi).length + 1 ≤ 16777216 := fun lo hi => by have := hc lo hi; omega
      have a4 : ∀ lo hi lo' hi', (cutL ds lo hi).length + (1 + (cutL ds lo' hi').length) ≤ 16777216 := fun lo hi lo' hi' => by have := hc lo hi; have := hc lo' hi'; omega
      cases hn : ds.isEmpty with
      | true =>
        simp [m__law_bent, e0, hn]
        exact p__law_odd h
      | false =>
        have h1 : 0 < ds.length := by cases ds <;> simp at hn ⊢
        simp [m__law_bent, e0, hn]
        refine p__law_take (by omega) (by omega) fun r0 hr0 => ?_
        try simp
        split
        · refine p__law_take (by omega) (by omega) fun r hr => ?_
          have hri : r < ds.length := by omega
          have c1 := hc none (some (r : Int))
          have c2 := hc (some ((r : Int) + 1)) none
          have wr : wiD ds[r] = true := wiDs_all.mp (by simp at hw; exact hw.2) _ (List.getElem_mem hri)
          simp [a1, a3, a4, Nat.add_assoc, atI_lt hri]
          refine ih k _ wr (by omega) fun e he => ?_
          try simp [a1, a3, a4, Nat.add_assoc]
          refine ⟨by omega, h _ ?_⟩
          simp [hcp, he]
          omega
        · refine p__law_take (by omega) (by omega) fun r hr => ?_
          have hri : r < ds.length := by omega
          have c1 := hc none (some (r : Int))
          have c2 := hc (some ((r : Int) + 1)) none
          have c3 := hc (some (r : Int)) none
          have pr : plD ds[r] = true := plDs_all.mp hp.1.2 _ (List.getElem_mem hri)
          simp [a1, a3, a4, Nat.add_assoc, atI_lt hri]
          refine ⟨by omega, p__law_odd fun e he => p__law_some (by simp) (by simp) (fun x hx => h x (plDs_all.mp ?_ x hx)) _ (.inl rfl)⟩
          simp [hcp, hp.1.2, he, pr, plDs_rev hp.1.2]
          omega
    | _ => cases hw
end Lw

namespace Lw
open PySem PySem.Spec L2 Ev
open Dt (enc)
variable [Tbl]
section
open Classical
variable {Q : D → Prop} {E : Exc → Prop} {hs : List (List Nat)} {u : Nat} {day : List Nat}
theorem dIn_n {u : Nat} {xs : List Nat} : dIn (.int u) (.tup (xs.map enc)) = some (.bl (decide (u ∈ xs))) := dIn_tup_enc (a := u) (by decide)
theorem dNotIn_n {u : Nat} {xs : List Nat} : dNotIn (.int u) (.tup (xs.map enc)) = some (.bl (decide (u ∉ xs))) := dNotIn_tup_enc (a := u) (by decide)
theorem e_able : S_able [.tup (hs.map enc), .int u] Q E = Q (.lst ((crewL hs u).map enc)) := by
  rw [u_able]
  simp [m_able]
  rw [enumFrom_map, zipIdx_range [], List.map_map]
  rw [lcE_filE _ enc (fun k => decide (u ∈ hs.getD k [])) id]
  · rw [List.nil_append, List.map_id]
    rfl
  · intro k hk C
    simp [dIn_n]
def tupO : Option (List Nat) → D
  | none => .non
  | some r => enc r
theorem minIf_tup {xs : List (List Nat)} [Decidable (xs = [])] : (if xs = [] then Q .non else rMinS [.lst (xs.map enc)] Q) = Q (tupO (minK xs)) := by
  split
  · rename_i h; subst h; rw [minK_none.mpr rfl]; rfl
  · rename_i h
    cases e : minK xs with
    | none => exact absurd (minK_none.mp e) h
    | some a =>
      have := minK_some.mp e
      exact min_enc (by decide) this.1 this.2 _ (.inl rfl)
theorem rowsL_snoc : rowsL hs (day ++ [u]) = (rowsL hs day).flatMap fun r => ((crewL hs u).filter fun c => decide (c ∉ r)).map fun c => r ++ [c] := by
  unfold rowsL
  rw [List.foldl_append]
  rfl
theorem crewL_len : (crewL hs u).length ≤ hs.length := by
  have := List.length_filter_le (fun c => decide (u ∈ hs.getD c [])) (List.range hs.length)
  rwa [List.length_range] at this
theorem rowsL_len (hn : hs.length ≤ 3) : ∀ (pre : List Nat), (rowsL hs pre).length ≤ 3 ^ pre.length := by
  have H : ∀ (pre : List Nat) (rows : List (List Nat)), (pre.foldl (fun rows u => rows.flatMap fun r => ((crewL hs u).filter fun c => decide (c ∉ r)).map fun c => r ++ [c]) rows).length ≤ rows.length * 3 ^ pre.length := by
    intro pre
    induction pre with
    | nil => intro rows; simp
    | cons u pre ih =>
      intro rows
      rw [List.foldl_cons]
      refine Nat.le_trans (ih _) ?_
      have h1 := flatMap_len (f := fun r : List Nat => ((crewL hs u).filter fun c => decide (c ∉ r)).map fun c => r ++ [c]) 3 (xs := rows) (fun r _ => by
        rw [List.length_map]
        exact Nat.le_trans (List.length_filter_le _ _) (Nat.le_trans crewL_len hn))
      have h2 := Nat.mul_le_mul_right (3 ^ pre.length) h1
      rw [List.length_cons, Nat.pow_succ]
      rw [Nat.mul_assoc] at h2
      rw [Nat.mul_comm (3 ^ pre.length) 3]
      exact h2
  intro pre
  have := H pre [[]]
  rwa [show ([[]] : List (List Nat)).length = 1 from rfl, Nat.one_mul] at this
theorem rowsL_27 (hn : hs.length ≤ 3) {pre : List Nat} (hl : pre.length ≤ 3) : (rowsL hs pre).length ≤ 27 := Nat.le_trans (rowsL_len hn pre) (Nat.pow_le_pow_right (n := 3) (by decide) hl)
theorem rowsL_mem {pre : List Nat} : ∀ r ∈ rowsL hs pre, r.length = pre.length := by
  have H : ∀ (pre : List Nat) (rows : List (List Nat)) (k : Nat), (∀ r ∈ rows, r.length = k) → ∀ r ∈ pre.foldl (fun rows u => rows.flatMap fun r => ((crewL hs u).filter fun c => decide (c ∉ r)).map fun c => r ++ [c]) rows, r.length = k + pre.length := by
    intro pre
    induction pre with
    | nil => intro rows k h; simpa using h
    | cons u pre ih =>
      intro rows k h r hr
      rw [List.foldl_cons] at hr
      have := ih _ (k + 1) (fun r hr => by
        obtain ⟨r', hr', hr⟩ := List.mem_flatMap.mp hr
        obtain ⟨c, _, rfl⟩ := List.mem_map.mp hr
        simp [h r' hr']) r hr
      rw [this, List.length_cons]; omega
  intro r hr
  have := H pre [[]] 0 (by simp) r hr
  simpa using this
theorem p_staff_of (hn : hs.length ≤ 3) (hl : day.length ≤ 3) (h : Q (tupO (minK (rowsL hs day)))) : S_staff_of [enc day, .tup (hs.map enc)] Q E := by
  rw [u_staff_of]
  simp [m_staff_of]
  refine forE_pre enc (I := fun pre ρ => ∃ a3 a4 a5 : Option Slot, ρ = [some (.val (enc day)), some (.val (.tup (hs.map enc))), some (.val (.lst ((rowsL hs pre).map enc))), a3, a4, a5]) ?_ ⟨none, none, none, rfl⟩ ?_
  · rintro pre x post he ρ ⟨a3, a4, a5, rfl⟩ N hN
    have hpl : pre.length ≤ 2 := by have := congrArg List.length he; simp at this; omega
    have h27 := rowsL_27 hn (pre := pre) (by omega)
    unfold b1_staff_of
    simp
    refine ⟨by omega, ?_⟩
    rw [lc2E_eq enc enc (fun r : List Nat => ((crewL hs x).filter fun c => decide (c ∉ r)).map fun c => r ++ [c])]
    · have := hN _ ⟨some (.val (.int x)), a4, a5, rfl⟩
      rw [rowsL_snoc] at this
      simpa using this
    · intro r hr acc C
      have hrl := rowsL_mem r hr
      simp
      rw [e_able]
      have := crewL_len (hs := hs) (u := x)
      simp
      rw [lcE_filE enc enc (fun c => decide (c ∉ r)) (fun c => r ++ [c])]
      · have h4 : (crewL hs x).length ≤ 4096 := by omega
        simp [h4]
      · intro c hc C
        have h5 : r.length ≤ 16777215 := by omega
        simp [dNotIn_n, h5]
  · rintro ρ' ⟨a3, a4, a5, rfl⟩
    simp [dNe_lst_nil]
    rw [minIf_tup]
    exact h
theorem p__law_staff (hn : hs.length ≤ 3) (hl : day.length ≤ 3) (h : Q (tupO (minK (rowsL hs day)))) : S__law_staff [enc day, .tup (hs.map enc)] Q E := by
  rw [u__law_staff]
  simp [m__law_staff]
  refine forE_pre enc (I := fun pre ρ => ∃ a3 a4 a5 a6 : Option Slot, ρ = [some (.val (enc day)), some (.val (.tup (hs.map enc))), some (.val (.lst ((rowsL hs pre).map enc))), a3, a4, a5, a6]) ?_ ⟨none, none, none, none, rfl⟩ ?_
  · rintro pre x post he ρ ⟨a3, a4, a5, a6, rfl⟩ N hN
    have hpl : pre.length ≤ 2 := by have := congrArg List.length he; simp at this; omega
    have h27 := rowsL_27 hn (pre := pre) (by omega)
    unfold b2__law_staff
    simp
    refine forE_pre enc (I := fun done ρ => ∃ a5 a6 : Option Slot, ρ = [some (.val (enc day)), some (.val (.tup (hs.map enc))), some (.val (.lst ((rowsL hs pre).map enc))), some (.val (.int x)), some (.own ((done.flatMap fun r => ((crewL hs x).filter fun c => decide (c ∉ r)).map fun c => r ++ [c]).map enc)), a5, a6]) ?_ ⟨a5, a6, rfl⟩ ?_
    · rintro done r rest he' ρ ⟨a5, a6, rfl⟩ N' hN'
      have hrl := rowsL_mem r (by rw [he']; simp)
      have hdl : done.length ≤ 27 := by have := congrArg List.length he'; simp at this; omega
      have hfl := flatMap_len (f := fun r : List Nat => ((crewL hs x).filter fun c => decide (c ∉ r)).map fun c => r ++ [c]) 3 (xs := done) (fun r _ => by
        rw [List.length_map]
        exact Nat.le_trans (List.length_filter_le _ _) (Nat.le_trans crewL_len hn))
      unfold b1__law_staff
      simp
      refine ⟨by omega, ?_⟩
      rw [lcE_filE enc enc (fun c => decide (c ∉ r) && decide (x ∈ hs.getD c [])) (fun c => r ++ [c])]
      · have e1 : (List.range hs.length).filter (fun c => decide (c ∉ r) && decide (x ∈ hs.getD c [])) = (crewL hs x).filter fun c => decide (c ∉ r) := by
          unfold crewL
          rw [List.filter_filter]
        rw [e1]
        have hlen : ((crewL hs x).filter fun c => decide (c ∉ r)).length ≤ 3 := Nat.le_trans (List.length_filter_le _ _) (Nat.le_trans crewL_len hn)
        simp
        refine ⟨by rw [List.length_flatMap] at hfl; simp at hfl hlen ⊢; omega, ?_⟩
        have := hN' _ ⟨some (.val (enc r)), a6, rfl⟩
        simpa using this
      · intro c hc C
        have hc : c < hs.length := by simpa using hc
        have h5 : r.length ≤ 16777215 := by omega
        by_cases hcr : c ∈ r
        · simp [dNotIn_n, hcr]
        · simp [dNotIn_n, hcr, dIn_n, hc, atI_lt, h5]
    · rintro ρ' ⟨a5, a6, rfl⟩
      simp
      have := hN _ ⟨some (.val (.int x)), some (.val (.lst ((rowsL hs (pre ++ [x])).map enc))), a5, a6, rfl⟩
      rw [rowsL_snoc] at this
      simpa using this
  · rintro ρ' ⟨a3, a4, a5, a6, rfl⟩
    simp [dNe_lst_nil]
    rw [minIf_tup]
    exact h
end
end Lw

namespace Lw
open PySem PySem.Spec L2 Ev
open Dt (enc)
variable [Tbl]
section
open Classical
variable {Q : D → Prop} {E : Exc → Prop} {hs : List (List Nat)} {u : Nat} {day : List Nat} {days : List (List Nat)}
theorem lotsL_snoc {α : Type} {day : List α} {u : α} : lotsL (day ++ [u]) = lotsL day ++ (lotsL day).map fun l => l ++ [u] := by
  unfold lotsL
  rw [List.foldl_append]
  rfl
theorem lotsL_len {α : Type} : ∀ (day : List α), (lotsL day).length = 2 ^ day.length := by
  have H : ∀ (day : List α) (ls : List (List α)), (day.foldl (fun ls u => ls ++ ls.map fun l => l ++ [u]) ls).length = ls.length * 2 ^ day.length := by
    intro day
    induction day with
    | nil => intro ls; simp
    | cons u day ih =>
      intro ls
      rw [List.foldl_cons, ih, List.length_append, List.length_map, List.length_cons, Nat.pow_succ, ← Nat.two_mul, Nat.mul_comm 2, Nat.mul_assoc, Nat.mul_comm 2]
  intro day
  have := H day [[]]
  rwa [show ([[]] : List (List α)).length = 1 from rfl, Nat.one_mul] at this
theorem lotsL_8 {α : Type} {day : List α} (h : day.length ≤ 3) : (lotsL day).length ≤ 8 := by
  rw [lotsL_len]
  exact Nat.pow_le_pow_right (n := 2) (by decide) h
theorem lotsL_mem {α : Type} : ∀ (day : List α), ∀ l ∈ lotsL day, l.length ≤ day.length ∧ ∀ u ∈ l, u ∈ day := by
  have H : ∀ (day : List α) (ls : List (List α)) (k : Nat) (base : List α), (∀ l ∈ ls, l.length ≤ k ∧ ∀ u ∈ l, u ∈ base) → ∀ l ∈ day.foldl (fun ls u => ls ++ ls.map fun l => l ++ [u]) ls, l.length ≤ k + day.length ∧ ∀ u ∈ l, u ∈ base ++ day := by
    intro day
    induction day with
    | nil => intro ls k base h; simpa using h
    | cons u day ih =>
      intro ls k base h l hl
      rw [List.foldl_cons] at hl
      have := ih _ (k + 1) (base ++ [u]) (fun l hl => by
        rcases List.mem_append.mp hl with hl | hl
        · have := h l hl
          exact ⟨by omega, fun v hv => List.mem_append_left _ (this.2 v hv)⟩
        · obtain ⟨l', hl', rfl⟩ := List.mem_map.mp hl
          have := h l' hl'
          refine ⟨by simp; omega, fun v hv => ?_⟩
          rcases List.mem_append.mp hv with hv | hv
          · exact List.mem_append_left _ (this.2 v hv)
          · exact List.mem_append_right _ hv) l hl
      refine ⟨by rw [List.length_cons]; omega, fun v hv => ?_⟩
      have := this.2 v hv
      simpa using this
  intro day l hl
  have := H day [[]] 0 [] (by simp) l hl
  simpa using this
/-- lots by their number of units, then in order -/
def lotsS (day : List Nat) : List (List Nat) := (sortK ((lotsL day).map fun l => (l.length, l))).map (·.2)
def shortL (hs : List (List Nat)) (day : List Nat) : Option (List Nat) := (lotsS day).find? (badLot hs)
theorem mem_lotsS {l : List Nat} : l ∈ lotsS day ↔ l ∈ lotsL day := by
  unfold lotsS
  rw [List.mem_map]
  constructor
  · rintro ⟨p, hp, rfl⟩
    obtain ⟨l, hl, rfl⟩ := List.mem_map.mp (sortK_mem.mp hp)
    exact hl
  · intro h
    exact ⟨(l.length, l), sortK_mem.mpr (List.mem_map.mpr ⟨l, h, rfl⟩), rfl⟩
theorem sortK_filter {α : Type} [Dt α] [DecidableEq α] {xs : List α} {p : α → Bool} : sortK (xs.filter p) = (sortK xs).filter p :=
  (sortK_uniq (List.Perm.filter p sortK_perm) (List.Pairwise.filter p sortK_pairwise)).symm
theorem short_min : (minK (((lotsL day).filter (badLot hs)).map fun l => (l.length, l))).map (·.2) = shortL hs day := by
  unfold minK shortL lotsS
  have e : ((lotsL day).filter (badLot hs)).map (fun l => (l.length, l)) = ((lotsL day).map fun l => (l.length, l)).filter fun p => badLot hs p.2 := by
    rw [List.filter_map]; rfl
  rw [e, sortK_filter, List.head?_filter, List.find?_map]
  rfl
theorem short_none : shortL hs day = none ↔ ∀ l ∈ lotsL day, badLot hs l = false := by
  unfold shortL
  rw [List.find?_eq_none]
  exact ⟨fun h l hl => by simpa using h l (mem_lotsS.mpr hl), fun h l hl => by simpa using h l (mem_lotsS.mp hl)⟩
theorem p_lots_of (hl : day.length ≤ 3) (h : Q (.lst ((lotsS day).map enc))) : S_lots_of [enc day] Q E := by
  rw [u_lots_of]
  simp [m_lots_of]
  refine forE_pre enc (I := fun pre ρ => ∃ a2 a3 a4 : Option Slot, ρ = [some (.val (enc day)), some (.val (.lst ((lotsL pre).map enc))), a2, a3, a4]) ?_ ⟨none, none, none, rfl⟩ ?_
  · rintro pre x post he ρ ⟨a2, a3, a4, rfl⟩ N hN
    have hpl : pre.length ≤ 2 := by have := congrArg List.length he; simp at this; omega
    have h8 := lotsL_8 (day := pre) (by omega)
    unfold b1_lots_of
    simp
    rw [lcE_mapE enc enc (fun l : List Nat => l ++ [x])]
    · have := hN _ ⟨some (.val (.int x)), a3, a4, rfl⟩
      rw [lotsL_snoc] at this
      simp
      refine ⟨by omega, ?_⟩
      simpa using this
    · intro l hl' C
      have h5 := (lotsL_mem pre l hl').1
      have h6 : l.length ≤ 16777215 := by omega
      simp [h6]
  · rintro ρ' ⟨a2, a3, a4, rfl⟩
    have h8 := lotsL_8 (day := day) (by omega)
    simp
    rw [lcE_mapE enc enc (fun l : List Nat => (l.length, l))]
    · refine sorted_enc (by decide) (by simp; omega) sortable_pair ?_ _ (.inl rfl)
      simp
      rw [lcE_mapE enc enc (fun p : Nat × List Nat => p.2)]
      · exact h
      · intro p hp C
        simp
    · intro l hl' C
      simp
theorem nodup_ableN {lot ks : List Nat} (h1 : ks.Nodup) (h2 : ∀ a, a ∈ ks ↔ ∃ u ∈ lot, a ∈ crewL hs u) : ks.length = ableN hs lot := by
  unfold ableN
  rw [filter_idx_len ([] : List Nat)]
  refine ((List.perm_ext_iff_of_nodup h1 (List.Pairwise.filter _ List.nodup_range)).mpr fun a => ?_).length_eq
  rw [h2, List.mem_filter]
  simp [crewL]
  constructor
  · rintro ⟨u, h1, h2, h3⟩
    exact ⟨h2, u, h1, h3⟩
  · rintro ⟨h2, u, h1, h3⟩
    exact ⟨u, h1, h2, h3⟩
theorem crewL_nodup : (crewL hs u).Nodup := List.Pairwise.filter _ List.nodup_range
theorem bLen_dct {ks vs : List D} : bLen [.dct ks vs] = some (.int ks.length) := rfl
theorem p_short_lot (hn : hs.length ≤ 3) (hl : day.length ≤ 3) (h : Q (tupO (shortL hs day))) : S_short_lot [enc day, .tup (hs.map enc)] Q E := by
  rw [u_short_lot]
  simp [m_short_lot]
  refine p_lots_of hl ?_
  simp
  refine forE_pre enc (I := fun pre ρ => (∀ l ∈ pre, badLot hs l = false) ∧ ∃ a2 a3 a4 a5 : Option Slot, ρ = [some (.val (enc day)), some (.val (.tup (hs.map enc))), a2, a3, a4, a5]) ?_ ⟨by simp, none, none, none, none, rfl⟩ ?_
  · rintro pre x post he ρ ⟨h1, a2, a3, a4, a5, rfl⟩ N hN
    have hx : x ∈ lotsL day := mem_lotsS.mp (by rw [he]; simp)
    have hxl := (lotsL_mem day x hx).1
    unfold b1_short_lot
    simp
    refine dc2E_put (α := Nat) enc (fun u : Nat => crewL hs u) 3 (ks := []) (vals := []) (by simp; omega) (by simp) (fun u hu ks vals R hnd hln hR => ?_) fun ks vals hnd hln hk => ?_
    · simp
      rw [e_able]
      simp
      have hcl := crewL_len (hs := hs) (u := u)
      refine dcE_putN (α := Nat) enc (fun c => some (c, D.bl true)) (fun a => ⟨.inl a, rfl⟩) (by omega) hnd (fun c hc C hC => by simpa using hC) fun ks' vals' hnd' hln' hk' => ?_
      refine hR ks' vals' hnd' (by omega) fun a => ?_
      rw [hk']
      simp
    · have e := nodup_ableN (hs := hs) (lot := x) hnd (fun a => by rw [hk]; simp)
      have eb : badLot hs x = decide (ks.length < x.length) := by unfold badLot; rw [e]
      by_cases hb : ks.length < x.length
      · have hs1 : shortL hs day = some x := by
          unfold shortL
          rw [he, List.find?_append, List.find?_eq_none.mpr (fun l hl => by simpa using h1 l hl), List.find?_cons, eb, decide_eq_true hb]
          rfl
        rw [hs1] at h
        simp [bLen_dct, hb]
        simpa [tupO] using h
      · simp [hb]
        exact hN _ ⟨fun l hl => by
          rcases List.mem_append.mp hl with hl | hl
          · exact h1 l hl
          · rw [List.mem_singleton.mp hl, eb, decide_eq_false hb], _, _, _, _, rfl⟩
  · rintro ρ' ⟨h1, a2, a3, a4, a5, rfl⟩
    have : shortL hs day = none := short_none.mpr fun l hl => h1 l (mem_lotsS.mpr hl)
    rw [this] at h
    simpa [tupO] using h
def pairO : Option (Nat × List Nat) → D
  | none => .non
  | some p => enc p
theorem dNe_ones {ws : List Int} : dNe (.lst (ws.map D.int)) (.lst []) = some (.bl (decide (ws ≠ []))) := dNe_lst_nil (α := Int)
theorem bInt_t : bInt [.bl true] = some (.int 1) := rfl
theorem bInt_f : bInt [.bl false] = some (.int 0) := rfl
theorem dMul_l1 {d : D} : dMul (.lst [d]) (.int 1) = some (.lst [d]) := rfl
theorem dMul_l0 {d : D} : dMul (.lst [d]) (.int 0) = some (.lst []) := rfl
theorem dAdd_ll {ds es : List D} (h : ds.length + es.length ≤ 16777216) : dAdd (.lst ds) (.lst es) = some (.lst (ds ++ es)) := by
  first | rfl | simp [h]
theorem p__law_stuck (hn : hs.length ≤ 3) (hl : day.length ≤ 3) (h : Q (tupO (shortL hs day))) : S__law_stuck [enc day, .tup (hs.map enc)] Q E := by
  rw [u__law_stuck]
  simp [m__law_stuck]
  refine forE_pre enc (I := fun pre ρ => ∃ a3 a4 a5 a6 a7 : Option Slot, ρ = [some (.val (enc day)), some (.val (.tup (hs.map enc))), some (.val (.lst ((lotsL pre).map enc))), a3, a4, a5, a6, a7]) ?_ ⟨none, none, none, none, none, rfl⟩ ?_
  · rintro pre x post he ρ ⟨a3, a4, a5, a6, a7, rfl⟩ N hN
    have hpl : pre.length ≤ 2 := by have := congrArg List.length he; simp at this; omega
    have h8 := lotsL_8 (day := pre) (by omega)
    unfold b1__law_stuck
    simp
    rw [lcE_mapE enc enc (fun l : List Nat => l ++ [x])]
    · have := hN _ ⟨some (.val (.int x)), a4, a5, a6, a7, rfl⟩
      rw [lotsL_snoc] at this
      simp
      refine ⟨by omega, ?_⟩
      simpa using this
    · intro l hl' C
      have h5 := (lotsL_mem pre l hl').1
      have h6 : l.length ≤ 16777215 := by omega
      simp [h6]
  · rintro ρ' ⟨a3, a4, a5, a6, a7, rfl⟩
    have h8 := lotsL_8 (day := day) (by omega)
    simp
    refine forE_pre enc (I := fun pre ρ => ∃ a3 a4 a6 a7 : Option Slot, ρ = [some (.val (enc day)), some (.val (.tup (hs.map enc))), some (.val (.lst ((lotsL day).map enc))), a3, a4, some (.val (.lst (((pre.filter (badLot hs)).map fun l => (l.length, l)).map enc))), a6, a7]) ?_ ⟨a3, a4, a6, a7, rfl⟩ ?_
    · rintro pre x post he ρ ⟨a3, a4, a6, a7, rfl⟩ N hN
      have hpl : pre.length ≤ 8 := by have := congrArg List.length he; simp at this; omega
      have hpf := List.length_filter_le (badLot hs) pre
      unfold b2__law_stuck
      simp
      rw [lcE_filE enc D.int (fun h : List Nat => x.any fun u => decide (u ∈ h)) (fun _ => (1 : Int))]
      · simp
        have ea : ableN hs x = (hs.filter fun h : List Nat => x.any fun u => decide (u ∈ h)).length := rfl
        rw [← ea]
        by_cases hb : ableN hs x < x.length
        · have eb : badLot hs x = true := by unfold badLot; exact decide_eq_true hb
          have := hN _ ⟨a3, some (.val (enc x)), some (.val (.int (ableN hs x))), a7, rfl⟩
          rw [List.filter_append, List.filter_cons, if_pos eb] at this
          simp [hb, bInt_t, dMul_l1]
          refine ⟨by omega, ?_⟩
          simpa using this
        · have eb : badLot hs x = false := by unfold badLot; exact decide_eq_false hb
          have := hN _ ⟨a3, some (.val (enc x)), some (.val (.int (ableN hs x))), a7, rfl⟩
          rw [List.filter_append, List.filter_cons, if_neg (by rw [eb]; decide)] at this
          simp [hb, bInt_f, dMul_l0]
          refine ⟨by omega, ?_⟩
          simpa using this
      · intro hd hhd C
        simp
        rw [lcE_filE enc D.int (fun u : Nat => decide (u ∈ hd)) (fun _ => (1 : Int))]
        · rw [List.nil_append, dNe_ones]
          simp
        · intro u hu C
          simp [dIn_n]
    · rintro ρ' ⟨a3, a4, a6, a7, rfl⟩
      have := short_min (hs := hs) (day := day)
      rw [← this] at h
      simp only [s_mRet, s_mIfE, s_mOfBl, s_mBin, s_mVar, s_mLst, s_mNil, frzE_cons, frzE_nil, if_true, Option.map_some, frzS_val, rdv_succ, rdv_val, p_opt_some, List.length_nil, lim_val, Nat.zero_le, true_and, ofBl_bl, dNe_lst_nil, s_mIx, s_mBltR, s_mCons, s_mC, decide_eq_true_eq]
      generalize ((lotsL day).filter (badLot hs)).map (fun l => (l.length, l)) = bs at *
      cases e : minK bs with
      | none =>
        have := minK_none.mp e
        subst this
        rw [e] at h
        simpa [tupO] using h
      | some p =>
        have hp := minK_some.mp e
        rw [e] at h
        have hne : bs ≠ [] := fun q => by subst q; cases hp.1
        rw [if_pos hne, min_enc (by decide) hp.1 hp.2 _ (.inl rfl)]
        simpa [tupO] using h
end
end Lw

namespace Lw
open PySem PySem.Spec L2 Ev
open Dt (enc)
variable [Tbl]
theorem map_one_nil {α : Type} {xs : List α} {p : α → Bool} : decide (((xs.filter p).map fun _ => (1 : Int)) = []) = xs.all fun x => !p x := by
  rw [Bool.eq_iff_iff, decide_eq_true_eq, List.map_eq_nil_iff, List.filter_eq_nil_iff, List.all_eq_true]
  simp
theorem dEq_ones_nil {ws : List Int} : dEq (.lst (ws.map D.int)) (.lst []) = some (.bl (decide (ws = []))) := dEq_lst_nil (α := Int)
theorem map_one_ne {α : Type} {xs : List α} {p : α → Bool} : decide (((xs.filter p).map fun _ => (1 : Int)) ≠ []) = !xs.all fun x => !p x := by
  rw [← map_one_nil, ← decide_not]
theorem forE_preD {g : MG} {ms : MS} {rt : D → Prop} {nx bk ct : EnvD → Prop} {ex : Exc → Prop} {ρ : EnvD} {I : List D → EnvD → Prop} {ds : List D}
    (h : ∀ pre x post, ds = pre ++ x :: post → ∀ ρ, I pre ρ → ∀ n : EnvD → Prop, (∀ ρ', I (pre ++ [x]) ρ' → n ρ') → g x ρ fun ρ1 => ms ρ1 ⟨n, rt, nx, n, ex⟩)
    (h0 : I [] ρ) (hk : ∀ ρ', I ds ρ' → nx ρ') : forE g ms ds ρ ⟨nx, rt, bk, ct, ex⟩ := by
  have := forE_pre (rt := rt) (nx := nx) (bk := bk) (ct := ct) (ex := ex) (ms := ms) (g := g) id (I := I) (xs := ds) h h0 hk
  rwa [List.map_id] at this
section
open Classical
variable {Q : D → Prop} {E : Exc → Prop} {hs : List (List Nat)} {days : List (List Nat)} {d : D} {ds : List D} {xs : List Int}
def pdO : Option (List Nat) → PyData
  | none => .none
  | some r => Dt.pd r
theorem toPDs_tupO : ∀ (os : List (Option (List Nat))), toPDs (os.map tupO) = some (os.map pdO)
  | [] => rfl
  | o :: os => by
    rw [List.map_cons, toPDs, toPDs_tupO os]
    cases o with
    | none => rfl
    | some r =>
      rw [show tupO (some r) = enc r from rfl, Dt.hpd]
      rfl
theorem inData_tupO {os : List (Option (List Nat))} : inData .non (os.map tupO) = some (decide (none ∈ os)) := by
  unfold inData
  rw [toPDs_tupO]
  show (if (PyData.none).depth ≤ 64 then some ((os.map pdO).any fun q => PyData.eqv q .none) else none) = _
  rw [if_pos (by decide)]
  congr 1
  induction os with
  | nil => rfl
  | cons o os ih =>
    rw [List.map_cons, List.any_cons, ih]
    cases o with
    | none => simp [pdO, PyData.eqv]
    | some r => simp [pdO, Dt.pd, PyData.eqv]
theorem dIn_tupO {os : List (Option (List Nat))} : dIn .non (.lst (os.map tupO)) = some (.bl (decide (none ∈ os))) ∧ dIn .non (.tup (os.map tupO)) = some (.bl (decide (none ∈ os))) := by
  constructor
  · show (inData .non (os.map tupO)).map _ = _
    rw [inData_tupO]; rfl
  · show (inData .non (os.map tupO)).map _ = _
    rw [inData_tupO]; rfl
theorem dIsNot_tupO {o : Option (List Nat)} : dIsNot (tupO o) .non = some (.bl o.isSome) := by cases o <;> rfl
theorem dIs_tupO {o : Option (List Nat)} : dIs (tupO o) .non = some (.bl o.isNone) := by cases o <;> rfl
def rowsD (hs : List (List Nat)) (days : List (List Nat)) : List (Option (List Nat)) := days.map fun day => minK (rowsL hs day)
def staffedD (hs : List (List Nat)) (days : List (List Nat)) : D := if none ∈ rowsD hs days then .non else .tup ((rowsD hs days).map tupO)
theorem p_staffed (hn : hs.length ≤ 3) (hd : ∀ day ∈ days, day.length ≤ 3) (h : Q (staffedD hs days)) : S_staffed [.tup (days.map enc), .tup (hs.map enc)] Q E := by
  rw [u_staffed]
  simp [m_staffed]
  refine lcE_mapI enc tupO (fun day => minK (rowsL hs day)) (fun day hday C hC => ?_) ?_
  · simp
    exact p_staff_of hn (hd day hday) hC
  · rw [List.nil_append, show days.map (fun day => minK (rowsL hs day)) = rowsD hs days from rfl]
    unfold staffedD at h
    simp [dIn_tupO]
    by_cases hm : none ∈ rowsD hs days
    · simpa [hm] using h
    · simpa [hm] using h
def bads (hs : List (List Nat)) (days : List (List Nat)) : List (Nat × List Nat) := days.zipIdx.filterMap fun p => (shortL hs p.1).map fun l => (p.2, l)
theorem p_stuck_day (hn : hs.length ≤ 3) (hd : ∀ day ∈ days, day.length ≤ 3) (h : Q (pairO (bads hs days).head?)) : S_stuck_day [.tup (days.map enc), .tup (hs.map enc)] Q E := by
  rw [u_stuck_day]
  simp [m_stuck_day]
  rw [enumFrom_map]
  refine lcE_mapI _ (fun q : Nat × Option (List Nat) => D.tup [.int (q.1 : Nat), tupO q.2]) (fun p : List Nat × Nat => (p.2, shortL hs p.1)) (fun p hp C hC => ?_) ?_
  · simp
    exact p_short_lot hn (hd _ (List.fst_mem_of_mem_zipIdx (x := p) hp)) (by simpa using hC)
  · rw [List.nil_append]
    rw [lcE_eq (fun q : Nat × Option (List Nat) => D.tup [.int (q.1 : Nat), tupO q.2]) enc (fun q : Nat × Option (List Nat) => q.2.map fun l => (q.1, l))]
    · have e : (days.zipIdx.map fun p : List Nat × Nat => (p.2, shortL hs p.1)).filterMap (fun q : Nat × Option (List Nat) => q.2.map fun l => (q.1, l)) = bads hs days := by
        rw [List.filterMap_map]; rfl
      rw [e, List.nil_append]
      simp only [dNe_lst_nil, p_opt_some, ofBl_bl, decide_eq_true_eq]
      generalize bads hs days = bs at *
      cases bs with
      | nil => simpa [pairO] using h
      | cons b bs => simpa [pairO] using h
    · intro q hq C
      obtain ⟨k, o⟩ := q
      cases o with
      | none => simp [tupO]
      | some l => simp [tupO]
def idleL (hs : List (List Nat)) (rows : List (List Nat)) : List Nat := (List.range hs.length).map fun c => (rows.filter fun r => decide (c ∉ r)).length
theorem p_idle_none (hn : hs.length ≤ 3) (hd : ∀ day ∈ days, day.length ≤ 3) (hm : none ∈ rowsD hs days) (h : E (rfd "stuck")) : S_idle_days [.tup (days.map enc), .tup (hs.map enc)] Q E := by
  rw [u_idle_days]
  simp [m_idle_days]
  refine p_staffed hn hd ?_
  unfold staffedD
  simp [hm]
  exact h
theorem p_idle_some {rows : List (List Nat)} (hn : hs.length ≤ 3) (hd : ∀ day ∈ days, day.length ≤ 3) (hr : rowsD hs days = rows.map some) (h : Q (.tup ((idleL hs rows).map enc))) : S_idle_days [.tup (days.map enc), .tup (hs.map enc)] Q E := by
  rw [u_idle_days]
  simp [m_idle_days]
  refine p_staffed hn hd ?_
  have e1 : (rowsD hs days).map tupO = rows.map enc := by rw [hr, List.map_map]; rfl
  have e2 : none ∉ rowsD hs days := by rw [hr]; simp
  have l1 : (hs.length : Int) ≤ 16777216 := by omega
  unfold staffedD
  simp [e2, e1]
  refine ⟨by omega, ?_⟩
  rw [lcE_mapE enc enc (fun c : Nat => (rows.filter fun r => decide (c ∉ r)).length)]
  · simpa [idleL] using h
  · intro c hc C
    simp
    rw [lcE_filE enc enc (fun r : List Nat => decide (c ∉ r)) id]
    · simp
    · intro r hr C
      simp [dNotIn_n]
/-! hands -/
def riseB (xs : List Int) : Bool := (xs.zip (xs.drop 1)).all fun p => decide (p.1 < p.2)
def inB (x : Int) : Bool := decide (0 ≤ x ∧ x ≤ 11)
def toI : D → Int
  | .int i => i
  | _ => 0
def riseV : D → Bool
  | .tup ds => riseB (ds.map toI)
  | _ => false
def inV : D → Bool
  | .tup ds => (ds.map toI).all inB
  | _ => false
def handB (d : D) : Bool := areIntsD d && (riseV d && inV d)
def handsB : D → Bool
  | .tup ds => decide (1 ≤ ds.length ∧ ds.length ≤ 6) && ds.all handB
  | _ => false
theorem toI_map : (xs.map D.int).map toI = xs := by
  rw [List.map_map]
  exact (List.map_congr_left fun m _ => rfl).trans (List.map_id xs)
theorem cutL_1 {α : Type} {xs : List α} : cutL xs (some 1) none = xs.drop 1 := by
  unfold cutL
  rw [show (1 : Int) = ((1 : Nat) : Int) from rfl, HT.sIx_nat, HT.sIx_none]
  cases xs <;> simp
theorem e_do_rise (hl : xs.length ≤ 64) : S_do_rise [.tup (xs.map D.int)] Q E = Q (.bl (riseB xs)) := by
  rw [u_do_rise]
  simp [m_do_rise]
  rw [e_are_integers_pl (by simp; exact ⟨hl, plDs_map fun _ _ => rfl⟩)]
  simp [areIntsD]
  rw [cutL_map, cutL_1, zipD_map]
  rw [lcE_mapE _ D.bl (fun p : Int × Int => decide (p.1 < p.2))]
  · rw [List.nil_append, bAll_bls, List.all_map, p_opt_some]
    rfl
  · intro p hp C
    simp
theorem riseV_ints : riseV (.tup (xs.map D.int)) = riseB xs := by show riseB ((xs.map D.int).map toI) = _; rw [toI_map]
theorem inV_ints : inV (.tup (xs.map D.int)) = xs.all inB := by show ((xs.map D.int).map toI).all inB = _; rw [toI_map]
theorem e_are_hands (h : plD d = true) : S_are_hands [d] Q E = Q (.bl (handsB d)) := by
  rw [u_are_hands]
  cases d with
  | tup ds =>
    simp at h
    simp [m_are_hands]
    by_cases h1 : (1 : Int) ≤ ds.length
    · by_cases h6 : (ds.length : Int) ≤ 6
      · have := fun (Q : List D → Prop) => lcE_mapE (ρ := [some (.val (.tup ds)), none, none]) (vs := [1]) (mg := gN 1) (mt := mYes) (me := mAndV (mCall S_are_integers (nName 1 nNil)) (mCall S_do_rise (nName 1 nNil))) id D.bl (fun x => areIntsD x && riseV x) (xs := ds) (acc := []) (Q := Q) (fun x hx C => by
          have hp := plDs_all.mp h.2 x hx
          simp
          rw [e_are_integers_pl hp]
          cases hi : areIntsD x with
          | false => simp
          | true =>
            obtain ⟨xs, rfl⟩ := areInts_of hi
            simp at hp
            simp
            rw [e_do_rise hp.1]
            simp [riseV_ints])
        rw [List.map_id] at this
        simp [h1, h6]
        rw [this, List.nil_append, bAll_bls, List.all_map]
        rw [show (id ∘ fun x => areIntsD x && riseV x) = (fun x => areIntsD x && riseV x) from rfl]
        have h16 : 1 ≤ ds.length ∧ ds.length ≤ 6 := by omega
        cases hr : ds.all (fun x => areIntsD x && riseV x) with
        | false =>
          have e : ds.all handB = false := by
            cases he : ds.all handB with
            | false => rfl
            | true =>
              rw [List.all_eq_true] at he
              rw [← hr, Eq.comm, List.all_eq_true]
              intro x hx
              have := he x hx
              unfold handB at this
              simp at this ⊢
              exact ⟨this.1, this.2.1⟩
          simp [handsB, e]
        | true =>
          rw [List.all_eq_true] at hr
          obtain ⟨ys, rfl⟩ : ∃ ys : List (List Int), ds = ys.map fun xs => D.tup (xs.map D.int) := by
            clear this h h1 h6 h16
            induction ds with
            | nil => exact ⟨[], rfl⟩
            | cons x ds ih =>
              obtain ⟨ys, e⟩ := ih fun y hy => hr y (List.mem_cons_of_mem _ hy)
              have := hr x List.mem_cons_self
              simp at this
              obtain ⟨xs, rfl⟩ := areInts_of this.1
              exact ⟨xs :: ys, by rw [e]; rfl⟩
          have hyl : ys.length ≤ 4095 := by simp at h6; omega
          simp [hyl]
          rw [lc2E_eq (fun xs : List Int => D.tup (xs.map D.int)) D.bl (fun xs => xs.map inB)]
          · rw [List.nil_append, bAll_bls]
            have e : (ys.flatMap fun xs => xs.map inB).all id = (ys.map fun xs => D.tup (xs.map D.int)).all handB := by
              rw [Bool.eq_iff_iff, List.all_eq_true, List.all_eq_true]
              constructor
              · intro hx x hxm
                have h2 := hr x hxm
                obtain ⟨xs, hxs, rfl⟩ := List.mem_map.mp hxm
                simp at h2
                unfold handB
                rw [h2.1, h2.2]
                simp only [inV, toI_map, Bool.true_and, List.all_eq_true]
                intro y hy
                exact hx _ (List.mem_flatMap.mpr ⟨xs, hxs, List.mem_map.mpr ⟨y, hy, rfl⟩⟩)
              · intro hx b hb
                obtain ⟨xs, hxs, hb⟩ := List.mem_flatMap.mp hb
                obtain ⟨y, hy, rfl⟩ := List.mem_map.mp hb
                have := hx _ (List.mem_map.mpr ⟨xs, hxs, rfl⟩)
                unfold handB at this
                simp only [inV, toI_map, Bool.and_eq_true, List.all_eq_true] at this
                exact this.2.2 y hy
            rw [e]
            have h16' : 1 ≤ ys.length ∧ ys.length ≤ 6 := by simpa using h16
            simp [handsB, h16']
          · intro xs hxs acc C
            have hx64 : xs.length ≤ 4096 := by
              have := plDs_all.mp h.2 _ (List.mem_map.mpr ⟨xs, hxs, rfl⟩)
              simp at this
              omega
            simp [hx64]
            rw [lcE_mapE D.int D.bl inB]
            · simp
            · intro x hx C
              by_cases h0 : 0 ≤ x <;> simp [inB, h0]
      · have : ¬ ds.length ≤ 6 := by omega
        simp [h1, h6, handsB, this]
    · have : ds.length = 0 := by omega
      simp [h1, handsB, this]
  | bag => cases h
  | fn _ => cases h
  | ty _ => cases h
  | _ => simp [m_are_hands, handsB]
theorem p__law_are_hands (h : plD d = true) (q : Q (.bl (handsB d))) : S__law_are_hands [d] Q E := by
  rw [u__law_are_hands]
  cases d with
  | tup ds =>
    simp at h
    simp [m__law_are_hands]
    by_cases h1 : (1 : Int) ≤ ds.length
    · by_cases h6 : (ds.length : Int) ≤ 6
      · have h16 : 1 ≤ ds.length ∧ ds.length ≤ 6 := by omega
        have eq1 : handsB (.tup ds) = ds.all handB := by simp [handsB, h16]
        rw [eq1] at q
        simp [h1, h6]
        refine forE_preD (I := fun pre ρ => (∀ x ∈ pre, handB x = true) ∧ ∃ a1 a2 a3 : Option Slot, ρ = [some (.val (.tup ds)), a1, a2, a3]) ?_ ⟨by simp, none, none, none, rfl⟩ ?_
        · rintro pre x post he ρ ⟨hp, a1, a2, a3, rfl⟩ N hN
          have hx : x ∈ ds := by rw [he]; simp
          have hpx := plDs_all.mp h.2 x hx
          have hit : handB x = false → Q (.bl false) := fun hf => by
            rw [show ds.all handB = false from by
              cases e : ds.all handB with
              | false => rfl
              | true => rw [List.all_eq_true] at e; rw [e x hx] at hf; cases hf] at q
            exact q
          have next : handB x = true → ∀ a1 a2 a3, N [some (.val (.tup ds)), a1, a2, a3] := fun ht a1 a2 a3 => hN _ ⟨fun y hy => by
            rcases List.mem_append.mp hy with hy | hy
            · exact hp y hy
            · rw [List.mem_singleton.mp hy]; exact ht, _, _, _, rfl⟩
          unfold b1__law_are_hands
          cases x with
          | tup es =>
            simp at hpx
            simp
            have := fun (Q : List D → Prop) => lcE_filE (ρ := [some (.val (.tup ds)), some (.val (.tup es)), a2, a3]) (vs := [2]) (mg := gN 2) (mt := mOrT (mNotT (mTru (mCall S__law_is_int (nName 2 nNil)))) (mNotT (mOfBl (mChain dLe dLe (mC (.int 0)) (mVar 2) (mC (.int 11)))))) (me := mC (.int 1)) id D.int (fun d => !(isIntD d && inB (toI d))) (fun _ => (1 : Int)) (xs := es) (acc := []) (Q := Q) (fun y hy C => by
              have hpy := plDs_all.mp hpx.2 y hy
              simp
              rw [e_law_is_int_pl hpy]
              cases y with
              | int i =>
                have e : (11 < i) = ¬ i ≤ 11 := by simp
                by_cases h0 : 0 ≤ i
                · by_cases h1 : i ≤ 11 <;> simp [inB, toI, h0, h1, e]
                · simp [inB, toI, h0]
              | _ => simp [isIntD])
            rw [List.map_id] at this
            rw [this, List.nil_append, dNe_ones]
            rw [map_one_ne]
            simp only [p_opt_some, ofBl_bl, Bool.not_not]
            cases ha : es.all (fun d => isIntD d && inB (toI d)) with
            | false =>
              simp
              refine hit ?_
              unfold handB
              cases e1 : areIntsD (.tup es) with
              | false => rfl
              | true =>
                have : inV (.tup es) = false := by
                  cases e2 : inV (.tup es) with
                  | false => rfl
                  | true =>
                    unfold inV at e2
                    unfold areIntsD at e1
                    rw [List.all_eq_true] at e1 e2
                    rw [← ha, Eq.comm, List.all_eq_true]
                    intro y hy
                    rw [e1 y hy, e2 _ (List.mem_map.mpr ⟨y, hy, rfl⟩)]; rfl
                simp [this]
            | true =>
              rw [List.all_eq_true] at ha
              have e1 : es.all isIntD = true := List.all_eq_true.mpr fun y hy => by have := ha y hy; simp at this; exact this.1
              obtain ⟨xs, rfl⟩ := ints_of e1
              have e2 : inV (.tup (xs.map D.int)) = true := by
                unfold inV
                rw [List.all_eq_true]
                intro i hi
                obtain ⟨y, hy, rfl⟩ := List.mem_map.mp hi
                have := ha y hy
                simp at this
                exact this.2
              have e3 : areIntsD (.tup (xs.map D.int)) = true := e1
              simp
              rw [cutL_map, cutL_1, zipD_map]
              rw [lcE_filE _ D.int (fun p : Int × Int => decide (p.2 ≤ p.1)) (fun _ => (1 : Int))]
              · rw [List.nil_append, dNe_ones, map_one_ne]
                have e4 : (xs.zip (xs.drop 1)).all (fun p : Int × Int => !decide (p.2 ≤ p.1)) = riseV (.tup (xs.map D.int)) := by
                  rw [riseV_ints]
                  unfold riseB
                  congr 1
                  funext p
                  rw [Bool.eq_iff_iff]
                  simp
                rw [e4]
                have e5 : handB (.tup (xs.map D.int)) = riseV (.tup (xs.map D.int)) := by unfold handB; rw [e2, e3]; simp
                cases hr : riseV (.tup (xs.map D.int)) with
                | false => simp; exact hit (by rw [e5, hr])
                | true => simp; exact next (by rw [e5, hr]) _ _ _
              · intro p hp C
                simp
          | bag => cases hpx
          | fn _ => cases hpx
          | ty _ => cases hpx
          | _ => simp; exact hit rfl
        · rintro ρ' ⟨hp, a1, a2, a3, rfl⟩
          rw [show ds.all handB = true from List.all_eq_true.mpr hp] at q
          simpa using q
      · have : ¬ ds.length ≤ 6 := by omega
        simp [handsB, this] at q
        simp [h1, h6, q]
    · have : ds.length = 0 := by omega
      simp [handsB, this] at q
      simp [h1, q]
  | bag => cases h
  | fn _ => cases h
  | ty _ => cases h
  | _ => simp [handsB] at q; simp [m__law_are_hands, q]
end
end Lw

namespace Lw
open PySem PySem.Spec L2 Ev
open Dt (enc)
variable [Tbl]
theorem paired_len {α β : Type} {R : α → β → Prop} {xs : List α} {ys : List β} (h : Paired R xs ys) : xs.length = ys.length := by
  induction h with
  | nil => rfl
  | cons _ _ ih => simp [ih]
section
open Classical
variable {Q : D → Prop} {E : Exc → Prop} {hs : List (List Nat)} {days : List (List Nat)}
theorem cut_le {α : Type} {xs : List α} {a b : Nat} : (cutL xs (some (a : Int)) (some (b : Int))).length ≤ b - a := by
  unfold cutL
  rw [HT.sIx_nat, HT.sIx_nat]
  simp
  omega
/-- a comprehension of drawn things, some of them left out -/
theorem lcE_anyO {α β : Type} {vs : List Nat} {mg : MG} {mt : MT} {me : ME} {ρ : EnvD} (e : α → D) (e' : β → D) (R : α → β → Prop) : ∀ {xs : List α} {acc : List D} {Q : List D → Prop},
    (∀ x ∈ xs, ∀ C : Option D → Prop, C none → (∀ y : β, R x y → C (some (e' y))) → mg (e x) (wipeE ρ vs) fun ρ1 => mt ρ1 (fun b => if b = true then me ρ1 (fun y => C (some y)) (fun _ => False) else C none) (fun _ => False)) →
    (∀ ys : List β, ys.length ≤ xs.length → (∀ y ∈ ys, ∃ x ∈ xs, R x y) → Q (acc ++ ys.map e')) → lcE vs mg mt me (xs.map e) ρ acc Q
  | [], acc, Q, _, q => by
    have := q [] (by simp) (by simp)
    simpa [lcE] using this
  | x :: xs, acc, Q, h, q => by
    rw [List.map_cons]
    unfold lcE
    have ih := fun acc Q q => lcE_anyO e e' R (xs := xs) (acc := acc) (Q := Q) (fun x' hx => h x' (List.mem_cons_of_mem _ hx)) q
    refine h x List.mem_cons_self (fun o => match o with
      | some y => lcE vs mg mt me (xs.map e) ρ (acc ++ [y]) Q
      | none => lcE vs mg mt me (xs.map e) ρ acc Q) (ih _ _ fun ys h1 h2 => q ys (by simp; omega) fun y hy => ?_) fun y hy => ih _ _ fun ys h1 h2 => ?_
    · obtain ⟨z, hz, hr⟩ := h2 y hy
      exact ⟨z, List.mem_cons_of_mem _ hz, hr⟩
    · have := q (y :: ys) (by simp; omega) (fun z hz => by
        rcases List.mem_cons.mp hz with rfl | hz
        · exact ⟨x, List.mem_cons_self, hy⟩
        · obtain ⟨w, hw, hr⟩ := h2 z hz
          exact ⟨w, List.mem_cons_of_mem _ hw, hr⟩)
      simpa using this
theorem dat_nats {xs : List Nat} : datD (enc xs) = true := datD_enc
theorem sz_nats {xs : List Nat} : szD (enc xs) ≤ xs.length + 1 := by
  have := szDs_map (f := fun n : Nat => enc n) 1 (xs := xs) (fun _ _ => by simp)
  rw [enc_list, szD_tup]
  exact Nat.succ_le_succ (by simpa only [Nat.mul_one] using this)
theorem row_dat {day : List Nat} (hd : day.length ≤ 3) : datD (tupO (minK (rowsL hs day))) = true ∧ szD (tupO (minK (rowsL hs day))) ≤ 4 := by
  cases e : minK (rowsL hs day) with
  | none => exact ⟨rfl, by simp [tupO]⟩
  | some r =>
    have h1 := rowsL_mem r (minK_some.mp e).1
    have h2 := sz_nats (xs := r)
    exact ⟨dat_nats, Nat.le_trans h2 (by omega)⟩
theorem staffed_dat (hd : ∀ day ∈ days, day.length ≤ 3) (hl : days.length ≤ 4) : datD (staffedD hs days) = true ∧ szD (staffedD hs days) ≤ 20 := by
  unfold staffedD
  split
  · exact ⟨rfl, by simp⟩
  · unfold rowsD
    rw [List.map_map]
    have h1 : datDs (days.map (tupO ∘ fun day => minK (rowsL hs day))) = true := datDs_map fun day hday => (row_dat (hd day hday)).1
    have h2 : szDs (days.map (tupO ∘ fun day => minK (rowsL hs day))) ≤ days.length * 4 := szDs_map 4 fun day hday => (row_dat (hd day hday)).2
    exact ⟨by rw [datD_tup]; exact h1, by rw [szD_tup]; omega⟩
theorem bads_dat (hd : ∀ day ∈ days, day.length ≤ 3) : datD (pairO (bads hs days).head?) = true ∧ szD (pairO (bads hs days).head?) ≤ 20 := by
  cases e : (bads hs days).head? with
  | none => exact ⟨rfl, by simp [pairO]⟩
  | some p =>
    have hp := List.mem_of_head? e
    obtain ⟨q, hq, hpq⟩ := List.mem_filterMap.mp hp
    cases e2 : shortL hs q.1 with
    | none => rw [e2] at hpq; cases hpq
    | some l =>
      rw [e2] at hpq
      cases hpq
      have h1 := (lotsL_mem _ l (mem_lotsS.mp (List.mem_of_find?_eq_some e2))).1
      have h2 := hd _ (List.fst_mem_of_mem_zipIdx (x := q) hq)
      have h3 := sz_nats (xs := l)
      refine ⟨datD_enc (a := (q.2, l)), ?_⟩
      show szD (enc (q.2, l)) ≤ 20
      rw [enc_pair, szD_tup, szDs_cons, szDs_cons, szDs_nil]
      simp only [enc_nat, szD_int]
      omega
theorem idle_dat {rows : List (List Nat)} (hn : hs.length ≤ 3) : datD (.tup ((idleL hs rows).map enc)) = true ∧ szD (.tup ((idleL hs rows).map enc)) ≤ 20 := by
  have h := sz_nats (xs := idleL hs rows)
  have h2 : (idleL hs rows).length = hs.length := by simp [idleL]
  exact ⟨datD_enc (a := idleL hs rows), Nat.le_trans h (by omega)⟩
theorem p_b3_law {R : EnvD → Prop} {rt : D → Prop} {bk ct : EnvD → Prop} {ex : Exc → Prop} {a2 a3 a4 a5 a6 a7 a9 a10 a11 a12 a13 a14 a15 a16 a17 a18 : Option Slot} (hn : hs.length ≤ 30) (hh : ∀ h ∈ hs, h.length ≤ 30)
    (hR : ∀ a17 a18 : Option Slot, R [none, some (.val .bag), a2, a3, a4, a5, a6, a7, some (.val (.tup (hs.map enc))), a9, a10, a11, a12, a13, a14, a15, a16, a17, a18]) :
    b3_law [none, some (.val .bag), a2, a3, a4, a5, a6, a7, some (.val (.tup (hs.map enc))), a9, a10, a11, a12, a13, a14, a15, a16, a17, a18] ⟨R, rt, bk, ct, ex⟩ := by
  unfold b3_law
  simp
  have wh : wiD (.tup (hs.map enc)) = true := by
    simp
    exact ⟨hn, wiDs_map fun h hm => by
      simp
      exact ⟨hh h hm, wiDs_map fun _ _ => rfl⟩⟩
  have fin : ∀ (e : D) (a18 : Option Slot), plD e = true → S_are_hands [e] (fun x => S__law_are_hands [e] (fun y => S__law_alike [x, y] (fun b => Opt (dTru b) fun t => if t = true then R [none, some (.val .bag), a2, a3, a4, a5, a6, a7, some (.val (.tup (hs.map enc))), a9, a10, a11, a12, a13, a14, a15, a16, some (.val e), a18] else rt (.bl false)) (fun x => ex x)) fun x => ex x) (fun x => ex x) := fun e a18 hp => by
    rw [e_are_hands hp]
    refine p__law_are_hands hp ?_
    refine p__law_alike rfl (by simp) (by simp) ?_
    simp
    exact hR _ _
  refine p__law_some (by simp) (by simp) (fun b hb => ?_) _ (.inl rfl)
  simp at hb
  rcases hb with rfl | rfl
  · simp
    exact fin _ _ (wi_pl wh).1
  · simp
    rw [forE_cons]
    unfold b2_law
    simp
    refine p__law_bent 2 6 _ wh (by omega) fun e he => ?_
    exact fin e _ he
theorem hall_days (hn : hs.length < 4) (hd : ∀ day ∈ days, day.length < 4) : none ∈ rowsD hs days ↔ bads hs days ≠ [] := by
  have one : ∀ day ∈ days, (minK (rowsL hs day) = none ↔ ∃ l, shortL hs day = some l) := fun day hday => by
    rw [minK_none, hall_day hn (hd day hday)]
    constructor
    · rintro ⟨l, hl, hb⟩
      cases e : shortL hs day with
      | some l => exact ⟨l, rfl⟩
      | none => rw [short_none.mp e l hl] at hb; cases hb
    · rintro ⟨l, hl⟩
      refine Classical.byContradiction fun hc => ?_
      rw [short_none.mpr fun l' hl' => by
        cases e : badLot hs l' with
        | false => rfl
        | true => exact absurd ⟨l', hl', e⟩ hc] at hl
      cases hl
  unfold rowsD bads
  rw [List.mem_map]
  constructor
  · rintro ⟨day, hday, he⟩ hb
    obtain ⟨l, hl⟩ := (one day hday).mp he
    rw [List.filterMap_eq_nil_iff] at hb
    obtain ⟨i, hi, rfl⟩ := List.mem_iff_getElem.mp hday
    have := hb (days[i], i) (List.mem_iff_getElem.mpr ⟨i, by simpa using hi, by simp⟩)
    rw [hl] at this
    cases this
  · intro hb
    refine Classical.byContradiction fun hc => hb ?_
    rw [List.filterMap_eq_nil_iff]
    intro p hp
    have hday := List.fst_mem_of_mem_zipIdx (x := p) hp
    cases e : shortL hs p.1 with
    | none => rfl
    | some l => exact absurd ⟨p.1, hday, (one _ hday).mpr ⟨l, e⟩⟩ hc
theorem p_days {ys : List Nat} {R : EnvD → Prop} {rt : D → Prop} {bk ct : EnvD → Prop} {ex : Exc → Prop} {a2 a6 a7 a8 a9 a10 a11 a12 a13 a14 a15 a16 a17 a18 : Option Slot} {k : Nat} (hk : k < 4) (hyl : ys.length = 7)
    (hR : ∀ (ds : List (List Nat)) (o5 o6 o7 : Option Slot), ds.length ≤ 4 → (∀ d ∈ ds, d.length ≤ 3) → R [none, some (.val .bag), a2, some (.val (.lst (ys.map enc))), some (.own (ds.map enc)), o5, o6, o7, a8, a9, a10, a11, a12, a13, a14, a15, a16, a17, a18]) :
    forE (gN 6) b1_law (rngD 0 (1 + (k : Int))) [none, some (.val .bag), a2, some (.val (.lst (ys.map enc))), some (.own []), some (.val (.int 0)), a6, a7, a8, a9, a10, a11, a12, a13, a14, a15, a16, a17, a18] ⟨R, rt, bk, ct, ex⟩ := by
  rw [show (1 + (k : Int)) = ((1 + k : Nat) : Int) by simp, rngD_nat]
  refine forE_pre enc (I := fun pre ρ => ∃ (ds : List (List Nat)) (n : Nat) (o6 o7 : Option Slot), (ds.length = pre.length ∧ ∀ d ∈ ds, d.length ≤ 3) ∧ ρ = [none, some (.val .bag), a2, some (.val (.lst (ys.map enc))), some (.own (ds.map enc)), some (.val (.int n)), o6, o7, a8, a9, a10, a11, a12, a13, a14, a15, a16, a17, a18]) ?_ ⟨[], 0, a6, a7, ⟨rfl, by simp⟩, rfl⟩ ?_
  · rintro pre y post he ρ ⟨ds, n, o6, o7, ⟨h1, h2⟩, rfl⟩ N' hN'
    have hpl : pre.length < 4 := by have := congrArg List.length he; simp at this; omega
    unfold b1_law
    simp
    refine p__law_take (by omega) (by omega) fun m hm => ?_
    have e : (n : Int) + (1 + (m : Int)) = ((n + (1 + m) : Nat) : Int) := by simp
    simp
    rw [e, cutL_map]
    have hc : (cutL ys (some (n : Int)) (some ((n + (1 + m) : Nat) : Int))).length ≤ 3 := Nat.le_trans cut_le (by omega)
    generalize cutL ys (some (n : Int)) (some ((n + (1 + m) : Nat) : Int)) = zs at *
    refine sorted_enc (by decide) (by simp; omega) sortable_nat ?_ _ (.inl rfl)
    simp
    refine ⟨by omega, ?_⟩
    have := hN' _ ⟨ds ++ [sortK zs], n + (1 + m), some (.val (.int y)), some (.val (.int (1 + (m : Int)))), ⟨by simp [h1], fun d hd => by
      rcases List.mem_append.mp hd with hd | hd
      · exact h2 d hd
      · rw [List.mem_singleton.mp hd, sortK_length]; exact hc⟩, rfl⟩
    simpa using this
  · rintro ρ' ⟨ds, n, o6, o7, ⟨h1, h2⟩, rfl⟩
    have h1 : ds.length = 1 + k := by simpa using h1
    exact hR ds _ _ _ (by omega) h2
theorem p_tail {R : EnvD → Prop} {rt : D → Prop} {bk ct : EnvD → Prop} {ex : Exc → Prop} {a2 a3 a4 a5 a6 a7 a9 a10 a11 a12 a13 a14 a15 a16 a17 a18 : Option Slot} (hn : hs.length ≤ 30) (hh : ∀ h ∈ hs, h.length ≤ 30)
    (hR : ∀ a16 a17 a18 : Option Slot, R [none, some (.val .bag), a2, a3, a4, a5, a6, a7, some (.val (.tup (hs.map enc))), a9, a10, a11, a12, a13, a14, a15, a16, a17, a18]) :
    forE (gN 16) b3_law (List.map enc (List.range 3)) [none, some (.val .bag), a2, a3, a4, a5, a6, a7, some (.val (.tup (hs.map enc))), a9, a10, a11, a12, a13, a14, a15, a16, a17, a18] ⟨R, rt, bk, ct, ex⟩ := by
  refine forE_each enc (I := fun ρ => ∃ a16 a17 a18 : Option Slot, ρ = [none, some (.val .bag), a2, a3, a4, a5, a6, a7, some (.val (.tup (hs.map enc))), a9, a10, a11, a12, a13, a14, a15, a16, a17, a18]) ?_ ⟨a16, a17, a18, rfl⟩ ?_
  · rintro t ht ρ ⟨a16, a17, a18, rfl⟩ N' hN'
    simp only [s_gN, setE_succ, setE_zero]
    exact p_b3_law hn hh fun _ _ => hN' _ ⟨_, _, _, rfl⟩
  · rintro ρ' ⟨a16, a17, a18, rfl⟩
    exact hR _ _ _
theorem p_hands {k2 : Nat} {QQ : List D → Prop} {a2 a3 a4 a5 a6 a7 a8 a9 a10 a11 a12 a13 a14 a15 a16 a17 a18 : Option Slot} (hk : k2 < 3) (hq : ∀ hs : List (List Nat), hs.length ≤ 3 → (∀ h ∈ hs, h.length ≤ 7) → QQ (hs.map enc)) :
    lcE [10] (gN 10) mYes (mBlt bTuple (mCons (mLc [9] (mRng1 (mCons (mC (D.int 7)) mNil)) (gN 9) (mOfBl (mBin dEq (mCall S__law_take (nName 1 (nCons (mC (D.int 2)) nNil))) (mC (D.int 0)))) (mKp 9)) mNil)) (rngD 0 (1 + (k2 : Int)))
      [none, some (.val .bag), a2, a3, a4, a5, a6, a7, a8, a9, a10, a11, a12, a13, a14, a15, a16, a17, a18] [] QQ := by
  rw [show (1 + (k2 : Int)) = ((1 + k2 : Nat) : Int) by simp, rngD_nat]
  refine lcE_anyT enc enc (fun (_ : Nat) (h : List Nat) => h.length ≤ 7) (fun u hu C hC => ?_) fun hs hhs => ?_
  · simp only [s_gN, s_mYes, if_true, s_mBlt, s_mCons, s_mNil, s_mLc, s_mRng1, s_mC, oneI_one]
    refine ⟨by omega, ?_⟩
    simp only [rngD_7, bTuple_lst, p_opt_some, wipeE_cons, wipeE_nil, setE_succ, setE_zero, List.set_cons_succ, List.set_cons_zero]
    refine lcE_anyO enc enc (fun (_ : Nat) (_ : Nat) => True) (fun v hv C hC0 hC1 => ?_) fun h hhl _ => ?_
    · try simp
      refine p__law_take (by omega) (by omega) fun t ht => ?_
      try simp
      split
      · exact hC1 _ trivial
      · exact hC0
    · rw [List.nil_append]
      exact hC h (by simpa using hhl)
  · have hn : hs.length ≤ 3 := by have := paired_len hhs; simp at this; omega
    have hh : ∀ h ∈ hs, h.length ≤ 7 := fun h hm => let ⟨_, _, hr⟩ := paired_right hhs h hm; hr
    rw [List.nil_append]
    exact hq hs hn hh
theorem atI_bads {bs : List (Nat × List Nat)} (h : bs ≠ []) : atI (bs.map enc) 0 = some (pairO bs.head?) := by
  cases bs with
  | nil => exact absurd rfl h
  | cons b bs => simp [pairO]
end
theorem pure_law : m_law (lawE N_law) (endsE (fun d => d = .bl true) fun _ => False) := by
  rw [u_law]
  simp [m_law]
  refine forE_each enc (I := fun ρ => ∃ a2 a3 a4 a5 a6 a7 a8 a9 a10 a11 a12 a13 a14 a15 a16 a17 a18 : Option Slot, ρ = [none, some (.val .bag), a2, a3, a4, a5, a6, a7, a8, a9, a10, a11, a12, a13, a14, a15, a16, a17, a18]) ?_ ⟨none, none, none, none, none, none, none, none, none, none, none, none, none, none, none, none, none, rfl⟩ ?_
  · rintro x hx ρ ⟨a2, a3, a4, a5, a6, a7, a8, a9, a10, a11, a12, a13, a14, a15, a16, a17, a18, rfl⟩ N hN
    have hN := fun a2 a3 a4 a5 a6 a7 a8 a9 a10 a11 a12 a13 a14 a15 a16 a17 a18 => hN _ ⟨a2, a3, a4, a5, a6, a7, a8, a9, a10, a11, a12, a13, a14, a15, a16, a17, a18, rfl⟩
    unfold b4_law
    try simp
    refine p__law_mixed (α := Nat) (xs := List.range 7) (by simp) (fun ys hys => ?_) _ (.inl rfl)
    have hyl : ys.length = 7 := by simpa using hys.length_eq
    try simp
    refine p__law_take (by omega) (by omega) fun k hk => ?_
    have l1 : (-4611686018427387904 : Int) ≤ 1 + (k : Int) ∧ 1 + (k : Int) ≤ 16777216 := by omega
    simp [l1]
    refine p_days (by omega) hyl fun ds o5 o6 o7 h1 h2 => ?_
    try simp
    rw [lcE_filE enc enc (fun d : List Nat => decide (d ≠ [])) id]
    · rw [List.nil_append, List.map_id]
      have hd : ∀ d ∈ ds.filter (fun d : List Nat => decide (d ≠ [])), d.length ≤ 3 := fun d hd => h2 d (List.mem_filter.mp hd).1
      have hl : (ds.filter fun d : List Nat => decide (d ≠ [])).length ≤ 4 := Nat.le_trans (List.length_filter_le _ _) (by omega)
      generalize ds.filter (fun d : List Nat => decide (d ≠ [])) = days at *
      try simp
      refine p__law_take (by omega) (by omega) fun k2 hk2 => ?_
      have l2 : (-4611686018427387904 : Int) ≤ 1 + (k2 : Int) ∧ 1 + (k2 : Int) ≤ 16777216 := by omega
      simp [l2]
      refine p_hands (by omega) fun hs hn hh => ?_
      · try simp
        refine lcE_mapI enc tupO (fun day => minK (rowsL hs day)) (fun day hday C hC => by simp; exact p__law_staff hn (hd day hday) hC) ?_
        rw [List.nil_append, show days.map (fun day => minK (rowsL hs day)) = rowsD hs days from rfl]
        try simp
        rw [enumFrom_map]
        refine lcE_I _ enc (fun p : List Nat × Nat => (shortL hs p.1).map fun l => (p.2, l)) (fun p hp C hC => ?_) ?_
        · have hday := hd _ (List.fst_mem_of_mem_zipIdx (x := p) hp)
          try simp
          refine p__law_stuck hn hday ?_
          cases e : shortL hs p.1 with
          | none =>
            rw [e] at hC
            simpa [tupO] using hC
          | some l =>
            rw [e] at hC
            simp [tupO]
            refine p__law_stuck hn hday ?_
            rw [e]
            simpa [tupO] using hC
        · rw [List.nil_append, show days.zipIdx.filterMap (fun p : List Nat × Nat => (shortL hs p.1).map fun l => (p.2, l)) = bads hs days from rfl]
          have hall := hall_days (hs := hs) (days := days) (by omega) (fun day hday => by have := hd day hday; omega)
          have d1 := staffed_dat (hs := hs) hd hl
          have d2 := bads_dat (hs := hs) hd
          simp [dIn_tupO, dNe_lst_nil]
          by_cases hm : none ∈ rowsD hs days
          · have hb := hall.mp hm
            have hst : staffedD hs days = .non := if_pos hm
            simp [hm, hb]
            refine p_staffed hn hd ?_
            refine p_stuck_day hn hd ?_
            rw [hst, atI_bads hb]
            try simp
            refine p__law_alike rfl (by simp [d2.1]) (by simp; omega) ?_
            try simp
            refine p_idle_none hn hd hm ?_
            try simp
            exact p_tail (by omega) (fun h hm => Nat.le_trans (hh h hm) (by omega)) fun _ _ _ => hN _ _ _ _ _ _ _ _ _ _ _ _ _ _ _ _ _
          · have hb : bads hs days = [] := Classical.byContradiction fun hc => hm (hall.mpr hc)
            have hst : staffedD hs days = .tup ((rowsD hs days).map tupO) := if_neg hm
            obtain ⟨rows, hrows⟩ : ∃ rows : List (List Nat), rowsD hs days = rows.map some := by
              refine ⟨(rowsD hs days).filterMap id, ?_⟩
              generalize rowsD hs days = os at *
              clear hst d1 hall hb
              induction os with
              | nil => rfl
              | cons o os ih =>
                cases o with
                | none => simp at hm
                | some r =>
                  have := ih (by simpa using hm)
                  rw [List.filterMap_cons]
                  try simp
                  simpa using this
            have d3 := idle_dat (hs := hs) (rows := rows) hn
            simp [hm, hb]
            refine p_staffed hn hd ?_
            refine p_stuck_day hn hd ?_
            rw [hst] at d1 ⊢
            rw [hb] at d2 ⊢
            refine p__law_alike rfl (by simp [pairO]; simpa using d1.1) (by simp [pairO]; have := d1.2; simp at this; omega) ?_
            have e1 : (rowsD hs days).map tupO = rows.map enc := by rw [hrows, List.map_map]; rfl
            try simp
            refine ⟨by omega, ?_⟩
            rw [e1]
            rw [lcE_mapE enc enc (fun c : Nat => (rows.filter fun r => decide (c ∉ r)).length)]
            · rw [List.nil_append]
              refine p_idle_some hn hd hrows ?_
              refine p__law_alike rfl d3.1 (Nat.le_trans d3.2 (by decide)) ?_
              try simp
              exact p_tail (by omega) (fun h hm => Nat.le_trans (hh h hm) (by omega)) fun _ _ _ => hN _ _ _ _ _ _ _ _ _ _ _ _ _ _ _ _ _
            · intro c hc C
              try simp
              rw [lcE_filE enc D.int (fun r : List Nat => decide (c ∉ r)) (fun _ => (1 : Int))]
              · simp
              · intro r hr C
                simp [dNotIn_n]
    · intro d hd C
      simp [dNe_tup_nil]
  · rintro ρ' ⟨a2, a3, a4, a5, a6, a7, a8, a9, a10, a11, a12, a13, a14, a15, a16, a17, a18, rfl⟩
    try simp
end Lw

namespace Lw
open PySem PySem.Spec L2 Ev
open Dt (enc)
open PyProof.Rows hiding St
variable [Tbl]
def top (i : Nat) : Stmt := PySem.Challenge.pw_spadebook_k07_hands_and_days_they_can_st.main.body.getD i (.Pass ⟨0, 0, 0, 0⟩)
section
variable {P : Program} {w : World} {K : PySem.W.Frag} {mg : Str → Option Value} {base : Heap}
abbrev s__law_take : Stmt := top 28
theorem sc__law_take : FnScope N__law_take ["bag", "many"] (defScope s__law_take) := ⟨rfl, rfl, rfl, by decide +kernel, rfl, by decide +kernel, by decide +kernel⟩
theorem df__law_take (B : Bi mg) {f : Addr} {fd : FuncData} (F : Fun K "_law_take" "_law_take" s__law_take f fd) (hf : mg "_law_take" = some (.ref f))  : Df P w K mg base 1 "_law_take" S__law_take :=
  ⟨f, fd, _, okD F sc__law_take (fun _ _ _ h => h) fun cdv A outer s H E hr =>
    (dss_cons (ds_if (dt_cmp (do_eq (r64 hr)) (xbag 0) de_int rfl) (dss_cons (ds_setV 2 sc__law_take.nd rfl (Or.inl rfl) (de_ix (r100 hr) (de_bin do_add (de_slice (xbagL 0) (do_some (xbag 0)) do_none) (de_lst (ac de_int a0))) de_int fun _ _ => rfl) rfl (Or.inl rfl)) (dss_cons (xbaginc 0) (dss_cons (ds_if (dt_cmp (do_ge (r64 hr)) (xv 2) (de_bin do_pow de_int de_int) rfl) (dss_one (xbagset 0 (xk 2))) dss_nil) (dss_cons (ds_setV 3 sc__law_take.nd rfl (Or.inl rfl) (de_bin do_add (de_bin do_add (de_bin do_mul (xbag 0) de_int) (de_bin do_mod (xint B (ac (xv 2) a0)) de_int)) (de_bin do_mul de_int (xbag 0))) rfl (Or.inl rfl)) (dss_one (xbagset 0 (de_bin do_mod (xint B (ac (xv 3) a0)) de_int))))))) dss_nil) (dss_cons (ds_if (dt_cmp (do_gt (r64 hr)) (xbag 0) de_int rfl) (dss_cons (ds_setV 4 sc__law_take.nd rfl (Or.inl rfl) (de_bin do_mod (xint B (ac (xbag 0) a0)) (xv 1)) rfl (Or.inl rfl)) (dss_cons (xbagset 0 (de_bin do_div (xint B (ac (xbag 0) a0)) (xv 1))) (dss_one (ds_ret (xk 4))))) dss_nil) (dss_cons (ds_setV 5 sc__law_take.nd rfl (Or.inl rfl) (de_bin do_mod (xint B (ac (de_bin do_mul (de_bin do_add (xbag 0) de_int) de_int) a0)) de_int) rfl (Or.inl rfl)) (dss_cons (ds_setV 6 sc__law_take.nd rfl (Or.inl rfl) (de_bin do_mod (xint B (ac (de_bin do_mul (de_bin do_mod (xint B (ac (de_bin do_mul (xv 5) (xv 5)) a0)) de_int) de_int) a0)) de_int) rfl (Or.inl rfl)) (dss_one (ds_ret (de_bin do_mod (xint B (ac (de_bin do_div (xv 6) de_int) a0)) (xv 1)))))))), hf, F.kp, F.binds fun _ _ _ _ _ _ us hl => match us, hl with | [_, _], _ => rfl⟩
abbrev s__law_mixed : Stmt := top 30
theorem sc__law_mixed : FnScope N__law_mixed ["bag", "things"] (defScope s__law_mixed) := ⟨rfl, rfl, rfl, by decide +kernel, rfl, by decide +kernel, by decide +kernel⟩
theorem df__law_mixed (B : Bi mg) {f : Addr} {fd : FuncData} (F : Fun K "_law_mixed" "_law_mixed" s__law_mixed f fd) (hf : mg "_law_mixed" = some (.ref f)) (G__law_take : Df P w K mg base 1 "_law_take" S__law_take) : Df P w K mg base 2 "_law_mixed" S__law_mixed :=
  ⟨f, fd, _, okD F sc__law_mixed (fun _ _ _ h => h) fun cdv A outer s H E hr =>
    (dss_cons (ds_par 2 3 rfl sc__law_mixed.nd rfl rfl (by decide) rfl rfl (ff (xlist B (ac (xv 1) a0)) (ff (de_lst a0) f0)) rfl) (dss_cons (ds_while (passes_of rfl) (dt_cmp (do_ne (r64 hr)) (xv 2) (de_lst a0) rfl) (dss_one (xapppop 3 2 (DE.weakV (xcall G__law_take (hr.mono (by decide)) (takes_of rfl rfl rfl rfl) (bn 0 (bc (xlen B (ac (xv 2) a0)) b0))))))) (dss_one (ds_ret (xk 3))))), hf, F.kp, F.binds fun _ _ _ _ _ _ us hl => match us, hl with | [_, _], _ => rfl⟩
abbrev s__law_staff : Stmt := top 36
theorem sc__law_staff : FnScope N__law_staff ["day", "hands"] (defScope s__law_staff) := ⟨rfl, rfl, rfl, by decide +kernel, rfl, by decide +kernel, by decide +kernel⟩
theorem df__law_staff (B : Bi mg) {f : Addr} {fd : FuncData} (F : Fun K "_law_staff" "_law_staff" s__law_staff f fd) (hf : mg "_law_staff" = some (.ref f))  : Df P w K mg base 1 "_law_staff" S__law_staff :=
  ⟨f, fd, _, okD F sc__law_staff (fun _ _ _ h => h) fun cdv A outer s H E hr =>
    (dss_cons (ds_setV 2 sc__law_staff.nd rfl (Or.inl rfl) (de_lst (ac (de_tup a0) a0)) rfl (Or.inl rfl)) (dss_cons (ds_for (fun _ => false) (passes_of rfl) rfl (di_seq (xk 0)) (dg_name 3 sc__law_staff.nd rfl (Or.inr rfl) (Or.inl rfl)) (dss_cons (ds_set 4 sc__law_staff.nd rfl (Or.inl rfl) (de_lst a0) rfl (Or.inl rfl)) (dss_cons (ds_for (fun _ => false) (passes_of rfl) rfl (di_seq (xk 2)) (dg_name 5 sc__law_staff.nd rfl (Or.inr rfl) (Or.inl rfl)) (dss_one (xextend 4 (ac (DE.weak (de_lc (own := [("crew", 6)]) rfl sc__law_staff.nd (di_rng1 rfl B.range (ac (xlen B (ac (xv 1) a0)) a0) rfl) (blkOk_by (by show blkC N__law_staff (defScope s__law_staff) _ _ = true; first | decide +kernel | kernel_rfl)) (fun _ _ _ _ _ => (xg1 6 sc__law_staff.nd)) (fun _ _ _ _ _ => (dts_one (DW.dt (dw_and (dt_cmp (do_notIn (r65 hr)) (xv 6) (xv 5) rfl) (dw_and1 (dt_cmp (do_in (r65 hr)) (xv 3) (DE.weakV (de_ix (r100 hr) (xv 1) (xv 6) fun _ _ => rfl)) rfl)))))) (fun _ _ _ _ _ => (de_bin do_add (xv 5) (de_tup (ac (xk 6) a0)))))) a0))) fun _ => rfl) (dss_one (xmove 2 4 sc__law_staff.nd rfl (Or.inl rfl) rfl (Or.inl rfl))))) fun _ => rfl) (dss_one (ds_ret (de_if (dt_cmp (do_ne (r64 hr)) (xv 2) (de_lst a0) rfl) (xmin B (r100 hr) (ac (xv 2) a0)) de_non))))), hf, F.kp, F.binds fun _ _ _ _ _ _ us hl => match us, hl with | [_, _], _ => rfl⟩
abbrev s__law_stuck : Stmt := top 37
theorem sc__law_stuck : FnScope N__law_stuck ["day", "hands"] (defScope s__law_stuck) := ⟨rfl, rfl, rfl, by decide +kernel, rfl, by decide +kernel, by decide +kernel⟩
theorem df__law_stuck (B : Bi mg) {f : Addr} {fd : FuncData} (F : Fun K "_law_stuck" "_law_stuck" s__law_stuck f fd) (hf : mg "_law_stuck" = some (.ref f))  : Df P w K mg base 1 "_law_stuck" S__law_stuck :=
  ⟨f, fd, _, okD F sc__law_stuck (fun _ _ _ h => h) fun cdv A outer s H E hr =>
    (dss_cons (ds_setV 2 sc__law_stuck.nd rfl (Or.inl rfl) (de_lst (ac (de_tup a0) a0)) rfl (Or.inl rfl)) (dss_cons (ds_for (fun _ => false) (passes_of rfl) rfl (di_seq (xk 0)) (dg_name 3 sc__law_stuck.nd rfl (Or.inr rfl) (Or.inl rfl)) (dss_one (ds_setV 2 sc__law_stuck.nd rfl (Or.inl rfl) (de_bin do_add (xv 2) (DE.weak (de_lc (own := [("lot", 4)]) rfl sc__law_stuck.nd (di_seq (xv 2)) (blkOk_by (by show blkC N__law_stuck (defScope s__law_stuck) _ _ = true; first | decide +kernel | kernel_rfl)) (fun _ _ _ _ _ => (xg1 4 sc__law_stuck.nd)) (fun _ _ _ _ _ => dts_nil) (fun _ _ _ _ _ => (de_bin do_add (xv 4) (de_tup (ac (xk 3) a0))))))) rfl (Or.inl rfl))) fun _ => rfl) (dss_cons (ds_setV 5 sc__law_stuck.nd rfl (Or.inl rfl) (de_lst a0) rfl (Or.inl rfl)) (dss_cons (ds_for (fun _ => false) (passes_of rfl) rfl (di_seq (xk 2)) (dg_name 4 sc__law_stuck.nd rfl (Or.inr rfl) (Or.inl rfl)) (dss_cons (ds_setV 6 sc__law_stuck.nd rfl (Or.inl rfl) (xlen B (ac (DE.weak (de_lc (own := [("hand", 7)]) rfl sc__law_stuck.nd (di_seq (xv 1)) (blkOk_by (by show blkC N__law_stuck (defScope s__law_stuck) _ _ = true; first | decide +kernel | kernel_rfl)) (fun _ _ _ _ _ => (xg1 7 sc__law_stuck.nd)) (fun _ _ _ _ _ => (dts_one (dt_cmp (do_ne (r64 hr)) (DE.weak (de_lc (own := [("unit", 3)]) rfl sc__law_stuck.nd (di_seq (xv 4)) (blkOk_by (by show blkC N__law_stuck _ _ _ = true; first | decide +kernel | kernel_rfl)) (fun _ _ _ _ _ => (xg1 3 sc__law_stuck.nd)) (fun _ _ _ _ _ => (dts_one (dt_cmp (do_in (r65 hr)) (xv 3) (xv 7) rfl))) (fun _ _ _ _ _ => de_int))) (de_lst a0) rfl))) (fun _ _ _ _ _ => de_int))) a0)) rfl (Or.inl rfl)) (dss_one (ds_setV 5 sc__law_stuck.nd rfl (Or.inl rfl) (de_bin do_add (xv 5) (de_bin do_mul (de_lst (ac (de_tup (ac (xlen B (ac (xv 4) a0)) (ac (xk 4) a0))) a0)) (xint B (ac (de_cmp (do_lt (r64 hr)) (xv 6) (xlen B (ac (xv 4) a0)) rfl) a0)))) rfl (Or.inl rfl)))) fun _ => rfl) (dss_one (ds_ret (de_if (dt_cmp (do_ne (r64 hr)) (xv 5) (de_lst a0) rfl) (de_ix (r100 hr) (xmin B (r100 hr) (ac (xv 5) a0)) de_int fun _ _ => rfl) de_non))))))), hf, F.kp, F.binds fun _ _ _ _ _ _ us hl => match us, hl with | [_, _], _ => rfl⟩
abbrev s__law_alike : Stmt := top 31
theorem sc__law_alike : FnScope N__law_alike ["found", "due"] (defScope s__law_alike) := ⟨rfl, rfl, rfl, by decide +kernel, rfl, by decide +kernel, by decide +kernel⟩
theorem df__law_alike (B : Bi mg) {f : Addr} {fd : FuncData} (F : Fun K "_law_alike" "_law_alike" s__law_alike f fd) (hf : mg "_law_alike" = some (.ref f))  : Df P w K mg base 1 "_law_alike" S__law_alike :=
  ⟨f, fd, _, okD F sc__law_alike (fun _ _ _ h => h) fun cdv A outer s H E hr =>
    (dss_cons (ds_par 2 3 rfl sc__law_alike.nd rfl rfl (by decide) rfl rfl (ff (de_lst (ac (de_tup (ac (xk 0) (ac (xk 1) a0))) a0)) (fv de_int f0)) rfl) (dss_cons (ds_while (passes_of rfl) (dt_cmp (do_lt (r64 hr)) (xv 3) (xlen B (ac (xv 2) a0)) rfl) (dss_cons (ds_asg (de_ix (r100 hr) (xv 2) (xv 3) fun _ _ => rfl) (dg_tup rfl (dgs_cons (dg_name 4 sc__law_alike.nd rfl (Or.inl rfl) (Or.inl rfl)) (dgs_cons (dg_name 5 sc__law_alike.nd rfl (Or.inl rfl) (Or.inl rfl)) dgs_nil rfl) rfl) rfl rfl) rfl rfl rfl) (dss_cons (ds_aug 3 sc__law_alike.nd rfl (Or.inl rfl) de_int do_iadd (Or.inl rfl)) (dss_cons (ds_if (DW.dt (dw_or (dt_cmp (do_ne (r64 hr)) (xisi B (xv 4) B.bool) (xisi B (xv 5) B.bool) rfl) (dw_or1 (dt_cmp (do_ne (r64 hr)) (xisi B (xv 4) B.str) (xisi B (xv 5) B.str) rfl)))) (dss_one (ds_ret de_bl)) dss_nil) (dss_cons (ds_if (dt_cmp (do_ne (r64 hr)) (xisi2 B (xv 4) B.tuple B.list) (xisi2 B (xv 5) B.tuple B.list) rfl) (dss_one (ds_ret de_bl)) dss_nil) (dss_one (ds_if (dt_val (xisi2 B (xv 4) B.tuple B.list) fun _ => rfl) (dss_cons (ds_if (DW.dt (dw_or (dt_cmp (do_ne (r64 hr)) (xisi B (xv 4) B.tuple) (xisi B (xv 5) B.tuple) rfl) (dw_or1 (dt_cmp (do_ne (r64 hr)) (xlen B (ac (xv 4) a0)) (xlen B (ac (xv 5) a0)) rfl)))) (dss_one (ds_ret de_bl)) dss_nil) (dss_one (xextend 2 (ac (de_listzip rfl rfl B.list rfl B.zip (xk 4) (xk 5) rfl rfl rfl rfl) a0)))) (dss_one (ds_if (dt_cmp (do_ne (r64 hr)) (xv 4) (xv 5) rfl) (dss_one (ds_ret de_bl)) dss_nil))))))))) (dss_one (ds_ret de_bl)))), hf, F.kp, F.binds fun _ _ _ _ _ _ us hl => match us, hl with | [_, _], _ => rfl⟩
abbrev s_lots_of : Stmt := top 22
theorem sc_lots_of : FnScope N_lots_of ["day"] (defScope s_lots_of) := ⟨rfl, rfl, rfl, by decide +kernel, rfl, by decide +kernel, by decide +kernel⟩
theorem df_lots_of (B : Bi mg) {f : Addr} {fd : FuncData} (F : Fun K "lots_of" "lots_of" s_lots_of f fd) (hf : mg "lots_of" = some (.ref f))  : Df P w K mg base 1 "lots_of" S_lots_of :=
  ⟨f, fd, _, okD F sc_lots_of (fun _ _ _ h => h) fun cdv A outer s H E hr =>
    (dss_cons (ds_setV 1 sc_lots_of.nd rfl (Or.inl rfl) (de_lst (ac (de_tup a0) a0)) rfl (Or.inl rfl)) (dss_cons (ds_for (fun _ => false) (passes_of rfl) rfl (di_seq (xk 0)) (dg_name 2 sc_lots_of.nd rfl (Or.inr rfl) (Or.inl rfl)) (dss_one (ds_setV 1 sc_lots_of.nd rfl (Or.inl rfl) (de_bin do_add (xv 1) (DE.weak (de_lc (own := [("lot", 3)]) rfl sc_lots_of.nd (di_seq (xv 1)) (blkOk_by (by show blkC N_lots_of (defScope s_lots_of) _ _ = true; first | decide +kernel | kernel_rfl)) (fun _ _ _ _ _ => (xg1 3 sc_lots_of.nd)) (fun _ _ _ _ _ => dts_nil) (fun _ _ _ _ _ => (de_tup (da_star (xv 3) (ac (xk 2) a0))))))) rfl (Or.inl rfl))) fun _ => rfl) (dss_one (ds_ret (DE.weak (de_lc (own := [("many", 4), ("lot", 3)]) rfl sc_lots_of.nd (di_seq (xsorted B (r100 hr) (ac (DE.weak (de_lc (own := [("lot", 3)]) rfl sc_lots_of.nd (di_seq (xv 1)) (blkOk_by (by show blkC N_lots_of (defScope s_lots_of) _ _ = true; first | decide +kernel | kernel_rfl)) (fun _ _ _ _ _ => (xg1 3 sc_lots_of.nd)) (fun _ _ _ _ _ => dts_nil) (fun _ _ _ _ _ => (de_tup (ac (xlen B (ac (xv 3) a0)) (ac (xk 3) a0)))))) a0))) (blkOk_by (by show blkC N_lots_of (defScope s_lots_of) _ _ = true; first | decide +kernel | kernel_rfl)) (fun _ _ _ _ _ => (dg1_tup rfl (dgs1_cons (xg1 4 sc_lots_of.nd) (dgs1_cons (xg1 3 sc_lots_of.nd) dgs1_nil rfl) rfl) rfl rfl)) (fun _ _ _ _ _ => dts_nil) (fun _ _ _ _ _ => (xk 3)))))))), hf, F.kp, F.binds fun _ _ _ _ _ _ us hl => match us, hl with | [_], _ => rfl⟩
abbrev s_able : Stmt := top 19
theorem sc_able : FnScope N_able ["hands", "unit"] (defScope s_able) := ⟨rfl, rfl, rfl, by decide +kernel, rfl, by decide +kernel, by decide +kernel⟩
theorem df_able (B : Bi mg) {f : Addr} {fd : FuncData} (F : Fun K "able" "able" s_able f fd) (hf : mg "able" = some (.ref f))  : Df P w K mg base 1 "able" S_able :=
  ⟨f, fd, _, okD F sc_able (fun _ _ _ h => h) fun cdv A outer s H E hr =>
    (dss_one (ds_ret (DE.weak (de_lc (own := [("crew", 2), ("some", 3)]) rfl sc_able.nd (di_enum rfl B.enumerate (xv 0) rfl) (blkOk_by (by show blkC N_able (defScope s_able) _ _ = true; first | decide +kernel | kernel_rfl)) (fun _ _ _ _ _ => (dg1_tup rfl (dgs1_cons (xg1 2 sc_able.nd) (dgs1_cons (xg1 3 sc_able.nd) dgs1_nil rfl) rfl) rfl rfl)) (fun _ _ _ _ _ => (dts_one (dt_cmp (do_in (r65 hr)) (xv 1) (xv 3) rfl))) (fun _ _ _ _ _ => (xk 2)))))), hf, F.kp, F.binds fun _ _ _ _ _ _ us hl => match us, hl with | [_, _], _ => rfl⟩
abbrev s_short_lot : Stmt := top 23
theorem sc_short_lot : FnScope N_short_lot ["day", "hands"] (defScope s_short_lot) := ⟨rfl, rfl, rfl, by decide +kernel, rfl, by decide +kernel, by decide +kernel⟩
theorem df_short_lot (B : Bi mg) {f : Addr} {fd : FuncData} (F : Fun K "short_lot" "short_lot" s_short_lot f fd) (hf : mg "short_lot" = some (.ref f)) (G_lots_of : Df P w K mg base 1 "lots_of" S_lots_of) (G_able : Df P w K mg base 1 "able" S_able) : Df P w K mg base 2 "short_lot" S_short_lot :=
  ⟨f, fd, _, okD F sc_short_lot (fun _ _ _ h => h) fun cdv A outer s H E hr =>
    (dss_cons (ds_for (fun _ => false) (passes_of rfl) rfl (di_seq (xcall G_lots_of (hr.mono (by decide)) (takes_of rfl rfl rfl rfl) (bn 0 b0))) (dg_name 2 sc_short_lot.nd rfl (Or.inl rfl) (Or.inl rfl)) (dss_cons (ds_setDc2V (own := [("unit", 4), ("crew", 5)]) (vs1 := [5]) 3 rfl sc_short_lot.nd rfl rfl rfl (di_seq (xv 2)) (blkOk_by (by show blkC N_short_lot (defScope s_short_lot) _ _ = true; first | decide +kernel | kernel_rfl)) (by decide) (fun _ _ _ _ _ => (xg1 4 sc_short_lot.nd)) (fun _ _ _ _ _ => dts_nil) (fun _ _ _ _ _ => (di_seq (xcall G_able (hr.mono (by decide)) takes0 (bn 1 (bn 4 b0))))) (fun _ _ _ _ _ => (xg1 5 sc_short_lot.nd)) (fun _ _ _ _ _ => dts_nil) (fun _ _ _ _ _ => (xk 5)) (fun _ _ _ _ _ => de_bl)) (dss_one (ds_if (dt_cmp (do_lt (r64 hr)) (xlen B (ac (xv 3) a0)) (xlen B (ac (xv 2) a0)) rfl) (dss_one (ds_ret (xk 2))) dss_nil))) fun _ => rfl) (dss_one (ds_ret de_non))), hf, F.kp, F.binds fun _ _ _ _ _ _ us hl => match us, hl with | [_, _], _ => rfl⟩
abbrev s_stuck_day : Stmt := top 24
theorem sc_stuck_day : FnScope N_stuck_day ["days", "hands"] (defScope s_stuck_day) := ⟨rfl, rfl, rfl, by decide +kernel, rfl, by decide +kernel, by decide +kernel⟩
theorem df_stuck_day (B : Bi mg) {f : Addr} {fd : FuncData} (F : Fun K "stuck_day" "stuck_day" s_stuck_day f fd) (hf : mg "stuck_day" = some (.ref f)) (G_short_lot : Df P w K mg base 2 "short_lot" S_short_lot) : Df P w K mg base 3 "stuck_day" S_stuck_day :=
  ⟨f, fd, _, okD F sc_stuck_day (fun _ _ _ h => h) fun cdv A outer s H E hr =>
    (dss_cons (ds_setLcV (own := [("at", 3), ("day", 4)]) 2 rfl sc_stuck_day.nd rfl rfl rfl (di_enum rfl B.enumerate (xv 0) rfl) (blkOk_by (by show blkC N_stuck_day (defScope s_stuck_day) _ _ = true; first | decide +kernel | kernel_rfl)) (fun _ _ _ _ _ => (dg1_tup rfl (dgs1_cons (xg1 3 sc_stuck_day.nd) (dgs1_cons (xg1 4 sc_stuck_day.nd) dgs1_nil rfl) rfl) rfl rfl)) (fun _ _ _ _ _ => dts_nil) (fun _ _ _ _ _ => (de_tup (ac (xk 3) (ac (xcall G_short_lot (hr.mono (by decide)) takes0 (bn 4 (bn 1 b0))) a0))))) (dss_cons (ds_setLcV (own := [("at", 3), ("lot", 6)]) 5 rfl sc_stuck_day.nd rfl rfl rfl (di_seq (xv 2)) (blkOk_by (by show blkC N_stuck_day (defScope s_stuck_day) _ _ = true; first | decide +kernel | kernel_rfl)) (fun _ _ _ _ _ => (dg1_tup rfl (dgs1_cons (xg1 3 sc_stuck_day.nd) (dgs1_cons (xg1 6 sc_stuck_day.nd) dgs1_nil rfl) rfl) rfl rfl)) (fun _ _ _ _ _ => (dts_one (dt_cmp do_isNot (xv 6) de_non rfl))) (fun _ _ _ _ _ => (de_tup (ac (xk 3) (ac (xk 6) a0))))) (dss_one (ds_ret (de_if (dt_cmp (do_ne (r64 hr)) (xv 5) (de_lst a0) rfl) (de_ix (r100 hr) (xv 5) de_int fun _ _ => rfl) de_non))))), hf, F.kp, F.binds fun _ _ _ _ _ _ us hl => match us, hl with | [_, _], _ => rfl⟩
abbrev s_staff_of : Stmt := top 20
theorem sc_staff_of : FnScope N_staff_of ["day", "hands"] (defScope s_staff_of) := ⟨rfl, rfl, rfl, by decide +kernel, rfl, by decide +kernel, by decide +kernel⟩
theorem df_staff_of (B : Bi mg) {f : Addr} {fd : FuncData} (F : Fun K "staff_of" "staff_of" s_staff_of f fd) (hf : mg "staff_of" = some (.ref f)) (G_able : Df P w K mg base 1 "able" S_able) : Df P w K mg base 2 "staff_of" S_staff_of :=
  ⟨f, fd, _, okD F sc_staff_of (fun _ _ _ h => h) fun cdv A outer s H E hr =>
    (dss_cons (ds_setV 2 sc_staff_of.nd rfl (Or.inl rfl) (de_lst (ac (de_tup a0) a0)) rfl (Or.inl rfl)) (dss_cons (ds_for (fun _ => false) (passes_of rfl) rfl (di_seq (xk 0)) (dg_name 3 sc_staff_of.nd rfl (Or.inr rfl) (Or.inl rfl)) (dss_one (ds_setLc2V (own := [("row", 4), ("crew", 5)]) (vs1 := [5]) 2 rfl sc_staff_of.nd rfl rfl rfl (di_seq (xv 2)) (blkOk_by (by show blkC N_staff_of (defScope s_staff_of) _ _ = true; first | decide +kernel | kernel_rfl)) (by decide) (fun _ _ _ _ _ => (xg1 4 sc_staff_of.nd)) (fun _ _ _ _ _ => dts_nil) (fun _ _ _ _ _ => (di_seq (xcall G_able (hr.mono (by decide)) takes0 (bn 1 (bn 3 b0))))) (fun _ _ _ _ _ => (xg1 5 sc_staff_of.nd)) (fun _ _ _ _ _ => (dts_one (dt_cmp (do_notIn (r65 hr)) (xv 5) (xv 4) rfl))) (fun _ _ _ _ _ => (de_tup (da_star (xv 4) (ac (xk 5) a0)))))) fun _ => rfl) (dss_one (ds_ret (de_if (dt_cmp (do_ne (r64 hr)) (xv 2) (de_lst a0) rfl) (xmin B (r100 hr) (ac (xv 2) a0)) de_non))))), hf, F.kp, F.binds fun _ _ _ _ _ _ us hl => match us, hl with | [_, _], _ => rfl⟩
abbrev s_staffed : Stmt := top 21
theorem sc_staffed : FnScope N_staffed ["days", "hands"] (defScope s_staffed) := ⟨rfl, rfl, rfl, by decide +kernel, rfl, by decide +kernel, by decide +kernel⟩
theorem df_staffed (B : Bi mg) {f : Addr} {fd : FuncData} (F : Fun K "staffed" "staffed" s_staffed f fd) (hf : mg "staffed" = some (.ref f)) (G_staff_of : Df P w K mg base 2 "staff_of" S_staff_of) : Df P w K mg base 3 "staffed" S_staffed :=
  ⟨f, fd, _, okD F sc_staffed (fun _ _ _ h => h) fun cdv A outer s H E hr =>
    (dss_cons (ds_setV 2 sc_staffed.nd rfl (Or.inl rfl) (xtuple B (ac (DE.weak (de_lc (own := [("day", 3)]) rfl sc_staffed.nd (di_seq (xv 0)) (blkOk_by (by show blkC N_staffed (defScope s_staffed) _ _ = true; first | decide +kernel | kernel_rfl)) (fun _ _ _ _ _ => (xg1 3 sc_staffed.nd)) (fun _ _ _ _ _ => dts_nil) (fun _ _ _ _ _ => (xcall G_staff_of (hr.mono (by decide)) takes0 (bn 3 (bn 1 b0)))))) a0)) rfl (Or.inl rfl)) (dss_one (ds_ret (de_if (dt_cmp (do_in (r65 hr)) de_non (xv 2) rfl) de_non (xk 2))))), hf, F.kp, F.binds fun _ _ _ _ _ _ us hl => match us, hl with | [_, _], _ => rfl⟩
abbrev s_idle_days : Stmt := top 25
theorem sc_idle_days : FnScope N_idle_days ["days", "hands"] (defScope s_idle_days) := ⟨rfl, rfl, rfl, by decide +kernel, rfl, by decide +kernel, by decide +kernel⟩
theorem df_idle_days (B : Bi mg) {f : Addr} {fd : FuncData} (F : Fun K "idle_days" "idle_days" s_idle_days f fd) (hf : mg "idle_days" = some (.ref f)) (T_Refused : ErC P K mg "Refused" "why") (G_staffed : Df P w K mg base 3 "staffed" S_staffed) : Df P w K mg base 4 "idle_days" S_idle_days :=
  ⟨f, fd, _, okD F sc_idle_days (fun _ _ _ h => h) fun cdv A outer s H E hr =>
    (dss_cons (ds_setV 2 sc_idle_days.nd rfl (Or.inr rfl) (xcall G_staffed (hr.mono (by decide)) (takes_of rfl rfl rfl rfl) (bn 0 (bn 1 b0))) rfl (Or.inl rfl)) (dss_cons (ds_if (dt_cmp do_is (xv 2) de_non rfl) (dss_one (xraise T_Refused hr (takes_of rfl rfl rfl rfl) xs)) dss_nil) (dss_one (ds_ret (xtuple B (ac (DE.weak (de_lc (own := [("crew", 4)]) rfl sc_idle_days.nd (di_rng1 rfl B.range (ac (xlen B (ac (xv 1) a0)) a0) rfl) (blkOk_by (by show blkC N_idle_days (defScope s_idle_days) _ _ = true; first | decide +kernel | kernel_rfl)) (fun _ _ _ _ _ => (xg1 4 sc_idle_days.nd)) (fun _ _ _ _ _ => dts_nil) (fun _ _ _ _ _ => (xlen B (ac (DE.weak (de_lc (own := [("row", 3)]) rfl sc_idle_days.nd (di_seq (xv 2)) (blkOk_by (by show blkC N_idle_days _ _ _ = true; first | decide +kernel | kernel_rfl)) (fun _ _ _ _ _ => (xg1 3 sc_idle_days.nd)) (fun _ _ _ _ _ => (dts_one (dt_cmp (do_notIn (r65 hr)) (xv 4) (xv 3) rfl))) (fun _ _ _ _ _ => (xk 3)))) a0))))) a0)))))), hf, F.kp, F.binds fun _ _ _ _ _ _ us hl => match us, hl with | [_, _], _ => rfl⟩
abbrev s__law_some : Stmt := top 29
theorem sc__law_some : FnScope N__law_some ["bag", "things"] (defScope s__law_some) := ⟨rfl, rfl, rfl, by decide +kernel, rfl, by decide +kernel, by decide +kernel⟩
theorem df__law_some (B : Bi mg) {f : Addr} {fd : FuncData} (F : Fun K "_law_some" "_law_some" s__law_some f fd) (hf : mg "_law_some" = some (.ref f)) (G__law_take : Df P w K mg base 1 "_law_take" S__law_take) : Df P w K mg base 2 "_law_some" S__law_some :=
  ⟨f, fd, _, okD F sc__law_some (fun _ _ _ h => h) fun cdv A outer s H E hr =>
    (dss_one (ds_ret (de_ix (r100 hr) (xv 1) (DE.weakV (xcall G__law_take (hr.mono (by decide)) (takes_of rfl rfl rfl rfl) (bn 0 (bc (xlen B (ac (xv 1) a0)) b0)))) fun _ _ => rfl))), hf, F.kp, F.binds fun _ _ _ _ _ _ us hl => match us, hl with | [_, _], _ => rfl⟩
abbrev s__law_odd : Stmt := top 33
theorem sc__law_odd : FnScope N__law_odd ["bag"] (defScope s__law_odd) := ⟨rfl, rfl, rfl, by decide +kernel, rfl, by decide +kernel, by decide +kernel⟩
theorem df__law_odd (B : Bi mg) {f : Addr} {fd : FuncData} (F : Fun K "_law_odd" "_law_odd" s__law_odd f fd) (hf : mg "_law_odd" = some (.ref f)) (G__law_some : Df P w K mg base 2 "_law_some" S__law_some) : Df P w K mg base 3 "_law_odd" S__law_odd :=
  ⟨f, fd, _, okD F sc__law_odd (fun _ _ _ h => h) fun cdv A outer s H E hr =>
    (dss_cons (ds_setV 1 sc__law_odd.nd rfl (Or.inl rfl) (de_lst (ac de_non (ac de_bl (ac de_bl (ac de_int (ac (de_un do_neg de_int) (ac de_int (ac (de_bin do_pow de_int de_int) (ac xs (ac xs (ac xs (ac (de_tup a0) (ac (de_lst a0) (ac de_dnew (ac (de_tup (ac de_int a0)) (ac (de_tup (ac (de_tup a0) a0)) (ac (de_lst (ac de_int a0)) (ac (de_disp1 de_int) (ac (de_tup (ac (de_tup (ac de_int (ac de_int a0))) a0)) (ac (de_tup (ac xs (ac de_int a0))) a0)))))))))))))))))))) rfl (Or.inl rfl)) (dss_one (ds_ret (xcall G__law_some (hr.mono (by decide)) (takes_of rfl rfl rfl rfl) (bn 0 (bn 1 b0)))))), hf, F.kp, F.binds fun _ _ _ _ _ _ us hl => match us, hl with | [_], _ => rfl⟩
abbrev s__law_bent : Stmt := top 34
theorem sc__law_bent : FnScope N__law_bent ["bag", "thing", "depth"] (defScope s__law_bent) := ⟨rfl, rfl, rfl, by decide +kernel, rfl, by decide +kernel, by decide +kernel⟩
theorem df__law_bent (B : Bi mg) {f : Addr} {fd : FuncData} (F : Fun K "_law_bent" "_law_bent" s__law_bent f fd) (hf : mg "_law_bent" = some (.ref f)) (G__law_take : Df P w K mg base 1 "_law_take" S__law_take) (G__law_some : Df P w K mg base 2 "_law_some" S__law_some) (G__law_odd : Df P w K mg base 3 "_law_odd" S__law_odd) : ∀ n, Df P w K mg base (4 + n) "_law_bent" (S__law_bent n)
  | 0 => df_false (ps := ["bag", "thing", "depth"]) hf F.kp (F.binds fun _ _ _ _ _ _ us hl => match us, hl with | [_, _, _], _ => rfl) (fun _ _ _ h => h)
  | n + 1 => show Df P w K mg base ((4 + n) + 1) "_law_bent" (S__law_bent (n + 1)) from ⟨f, fd, _, okD F sc__law_bent (fun _ _ _ h => h) fun cdv A outer s H E hr =>
    have GR := df__law_bent B F hf G__law_take G__law_some G__law_odd n
    (dss_cons (ds_if (DW.dt (dw_and (dt_val (xisi B (xv 1) B.tuple) fun _ => rfl) (dw_and (dt_cmp (do_ne (r64 hr)) (xv 1) (de_tup a0) rfl) (dw_and (dt_cmp (do_gt (r64 hr)) (xv 2) de_int rfl) (dw_and1 (dt_cmp (do_gt (r64 hr)) (DE.weakV (xcall G__law_take (hr.mono (by omega)) (takes_of rfl rfl rfl rfl) (bn 0 (bc de_int b0)))) de_int rfl)))))) (dss_cons (ds_setV 3 sc__law_bent.nd rfl (Or.inl rfl) (xcall G__law_take (hr.mono (by omega)) (takes_of rfl rfl rfl rfl) (bn 0 (bc (xlen B (ac (xv 1) a0)) b0))) rfl (Or.inl rfl)) (dss_one (ds_ret (de_bin do_add (de_bin do_add (de_slice (xv 1) do_none (do_some (xv 3))) (de_tup (ac (xcall GR (hr.mono (by omega)) (takes_of rfl rfl rfl rfl) (bn 0 (bc (de_ix (r100 hr) (xv 1) (xv 3) fun _ _ => rfl) (bc (de_bin do_sub (xv 2) de_int) b0)))) a0))) (de_slice (xv 1) (do_some (de_bin do_add (xv 3) de_int)) do_none))))) dss_nil) (dss_cons (ds_if (dt_val (xisi B (xv 1) B.bool) fun _ => rfl) (dss_one (ds_ret (xcall G__law_some (hr.mono (by omega)) (takes_of rfl rfl rfl rfl) (bn 0 (bc (de_lst (ac (de_not (xv 1)) (ac (xint B (ac (xv 1) a0)) (ac de_non a0)))) b0))))) dss_nil) (dss_cons (ds_if (dt_val (xisi B (xv 1) B.int) fun _ => rfl) (dss_one (ds_ret (xcall G__law_some (hr.mono (by omega)) (takes_of rfl rfl rfl rfl) (bn 0 (bc (de_lst (ac (de_bin do_add (xv 1) de_int) (ac (de_bin do_sub (xv 1) de_int) (ac (de_un do_neg (xv 1)) (ac (de_cmp (do_eq (r64 hr)) (xv 1) de_int rfl) (ac (de_tup (ac (xk 1) a0)) (ac (de_bin do_pow de_int de_int) a0))))))) b0))))) dss_nil) (dss_cons (ds_if (DW.dt (dw_and (dt_val (xisi B (xv 1) B.tuple) fun _ => rfl) (dw_and1 (dt_cmp (do_ne (r64 hr)) (xv 1) (de_tup a0) rfl)))) (dss_cons (ds_setV 3 sc__law_bent.nd rfl (Or.inl rfl) (xcall G__law_take (hr.mono (by omega)) (takes_of rfl rfl rfl rfl) (bn 0 (bc (xlen B (ac (xv 1) a0)) b0))) rfl (Or.inl rfl)) (dss_cons (ds_setV 4 sc__law_bent.nd rfl (Or.inl rfl) (de_bin do_add (de_bin do_add (de_slice (xv 1) do_none (do_some (xv 3))) (de_tup (ac (de_ix (r100 hr) (xv 1) (xv 3) fun _ _ => rfl) a0))) (de_slice (xv 1) (do_some (xv 3)) do_none)) rfl (Or.inl rfl)) (dss_one (ds_ret (xcall G__law_some (hr.mono (by omega)) (takes_of rfl rfl rfl rfl) (bn 0 (bc (de_lst (ac (xlist B (ac (xv 1) a0)) (ac (de_bin do_add (de_slice (xv 1) do_none (do_some (xv 3))) (de_slice (xv 1) (do_some (de_bin do_add (xv 3) de_int)) do_none)) (ac (xk 4) (ac (de_rev (xv 1)) (ac (xcall G__law_odd (hr.mono (by omega)) (takes_of rfl rfl rfl rfl) (bn 0 b0)) a0)))))) b0))))))) dss_nil) (dss_one (ds_ret (xcall G__law_odd (hr.mono (by omega)) (takes_of rfl rfl rfl rfl) (bn 0 b0)))))))), hf, F.kp, F.binds fun _ _ _ _ _ _ us hl => match us, hl with | [_, _, _], _ => rfl⟩
abbrev s__law_is_int : Stmt := top 32
theorem sc__law_is_int : FnScope N__law_is_int ["thing"] (defScope s__law_is_int) := ⟨rfl, rfl, rfl, by decide +kernel, rfl, by decide +kernel, by decide +kernel⟩
theorem df__law_is_int (B : Bi mg) {f : Addr} {fd : FuncData} (F : Fun K "_law_is_int" "_law_is_int" s__law_is_int f fd) (hf : mg "_law_is_int" = some (.ref f))  : Df P w K mg base 1 "_law_is_int" S__law_is_int :=
  ⟨f, fd, _, okD F sc__law_is_int (fun _ _ _ h => h) fun cdv A outer s H E hr =>
    (dss_one (ds_ret (de_and (xisi B (xv 0) B.int) (de_one (de_not (xisi B (xv 0) B.bool)))))), hf, F.kp, F.binds fun _ _ _ _ _ _ us hl => match us, hl with | [_], _ => rfl⟩
abbrev s__law_are_hands : Stmt := top 38
theorem sc__law_are_hands : FnScope N__law_are_hands ["thing"] (defScope s__law_are_hands) := ⟨rfl, rfl, rfl, by decide +kernel, rfl, by decide +kernel, by decide +kernel⟩
theorem df__law_are_hands (B : Bi mg) {f : Addr} {fd : FuncData} (F : Fun K "_law_are_hands" "_law_are_hands" s__law_are_hands f fd) (hf : mg "_law_are_hands" = some (.ref f)) (G__law_is_int : Df P w K mg base 1 "_law_is_int" S__law_is_int) : Df P w K mg base 2 "_law_are_hands" S__law_are_hands :=
  ⟨f, fd, _, okD F sc__law_are_hands (fun _ _ _ h => h) fun cdv A outer s H E hr =>
    (dss_cons (ds_if (DW.dt (dw_or (dt_not (dt_val (xisi B (xv 0) B.tuple) fun _ => rfl)) (dw_or1 (dt_not (dt_chain (do_le (r64 hr)) (do_le (r64 hr)) de_int (xlen B (ac (xv 0) a0)) de_int rfl))))) (dss_one (ds_ret de_bl)) dss_nil) (dss_cons (ds_for (fun _ => false) (passes_of rfl) rfl (di_seq (xk 0)) (dg_name 1 sc__law_are_hands.nd rfl (Or.inl rfl) (Or.inl rfl)) (dss_cons (ds_if (DW.dt (dw_or (dt_not (dt_val (xisi B (xv 1) B.tuple) fun _ => rfl)) (dw_or1 (dt_cmp (do_ne (r64 hr)) (DE.weak (de_lc (own := [("one", 2)]) rfl sc__law_are_hands.nd (di_seq (xv 1)) (blkOk_by (by show blkC N__law_are_hands (defScope s__law_are_hands) _ _ = true; first | decide +kernel | kernel_rfl)) (fun _ _ _ _ _ => (xg1 2 sc__law_are_hands.nd)) (fun _ _ _ _ _ => (dts_one (DW.dt (dw_or (dt_not (dt_val (DE.weakV (xcall G__law_is_int (hr.mono (by decide)) takes0 (bn 2 b0))) fun _ => rfl)) (dw_or1 (dt_not (dt_chain (do_le (r64 hr)) (do_le (r64 hr)) de_int (xv 2) de_int rfl))))))) (fun _ _ _ _ _ => de_int))) (de_lst a0) rfl)))) (dss_one (ds_ret de_bl)) dss_nil) (dss_one (ds_if (dt_cmp (do_ne (r64 hr)) (DE.weak (de_lc (own := [("one", 2), ("other", 3)]) rfl sc__law_are_hands.nd (di_zip rfl B.zip (xv 1) (de_slice (xv 1) (do_some de_int) do_none) rfl rfl rfl) (blkOk_by (by show blkC N__law_are_hands (defScope s__law_are_hands) _ _ = true; first | decide +kernel | kernel_rfl)) (fun _ _ _ _ _ => (dg1_tup rfl (dgs1_cons (xg1 2 sc__law_are_hands.nd) (dgs1_cons (xg1 3 sc__law_are_hands.nd) dgs1_nil rfl) rfl) rfl rfl)) (fun _ _ _ _ _ => (dts_one (dt_cmp (do_ge (r64 hr)) (xv 2) (xv 3) rfl))) (fun _ _ _ _ _ => de_int))) (de_lst a0) rfl) (dss_one (ds_ret de_bl)) dss_nil))) fun _ => rfl) (dss_one (ds_ret de_bl)))), hf, F.kp, F.binds fun _ _ _ _ _ _ us hl => match us, hl with | [_], _ => rfl⟩
abbrev s_is_integer : Stmt := top 9
theorem sc_is_integer : FnScope N_is_integer ["thing"] (defScope s_is_integer) := ⟨rfl, rfl, rfl, by decide +kernel, rfl, by decide +kernel, by decide +kernel⟩
theorem df_is_integer (B : Bi mg) {f : Addr} {fd : FuncData} (F : Fun K "is_integer" "is_integer" s_is_integer f fd) (hf : mg "is_integer" = some (.ref f))  : Df P w K mg base 1 "is_integer" S_is_integer :=
  ⟨f, fd, _, okD F sc_is_integer (fun _ _ _ h => h) fun cdv A outer s H E hr =>
    (dss_one (ds_ret (de_and (xisi B (xv 0) B.int) (de_one (de_not (xisi B (xv 0) B.bool)))))), hf, F.kp, F.binds fun _ _ _ _ _ _ us hl => match us, hl with | [_], _ => rfl⟩
abbrev s_are_all__is_integer : Stmt := top 11
theorem sc_are_all__is_integer : FnScope N_are_all__is_integer ["thing", "fits"] (defScope s_are_all__is_integer) := ⟨rfl, rfl, rfl, by decide +kernel, rfl, by decide +kernel, by decide +kernel⟩
theorem df_are_all__is_integer (B : Bi mg) {f : Addr} {fd : FuncData} (F : Fun K "are_all" "are_all" s_are_all__is_integer f fd) (hf : mg "are_all" = some (.ref f)) (G_is_integer : Df P w K mg base 1 "is_integer" S_is_integer) : Df P w K mg base 2 "are_all" S_are_all__is_integer :=
  ⟨f, fd, _, okD F sc_are_all__is_integer (fun _ _ _ h => h) fun cdv A outer s H E hr =>
    (dss_one (ds_ret (de_and (xisi B (xv 0) B.tuple) (de_one (xall B (ac (DE.weak (de_lc (own := [("member", 2)]) rfl sc_are_all__is_integer.nd (di_seq (xv 0)) (blkOk_by (by show blkC N_are_all__is_integer (defScope s_are_all__is_integer) _ _ = true; first | decide +kernel | kernel_rfl)) (fun _ _ _ _ _ => (xg1 2 sc_are_all__is_integer.nd)) (fun _ _ _ _ _ => dts_nil) (fun _ _ _ _ _ => (xcallL (k := 1) 1 (dfT_cons G_is_integer (by decide) dfT_nil) (hr.mono (by decide)) takes0 (bn 2 b0))))) a0)))))), hf, F.kp, F.binds fun _ _ _ _ _ _ us hl => match us, hl with | [_, _], _ => rfl⟩
abbrev s_are_integers : Stmt := top 12
theorem sc_are_integers : FnScope N_are_integers ["thing"] (defScope s_are_integers) := ⟨rfl, rfl, rfl, by decide +kernel, rfl, by decide +kernel, by decide +kernel⟩
theorem df_are_integers (B : Bi mg) {f : Addr} {fd : FuncData} (F : Fun K "are_integers" "are_integers" s_are_integers f fd) (hf : mg "are_integers" = some (.ref f)) (G_are_all__is_integer : Df P w K mg base 2 "are_all" S_are_all__is_integer) (G_is_integer : Df P w K mg base 1 "is_integer" S_is_integer) : Df P w K mg base 3 "are_integers" S_are_integers :=
  ⟨f, fd, _, okD F sc_are_integers (fun _ _ _ h => h) fun cdv A outer s H E hr =>
    (dss_one (ds_ret (xcall G_are_all__is_integer (hr.mono (by decide)) (takes_of rfl rfl rfl rfl) (bn 0 (bc (xfn G_is_integer) b0))))), hf, F.kp, F.binds fun _ _ _ _ _ _ us hl => match us, hl with | [_], _ => rfl⟩
abbrev s_is_name : Stmt := top 10
theorem sc_is_name : FnScope N_is_name ["thing"] (defScope s_is_name) := ⟨rfl, rfl, rfl, by decide +kernel, rfl, by decide +kernel, by decide +kernel⟩
theorem df_is_name (B : Bi mg) {f : Addr} {fd : FuncData} (F : Fun K "is_name" "is_name" s_is_name f fd) (hf : mg "is_name" = some (.ref f)) (D_MOST_SIGNS : Gd K mg "MOST_SIGNS" (.int 8)) (Y_RESERVED : Gt K mg "RESERVED" ["above", "all", "back", "below", "box", "close", "cut", "day", "dig", "find", "in", "kind", "last", "layer", "none", "of", "open", "out", "pit", "redo", "row", "to", "undo", "unit", "year"]) (D_LETTERS : Gd K mg "LETTERS" (.str "abcdefghijklmnopqrstuvwxyz")) : Df P w K mg base 1 "is_name" S_is_name :=
  ⟨f, fd, _, okD F sc_is_name (fun _ _ _ h => h) fun cdv A outer s H E hr =>
    (dss_cons (ds_if (DW.dt (dw_or (dt_not (dt_val (xisi B (xv 0) B.str) fun _ => rfl)) (dw_or (dt_not (dt_chain (do_le (r64 hr)) (do_le (r64 hr)) de_int (xlen B (ac (xv 0) a0)) (xglob D_MOST_SIGNS) rfl)) (dw_or1 (dt_inG Y_RESERVED (r100 hr) (xv 0) rfl (by decide) rfl))))) (dss_one (ds_ret de_bl)) dss_nil) (dss_one (ds_ret (xall B (ac (DE.weak (de_lc (own := [("sign", 1)]) rfl sc_is_name.nd (di_seq (xv 0)) (blkOk_by (by show blkC N_is_name (defScope s_is_name) _ _ = true; first | decide +kernel | kernel_rfl)) (fun _ _ _ _ _ => (xg1 1 sc_is_name.nd)) (fun _ _ _ _ _ => dts_nil) (fun _ _ _ _ _ => (de_cmp (do_in (r65 hr)) (xv 1) (xglob D_LETTERS) rfl)))) a0))))), hf, F.kp, F.binds fun _ _ _ _ _ _ us hl => match us, hl with | [_], _ => rfl⟩
abbrev s_are_all__is_name : Stmt := top 11
theorem sc_are_all__is_name : FnScope N_are_all__is_name ["thing", "fits"] (defScope s_are_all__is_name) := ⟨rfl, rfl, rfl, by decide +kernel, rfl, by decide +kernel, by decide +kernel⟩
theorem df_are_all__is_name (B : Bi mg) {f : Addr} {fd : FuncData} (F : Fun K "are_all" "are_all" s_are_all__is_name f fd) (hf : mg "are_all" = some (.ref f)) (G_is_name : Df P w K mg base 1 "is_name" S_is_name) : Df P w K mg base 2 "are_all" S_are_all__is_name :=
  ⟨f, fd, _, okD F sc_are_all__is_name (fun _ _ _ h => h) fun cdv A outer s H E hr =>
    (dss_one (ds_ret (de_and (xisi B (xv 0) B.tuple) (de_one (xall B (ac (DE.weak (de_lc (own := [("member", 2)]) rfl sc_are_all__is_name.nd (di_seq (xv 0)) (blkOk_by (by show blkC N_are_all__is_name (defScope s_are_all__is_name) _ _ = true; first | decide +kernel | kernel_rfl)) (fun _ _ _ _ _ => (xg1 2 sc_are_all__is_name.nd)) (fun _ _ _ _ _ => dts_nil) (fun _ _ _ _ _ => (xcallL (k := 1) 1 (dfT_cons G_is_name (by decide) dfT_nil) (hr.mono (by decide)) takes0 (bn 2 b0))))) a0)))))), hf, F.kp, F.binds fun _ _ _ _ _ _ us hl => match us, hl with | [_, _], _ => rfl⟩
abbrev s_are_names : Stmt := top 13
theorem sc_are_names : FnScope N_are_names ["thing"] (defScope s_are_names) := ⟨rfl, rfl, rfl, by decide +kernel, rfl, by decide +kernel, by decide +kernel⟩
theorem df_are_names (B : Bi mg) {f : Addr} {fd : FuncData} (F : Fun K "are_names" "are_names" s_are_names f fd) (hf : mg "are_names" = some (.ref f)) (G_are_all__is_name : Df P w K mg base 2 "are_all" S_are_all__is_name) (G_is_name : Df P w K mg base 1 "is_name" S_is_name) : Df P w K mg base 3 "are_names" S_are_names :=
  ⟨f, fd, _, okD F sc_are_names (fun _ _ _ h => h) fun cdv A outer s H E hr =>
    (dss_one (ds_ret (xcall G_are_all__is_name (hr.mono (by decide)) (takes_of rfl rfl rfl rfl) (bn 0 (bc (xfn G_is_name) b0))))), hf, F.kp, F.binds fun _ _ _ _ _ _ us hl => match us, hl with | [_], _ => rfl⟩
abbrev s_are_all__are_integers : Stmt := top 11
theorem sc_are_all__are_integers : FnScope N_are_all__are_integers ["thing", "fits"] (defScope s_are_all__are_integers) := ⟨rfl, rfl, rfl, by decide +kernel, rfl, by decide +kernel, by decide +kernel⟩
theorem df_are_all__are_integers (B : Bi mg) {f : Addr} {fd : FuncData} (F : Fun K "are_all" "are_all" s_are_all__are_integers f fd) (hf : mg "are_all" = some (.ref f)) (G_are_integers : Df P w K mg base 3 "are_integers" S_are_integers) : Df P w K mg base 4 "are_all" S_are_all__are_integers :=
  ⟨f, fd, _, okD F sc_are_all__are_integers (fun _ _ _ h => h) fun cdv A outer s H E hr =>
    (dss_one (ds_ret (de_and (xisi B (xv 0) B.tuple) (de_one (xall B (ac (DE.weak (de_lc (own := [("member", 2)]) rfl sc_are_all__are_integers.nd (di_seq (xv 0)) (blkOk_by (by show blkC N_are_all__are_integers (defScope s_are_all__are_integers) _ _ = true; first | decide +kernel | kernel_rfl)) (fun _ _ _ _ _ => (xg1 2 sc_are_all__are_integers.nd)) (fun _ _ _ _ _ => dts_nil) (fun _ _ _ _ _ => (xcallL (k := 3) 1 (dfT_cons G_are_integers (by decide) dfT_nil) (hr.mono (by decide)) takes0 (bn 2 b0))))) a0)))))), hf, F.kp, F.binds fun _ _ _ _ _ _ us hl => match us, hl with | [_, _], _ => rfl⟩
abbrev s_do_rise : Stmt := top 14
theorem sc_do_rise : FnScope N_do_rise ["thing"] (defScope s_do_rise) := ⟨rfl, rfl, rfl, by decide +kernel, rfl, by decide +kernel, by decide +kernel⟩
theorem df_do_rise (B : Bi mg) {f : Addr} {fd : FuncData} (F : Fun K "do_rise" "do_rise" s_do_rise f fd) (hf : mg "do_rise" = some (.ref f)) (G_are_integers : Df P w K mg base 3 "are_integers" S_are_integers) (G_are_names : Df P w K mg base 3 "are_names" S_are_names) (G_are_all__are_integers : Df P w K mg base 4 "are_all" S_are_all__are_integers) : Df P w K mg base 5 "do_rise" S_do_rise :=
  ⟨f, fd, _, okD F sc_do_rise (fun _ _ _ h => h) fun cdv A outer s H E hr =>
    (dss_cons (ds_if (DW.dt (dw_and (dt_not (dt_val (DE.weakV (xcall G_are_integers (hr.mono (by decide)) (takes_of rfl rfl rfl rfl) (bn 0 b0))) fun _ => rfl)) (dw_and (dt_not (dt_val (DE.weakV (xcall G_are_names (hr.mono (by decide)) (takes_of rfl rfl rfl rfl) (bn 0 b0))) fun _ => rfl)) (dw_and1 (dt_not (dt_val (DE.weakV (xcall G_are_all__are_integers (hr.mono (by decide)) (takes_of rfl rfl rfl rfl) (bn 0 (bc (xfn G_are_integers) b0)))) fun _ => rfl)))))) (dss_one (ds_ret de_bl)) dss_nil) (dss_one (ds_ret (xall B (ac (DE.weak (de_lc (own := [("one", 1), ("other", 2)]) rfl sc_do_rise.nd (di_zip rfl B.zip (xv 0) (de_slice (xv 0) (do_some de_int) do_none) rfl rfl rfl) (blkOk_by (by show blkC N_do_rise (defScope s_do_rise) _ _ = true; first | decide +kernel | kernel_rfl)) (fun _ _ _ _ _ => (dg1_tup rfl (dgs1_cons (xg1 1 sc_do_rise.nd) (dgs1_cons (xg1 2 sc_do_rise.nd) dgs1_nil rfl) rfl) rfl rfl)) (fun _ _ _ _ _ => dts_nil) (fun _ _ _ _ _ => (de_cmp (do_lt (r64 hr)) (xv 1) (xv 2) rfl)))) a0))))), hf, F.kp, F.binds fun _ _ _ _ _ _ us hl => match us, hl with | [_], _ => rfl⟩
abbrev s_are_hands : Stmt := top 18
theorem sc_are_hands : FnScope N_are_hands ["thing"] (defScope s_are_hands) := ⟨rfl, rfl, rfl, by decide +kernel, rfl, by decide +kernel, by decide +kernel⟩
theorem df_are_hands (B : Bi mg) {f : Addr} {fd : FuncData} (F : Fun K "are_hands" "are_hands" s_are_hands f fd) (hf : mg "are_hands" = some (.ref f)) (D_MOST_CREWS : Gd K mg "MOST_CREWS" (.int 6)) (D_MOST_UNIT : Gd K mg "MOST_UNIT" (.int 11)) (G_are_integers : Df P w K mg base 3 "are_integers" S_are_integers) (G_do_rise : Df P w K mg base 5 "do_rise" S_do_rise) : Df P w K mg base 6 "are_hands" S_are_hands :=
  ⟨f, fd, _, okD F sc_are_hands (fun _ _ _ h => h) fun cdv A outer s H E hr =>
    (dss_cons (ds_if (DW.dt (dw_or (dt_not (dt_val (xisi B (xv 0) B.tuple) fun _ => rfl)) (dw_or1 (dt_not (dt_chain (do_le (r64 hr)) (do_le (r64 hr)) de_int (xlen B (ac (xv 0) a0)) (xglob D_MOST_CREWS) rfl))))) (dss_one (ds_ret de_bl)) dss_nil) (dss_cons (ds_if (dt_not (dt_val (xall B (ac (DE.weak (de_lc (own := [("some", 1)]) rfl sc_are_hands.nd (di_seq (xv 0)) (blkOk_by (by show blkC N_are_hands (defScope s_are_hands) _ _ = true; first | decide +kernel | kernel_rfl)) (fun _ _ _ _ _ => (xg1 1 sc_are_hands.nd)) (fun _ _ _ _ _ => dts_nil) (fun _ _ _ _ _ => (de_and (xcall G_are_integers (hr.mono (by decide)) takes0 (bn 1 b0)) (de_one (xcall G_do_rise (hr.mono (by decide)) takes0 (bn 1 b0))))))) a0)) fun _ => rfl)) (dss_one (ds_ret de_bl)) dss_nil) (dss_one (ds_ret (xall B (ac (DE.weak (de_lc2 (own := [("some", 1), ("unit", 2)]) (vs1 := [2]) rfl sc_are_hands.nd (di_seq (xv 0)) (blkOk_by (by show blkC N_are_hands (defScope s_are_hands) _ _ = true; first | decide +kernel | kernel_rfl)) (by decide) (fun _ _ _ _ _ => (xg1 1 sc_are_hands.nd)) (fun _ _ _ _ _ => dts_nil) (fun _ _ _ _ _ => (di_seq (xk 1))) (fun _ _ _ _ _ => (xg1 2 sc_are_hands.nd)) (fun _ _ _ _ _ => dts_nil) (fun _ _ _ _ _ => (de_chain (do_le (r64 hr)) (do_le (r64 hr)) de_int (xv 2) (xglob D_MOST_UNIT) rfl)))) a0)))))), hf, F.kp, F.binds fun _ _ _ _ _ _ us hl => match us, hl with | [_], _ => rfl⟩
abbrev s__law_bag : Stmt := top 27
theorem sc__law_bag : FnScope ["script", "cell"] ["script"] (defScope s__law_bag) := ⟨rfl, rfl, rfl, by decide +kernel, rfl, by decide +kernel, by decide +kernel⟩
theorem df__law_bag (B : Bi mg) {f : Addr} {fd : FuncData} (F : Fun K "_law_bag" "_law_bag" s__law_bag f fd) (hf : mg "_law_bag" = some (.ref f)) : DfBag P w K mg base 1 :=
  ⟨f, fd, F.okX sc__law_bag (fun vs H Q E h => by obtain ⟨a, ns, rfl, _⟩ := h; rfl) fun cdv A outer s H vs Q E hr h =>
    ⟨_, pss_one (ps_ret (pe_lst (pa_cons pe_int (pa_cons pe_int (pa_cons pe_int (pa_cons (pe_lc (own := [("cell", 1)]) rfl sc__law_bag.nd (pi_list (pe_slice sl_list (pe_var (i := 0) rfl (Or.inl rfl)) po_none (po_some pe_int)))
      (blkOk_by (by show blkC (["script", "cell"] : List Str) (defScope s__law_bag) _ _ = true; decide +kernel)) (fun _ _ _ _ _ => pg_name (i := 1) sc__law_bag.nd rfl (Or.inl rfl)) (fun _ _ _ _ _ => pts_nil)
      (fun _ _ _ _ _ => pe_callB call_abs rfl B.abs (by decide +kernel) (pa_cons (pe_var (i := 1) rfl (Or.inl rfl)) pa_nil))) pa_nil)))))), bag_read h rfl⟩, hf, F.kp, F.binds fun _ _ _ _ _ _ us hl => match us, hl with | [_], _ => rfl⟩
abbrev s__law_asked : Stmt := top 35
theorem sc__law_asked : FnScope (["act", "error"] : List Str) ["act"] (defScope s__law_asked) := ⟨rfl, rfl, rfl, by decide +kernel, rfl, by decide +kernel, by decide +kernel⟩
theorem ak__law_asked {h : Heap} {CS CN : Addr} (F : FnK K "_law_asked" "_law_asked" s__law_asked) (X : K.In h) (G : h.Ns mainGlobals mg) (aC : PySem.W.nsIn K mainGlobals "Refused" = some (some (.ref CS))) (xf : XfC K CS) (hno : PySem.W.findIn K (.ref CS) "why" = some none) (te : PySem.W.exmAny K (.ref CS) [.ref CN, .ref CS] = some true) (aN : PySem.W.nsIn K mainGlobals "Nothing" = some (some (.ref CN))) (iN : PySem.W.nsIn K mainGlobals "isinstance" = some none) : Ak K mg "_law_asked" "Refused" "why" :=
  ak_of F X G aC sc__law_asked rfl (Or.inl rfl) (by decide) (by decide) (fun f fd F => F.binds fun _ _ _ _ _ _ us hl => match us, hl with | [_], _ => rfl)
    fun X' q g cdv hK hm => by
      subst hK hm
      exact asked_gives (n := "error") rfl (PySem.W.mg_of X G aC) (by decide) rfl (PySem.W.mg_of X G aN) (by decide) rfl (PySem.W.mg_none_of X G iN) xf hno te (by decide +kernel) rfl rfl (by decide) (by decide) (fun f => rfl) (by decide) (fun env => rfl)
abbrev s_law : Stmt := top 39
theorem sc_law : FnScope N_law ["script"] (defScope s_law) := ⟨rfl, rfl, rfl, by decide +kernel, rfl, by decide +kernel, by decide +kernel⟩
theorem ok_law (B : Bi mg) {f c : Addr} {oc kV doc pm ct : Value} {od an : Option Addr} {osl : Array (Option Value)} (lk : K.lookup f = some ⟨oc, od, .func (PySem.W.fnOf "law" "law" (defArgs s_law) (defBody s_law) (defScope s_law) .none kV doc pm an (.ref c) ct), osl⟩) (hcd : PySem.W.codeIn K (.ref c) "law" = true)
    (Lx : Lm base mg (.ref c) ("law" ++ ".<locals>.")) (Gb : DfBag P w K mg base 1) (H__law_asked : Ak K mg "_law_asked" "Refused" "why") (G__law_mixed : Df P w K mg base 2 "_law_mixed" S__law_mixed) (G__law_take : Df P w K mg base 1 "_law_take" S__law_take) (G__law_staff : Df P w K mg base 1 "_law_staff" S__law_staff) (G__law_stuck : Df P w K mg base 1 "_law_stuck" S__law_stuck) (G__law_alike : Df P w K mg base 1 "_law_alike" S__law_alike) (G_stuck_day : Df P w K mg base 3 "stuck_day" S_stuck_day) (G_staffed : Df P w K mg base 3 "staffed" S_staffed) (G_idle_days : Df P w K mg base 4 "idle_days" S_idle_days) (G__law_some : Df P w K mg base 2 "_law_some" S__law_some) (G__law_bent : Df P w K mg base 10 "_law_bent" (S__law_bent 6)) (G__law_are_hands : Df P w K mg base 2 "_law_are_hands" S__law_are_hands) (G_are_hands : Df P w K mg base 6 "are_hands" S_are_hands) (hm : m_law (lawE N_law) (endsE (fun d => d = .bl true) fun _ => False)) : OkG P w K mg base f :=
  okG (m := m_law) (k := 12) lk hcd sc_law rfl Gb (by decide) rfl rfl rfl (Or.inl rfl) (Or.inr rfl) (fun _ => rfl) ⟨rfl, by decide, by decide⟩ (fun s u => .of_eq rfl) (fun s H hr =>
    (dss_cons (ds_for (fun _ => false) (passes_of rfl) rfl (di_rng1 rfl B.range (ac de_int a0) rfl) (dg_name 2 sc_law.nd rfl (Or.inl rfl) (Or.inl rfl)) (dss_cons (ds_setV 3 sc_law.nd rfl (Or.inl rfl) (xcall G__law_mixed (hr.mono (by decide)) (takes_of rfl rfl rfl rfl) (bn 1 (bc (de_lstRg rfl rfl B.list (dr_1 rfl B.range de_int rfl) rfl) b0))) rfl (Or.inl rfl)) (dss_cons (ds_parN [4, 5] rfl (xgs 4 sc_law.nd (xgs 5 sc_law.nd gs0)) rfl rfl (ff (de_lst a0) (fv de_int f0)) rfl rfl rfl (by decide)) (dss_cons (ds_for (fun _ => false) (passes_of rfl) rfl (di_rng1 rfl B.range (ac (de_bin do_add de_int (DE.weakV (xcall G__law_take (hr.mono (by decide)) (takes_of rfl rfl rfl rfl) (bn 1 (bc de_int b0))))) a0) rfl) (dg_name 6 sc_law.nd rfl (Or.inl rfl) (Or.inl rfl)) (dss_cons (ds_setV 7 sc_law.nd rfl (Or.inl rfl) (de_bin do_add de_int (DE.weakV (xcall G__law_take (hr.mono (by decide)) (takes_of rfl rfl rfl rfl) (bn 1 (bc de_int b0))))) rfl (Or.inl rfl)) (dss_cons (xappend 4 (ac (xtuple B (ac (xsorted B (r100 hr) (ac (de_slice (xv 3) (do_some (xv 5)) (do_some (de_bin do_add (xv 5) (xv 7)))) a0)) a0)) a0)) (dss_one (ds_aug 5 sc_law.nd rfl (Or.inl rfl) (xv 7) do_iadd (Or.inl rfl))))) fun _ => rfl) (dss_cons (ds_set 4 sc_law.nd rfl (Or.inr rfl) (xtuple B (ac (DE.weak (de_lc (own := [("day", 6)]) rfl sc_law.nd (di_seq (xv 4)) (blkOk_by (by show blkC N_law (defScope s_law) _ _ = true; first | decide +kernel | kernel_rfl)) (fun _ _ _ _ _ => (xg1 6 sc_law.nd)) (fun _ _ _ _ _ => (dts_one (dt_cmp (do_ne (r64 hr)) (xv 6) (de_tup a0) rfl))) (fun _ _ _ _ _ => (xk 6)))) a0)) rfl (Or.inl rfl)) (dss_cons (ds_setV 8 sc_law.nd rfl (Or.inr rfl) (xtuple B (ac (DE.weak (de_lc (own := [("crew", 10)]) rfl sc_law.nd (di_rng1 rfl B.range (ac (de_bin do_add de_int (DE.weakV (xcall G__law_take (hr.mono (by decide)) (takes_of rfl rfl rfl rfl) (bn 1 (bc de_int b0))))) a0) rfl) (blkOk_by (by show blkC N_law (defScope s_law) _ _ = true; first | decide +kernel | kernel_rfl)) (fun _ _ _ _ _ => (xg1 10 sc_law.nd)) (fun _ _ _ _ _ => dts_nil) (fun _ _ _ _ _ => (xtuple B (ac (DE.weak (de_lc (own := [("unit", 9)]) rfl sc_law.nd (di_rng1 rfl B.range (ac de_int a0) rfl) (blkOk_by (by show blkC N_law _ _ _ = true; first | decide +kernel | kernel_rfl)) (fun _ _ _ _ _ => (xg1 9 sc_law.nd)) (fun _ _ _ _ _ => (dts_one (dt_cmp (do_eq (r64 hr)) (DE.weakV (xcall G__law_take (hr.mono (by decide)) takes0 (bn 1 (bc de_int b0)))) de_int rfl))) (fun _ _ _ _ _ => (xk 9)))) a0))))) a0)) rfl (Or.inl rfl)) (dss_cons (ds_setLcV (own := [("day", 6)]) 11 rfl sc_law.nd rfl rfl rfl (di_seq (xv 4)) (blkOk_by (by show blkC N_law (defScope s_law) _ _ = true; first | decide +kernel | kernel_rfl)) (fun _ _ _ _ _ => (xg1 6 sc_law.nd)) (fun _ _ _ _ _ => dts_nil) (fun _ _ _ _ _ => (xcall G__law_staff (hr.mono (by decide)) takes0 (bn 6 (bn 8 b0))))) (dss_cons (ds_setLcV (own := [("at", 5), ("day", 6)]) 12 rfl sc_law.nd rfl rfl rfl (di_enum rfl B.enumerate (xv 4) rfl) (blkOk_by (by show blkC N_law (defScope s_law) _ _ = true; first | decide +kernel | kernel_rfl)) (fun _ _ _ _ _ => (dg1_tup rfl (dgs1_cons (xg1 5 sc_law.nd) (dgs1_cons (xg1 6 sc_law.nd) dgs1_nil rfl) rfl) rfl rfl)) (fun _ _ _ _ _ => (dts_one (dt_cmp do_isNot (DE.weakV (xcall G__law_stuck (hr.mono (by decide)) takes0 (bn 6 (bn 8 b0)))) de_non rfl))) (fun _ _ _ _ _ => (de_tup (ac (xk 5) (ac (xcall G__law_stuck (hr.mono (by decide)) takes0 (bn 6 (bn 8 b0))) a0))))) (dss_cons (ds_if (dt_cmp (do_ne (r64 hr)) (de_cmp (do_in (r65 hr)) de_non (xv 11) rfl) (de_cmp (do_ne (r64 hr)) (xv 12) (de_lst a0) rfl) rfl) (dss_one (ds_ret de_bl)) dss_nil) (dss_cons (ds_setV 13 sc_law.nd rfl (Or.inr rfl) (de_if (dt_cmp (do_in (r65 hr)) de_non (xv 11) rfl) de_non (xtuple B (ac (xv 11) a0))) rfl (Or.inl rfl)) (dss_cons (ds_if (dt_not (dt_val (DE.weakV (xcall G__law_alike (hr.mono (by decide)) (takes_of rfl rfl rfl rfl) (bc (de_lst (ac (xcall G_staffed (hr.mono (by decide)) (takes_of rfl rfl rfl rfl) (bn 4 (bn 8 b0))) (ac (xcall G_stuck_day (hr.mono (by decide)) (takes_of rfl rfl rfl rfl) (bn 4 (bn 8 b0))) a0))) (bc (de_lst (ac (xk 13) (ac (de_if (dt_cmp (do_ne (r64 hr)) (xv 12) (de_lst a0) rfl) (de_ix (r100 hr) (xv 12) de_int fun _ _ => rfl) de_non) a0))) b0)))) fun _ => rfl)) (dss_one (ds_ret de_bl)) dss_nil) (dss_cons (ds_if (dt_cmp do_is (xv 13) de_non rfl) (dss_one (ds_if (dt_cmp (do_ne (r64 hr)) (DE.weakV (xasked (k := 10) H__law_asked Lx (hr.mono (by decide)) (fun A outer s H E f c' hr2 => (xcall G_idle_days (hr2.mono (by decide)) (takes_of rfl rfl rfl rfl) (bn 4 (bn 8 b0)))) rfl)) xs rfl) (dss_one (ds_ret de_bl)) dss_nil)) (dss_cons (ds_setV 14 sc_law.nd rfl (Or.inl rfl) (xtuple B (ac (DE.weak (de_lc (own := [("crew", 10)]) rfl sc_law.nd (di_rng1 rfl B.range (ac (xlen B (ac (xv 8) a0)) a0) rfl) (blkOk_by (by show blkC N_law (defScope s_law) _ _ = true; first | decide +kernel | kernel_rfl)) (fun _ _ _ _ _ => (xg1 10 sc_law.nd)) (fun _ _ _ _ _ => dts_nil) (fun _ _ _ _ _ => (xlen B (ac (DE.weak (de_lc (own := [("crews", 15)]) rfl sc_law.nd (di_seq (xv 13)) (blkOk_by (by show blkC N_law _ _ _ = true; first | decide +kernel | kernel_rfl)) (fun _ _ _ _ _ => (xg1 15 sc_law.nd)) (fun _ _ _ _ _ => (dts_one (dt_cmp (do_notIn (r65 hr)) (xv 10) (xv 15) rfl))) (fun _ _ _ _ _ => de_int))) a0))))) a0)) rfl (Or.inl rfl)) (dss_one (ds_if (dt_not (dt_val (DE.weakV (xcall G__law_alike (hr.mono (by decide)) (takes_of rfl rfl rfl rfl) (bc (xcall G_idle_days (hr.mono (by decide)) (takes_of rfl rfl rfl rfl) (bn 4 (bn 8 b0))) (bn 14 b0)))) fun _ => rfl)) (dss_one (ds_ret de_bl)) dss_nil)))) (dss_one (ds_for (fun _ => false) (passes_of rfl) rfl (di_rng1 rfl B.range (ac de_int a0) rfl) (dg_name 16 sc_law.nd rfl (Or.inl rfl) (Or.inl rfl)) (dss_cons (xmove 17 8 sc_law.nd rfl (Or.inl rfl) rfl (Or.inl rfl)) (dss_cons (ds_for (fun _ => false) (passes_of rfl) rfl (di_rng1 rfl B.range (ac (DE.weakV (xcall G__law_some (hr.mono (by decide)) (takes_of rfl rfl rfl rfl) (bn 1 (bc (de_lst (ac de_int (ac de_int (ac de_int a0)))) b0)))) a0) rfl) (dg_name 18 sc_law.nd rfl (Or.inl rfl) (Or.inl rfl)) (dss_one (ds_setV 17 sc_law.nd rfl (Or.inl rfl) (xcall G__law_bent (hr.mono (by decide)) (takes_of rfl rfl rfl rfl) (bn 1 (bn 17 (bc de_int b0)))) rfl (Or.inl rfl))) fun _ => rfl) (dss_one (ds_if (dt_not (dt_val (DE.weakV (xcall G__law_alike (hr.mono (by decide)) (takes_of rfl rfl rfl rfl) (bc (xcall G_are_hands (hr.mono (by decide)) (takes_of rfl rfl rfl rfl) (bn 17 b0)) (bc (xcall G__law_are_hands (hr.mono (by decide)) (takes_of rfl rfl rfl rfl) (bn 17 b0)) b0)))) fun _ => rfl)) (dss_one (ds_ret de_bl)) dss_nil)))) fun _ => rfl))))))))))))) fun _ => rfl) (dss_one (ds_ret de_bl)))) hm
end
end Lw

namespace Lw
open PySem PySem.Spec L2 Ev
open Dt (enc)
open PyProof.Rows hiding St
theorem fin {w : World} {K : PySem.W.Frag} {h : Heap} {mg : Str → Option Value} {fa f c Pa : Addr} {oc kV doc pm ct e : Value} {od an dd : Option Addr} {osl sl : Array (Option Value)} {vs : Array Value} (X : K.In h) (G : h.Ns mainGlobals mg) (hfa : mg "law" = some (.ref fa)) (own : LamX.OwnTab K fa h)
    (k__law_bag : FnK K "_law_bag" "_law_bag" s__law_bag) (k__law_take : FnK K "_law_take" "_law_take" s__law_take) (k__law_mixed : FnK K "_law_mixed" "_law_mixed" s__law_mixed) (k__law_staff : FnK K "_law_staff" "_law_staff" s__law_staff) (k__law_stuck : FnK K "_law_stuck" "_law_stuck" s__law_stuck) (k__law_alike : FnK K "_law_alike" "_law_alike" s__law_alike) (k_lots_of : FnK K "lots_of" "lots_of" s_lots_of) (k_able : FnK K "able" "able" s_able) (k_short_lot : FnK K "short_lot" "short_lot" s_short_lot) (k_stuck_day : FnK K "stuck_day" "stuck_day" s_stuck_day) (k_staff_of : FnK K "staff_of" "staff_of" s_staff_of) (k_staffed : FnK K "staffed" "staffed" s_staffed) (k_idle_days : FnK K "idle_days" "idle_days" s_idle_days) (k__law_some : FnK K "_law_some" "_law_some" s__law_some) (k__law_odd : FnK K "_law_odd" "_law_odd" s__law_odd) (k__law_bent : FnK K "_law_bent" "_law_bent" s__law_bent) (k__law_is_int : FnK K "_law_is_int" "_law_is_int" s__law_is_int) (k__law_are_hands : FnK K "_law_are_hands" "_law_are_hands" s__law_are_hands) (k_is_integer : FnK K "is_integer" "is_integer" s_is_integer) (k_are_all : FnK K "are_all" "are_all" s_are_all__is_integer) (k_are_integers : FnK K "are_integers" "are_integers" s_are_integers) (k_is_name : FnK K "is_name" "is_name" s_is_name) (k_are_names : FnK K "are_names" "are_names" s_are_names) (k_do_rise : FnK K "do_rise" "do_rise" s_do_rise) (k_are_hands : FnK K "are_hands" "are_hands" s_are_hands) (k__law_asked : FnK K "_law_asked" "_law_asked" s__law_asked)
    (bi : BiK K) (e_Refused : ∀ [Tbl], ErC PySem.Challenge.rw_spadebook_k07_hands_and_days_they_can_st.prog K mg "Refused" "why") {AY_RESERVED : Addr} {dY_RESERVED : Option Addr} {iY_RESERVED : Array Value} {nY_RESERVED : Nat} {sY_RESERVED : Array (Option Value)} (ya_RESERVED : PySem.W.nsIn K mainGlobals "RESERVED" = some (some (.ref AY_RESERVED))) (yl_RESERVED : K.lookup AY_RESERVED = some ⟨.type "tuple", dY_RESERVED, .seq iY_RESERVED nY_RESERVED, sY_RESERVED⟩) (ys_RESERVED : strsOf iY_RESERVED.toList ["above", "all", "back", "below", "box", "close", "cut", "day", "dig", "find", "in", "kind", "last", "layer", "none", "of", "open", "out", "pit", "redo", "row", "to", "undo", "unit", "year"] = true) {dT_LETTERS : Tok} (da_LETTERS : PySem.W.nsIn K mainGlobals "LETTERS" = some (some (.str "abcdefghijklmnopqrstuvwxyz" dT_LETTERS))) {dT_MOST_CREWS : Tok} (da_MOST_CREWS : PySem.W.nsIn K mainGlobals "MOST_CREWS" = some (some (.int 6 dT_MOST_CREWS))) {dT_MOST_SIGNS : Tok} (da_MOST_SIGNS : PySem.W.nsIn K mainGlobals "MOST_SIGNS" = some (some (.int 8 dT_MOST_SIGNS))) {dT_MOST_UNIT : Tok} (da_MOST_UNIT : PySem.W.nsIn K mainGlobals "MOST_UNIT" = some (some (.int 11 dT_MOST_UNIT))) {CN__law_asked : Addr} (hd__law_asked : PySem.W.nsIn K mainGlobals "Nothing" = some (some (.ref CN__law_asked))) {CS__law_asked : Addr} (hc__law_asked : PySem.W.nsIn K mainGlobals "Refused" = some (some (.ref CS__law_asked))) (hx__law_asked : XfC K CS__law_asked) (hn__law_asked : PySem.W.findIn K (.ref CS__law_asked) "why" = some none) (ht__law_asked : PySem.W.exmOne K (.ref CS__law_asked) (.ref CS__law_asked) = some true) (hu__law_asked : PySem.W.exmOne K (.ref CS__law_asked) (.ref CN__law_asked) = some false)
    (a : PySem.W.nsIn K mainGlobals "law" = some (some (.ref f))) (lk : K.lookup f = some ⟨oc, od, .func (PySem.W.fnOf "law" "law" (defArgs s_law) (defBody s_law) (defScope s_law) .none kV doc pm an (.ref c) ct), osl⟩) (hcd : PySem.W.codeIn K (.ref c) "law" = true)
    (kc : K.lookup c = some ⟨e, dd, .fields vs, sl⟩) (v11 : vs[11]? = some (.ref Pa)) (nP : K.lookup Pa = none) (ch : PySem.W.codeHdIn K c Pa = true) : LawAtG PySem.Challenge.rw_spadebook_k07_hands_and_days_they_can_st w K mg fa h := by
  letI : Tbl := ⟨[(Pa, ("law" : Str) ++ ".<locals>." ++ "<lambda>")]⟩
  have B := bi_of X G bi
  obtain ⟨_, _, F__law_bag, m__law_bag'⟩ := k__law_bag.fn X G
  obtain ⟨_, _, F__law_take, m__law_take'⟩ := k__law_take.fn X G
  obtain ⟨_, _, F__law_mixed, m__law_mixed'⟩ := k__law_mixed.fn X G
  obtain ⟨_, _, F__law_staff, m__law_staff'⟩ := k__law_staff.fn X G
  obtain ⟨_, _, F__law_stuck, m__law_stuck'⟩ := k__law_stuck.fn X G
  obtain ⟨_, _, F__law_alike, m__law_alike'⟩ := k__law_alike.fn X G
  obtain ⟨_, _, F_lots_of, m_lots_of'⟩ := k_lots_of.fn X G
  obtain ⟨_, _, F_able, m_able'⟩ := k_able.fn X G
  obtain ⟨_, _, F_short_lot, m_short_lot'⟩ := k_short_lot.fn X G
  obtain ⟨_, _, F_stuck_day, m_stuck_day'⟩ := k_stuck_day.fn X G
  obtain ⟨_, _, F_staff_of, m_staff_of'⟩ := k_staff_of.fn X G
  obtain ⟨_, _, F_staffed, m_staffed'⟩ := k_staffed.fn X G
  obtain ⟨_, _, F_idle_days, m_idle_days'⟩ := k_idle_days.fn X G
  obtain ⟨_, _, F__law_some, m__law_some'⟩ := k__law_some.fn X G
  obtain ⟨_, _, F__law_odd, m__law_odd'⟩ := k__law_odd.fn X G
  obtain ⟨_, _, F__law_bent, m__law_bent'⟩ := k__law_bent.fn X G
  obtain ⟨_, _, F__law_is_int, m__law_is_int'⟩ := k__law_is_int.fn X G
  obtain ⟨_, _, F__law_are_hands, m__law_are_hands'⟩ := k__law_are_hands.fn X G
  obtain ⟨_, _, F_is_integer, m_is_integer'⟩ := k_is_integer.fn X G
  obtain ⟨_, _, F_are_all, m_are_all'⟩ := k_are_all.fn X G
  obtain ⟨_, _, F_are_integers, m_are_integers'⟩ := k_are_integers.fn X G
  obtain ⟨_, _, F_is_name, m_is_name'⟩ := k_is_name.fn X G
  obtain ⟨_, _, F_are_names, m_are_names'⟩ := k_are_names.fn X G
  obtain ⟨_, _, F_do_rise, m_do_rise'⟩ := k_do_rise.fn X G
  obtain ⟨_, _, F_are_hands, m_are_hands'⟩ := k_are_hands.fn X G
  have H__law_asked := ak__law_asked k__law_asked X G hc__law_asked hx__law_asked hn__law_asked (exm_any2 hu__law_asked ht__law_asked) hd__law_asked bi.isinstance
  refine lawAtG X G hfa own a lk kc v11 nP ch rfl fun base hK hG Lx => ?_
  have Gb : DfBag PySem.Challenge.rw_spadebook_k07_hands_and_days_they_can_st.prog w K mg base 1 := df__law_bag B F__law_bag m__law_bag'
  have G__law_take : Df PySem.Challenge.rw_spadebook_k07_hands_and_days_they_can_st.prog w K mg base 1 "_law_take" S__law_take := df__law_take B F__law_take m__law_take'
  have G__law_mixed : Df PySem.Challenge.rw_spadebook_k07_hands_and_days_they_can_st.prog w K mg base 2 "_law_mixed" S__law_mixed := df__law_mixed B F__law_mixed m__law_mixed' G__law_take
  have G__law_staff : Df PySem.Challenge.rw_spadebook_k07_hands_and_days_they_can_st.prog w K mg base 1 "_law_staff" S__law_staff := df__law_staff B F__law_staff m__law_staff'
  have G__law_stuck : Df PySem.Challenge.rw_spadebook_k07_hands_and_days_they_can_st.prog w K mg base 1 "_law_stuck" S__law_stuck := df__law_stuck B F__law_stuck m__law_stuck'
  have G__law_alike : Df PySem.Challenge.rw_spadebook_k07_hands_and_days_they_can_st.prog w K mg base 1 "_law_alike" S__law_alike := df__law_alike B F__law_alike m__law_alike'
  have G_lots_of : Df PySem.Challenge.rw_spadebook_k07_hands_and_days_they_can_st.prog w K mg base 1 "lots_of" S_lots_of := df_lots_of B F_lots_of m_lots_of'
  have G_able : Df PySem.Challenge.rw_spadebook_k07_hands_and_days_they_can_st.prog w K mg base 1 "able" S_able := df_able B F_able m_able'
  have G_short_lot : Df PySem.Challenge.rw_spadebook_k07_hands_and_days_they_can_st.prog w K mg base 2 "short_lot" S_short_lot := df_short_lot B F_short_lot m_short_lot' G_lots_of G_able
  have G_stuck_day : Df PySem.Challenge.rw_spadebook_k07_hands_and_days_they_can_st.prog w K mg base 3 "stuck_day" S_stuck_day := df_stuck_day B F_stuck_day m_stuck_day' G_short_lot
  have G_staff_of : Df PySem.Challenge.rw_spadebook_k07_hands_and_days_they_can_st.prog w K mg base 2 "staff_of" S_staff_of := df_staff_of B F_staff_of m_staff_of' G_able
  have G_staffed : Df PySem.Challenge.rw_spadebook_k07_hands_and_days_they_can_st.prog w K mg base 3 "staffed" S_staffed := df_staffed B F_staffed m_staffed' G_staff_of
  have G_idle_days : Df PySem.Challenge.rw_spadebook_k07_hands_and_days_they_can_st.prog w K mg base 4 "idle_days" S_idle_days := df_idle_days B F_idle_days m_idle_days' e_Refused G_staffed
  have G__law_some : Df PySem.Challenge.rw_spadebook_k07_hands_and_days_they_can_st.prog w K mg base 2 "_law_some" S__law_some := df__law_some B F__law_some m__law_some' G__law_take
  have G__law_odd : Df PySem.Challenge.rw_spadebook_k07_hands_and_days_they_can_st.prog w K mg base 3 "_law_odd" S__law_odd := df__law_odd B F__law_odd m__law_odd' G__law_some
  have G__law_bent : Df PySem.Challenge.rw_spadebook_k07_hands_and_days_they_can_st.prog w K mg base 10 "_law_bent" (S__law_bent 6) := df__law_bent B F__law_bent m__law_bent' G__law_take G__law_some G__law_odd 6
  have G__law_is_int : Df PySem.Challenge.rw_spadebook_k07_hands_and_days_they_can_st.prog w K mg base 1 "_law_is_int" S__law_is_int := df__law_is_int B F__law_is_int m__law_is_int'
  have G__law_are_hands : Df PySem.Challenge.rw_spadebook_k07_hands_and_days_they_can_st.prog w K mg base 2 "_law_are_hands" S__law_are_hands := df__law_are_hands B F__law_are_hands m__law_are_hands' G__law_is_int
  have G_is_integer : Df PySem.Challenge.rw_spadebook_k07_hands_and_days_they_can_st.prog w K mg base 1 "is_integer" S_is_integer := df_is_integer B F_is_integer m_is_integer'
  have G_are_all__is_integer : Df PySem.Challenge.rw_spadebook_k07_hands_and_days_they_can_st.prog w K mg base 2 "are_all" S_are_all__is_integer := df_are_all__is_integer B F_are_all m_are_all' G_is_integer
  have G_are_integers : Df PySem.Challenge.rw_spadebook_k07_hands_and_days_they_can_st.prog w K mg base 3 "are_integers" S_are_integers := df_are_integers B F_are_integers m_are_integers' G_are_all__is_integer G_is_integer
  have G_is_name : Df PySem.Challenge.rw_spadebook_k07_hands_and_days_they_can_st.prog w K mg base 1 "is_name" S_is_name := df_is_name B F_is_name m_is_name' (Gd.int (PySem.W.mg_of X G da_MOST_SIGNS)) (gt_mk X G ya_RESERVED yl_RESERVED rfl ys_RESERVED (by decide +kernel)) (Gd.str (PySem.W.mg_of X G da_LETTERS) (by decide +kernel))
  have G_are_all__is_name : Df PySem.Challenge.rw_spadebook_k07_hands_and_days_they_can_st.prog w K mg base 2 "are_all" S_are_all__is_name := df_are_all__is_name B F_are_all m_are_all' G_is_name
  have G_are_names : Df PySem.Challenge.rw_spadebook_k07_hands_and_days_they_can_st.prog w K mg base 3 "are_names" S_are_names := df_are_names B F_are_names m_are_names' G_are_all__is_name G_is_name
  have G_are_all__are_integers : Df PySem.Challenge.rw_spadebook_k07_hands_and_days_they_can_st.prog w K mg base 4 "are_all" S_are_all__are_integers := df_are_all__are_integers B F_are_all m_are_all' G_are_integers
  have G_do_rise : Df PySem.Challenge.rw_spadebook_k07_hands_and_days_they_can_st.prog w K mg base 5 "do_rise" S_do_rise := df_do_rise B F_do_rise m_do_rise' G_are_integers G_are_names G_are_all__are_integers
  have G_are_hands : Df PySem.Challenge.rw_spadebook_k07_hands_and_days_they_can_st.prog w K mg base 6 "are_hands" S_are_hands := df_are_hands B F_are_hands m_are_hands' (Gd.int (PySem.W.mg_of X G da_MOST_CREWS)) (Gd.int (PySem.W.mg_of X G da_MOST_UNIT)) G_are_integers G_do_rise
  exact ok_law B lk hcd Lx Gb H__law_asked G__law_mixed G__law_take G__law_staff G__law_stuck G__law_alike G_stuck_day G_staffed G_idle_days G__law_some G__law_bent G__law_are_hands G_are_hands pure_law
end Lw
open PySem PySem.W PyProof.Rows in
set_option maxRecDepth 100000 in
set_option maxHeartbeats 0 in
theorem PySem.Challenge.cw_spadebook_k07_hands_and_days_they_can_st_holds : PySem.Challenge.rw_spadebook_k07_hands_and_days_they_can_st.Holds := by
  w_on; o_law; k_head; (case hw => w_witness2)
  k_fill
  refine Ev.walkG (l := PySem.Challenge.rw_spadebook_k07_hands_and_days_they_can_st) rfl rfl (by decide +kernel) (fun w h Y => by first | exact PySem.W.km_in_of Y | exact PySem.W.kIn_of Y) ?F
  case F =>
    intro w mg fa h Y KX G hmg own
    refine' Lw.fin KX G hmg own ?x0 ?x1 ?x2 ?x3 ?x4 ?x5 ?x6 ?x7 ?x8 ?x9 ?x10 ?x11 ?x12 ?x13 ?x14 ?x15 ?x16 ?x17 ?x18 ?x19 ?x20 ?x21 ?x22 ?x23 ?x24 ?x25 ?bi ?e0 ?ya0 ?yl0 ?ys0 ?da0 ?da1 ?da2 ?da3 ?hd0 ?hc0 ?hx0 ?hn0 ?ht0 ?hu0 ?la ?lk ?hcd ?kc ?v11 ?nP ?ch
    (case x0 => refine' Ev.fnk_mk ?a ?l ?c ?k; (case a => k_is); (case l => k_is); (case c => k_is); (case k => k_is))
    (case x1 => refine' Ev.fnk_mk ?a ?l ?c ?k; (case a => k_is); (case l => k_is); (case c => k_is); (case k => k_is))
    (case x2 => refine' Ev.fnk_mk ?a ?l ?c ?k; (case a => k_is); (case l => k_is); (case c => k_is); (case k => k_is))
    (case x3 => refine' Ev.fnk_mk ?a ?l ?c ?k; (case a => k_is); (case l => k_is); (case c => k_is); (case k => k_is))
    (case x4 => refine' Ev.fnk_mk ?a ?l ?c ?k; (case a => k_is); (case l => k_is); (case c => k_is); (case k => k_is))
    (case x5 => refine' Ev.fnk_mk ?a ?l ?c ?k; (case a => k_is); (case l => k_is); (case c => k_is); (case k => k_is))
    (case x6 => refine' Ev.fnk_mk ?a ?l ?c ?k; (case a => k_is); (case l => k_is); (case c => k_is); (case k => k_is))
    (case x7 => refine' Ev.fnk_mk ?a ?l ?c ?k; (case a => k_is); (case l => k_is); (case c => k_is); (case k => k_is))
    (case x8 => refine' Ev.fnk_mk ?a ?l ?c ?k; (case a => k_is); (case l => k_is); (case c => k_is); (case k => k_is))
    (case x9 => refine' Ev.fnk_mk ?a ?l ?c ?k; (case a => k_is); (case l => k_is); (case c => k_is); (case k => k_is))
    (case x10 => refine' Ev.fnk_mk ?a ?l ?c ?k; (case a => k_is); (case l => k_is); (case c => k_is); (case k => k_is))
    (case x11 => refine' Ev.fnk_mk ?a ?l ?c ?k; (case a => k_is); (case l => k_is); (case c => k_is); (case k => k_is))
    (case x12 => refine' Ev.fnk_mk ?a ?l ?c ?k; (case a => k_is); (case l => k_is); (case c => k_is); (case k => k_is))
    (case x13 => refine' Ev.fnk_mk ?a ?l ?c ?k; (case a => k_is); (case l => k_is); (case c => k_is); (case k => k_is))
    (case x14 => refine' Ev.fnk_mk ?a ?l ?c ?k; (case a => k_is); (case l => k_is); (case c => k_is); (case k => k_is))
    (case x15 => refine' Ev.fnk_mk ?a ?l ?c ?k; (case a => k_is); (case l => k_is); (case c => k_is); (case k => k_is))
    (case x16 => refine' Ev.fnk_mk ?a ?l ?c ?k; (case a => k_is); (case l => k_is); (case c => k_is); (case k => k_is))
    (case x17 => refine' Ev.fnk_mk ?a ?l ?c ?k; (case a => k_is); (case l => k_is); (case c => k_is); (case k => k_is))
    (case x18 => refine' Ev.fnk_mk ?a ?l ?c ?k; (case a => k_is); (case l => k_is); (case c => k_is); (case k => k_is))
    (case x19 => refine' Ev.fnk_mk ?a ?l ?c ?k; (case a => k_is); (case l => k_is); (case c => k_is); (case k => k_is))
    (case x20 => refine' Ev.fnk_mk ?a ?l ?c ?k; (case a => k_is); (case l => k_is); (case c => k_is); (case k => k_is))
    (case x21 => refine' Ev.fnk_mk ?a ?l ?c ?k; (case a => k_is); (case l => k_is); (case c => k_is); (case k => k_is))
    (case x22 => refine' Ev.fnk_mk ?a ?l ?c ?k; (case a => k_is); (case l => k_is); (case c => k_is); (case k => k_is))
    (case x23 => refine' Ev.fnk_mk ?a ?l ?c ?k; (case a => k_is); (case l => k_is); (case c => k_is); (case k => k_is))
    (case x24 => refine' Ev.fnk_mk ?a ?l ?c ?k; (case a => k_is); (case l => k_is); (case c => k_is); (case k => k_is))
    (case x25 => refine' Ev.fnk_mk ?a ?l ?c ?k; (case a => k_is); (case l => k_is); (case c => k_is); (case k => k_is))
    (case bi => constructor <;> k_is)
    (case e0 => intro _; refine' Ev.erc_mk KX G ?aC ?xL ?rf ?sa ?nb ?iC ?tC ?l1 ?c1 ?l2 ?v2 ?fl ?l3 ?sup ?suV ?suC ?opq ?sp ?top ?kC ?eC ?ty ?B; (case aC => first | k_is | rfl | decide +kernel); (case xL => first | k_is | rfl | decide +kernel); (case rf => first | k_is | rfl | decide +kernel); (case sa => first | k_is | rfl | decide +kernel); (case nb => first | k_is | rfl | decide +kernel); (case iC => first | k_is | rfl | decide +kernel); (case tC => first | k_is | rfl | decide +kernel); (case l1 => first | k_is | rfl | decide +kernel); (case c1 => first | k_is | rfl | decide +kernel); (case l2 => first | k_is | rfl | decide +kernel); (case v2 => first | k_is | rfl | decide +kernel); (case fl => first | k_is | rfl | decide +kernel); (case l3 => first | k_is | rfl | decide +kernel); (case sup => first | k_is | rfl | decide +kernel); (case suV => first | k_is | rfl | decide +kernel); (case suC => first | k_is | rfl | decide +kernel); (case opq => first | k_is | rfl | decide +kernel); (case sp => first | k_is | rfl | decide +kernel); (case top => first | k_is | rfl | decide +kernel); (case kC => first | k_is | rfl | decide +kernel); (case eC => first | k_is | rfl | decide +kernel); (case ty => first | k_is | rfl | decide +kernel); (case B => exact ⟨⟨_, _, _, _, _, _, _, _, _, _, _, rfl, fun _ _ _ _ => ⟨rfl, rfl, rfl, rfl, rfl⟩⟩, rfl, rfl, rfl, rfl, rfl, by decide, rfl, rfl, ⟨_, rfl, rfl⟩, fun _ _ _ _ _ _ _ _ _ _ => .of_eq rfl, by decide, by decide⟩))
    (case ya0 => k_is)
    (case yl0 => k_is)
    (case ys0 => first | k_is | rfl | decide +kernel)
    (case da0 => k_is)
    (case da1 => k_is)
    (case da2 => k_is)
    (case da3 => k_is)
    (case hd0 => k_is)
    (case hc0 => k_is)
    (case hx0 => constructor <;> k_is)
    (case hn0 => k_is)
    (case ht0 => refine' Ev.exm_me ?x1 ?x2 ?x3 ?x4; (case x1 => k_is); (case x2 => k_is); (case x3 => k_is); (case x4 => first | rfl | k_is))
    (case hu0 => refine' Ev.exm_no ?x1 ?x2 ?x3 ?x4; (case x1 => k_is); (case x2 => k_is); (case x3 => k_is); (case x4 => first | rfl | k_is))
    (case la => first | k_is | rfl)
    (case lk => first | k_is | rfl)
    (case hcd => first | k_is | rfl)
    (case kc => first | k_is | rfl)
    (case v11 => first | k_is | rfl)
    (case nP => first | k_is | rfl)
    (case ch => first | k_is | rfl)
