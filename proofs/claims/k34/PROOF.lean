import PyProof.Rows.All
import Wide.All
import OpenK.AllK
import Wide.FinOn
import HandS.ForMost
import HandS.Walk
import HandS.Zip
import HandS.Exc
import HandS.WordsExc
import HandS.Lambda
import HandS.Steps
import HandS.Deep
import HandS.Style
import HandS.TupAny
import HandS.IsInst
import HandS.ExcInit
import HandS.ExcField
import HandS.TryMany
import PySem.Challenge.RW_everycrew_k34_whole_letters_and_runs
import HandS.EndOwn
set_option Elab.async false
set_option linter.all false
set_option maxRecDepth 100000
set_option maxHeartbeats 1000000
/-! Deep data over the hand layer: values with all that they hold, a store of what may change, and the readings told of these. -/
namespace DD
open PySem L2
/-- one heap knows all that the other one knew -/
def Ex (H H' : Hp) : Prop := ∀ a o, H a = some o → H' a = some o
theorem Ex.refl (H : Hp) : Ex H H := fun _ _ h => h
theorem Ex.trans {H H1 H2 : Hp} (a : Ex H H1) (b : Ex H1 H2) : Ex H H2 := fun x o h => b x o (a x o h)
theorem Ex.new {H : Hp} {p : Addr} {o : HO} (h : H p = none) : Ex H (upd H p o) := fun a u e => by
  rw [upd_ne (ne_of_none e h)]
  exact e
theorem ex_t {K : PySem.W.Frag} {H H' : Hp} {a : Addr} {xs : List V} (e : Ex H H') (h : SqT K H a xs) : SqT K H' a xs := by
  rcases h with (h | ⟨o, h⟩) | h
  · exact .inl (.inl (e a _ h))
  · exact .inl (.inr ⟨o, e a _ h⟩)
  · exact .inr h
theorem ex_l {K : PySem.W.Frag} {H H' : Hp} {a : Addr} {xs : List V} (e : Ex H H') (h : SqL K H a xs) : SqL K H' a xs := by
  rcases h with (h | ⟨o, h⟩) | h
  · exact .inl (.inl (e a _ h))
  · exact .inl (.inr ⟨o, e a _ h⟩)
  · exact .inr h
/-- a value with all that it holds; scr: the script; ref: an address, whatever stands there -/
inductive D where
  | non | bl (b : Bool) | int (i : Int) | str (x : Str) | ref (a : Addr)
  | ty (n : String) | scr (ns : List Int) | lst (ds : List D) | tup (ds : List D)
  | dict (ks : List Key) (ds : List D)
  | ins (C : Addr) (fs : List Str) (ds : List D)
mutual
inductive Is (K : PySem.W.Frag) (S : Hp) : V → D → Prop
  | non : Is K S .non .non
  | bl (b : Bool) : Is K S (.bl b) (.bl b)
  | int (i : Int) : Is K S (.int i) (.int i)
  | str (x : Str) : Is K S (.str x) (.str x)
  | ref (a : Addr) : Is K S (.ref a) (.ref a)
  | ty (n : String) : Is K S (.ty n) (.ty n)
  | scr {a : Addr} {ns : List Int} : SqL K S a (ns.map V.int) → Is K S (.ref a) (.scr ns)
  | lst {a : Addr} {vs : List V} {ds : List D} : S a = some (.lst vs) → IsAll K S vs ds → Is K S (.ref a) (.lst ds)
  | tup {a : Addr} {vs : List V} {ds : List D} : SqT K S a vs → IsAll K S vs ds → Is K S (.ref a) (.tup ds)
  | dict {a : Addr} {ks : List Key} {vs : List V} {ds : List D} : S a = some (.dK (ks.zip vs)) → ks.length = vs.length → IsAll K S vs ds → Is K S (.ref a) (.dict ks ds)
  | ins {a C dx : Addr} {fs : List Str} {vs : List V} {ds : List D} : S a = some (.ins C dx (fs.zip vs)) → fs.length = vs.length → IsAll K S vs ds → Is K S (.ref a) (.ins C fs ds)
inductive IsAll (K : PySem.W.Frag) (S : Hp) : List V → List D → Prop
  | nil : IsAll K S [] []
  | cons {v : V} {vs : List V} {d : D} {ds : List D} : Is K S v d → IsAll K S vs ds → IsAll K S (v :: vs) (d :: ds)
end
section
variable {K : PySem.W.Frag} {S S' : Hp}
mutual
theorem Is.mono (e : Ex S S') : ∀ {v : V} {d : D}, Is K S v d → Is K S' v d
  | _, _, .non => .non
  | _, _, .bl b => .bl b
  | _, _, .int i => .int i
  | _, _, .str x => .str x
  | _, _, .ref a => .ref a
  | _, _, .ty a => .ty a
  | _, _, .scr h => .scr (ex_l e h)
  | _, _, .lst h r => .lst (e _ _ h) (IsAll.mono e r)
  | _, _, .tup h r => .tup (ex_t e h) (IsAll.mono e r)
  | _, _, .dict h l r => .dict (e _ _ h) l (IsAll.mono e r)
  | _, _, .ins h l r => .ins (e _ _ h) l (IsAll.mono e r)
theorem IsAll.mono (e : Ex S S') : ∀ {vs : List V} {ds : List D}, IsAll K S vs ds → IsAll K S' vs ds
  | _, _, .nil => .nil
  | _, _, .cons h r => .cons (Is.mono e h) (IsAll.mono e r)
end
theorem IsAll.length : ∀ {vs : List V} {ds : List D}, IsAll K S vs ds → vs.length = ds.length
  | _, _, .nil => rfl
  | _, _, .cons _ r => by rw [List.length_cons, List.length_cons, IsAll.length r]
theorem IsAll.get : ∀ {vs : List V} {ds : List D} {i : Nat} {v : V}, IsAll K S vs ds → vs[i]? = some v → ∃ d, ds[i]? = some d ∧ Is K S v d
  | _, _, i, _, .nil, e => by simp at e
  | _, _, 0, v, .cons h _, e => by
    simp at e
    subst e
    exact ⟨_, rfl, h⟩
  | _, _, i + 1, v, .cons _ r, e => by
    simp at e
    obtain ⟨d, h1, h2⟩ := IsAll.get r e
    exact ⟨d, by simpa using h1, h2⟩
theorem IsAll.at : ∀ {vs : List V} {ds : List D} {i : Nat} {d : D}, IsAll K S vs ds → ds[i]? = some d → ∃ v, vs[i]? = some v ∧ Is K S v d
  | _, _, i, _, .nil, e => by simp at e
  | _, _, 0, d, .cons h _, e => by
    simp at e
    subst e
    exact ⟨_, rfl, h⟩
  | _, _, i + 1, d, .cons _ r, e => by
    simp at e
    obtain ⟨v, h1, h2⟩ := IsAll.at r e
    exact ⟨v, by simpa using h1, h2⟩
theorem IsAll.append : ∀ {vs ws : List V} {ds es : List D}, IsAll K S vs ds → IsAll K S ws es → IsAll K S (vs ++ ws) (ds ++ es)
  | _, _, _, _, .nil, s => s
  | _, _, _, _, .cons h r, s => .cons h (IsAll.append r s)
theorem IsAll.drop : ∀ (n : Nat) {vs : List V} {ds : List D}, IsAll K S vs ds → IsAll K S (vs.drop n) (ds.drop n)
  | 0, _, _, h => h
  | _ + 1, _, _, .nil => .nil
  | n + 1, _, _, .cons _ r => IsAll.drop n r
theorem IsAll.take : ∀ (n : Nat) {vs : List V} {ds : List D}, IsAll K S vs ds → IsAll K S (vs.take n) (ds.take n)
  | 0, _, _, _ => .nil
  | _ + 1, _, _, .nil => .nil
  | n + 1, _, _, .cons h r => .cons h (IsAll.take n r)
theorem IsAll.set : ∀ (i : Nat) {vs : List V} {ds : List D} {v : V} {d : D}, Is K S v d → IsAll K S vs ds → IsAll K S (vs.set i v) (ds.set i d)
  | _, _, _, _, _, _, .nil => .nil
  | 0, _, _, _, _, h, .cons _ r => .cons h r
  | i + 1, _, _, _, _, h, .cons q r => .cons q (IsAll.set i h r)
theorem IsAll.eraseIdx : ∀ (i : Nat) {vs : List V} {ds : List D}, IsAll K S vs ds → IsAll K S (vs.eraseIdx i) (ds.eraseIdx i)
  | _, _, _, .nil => .nil
  | 0, _, _, .cons _ r => r
  | i + 1, _, _, .cons h r => .cons h (IsAll.eraseIdx i r)
theorem IsAll.rep {vs : List V} {ds : List D} (h : IsAll K S vs ds) : ∀ n : Nat, IsAll K S (List.replicate n vs).flatten (List.replicate n ds).flatten
  | 0 => .nil
  | n + 1 => by
    rw [List.replicate_succ, List.replicate_succ, List.flatten_cons, List.flatten_cons]
    exact h.append (IsAll.rep h n)
theorem IsAll.ints : ∀ (ns : List Int), IsAll K S (ns.map V.int) (ns.map D.int)
  | [] => .nil
  | n :: ns => .cons (.int n) (IsAll.ints ns)
theorem IsAll.strs : ∀ (ns : List Str), IsAll K S (ns.map V.str) (ns.map D.str)
  | [] => .nil
  | n :: ns => .cons (.str n) (IsAll.strs ns)
theorem IsAll.strs_inv : ∀ {ns : List Str} {vs : List V}, IsAll K S vs (ns.map D.str) → vs = ns.map V.str
  | [], _, h => by cases h; rfl
  | n :: ns, _, h => by
    cases h with
    | cons h r =>
      cases h
      rw [IsAll.strs_inv r]
      rfl
theorem IsAll.ints_inv : ∀ {ns : List Int} {vs : List V}, IsAll K S vs (ns.map D.int) → vs = ns.map V.int
  | [], _, h => by cases h; rfl
  | n :: ns, _, h => by
    cases h with
    | cons h r =>
      cases h
      rw [IsAll.ints_inv r]
      rfl
theorem IsAll.bls_inv : ∀ {ns : List Bool} {vs : List V}, IsAll K S vs (ns.map D.bl) → vs = ns.map V.bl
  | [], _, h => by cases h; rfl
  | n :: ns, _, h => by
    cases h with
    | cons h r =>
      cases h
      rw [IsAll.bls_inv r]
      rfl
end
/-! ### data as the library's own -/
mutual
def pyOf : D → PyData
  | .non => .none
  | .bl b => .bool b
  | .int i => .int i
  | .str x => .str x
  | .ref _ => .none
  | .ty _ => .none
  | .scr _ => .none
  | .lst ds => .list (pyOfs ds)
  | .tup ds => .tuple (pyOfs ds)
  | .dict _ _ => .none
  | .ins _ _ _ => .none
def pyOfs : List D → List PyData
  | [] => []
  | d :: ds => pyOf d :: pyOfs ds
end
mutual
/-- nothing but none, bools, ints, texts, lists and tuples -/
def plain : D → Bool
  | .non => true
  | .bl _ => true
  | .int _ => true
  | .str _ => true
  | .ref _ => false
  | .ty _ => false
  | .scr _ => false
  | .lst ds => plains ds
  | .tup ds => plains ds
  | .dict _ _ => false
  | .ins _ _ _ => false
def plains : List D → Bool
  | [] => true
  | d :: ds => plain d && plains ds
end
section
variable {K : PySem.W.Frag} {S : Hp}
mutual
theorem Is.dp : ∀ {v : V} {d : D}, Is K S v d → plain d = true → Dp K S v (pyOf d)
  | _, _, .non, _ => by unfold pyOf; exact .non
  | _, _, .bl b, _ => by unfold pyOf; exact .bl b
  | _, _, .int i, _ => by unfold pyOf; exact .int i
  | _, _, .str x, _ => by unfold pyOf; exact .str x
  | _, _, .ref a, h => by unfold plain at h; cases h
  | _, _, .ty a, h => by unfold plain at h; cases h
  | _, _, .scr _, h => by unfold plain at h; cases h
  | _, _, .lst h r, q => by
    unfold plain at q
    unfold pyOf
    exact .lst (SqL.of h) (IsAll.dp r q)
  | _, _, .tup h r, q => by
    unfold plain at q
    unfold pyOf
    exact .tup h (IsAll.dp r q)
  | _, _, .dict _ _ _, h => by unfold plain at h; cases h
  | _, _, .ins _ _ _, h => by unfold plain at h; cases h
theorem IsAll.dp : ∀ {vs : List V} {ds : List D}, IsAll K S vs ds → plains ds = true → DpAll K S vs (pyOfs ds)
  | _, _, .nil, _ => by unfold pyOfs; exact .nil
  | _, _, .cons h r, q => by
    unfold plains at q
    rw [Bool.and_eq_true] at q
    unfold pyOfs
    exact .cons (Is.dp h q.1) (IsAll.dp r q.2)
end
end
/-! ### what is known of the heap: what stays, all, what may change -/
abbrev Store := List (Addr × D)
abbrev Env := List (Option D)
structure Wd where
  S : Hp
  H : Hp
  μ : Store
def MIs (K : PySem.W.Frag) (S H : Hp) (a : Addr) : D → Prop
  | .lst ds => ∃ vs, H a = some (.lst vs) ∧ IsAll K S vs ds
  | .dict ks ds => ∃ vs, H a = some (.dK (ks.zip vs)) ∧ ks.length = vs.length ∧ IsAll K S vs ds
  | .ins C fs ds => ∃ dx vs, H a = some (.ins C dx (fs.zip vs)) ∧ fs.length = vs.length ∧ IsAll K S vs ds
  /- a table of code objects of the name q -/
  | .str q => ∃ ps : Array Value, H a = some (.tbl ps) ∧ TriplesOk ps.toList ∧ ∀ (p : Pos) (cv : Value), codeAmong p ps.toList = some cv → ∃ k, cv = .ref k ∧ S k = some (LamX.CodeO k q)
  | _ => False
theorem MIs.mono {K : PySem.W.Frag} {S S' H H' : Hp} {a : Addr} {d : D} (m : MIs K S H a d) (e : Ex S S') (h : ∀ o, H a = some o → H' a = some o) : MIs K S' H' a d := by
  cases d with
  | lst ds => obtain ⟨vs, h1, h2⟩ := m; exact ⟨vs, h _ h1, h2.mono e⟩
  | dict ks ds => obtain ⟨vs, h1, h2, h3⟩ := m; exact ⟨vs, h _ h1, h2, h3.mono e⟩
  | ins C fs ds => obtain ⟨dx, vs, h1, h2, h3⟩ := m; exact ⟨dx, vs, h _ h1, h2, h3.mono e⟩
  | str q =>
    obtain ⟨ps, h1, h2, h3⟩ := m
    refine ⟨ps, h _ h1, h2, fun p cv hc => ?_⟩
    obtain ⟨k, e1, e2⟩ := h3 p cv hc
    exact ⟨k, e1, e _ _ e2⟩
  | _ => exact m.elim
theorem MIs.there {K : PySem.W.Frag} {S H : Hp} {a : Addr} {d : D} (m : MIs K S H a d) : ∃ o, H a = some o := by
  cases d with
  | lst ds => obtain ⟨vs, h1, h2⟩ := m; exact ⟨_, h1⟩
  | dict ks ds => obtain ⟨vs, h1, h2, h3⟩ := m; exact ⟨_, h1⟩
  | ins C fs ds => obtain ⟨dx, vs, h1, h2, h3⟩ := m; exact ⟨_, h1⟩
  | str q => obtain ⟨ps, h1, _⟩ := m; exact ⟨_, h1⟩
  | _ => exact m.elim
abbrev dom (μ : Store) : List Addr := μ.map (·.1)
structure Wd.Ok (K : PySem.W.Frag) (w : Wd) : Prop where
  sub : Ex w.S w.H
  own : ∀ p ∈ w.μ, w.S p.1 = none ∧ MIs K w.S w.H p.1 p.2
  nd : (dom w.μ).Nodup
structure Wd.le (w w' : Wd) : Prop where
  ex : Ex w.S w'.S
  kp : ∀ a o, w.H a = some o → w.S a = none → a ∉ dom w.μ → w'.H a = some o ∧ w'.S a = none
  nw : ∀ a ∈ dom w'.μ, a ∈ dom w.μ ∨ w.H a = none
theorem Wd.le.refl (w : Wd) : w.le w := ⟨Ex.refl _, fun _ _ h h2 _ => ⟨h, h2⟩, fun _ h => .inl h⟩
theorem Wd.le.trans {K : PySem.W.Frag} {w w1 w2 : Wd} (ok : w.Ok K) (ok1 : w1.Ok K) (a : w.le w1) (b : w1.le w2) : w.le w2 := by
  refine ⟨a.ex.trans b.ex, fun x o h h2 h3 => ?_, fun x hx => ?_⟩
  · obtain ⟨q1, q2⟩ := a.kp x o h h2 h3
    refine b.kp x o q1 q2 fun hm => ?_
    rcases a.nw x hm with z | z
    · exact h3 z
    · rw [h] at z
      cases z
  · rcases b.nw x hx with z | z
    · exact a.nw x z
    · cases hh : w.H x with
      | none => exact .inr rfl
      | some o =>
        by_cases hm : x ∈ dom w.μ
        · exact .inl hm
        · cases hs : w.S x with
          | none =>
            obtain ⟨q1, _⟩ := a.kp x o hh hs hm
            rw [q1] at z
            cases z
          | some u =>
            have q := ok1.sub x u (a.ex x u hs)
            rw [q] at z
            cases z
/-- a new address is no one's -/
theorem Wd.Ok.fresh {K : PySem.W.Frag} {w : Wd} (ok : w.Ok K) {p : Addr} (h : w.H p = none) : w.S p = none ∧ p ∉ dom w.μ := by
  refine ⟨?_, fun hm => ?_⟩
  · cases q : w.S p with
    | none => rfl
    | some o =>
      rw [ok.sub p o q] at h
      cases h
  · obtain ⟨q, hq, e⟩ := List.mem_map.mp hm
    obtain ⟨o, ho⟩ := (ok.own q hq).2.there
    rw [e, h] at ho
    cases ho
/-- a new thing that stays -/
abbrev Wd.lay (w : Wd) (p : Addr) (o : HO) : Wd := ⟨upd w.S p o, upd w.H p o, w.μ⟩
theorem Wd.Ok.lay {K : PySem.W.Frag} {w : Wd} (ok : w.Ok K) {p : Addr} (h : w.H p = none) (o : HO) : (w.lay p o).Ok K := by
  obtain ⟨hs, hm⟩ := ok.fresh h
  refine ⟨fun a u e => ?_, fun q hq => ?_, ok.nd⟩
  · show upd w.H p o a = some u
    have e : upd w.S p o a = some u := e
    by_cases z : a = p
    · subst z
      rw [upd_same] at e ⊢
      exact e
    · rw [upd_ne z] at e ⊢
      exact ok.sub a u e
  · have hq : q ∈ w.μ := hq
    have nq : q.1 ≠ p := fun z => hm (z ▸ List.mem_map.mpr ⟨q, hq, rfl⟩)
    obtain ⟨q1, q2⟩ := ok.own q hq
    refine ⟨?_, q2.mono (Ex.new hs) fun u e => ?_⟩
    · show upd w.S p o q.1 = none
      rw [upd_ne nq]
      exact q1
    · show upd w.H p o q.1 = some u
      rw [upd_ne nq]
      exact e
theorem Wd.le_lay {K : PySem.W.Frag} {w : Wd} (ok : w.Ok K) {p : Addr} (h : w.H p = none) (o : HO) : w.le (w.lay p o) := by
  obtain ⟨hs, hm⟩ := ok.fresh h
  refine ⟨Ex.new hs, fun a u e e2 _ => ?_, fun a ha => .inl ha⟩
  have z : a ≠ p := ne_of_none e h
  exact ⟨by show upd w.H p o a = _; rw [upd_ne z]; exact e, by show upd w.S p o a = _; rw [upd_ne z]; exact e2⟩
/-- a new thing that may change -/
abbrev Wd.add (w : Wd) (p : Addr) (o : HO) (d : D) : Wd := ⟨w.S, upd w.H p o, (p, d) :: w.μ⟩
theorem Wd.Ok.add {K : PySem.W.Frag} {w : Wd} (ok : w.Ok K) {p : Addr} (h : w.H p = none) {o : HO} {d : D} (m : MIs K w.S (upd w.H p o) p d) : (w.add p o d).Ok K := by
  obtain ⟨hs, hm⟩ := ok.fresh h
  refine ⟨fun a u e => ?_, fun q hq => ?_, List.nodup_cons.mpr ⟨hm, ok.nd⟩⟩
  · show upd w.H p o a = some u
    have e : w.S a = some u := e
    rw [upd_ne (ne_of_none e hs)]
    exact ok.sub a u e
  · rcases List.mem_cons.mp hq with z | hq
    · subst z
      exact ⟨hs, m⟩
    · have nq : q.1 ≠ p := fun z => hm (z ▸ List.mem_map.mpr ⟨q, hq, rfl⟩)
      obtain ⟨q1, q2⟩ := ok.own q hq
      exact ⟨q1, q2.mono (Ex.refl _) fun u e => by show upd w.H p o q.1 = some u; rw [upd_ne nq]; exact e⟩
theorem Wd.le_add {w : Wd} {p : Addr} (h : w.H p = none) (o : HO) (d : D) : w.le (w.add p o d) := by
  refine ⟨Ex.refl _, fun a u e e2 _ => ?_, fun a ha => ?_⟩
  · have z : a ≠ p := ne_of_none e h
    exact ⟨by show upd w.H p o a = _; rw [upd_ne z]; exact e, e2⟩
  · have ha : a ∈ p :: dom w.μ := ha
    rcases List.mem_cons.mp ha with z | z
    · exact .inr (z ▸ h)
    · exact .inl z
/-- in a store, what stands at an address, and the store with another thing there -/
inductive Upd : Store → Addr → D → D → Store → Prop
  | here {a : Addr} {d e : D} {μ : Store} : Upd ((a, d) :: μ) a d e ((a, e) :: μ)
  | there {a : Addr} {d e : D} {p : Addr × D} {μ μ' : Store} : Upd μ a d e μ' → Upd (p :: μ) a d e (p :: μ')
theorem Upd.mem {μ μ' : Store} {a : Addr} {d e : D} (u : Upd μ a d e μ') : (a, d) ∈ μ := by
  induction u with
  | here => exact List.mem_cons_self
  | there _ ih => exact List.mem_cons_of_mem _ ih
theorem Upd.dom {μ μ' : Store} {a : Addr} {d e : D} (u : Upd μ a d e μ') : dom μ' = dom μ := by
  induction u with
  | here => rfl
  | there _ ih => exact congrArg (List.cons _) ih
theorem Upd.of {μ μ' : Store} {a : Addr} {d e : D} (u : Upd μ a d e μ') : (DD.dom μ).Nodup → ∀ p ∈ μ', p = (a, e) ∨ (p ∈ μ ∧ p.1 ≠ a) := by
  induction u with
  | here =>
    intro nd p hp
    rcases List.mem_cons.mp hp with z | z
    · exact .inl z
    · refine .inr ⟨List.mem_cons_of_mem _ z, fun y => ?_⟩
      exact (List.nodup_cons.mp nd).1 (y ▸ List.mem_map.mpr ⟨p, z, rfl⟩)
  | @there a d e p0 μ μ' u ih =>
    intro nd p hp
    rcases List.mem_cons.mp hp with z | z
    · refine .inr ⟨z ▸ List.mem_cons_self, fun y => ?_⟩
      refine (List.nodup_cons.mp nd).1 ?_
      have q := u.mem
      rw [z] at y
      exact List.mem_map.mpr ⟨_, q, y.symm⟩
    · rcases ih (List.nodup_cons.mp nd).2 p z with y | ⟨y, y2⟩
      · exact .inl y
      · exact .inr ⟨List.mem_cons_of_mem _ y, y2⟩
/-- a thing changes -/
abbrev Wd.put (w : Wd) (p : Addr) (o : HO) (μ' : Store) : Wd := ⟨w.S, upd w.H p o, μ'⟩
theorem Wd.Ok.put {K : PySem.W.Frag} {w : Wd} (ok : w.Ok K) {p : Addr} {d e : D} {μ' : Store} (u : Upd w.μ p d e μ') {o : HO} (m : MIs K w.S (upd w.H p o) p e) : (w.put p o μ').Ok K := by
  obtain ⟨hs, hm⟩ := ok.own _ u.mem
  have hs : w.S p = none := hs
  refine ⟨fun a x q => ?_, fun q hq => ?_, by show (dom μ').Nodup; rw [u.dom]; exact ok.nd⟩
  · show upd w.H p o a = some x
    have q : w.S a = some x := q
    rw [upd_ne (ne_of_none q hs)]
    exact ok.sub a x q
  · rcases u.of ok.nd q hq with z | ⟨z, nq⟩
    · subst z
      exact ⟨hs, m⟩
    · obtain ⟨q1, q2⟩ := ok.own q z
      exact ⟨q1, q2.mono (Ex.refl _) fun x e => by show upd w.H p o q.1 = some x; rw [upd_ne nq]; exact e⟩
theorem Wd.le_put {w : Wd} {p : Addr} {d e : D} {μ' : Store} (u : Upd w.μ p d e μ') (o : HO) : w.le (w.put p o μ') := by
  refine ⟨Ex.refl _, fun a x h h2 h3 => ?_, fun a ha => .inl (by have ha : a ∈ dom μ' := ha; rw [u.dom] at ha; exact ha)⟩
  have z : a ≠ p := fun z => h3 (z ▸ List.mem_map.mpr ⟨_, u.mem, rfl⟩)
  exact ⟨by show upd w.H p o a = _; rw [upd_ne z]; exact h, h2⟩
/-! ### the judgements -/
abbrev XD := Addr → List Str → List D → Store → Prop
def LocD (K : PySem.W.Frag) (S : Hp) (σ : L2.St) (ρ : Env) : Prop := σ.length = ρ.length ∧ ∀ (i : Nat) (d : D), ρ[i]? = some (some d) → ∃ v, σ[i]? = some (some v) ∧ Is K S v d
theorem LocD.mono {K : PySem.W.Frag} {S S' : Hp} {σ : L2.St} {ρ : Env} (l : LocD K S σ ρ) (e : Ex S S') : LocD K S' σ ρ := ⟨l.1, fun i d h => by
  obtain ⟨v, h1, h2⟩ := l.2 i d h
  exact ⟨v, h1, h2.mono e⟩⟩
theorem LocD.set {K : PySem.W.Frag} {S : Hp} {σ : L2.St} {ρ : Env} (l : LocD K S σ ρ) (i : Nat) {v : V} {d : D} (h : Is K S v d) : LocD K S (σ.set i (some v)) (ρ.set i (some d)) := by
  refine ⟨by rw [List.length_set, List.length_set]; exact l.1, fun j e hj => ?_⟩
  by_cases z : i = j
  · subst z
    have hl : i < ρ.length := by
      obtain ⟨q, _⟩ := List.getElem?_eq_some_iff.mp hj
      rw [List.length_set] at q
      exact q
    rw [List.getElem?_set_self hl] at hj
    cases hj
    exact ⟨v, by rw [List.getElem?_set_self (by rw [l.1]; exact hl)], h⟩
  · rw [List.getElem?_set_ne z] at hj
    obtain ⟨v', h1, h2⟩ := l.2 j e hj
    exact ⟨v', by rw [List.getElem?_set_ne z]; exact h1, h2⟩
theorem LocD.clear {K : PySem.W.Frag} {S : Hp} {σ : L2.St} {ρ : Env} (l : LocD K S σ ρ) (i : Nat) (o : Option V) : LocD K S (σ.set i o) (ρ.set i Option.none) := by
  refine ⟨by rw [List.length_set, List.length_set]; exact l.1, fun j e hj => ?_⟩
  by_cases z : i = j
  · subst z
    have hl : i < ρ.length := by
      obtain ⟨q, _⟩ := List.getElem?_eq_some_iff.mp hj
      rw [List.length_set] at q
      exact q
    rw [List.getElem?_set_self hl] at hj
    cases hj
  · rw [List.getElem?_set_ne z] at hj
    obtain ⟨v', h1, h2⟩ := l.2 j e hj
    exact ⟨v', by rw [List.getElem?_set_ne z]; exact h1, h2⟩
/-- what is wished of an exception that leaves, told of the world from which it comes -/
def XL (K : PySem.W.Frag) (E : XK) (w : Wd) (Ed : XD) : Prop := ∀ (C : Addr) (fs : List Str) (vs : List V) (ds : List D) (w' : Wd) (dd : Addr),
  Ed C fs ds w'.μ → w'.H dd = some (.xd (fs.zip vs)) → fs.length = vs.length → IsAll K w'.S vs ds → w'.Ok K → w.le w' → E (.ref C) (some dd) w'.H
theorem XL.step {K : PySem.W.Frag} {E : XK} {w w1 : Wd} {Ed : XD} (x : XL K E w Ed) (ok : w.Ok K) (ok1 : w1.Ok K) (l : w.le w1) : XL K E w1 Ed := fun C fs vs ds w' dd h1 h2 h3 h4 h5 h6 => x C fs vs ds w' dd h1 h2 h3 h4 h5 (l.trans ok ok1 h6)
def XF : XD := fun _ _ _ _ => False
theorem XL.never {K : PySem.W.Frag} {E : XK} {w : Wd} : XL K E w XF := fun _ _ _ _ _ _ h => h.elim
section
variable (K : PySem.W.Frag) (E : XK) (Ed : XD)
/-- what follows a value -/
abbrev KE (w : Wd) (Q : D → Store → Prop) (k : V → Hp → Prop) : Prop := ∀ (v : V) (d : D) (w' : Wd), Q d w'.μ → Is K w'.S v d → w'.Ok K → w.le w' → k v w'.H
def SE (t : TE) (ρ : Env) (μ : Store) (Q : D → Store → Prop) : Prop := ∀ (w : Wd) (σ : L2.St), w.μ = μ → w.Ok K → LocD K w.S σ ρ → XL K E w Ed → ∀ k : V → Hp → Prop, KE K w Q k → t σ w.H k
def SA (t : TA) (ρ : Env) (μ : Store) (Q : List D → Store → Prop) : Prop := ∀ (w : Wd) (σ : L2.St), w.μ = μ → w.Ok K → LocD K w.S σ ρ → XL K E w Ed → ∀ k : List V → Hp → Prop,
  (∀ (vs : List V) (ds : List D) (w' : Wd), Q ds w'.μ → IsAll K w'.S vs ds → w'.Ok K → w.le w' → k vs w'.H) → t σ w.H k
def STT (t : TT) (ρ : Env) (μ : Store) (Q : Bool → Store → Prop) : Prop := ∀ (w : Wd) (σ : L2.St), w.μ = μ → w.Ok K → LocD K w.S σ ρ → XL K E w Ed → ∀ k : Bool → Hp → Prop,
  (∀ (b : Bool) (w' : Wd), Q b w'.μ → w'.Ok K → w.le w' → k b w'.H) → t σ w.H k
def SO (t : TO) (ρ : Env) (μ : Store) (Q : Option Int → Store → Prop) : Prop := ∀ (w : Wd) (σ : L2.St), w.μ = μ → w.Ok K → LocD K w.S σ ρ → XL K E w Ed → ∀ k : Option Int → Hp → Prop,
  (∀ (b : Option Int) (w' : Wd), Q b w'.μ → w'.Ok K → w.le w' → k b w'.H) → t σ w.H k
/-- by values: two, one, some -/
def SR (r : R2) (d1 d2 : D) (μ : Store) (Q : D → Store → Prop) : Prop := ∀ (w : Wd) (v1 v2 : V), w.μ = μ → w.Ok K → Is K w.S v1 d1 → Is K w.S v2 d2 → XL K E w Ed → ∀ k : V → Hp → Prop, KE K w Q k → r v1 v2 w.H k
def SU (r : V → Hp → VK → Prop) (d1 : D) (μ : Store) (Q : D → Store → Prop) : Prop := ∀ (w : Wd) (v1 : V), w.μ = μ → w.Ok K → Is K w.S v1 d1 → XL K E w Ed → ∀ k : V → Hp → Prop, KE K w Q k → r v1 w.H k
def SC (r : List V → Hp → VK → Prop) (ds : List D) (μ : Store) (Q : D → Store → Prop) : Prop := ∀ (w : Wd) (vs : List V), w.μ = μ → w.Ok K → IsAll K w.S vs ds → XL K E w Ed → ∀ k : V → Hp → Prop, KE K w Q k → r vs w.H k
def SM (r : V → List V → Hp → VK → Prop) (d : D) (ds : List D) (μ : Store) (Q : D → Store → Prop) : Prop := ∀ (w : Wd) (v : V) (vs : List V), w.μ = μ → w.Ok K → Is K w.S v d → IsAll K w.S vs ds → XL K E w Ed → ∀ k : V → Hp → Prop, KE K w Q k → r v vs w.H k
def SL (r : V → Option Int → Option Int → Hp → VK → Prop) (d : D) (lo hi : Option Int) (μ : Store) (Q : D → Store → Prop) : Prop := ∀ (w : Wd) (v : V), w.μ = μ → w.Ok K → Is K w.S v d → XL K E w Ed → ∀ k : V → Hp → Prop, KE K w Q k → r v lo hi w.H k
/-- a target takes a value: js, the slots that it stores -/
def SG (js : List Nat) (g : TG) (d : D) (ρ : Env) (μ : Store) (Q : Env → Store → Prop) : Prop := ∀ (w : Wd) (σ : L2.St) (v : V), w.μ = μ → w.Ok K → LocD K w.S σ ρ → XL K E w Ed → Is K w.S v d → ∀ k : L2.St → Hp → Prop,
  (∀ (σ' : L2.St) (ρ' : Env) (w' : Wd), Q ρ' w'.μ → LocD K w'.S σ' ρ' → w'.Ok K → w.le w' → (σ'.length = σ.length ∧ ∀ j, j ∉ js → σ'[j]? = σ[j]?) → k σ' w'.H) → g v σ w.H k
def SGs (js : List Nat) (g : TGs) (ds : List D) (ρ : Env) (μ : Store) (Q : Env → Store → Prop) : Prop := ∀ (w : Wd) (σ : L2.St) (vs : List V), w.μ = μ → w.Ok K → LocD K w.S σ ρ → XL K E w Ed → IsAll K w.S vs ds → ∀ k : L2.St → Hp → Prop,
  (∀ (σ' : L2.St) (ρ' : Env) (w' : Wd), Q ρ' w'.μ → LocD K w'.S σ' ρ' → w'.Ok K → w.le w' → (σ'.length = σ.length ∧ ∀ j, j ∉ js → σ'[j]? = σ[j]?) → k σ' w'.H) → g vs σ w.H k
structure DE where
  nx : Env → Store → Prop
  rt : D → Store → Prop
  bk : Env → Store → Prop
  ct : Env → Store → Prop
structure Ends.Of (w : Wd) (P : DE) (D : Ends) : Prop where
  nx : ∀ (σ : L2.St) (ρ : Env) (w' : Wd), P.nx ρ w'.μ → LocD K w'.S σ ρ → w'.Ok K → w.le w' → D.nx σ w'.H
  rt : ∀ (v : V) (d : DD.D) (w' : Wd), P.rt d w'.μ → Is K w'.S v d → w'.Ok K → w.le w' → D.rt v w'.H
  bk : ∀ (σ : L2.St) (ρ : Env) (w' : Wd), P.bk ρ w'.μ → LocD K w'.S σ ρ → w'.Ok K → w.le w' → D.bk σ w'.H
  ct : ∀ (σ : L2.St) (ρ : Env) (w' : Wd), P.ct ρ w'.μ → LocD K w'.S σ ρ → w'.Ok K → w.le w' → D.ct σ w'.H
def SS (t : TS) (ρ : Env) (μ : Store) (P : DE) : Prop := ∀ (w : Wd) (σ : L2.St), w.μ = μ → w.Ok K → LocD K w.S σ ρ → XL K E w Ed → ∀ D : Ends, Ends.Of K w P D → t D σ w.H
/-- what is walked: its items, as data -/
def SI (ti : TI) (ρ : Env) (μ : Store) (R : List D → Store → Prop) : Prop := ∀ (w : Wd) (σ : L2.St), w.μ = μ → w.Ok K → LocD K w.S σ ρ → XL K E w Ed → ∀ k : It → Hp → Prop,
  (∀ (J : It) (ds : List D) (w1 : Wd) (G : Hp → Prop) (Y : Nat → Hp → V → Hp → Prop), R ds w1.μ → w1.Ok K → w.le w1 → Walk J ds.length G Y → (∀ w2 : Wd, w2.Ok K → Ex w1.S w2.S → G w2.H) →
    (∀ (w2 : Wd) (i : Nat) (x : V) (H' : Hp), i < ds.length → w2.Ok K → Ex w1.S w2.S → Y i w2.H x H' → ∃ (w3 : Wd) (d : D), w3.H = H' ∧ w3.Ok K ∧ w2.le w3 ∧ w3.μ = w2.μ ∧ ds[i]? = some d ∧ Is K w3.S x d) → k J w1.H) → ti σ w.H k
end
theorem Ends.Of.step {K : PySem.W.Frag} {w w1 : Wd} {P : DE} {D : Ends} (o : Ends.Of K w P D) (ok : w.Ok K) (ok1 : w1.Ok K) (l : w.le w1) : Ends.Of K w1 P D :=
  ⟨fun σ ρ w' a b c d => o.nx σ ρ w' a b c (l.trans ok ok1 d), fun v e w' a b c d => o.rt v e w' a b c (l.trans ok ok1 d), fun σ ρ w' a b c d => o.bk σ ρ w' a b c (l.trans ok ok1 d), fun σ ρ w' a b c d => o.ct σ ρ w' a b c (l.trans ok ok1 d)⟩
section
variable {K : PySem.W.Frag} {E : XK} {Ed : XD} {ρ : Env} {μ : Store} {ta tb te : TE} {t u : TT} {tas : TA}
theorem KE.step {w w1 : Wd} {Q : D → Store → Prop} {k : V → Hp → Prop} (h : KE K w Q k) (ok : w.Ok K) (ok1 : w1.Ok K) (l : w.le w1) : KE K w1 Q k := fun v d w' a b c e => h v d w' a b c (l.trans ok ok1 e)
/-! ### consequence -/
theorem SE.imp {Q Q' : D → Store → Prop} (h : SE K E Ed te ρ μ Q) (i : ∀ d μ', Q d μ' → Q' d μ') : SE K E Ed te ρ μ Q' := fun w σ e ok l x k q => h w σ e ok l x k fun v d w' a b c f => q v d w' (i _ _ a) b c f
theorem SA.imp {Q Q' : List D → Store → Prop} (h : SA K E Ed tas ρ μ Q) (i : ∀ d μ', Q d μ' → Q' d μ') : SA K E Ed tas ρ μ Q' := fun w σ e ok l x k q => h w σ e ok l x k fun v d w' a b c f => q v d w' (i _ _ a) b c f
theorem STT.imp {Q Q' : Bool → Store → Prop} (h : STT K E Ed t ρ μ Q) (i : ∀ d μ', Q d μ' → Q' d μ') : STT K E Ed t ρ μ Q' := fun w σ e ok l x k q => h w σ e ok l x k fun b w' a c f => q b w' (i _ _ a) c f
theorem SS.imp {ts : TS} {P P' : DE} (h : SS K E Ed ts ρ μ P) (i1 : ∀ r m, P.nx r m → P'.nx r m) (i2 : ∀ r m, P.rt r m → P'.rt r m) (i3 : ∀ r m, P.bk r m → P'.bk r m) (i4 : ∀ r m, P.ct r m → P'.ct r m) : SS K E Ed ts ρ μ P' := fun w σ e ok l x D o =>
  h w σ e ok l x D ⟨fun σ ρ w' a => o.nx σ ρ w' (i1 _ _ a), fun v d w' a => o.rt v d w' (i2 _ _ a), fun σ ρ w' a => o.bk σ ρ w' (i3 _ _ a), fun σ ρ w' a => o.ct σ ρ w' (i4 _ _ a)⟩
/-! ### expressions -/
theorem se_var {i : Nat} {d : D} {Q : D → Store → Prop} (h : ρ[i]? = some (some d)) (q : Q d μ) : SE K E Ed (tVar i) ρ μ Q := by
  intro w σ e ok l x k hk
  obtain ⟨v, h1, h2⟩ := l.2 i d h
  exact ⟨v, h1, hk v d w (e ▸ q) h2 ok (Wd.le.refl w)⟩
def litD : V → Option D
  | .non => some .non
  | .bl b => some (.bl b)
  | .int i => some (.int i)
  | .str x => some (.str x)
  | .ref a => some (.ref a)
  | .ty a => some (.ty a)
  | _ => none
theorem litD_is {S : Hp} {v : V} {d : D} (h : litD v = some d) : Is K S v d := by
  cases v with
  | non => cases h; exact .non
  | bl b => cases h; exact .bl b
  | int i => cases h; exact .int i
  | str x => cases h; exact .str x
  | ref a => cases h; exact .ref a
  | ty a => cases h; exact .ty a
  | _ => cases h
theorem se_c {v : V} {d : D} {Q : D → Store → Prop} (h : litD v = some d) (q : Q d μ) : SE K E Ed (tC v) ρ μ Q := fun w σ e ok l x k hk => hk v d w (e ▸ q) (litD_is h) ok (Wd.le.refl w)
theorem se_int {i : Int} {Q : D → Store → Prop} (q : Q (.int i) μ) : SE K E Ed (tC (.int i)) ρ μ Q := se_c rfl q
theorem se_str {i : Str} {Q : D → Store → Prop} (q : Q (.str i) μ) : SE K E Ed (tC (.str i)) ρ μ Q := se_c rfl q
theorem se_bl {i : Bool} {Q : D → Store → Prop} (q : Q (.bl i) μ) : SE K E Ed (tC (.bl i)) ρ μ Q := se_c rfl q
theorem se_non {Q : D → Store → Prop} (q : Q .non μ) : SE K E Ed (tC .non) ρ μ Q := se_c rfl q
/-- a tuple of the written part -/
theorem se_ktup {a : Addr} {vs : List V} {ds : List D} {Q : D → Store → Prop} (h : SqT K (fun _ => none) a vs) (i : ∀ S, IsAll K S vs ds) (q : Q (.tup ds) μ) : SE K E Ed (tC (.ref a)) ρ μ Q := fun w σ e ok l x k hk =>
  hk _ _ w (e ▸ q) (.tup (ex_t (fun _ _ z => by cases z) h) (i _)) ok (Wd.le.refl w)
theorem se_op {r : R2} {Q : D → Store → Prop} (h : SE K E Ed ta ρ μ fun d1 μ1 => SE K E Ed tb ρ μ1 fun d2 μ2 => SR K E Ed r d1 d2 μ2 Q) : SE K E Ed (tOp r ta tb) ρ μ Q := by
  intro w σ e ok l x k hk
  refine h w σ e ok l x _ fun v1 d1 w1 q1 i1 ok1 l1 => ?_
  refine q1 w1 σ rfl ok1 (l.mono l1.ex) (x.step ok ok1 l1) _ fun v2 d2 w2 q2 i2 ok2 l2 => ?_
  exact q2 w2 v1 v2 rfl ok2 (i1.mono l2.ex) i2 (x.step ok ok2 (l1.trans ok ok1 l2)) k (KE.step hk ok ok2 (l1.trans ok ok1 l2))
theorem se_un {r : V → Hp → VK → Prop} {Q : D → Store → Prop} (h : SE K E Ed ta ρ μ fun d1 μ1 => SU K E Ed r d1 μ1 Q) : SE K E Ed (tUn r ta) ρ μ Q := by
  intro w σ e ok l x k hk
  refine h w σ e ok l x _ fun v1 d1 w1 q1 i1 ok1 l1 => ?_
  exact q1 w1 v1 rfl ok1 i1 (x.step ok ok1 l1) k (KE.step hk ok ok1 l1)
theorem sa_nil {Q : List D → Store → Prop} (q : Q [] μ) : SA K E Ed tNil ρ μ Q := fun w σ e ok l x k hk => hk [] [] w (e ▸ q) .nil ok (Wd.le.refl w)
theorem sa_cons {tr : TA} {Q : List D → Store → Prop} (h : SE K E Ed ta ρ μ fun d μ1 => SA K E Ed tr ρ μ1 fun ds μ2 => Q (d :: ds) μ2) : SA K E Ed (tCons ta tr) ρ μ Q := by
  intro w σ e ok l x k hk
  refine h w σ e ok l x _ fun v1 d1 w1 q1 i1 ok1 l1 => ?_
  refine q1 w1 σ rfl ok1 (l.mono l1.ex) (x.step ok ok1 l1) _ fun vs ds w2 q2 i2 ok2 l2 => ?_
  exact hk _ _ w2 q2 (.cons (i1.mono l2.ex) i2) ok2 (l1.trans ok ok1 l2)
theorem se_tup {Q : D → Store → Prop} (h : SA K E Ed tas ρ μ fun ds μ1 => ds.length ≤ sizeLine ∧ Q (.tup ds) μ1) : SE K E Ed (tTup tas) ρ μ Q := by
  intro w σ e ok l x k hk
  refine h w σ e ok l x _ fun vs ds w1 ⟨q0, q1⟩ i1 ok1 l1 => ⟨by rw [i1.length]; exact q0, fun p hp => ?_⟩
  have hn := Wd.le_lay (p := p) ok1 hp (.tup vs)
  exact hk _ _ (w1.lay p (.tup vs)) q1 (.tup (SqT.of upd_same) (i1.mono hn.ex)) (ok1.lay hp _) (l1.trans ok ok1 hn)
/-- a new list: one that stays | one that may change -/
theorem se_lst {Q : D → Store → Prop} (h : SA K E Ed tas ρ μ fun ds μ1 => ds.length ≤ sizeLine ∧ Q (.lst ds) μ1) : SE K E Ed (tLst tas) ρ μ Q := by
  intro w σ e ok l x k hk
  refine h w σ e ok l x _ fun vs ds w1 ⟨q0, q1⟩ i1 ok1 l1 => ⟨by rw [i1.length]; exact q0, fun p hp => ?_⟩
  have hn := Wd.le_lay (p := p) ok1 hp (.lst vs)
  exact hk _ _ (w1.lay p (.lst vs)) q1 (.lst upd_same (i1.mono hn.ex)) (ok1.lay hp _) (l1.trans ok ok1 hn)
theorem se_lstM {Q : D → Store → Prop} (h : SA K E Ed tas ρ μ fun ds μ1 => ds.length ≤ sizeLine ∧ ∀ p, Q (.ref p) ((p, .lst ds) :: μ1)) : SE K E Ed (tLst tas) ρ μ Q := by
  intro w σ e ok l x k hk
  refine h w σ e ok l x _ fun vs ds w1 ⟨q0, q1⟩ i1 ok1 l1 => ⟨by rw [i1.length]; exact q0, fun p hp => ?_⟩
  have hn := Wd.le_add (p := p) hp (.lst vs) (.lst ds)
  exact hk _ _ (w1.add p (.lst vs) (.lst ds)) (q1 p) (.ref p) (ok1.add hp ⟨vs, upd_same, i1⟩) (l1.trans ok ok1 hn)
theorem se_if {Q : D → Store → Prop} (h : STT K E Ed t ρ μ fun b μ1 => if b = true then SE K E Ed ta ρ μ1 Q else SE K E Ed tb ρ μ1 Q) : SE K E Ed (tIf t ta tb) ρ μ Q := by
  intro w σ e ok l x k hk
  refine h w σ e ok l x _ fun b w1 q ok1 l1 => ?_
  cases b with
  | true => exact q w1 σ rfl ok1 (l.mono l1.ex) (x.step ok ok1 l1) k (KE.step hk ok ok1 l1)
  | false => exact q w1 σ rfl ok1 (l.mono l1.ex) (x.step ok ok1 l1) k (KE.step hk ok ok1 l1)
theorem se_or {Q : D → Store → Prop} (h : SE K E Ed ta ρ μ fun d μ1 => ∃ b, d = .bl b ∧ if b = true then Q (.bl true) μ1 else SE K E Ed tb ρ μ1 Q) : SE K E Ed (tOrV ta tb) ρ μ Q := by
  intro w σ e ok l x k hk
  refine h w σ e ok l x _ fun v d w1 ⟨b, e1, q⟩ i1 ok1 l1 => ?_
  subst e1
  cases i1
  refine ⟨b, rfl, ?_⟩
  cases b with
  | true => exact hk _ _ w1 q (.bl _) ok1 l1
  | false => exact q w1 σ rfl ok1 (l.mono l1.ex) (x.step ok ok1 l1) k (KE.step hk ok ok1 l1)
theorem se_and {Q : D → Store → Prop} (h : SE K E Ed ta ρ μ fun d μ1 => ∃ b, d = .bl b ∧ if b = true then SE K E Ed tb ρ μ1 Q else Q (.bl false) μ1) : SE K E Ed (tAndV ta tb) ρ μ Q := by
  intro w σ e ok l x k hk
  refine h w σ e ok l x _ fun v d w1 ⟨b, e1, q⟩ i1 ok1 l1 => ?_
  subst e1
  cases i1
  refine ⟨b, rfl, ?_⟩
  cases b with
  | false => exact hk _ _ w1 q (.bl _) ok1 l1
  | true => exact q w1 σ rfl ok1 (l.mono l1.ex) (x.step ok ok1 l1) k (KE.step hk ok ok1 l1)
theorem se_not {Q : D → Store → Prop} (h : SE K E Ed ta ρ μ fun d μ1 => ∃ b, d = .bl b ∧ Q (.bl (!b)) μ1) : SE K E Ed (tNotV ta) ρ μ Q := by
  intro w σ e ok l x k hk
  refine h w σ e ok l x _ fun v d w1 ⟨b, e1, q⟩ i1 ok1 l1 => ?_
  subst e1
  cases i1
  exact ⟨b, rfl, hk _ _ w1 q (.bl _) ok1 l1⟩
/-- a comparison's chain -/
theorem se_chain {r r' : R2} {tc : TE} {Q : D → Store → Prop} (h : SE K E Ed ta ρ μ fun d1 μ1 => SE K E Ed tb ρ μ1 fun d2 μ2 => SR K E Ed r d1 d2 μ2 fun d3 μ3 => ∃ b, d3 = .bl b ∧ if b = true then SE K E Ed tc ρ μ3 fun d4 μ4 => SR K E Ed r' d2 d4 μ4 Q else Q (.bl false) μ3) :
    SE K E Ed (tChain r r' ta tb tc) ρ μ Q := by
  intro w σ e ok l x k hk
  refine h w σ e ok l x _ fun v1 d1 w1 q1 i1 ok1 l1 => ?_
  refine q1 w1 σ rfl ok1 (l.mono l1.ex) (x.step ok ok1 l1) _ fun v2 d2 w2 q2 i2 ok2 l2 => ?_
  have l12 := l1.trans ok ok1 l2
  refine q2 w2 v1 v2 rfl ok2 (i1.mono l2.ex) i2 (x.step ok ok2 l12) _ fun v3 d3 w3 ⟨b, e3, q3⟩ i3 ok3 l3 => ?_
  have l13 := l12.trans ok ok2 l3
  subst e3
  cases i3
  refine ⟨b, rfl, ?_⟩
  cases b with
  | true =>
    refine q3 w3 σ rfl ok3 (l.mono l13.ex) (x.step ok ok3 l13) _ fun v4 d4 w4 q4 i4 ok4 l4 => ?_
    have l14 := l13.trans ok ok3 l4
    exact q4 w4 v2 v4 rfl ok4 (i2.mono (l3.ex.trans l4.ex)) i4 (x.step ok ok4 l14) k (KE.step hk ok ok4 l14)
  | false => exact hk _ _ w3 q3 (.bl _) ok3 l13
/-- built-in calls -/
theorem se_cb {r : List V → Hp → VK → Prop} {Q : D → Store → Prop} (h : SA K E Ed tas ρ μ fun ds μ1 => SC K E Ed r ds μ1 Q) : SE K E Ed (tCB r tas) ρ μ Q := by
  intro w σ e ok l x k hk
  refine h w σ e ok l x _ fun vs ds w1 q1 i1 ok1 l1 => ?_
  exact q1 w1 vs rfl ok1 i1 (x.step ok ok1 l1) k (KE.step hk ok ok1 l1)
/-- built-in types' methods: ty says that the object is of the type -/
def TyD (T : String) (d : D) (μ : Store) : Prop := (∃ z, d = .str z ∧ T = "str") ∨ (∃ a ds, d = .ref a ∧ (a, D.lst ds) ∈ μ ∧ T = "list") ∨ (∃ ds, d = .lst ds ∧ T = "list") ∨ (∃ a ks ds, d = .ref a ∧ (a, D.dict ks ds) ∈ μ ∧ T = "dict")
theorem TyD.v {w : Wd} {T : String} {d : D} {v : V} (ok : w.Ok K) (h : TyD T d w.μ) (i : Is K w.S v d) : tyV K T v w.H := by
  rcases h with ⟨z, rfl, rfl⟩ | ⟨a, ds, rfl, hm, rfl⟩ | ⟨ds, rfl, rfl⟩ | ⟨a, ks, ds, rfl, hm, rfl⟩
  · cases i
    rfl
  · cases i
    obtain ⟨_, vs, h1, _⟩ := ok.own _ hm
    exact .inl ⟨rfl, vs, SqL.of h1⟩
  · cases i with
    | lst h1 h2 => exact .inl ⟨rfl, _, SqL.of (ok.sub _ _ h1)⟩
  · cases i
    obtain ⟨_, vs, h1, _⟩ := ok.own _ hm
    exact .inr (.inr (.inl ⟨rfl, .inl ⟨_, h1⟩⟩))
theorem se_bm {T : String} {r : V → List V → Hp → VK → Prop} {Q : D → Store → Prop} (h : SE K E Ed ta ρ μ fun d μ1 => TyD T d μ1 ∧ SA K E Ed tas ρ μ1 fun ds μ2 => SM K E Ed r d ds μ2 Q) : SE K E Ed (tBM K T r ta tas) ρ μ Q := by
  intro w σ e ok l x k hk
  refine h w σ e ok l x _ fun v d w1 ⟨q0, q1⟩ i1 ok1 l1 => ⟨q0.v ok1 i1, ?_⟩
  refine q1 w1 σ rfl ok1 (l.mono l1.ex) (x.step ok ok1 l1) _ fun vs ds w2 q2 i2 ok2 l2 => ?_
  have l12 := l1.trans ok ok1 l2
  exact q2 w2 v vs rfl ok2 (i1.mono l2.ex) i2 (x.step ok ok2 l12) k (KE.step hk ok ok2 l12)
theorem se_bm0 {T : String} {r : V → List V → Hp → VK → Prop} {Q : D → Store → Prop} (h : SE K E Ed ta ρ μ fun d μ1 => TyD T d μ1 ∧ SM K E Ed r d [] μ1 Q) : SE K E Ed (tBM0 K T r ta) ρ μ Q := by
  intro w σ e ok l x k hk
  refine h w σ e ok l x _ fun v d w1 ⟨q0, q1⟩ i1 ok1 l1 => ⟨q0.v ok1 i1, ?_⟩
  exact q1 w1 v [] rfl ok1 i1 .nil (x.step ok ok1 l1) k (KE.step hk ok ok1 l1)
/-- texts' methods -/
theorem se_m1 {r : V → List V → Hp → VK → Prop} {Q : D → Store → Prop} (h : SE K E Ed ta ρ μ fun d μ1 => ∃ z, d = .str z ∧ SE K E Ed tb ρ μ1 fun d2 μ2 => SM K E Ed r d [d2] μ2 Q) : SE K E Ed (tM1 r ta tb) ρ μ Q := by
  intro w σ e ok l x k hk
  refine h w σ e ok l x _ fun v d w1 ⟨z, e1, q1⟩ i1 ok1 l1 => ?_
  subst e1
  cases i1
  refine ⟨⟨z, rfl⟩, ?_⟩
  refine q1 w1 σ rfl ok1 (l.mono l1.ex) (x.step ok ok1 l1) _ fun v2 d2 w2 q2 i2 ok2 l2 => ?_
  have l12 := l1.trans ok ok1 l2
  exact q2 w2 _ _ rfl ok2 (.str z) (.cons i2 .nil) (x.step ok ok2 l12) k (KE.step hk ok ok2 l12)
theorem se_m0 {r : V → List V → Hp → VK → Prop} {Q : D → Store → Prop} (h : SE K E Ed ta ρ μ fun d μ1 => ∃ z, d = .str z ∧ SM K E Ed r d [] μ1 Q) : SE K E Ed (tM0 r ta) ρ μ Q := by
  intro w σ e ok l x k hk
  refine h w σ e ok l x _ fun v d w1 ⟨z, e1, q1⟩ i1 ok1 l1 => ?_
  subst e1
  cases i1
  exact ⟨⟨z, rfl⟩, q1 w1 _ _ rfl ok1 (.str z) .nil (x.step ok ok1 l1) k (KE.step hk ok ok1 l1)⟩
/-- slices -/
theorem so_none {Q : Option Int → Store → Prop} (q : Q none μ) : SO K E Ed tNoPart ρ μ Q := fun w σ e ok l x k hk => hk _ w (e ▸ q) ok (Wd.le.refl w)
theorem so_some {Q : Option Int → Store → Prop} (h : SE K E Ed te ρ μ fun d μ1 => ∃ i, d = .int i ∧ Q (some i) μ1) : SO K E Ed (tPart te) ρ μ Q := by
  intro w σ e ok l x k hk
  refine h w σ e ok l x _ fun v d w1 ⟨i, e1, q1⟩ i1 ok1 l1 => ?_
  subst e1
  cases i1
  exact ⟨i, rfl, hk _ w1 q1 ok1 l1⟩
theorem se_sl {r : V → Option Int → Option Int → Hp → VK → Prop} {tl th : TO} {Q : D → Store → Prop} (h : SE K E Ed te ρ μ fun d μ1 => SO K E Ed tl ρ μ1 fun lo μ2 => SO K E Ed th ρ μ2 fun hi μ3 => SL K E Ed r d lo hi μ3 Q) : SE K E Ed (tSl r te tl th) ρ μ Q := by
  intro w σ e ok l x k hk
  refine h w σ e ok l x _ fun v d w1 q1 i1 ok1 l1 => ?_
  refine q1 w1 σ rfl ok1 (l.mono l1.ex) (x.step ok ok1 l1) _ fun lo w2 q2 ok2 l2 => ?_
  have l12 := l1.trans ok ok1 l2
  refine q2 w2 σ rfl ok2 (l.mono l12.ex) (x.step ok ok2 l12) _ fun hi w3 q3 ok3 l3 => ?_
  have l13 := l12.trans ok ok2 l3
  exact q3 w3 v rfl ok3 (i1.mono (l2.ex.trans l3.ex)) (x.step ok ok3 l13) k (KE.step hk ok ok3 l13)
/-- o.f of an object that may change; of one that stays -/
theorem se_fld {C : Addr} {f : Str} {Q : D → Store → Prop} (c : Cls K C) (n : NoAttr K C f) (h : SE K E Ed ta ρ μ fun d μ1 => ∃ a fs ds e, d = .ref a ∧ (a, D.ins C fs ds) ∈ μ1 ∧ (fs.zip ds).lookup f = some e ∧ Q e μ1) : SE K E Ed (tFld K ta f) ρ μ Q := by
  intro w σ e ok l x k hk
  refine h w σ e ok l x _ fun v d w1 ⟨a, fs, ds, e', e1, hm, hl, q1⟩ i1 ok1 l1 => ?_
  subst e1
  cases i1
  obtain ⟨_, dx, vs, h1, h2, h3⟩ := ok1.own _ hm
  have key : ∀ (fs : List Str) (vs : List V) (ds : List D), fs.length = vs.length → IsAll K w1.S vs ds → (fs.zip ds).lookup f = some e' → ∃ v, (fs.zip vs).lookup f = some v ∧ Is K w1.S v e' := by
    intro fs
    induction fs with
    | nil => intro vs ds _ _ h; simp at h
    | cons g fs ih =>
      intro vs ds hlen hall hlk
      cases hall with
      | nil => simp at hlk
      | cons hi hr =>
        simp only [List.zip_cons_cons, List.lookup_cons] at hlk ⊢
        cases hb : f == g with
        | true =>
          rw [hb] at hlk
          cases hlk
          exact ⟨_, rfl, hi⟩
        | false =>
          rw [hb] at hlk
          exact ih _ _ (by simpa using hlen) hr hlk
  obtain ⟨v, hv, hi⟩ := key fs vs ds h2 h3 hl
  exact ⟨a, C, dx, _, v, rfl, h1, c, n, hv, hk _ _ w1 q1 hi ok1 l1⟩
theorem se_fldS {C : Addr} {f : Str} {Q : D → Store → Prop} (c : Cls K C) (n : NoAttr K C f) (h : SE K E Ed ta ρ μ fun d μ1 => ∃ fs ds e, d = .ins C fs ds ∧ (fs.zip ds).lookup f = some e ∧ Q e μ1) : SE K E Ed (tFld K ta f) ρ μ Q := by
  intro w σ e ok l x k hk
  refine h w σ e ok l x _ fun v d w1 ⟨fs, ds, e', e1, hl, q1⟩ i1 ok1 l1 => ?_
  subst e1
  cases i1 with
  | @ins a C dx fs vs ds h1 h2 h3 =>
  have key : ∀ (fs : List Str) (vs : List V) (ds : List D), fs.length = vs.length → IsAll K w1.S vs ds → (fs.zip ds).lookup f = some e' → ∃ v, (fs.zip vs).lookup f = some v ∧ Is K w1.S v e' := by
    intro fs
    induction fs with
    | nil => intro vs ds _ _ h; simp at h
    | cons g fs ih =>
      intro vs ds hlen hall hlk
      cases hall with
      | nil => simp at hlk
      | cons hi hr =>
        simp only [List.zip_cons_cons, List.lookup_cons] at hlk ⊢
        cases hb : f == g with
        | true =>
          rw [hb] at hlk
          cases hlk
          exact ⟨_, rfl, hi⟩
        | false =>
          rw [hb] at hlk
          exact ih _ _ (by simpa using hlen) hr hlk
  obtain ⟨v, hv, hi⟩ := key fs vs ds h2 h3 hl
  exact ⟨a, C, dx, _, v, rfl, ok1.sub _ _ h1, c, n, hv, hk _ _ w1 q1 hi ok1 l1⟩
/-! ### tests -/
theorem st_test {Q : Bool → Store → Prop} (h : SE K E Ed te ρ μ fun d μ1 => ∃ b, d = .bl b ∧ Q b μ1) : STT K E Ed (tTest te) ρ μ Q := by
  intro w σ e ok l x k hk
  refine h w σ e ok l x _ fun v d w1 ⟨b, e1, q1⟩ i1 ok1 l1 => ?_
  subst e1
  cases i1
  exact ⟨b, rfl, hk b w1 q1 ok1 l1⟩
theorem st_B {Q : Bool → Store → Prop} (h : SE K E Ed te ρ μ fun d μ1 => ∃ b, d = .bl b ∧ Q b μ1) : STT K E Ed (tB te) ρ μ Q := by
  intro w σ e ok l x k hk
  refine h w σ e ok l x _ fun v d w1 ⟨b, e1, q1⟩ i1 ok1 l1 => ?_
  subst e1
  cases i1
  exact ⟨b, rfl, hk b w1 q1 ok1 l1⟩
theorem st_and {Q : Bool → Store → Prop} (h : STT K E Ed t ρ μ fun b μ1 => if b = true then STT K E Ed u ρ μ1 Q else Q false μ1) : STT K E Ed (tAnd t u) ρ μ Q := by
  intro w σ e ok l x k hk
  refine h w σ e ok l x _ fun b w1 q ok1 l1 => ?_
  cases b with
  | true => exact q w1 σ rfl ok1 (l.mono l1.ex) (x.step ok ok1 l1) k fun b w2 a c d => hk b w2 a c (l1.trans ok ok1 d)
  | false => exact hk _ w1 q ok1 l1
theorem st_or {Q : Bool → Store → Prop} (h : STT K E Ed t ρ μ fun b μ1 => if b = true then Q true μ1 else STT K E Ed u ρ μ1 Q) : STT K E Ed (tOr t u) ρ μ Q := by
  intro w σ e ok l x k hk
  refine h w σ e ok l x _ fun b w1 q ok1 l1 => ?_
  cases b with
  | false => exact q w1 σ rfl ok1 (l.mono l1.ex) (x.step ok ok1 l1) k fun b w2 a c d => hk b w2 a c (l1.trans ok ok1 d)
  | true => exact hk _ w1 q ok1 l1
theorem st_not {Q : Bool → Store → Prop} (h : STT K E Ed t ρ μ fun b μ1 => Q (!b) μ1) : STT K E Ed (tNot t) ρ μ Q := by
  intro w σ e ok l x k hk
  exact h w σ e ok l x _ fun b w1 q ok1 l1 => hk _ w1 q ok1 l1
theorem st_yes {Q : Bool → Store → Prop} (q : Q true μ) : STT K E Ed tYes ρ μ Q := fun w σ e ok l x k hk => hk true w (e ▸ q) ok (Wd.le.refl w)
/-! ### targets -/
theorem sg_name {i : Nat} {d : D} {Q : Env → Store → Prop} (q : Q (ρ.set i (some d)) μ) : SG K E Ed [i] (gName i) d ρ μ Q := by
  intro w σ v e ok l x i1 k hk
  refine hk _ _ w (e ▸ q) (l.set i i1) ok (Wd.le.refl w) ⟨List.length_set .., fun j hj => ?_⟩
  rw [List.getElem?_set_ne (fun z => hj (by rw [z]; exact List.mem_cons_self))]
theorem sgs_nil {Q : Env → Store → Prop} (q : Q ρ μ) : SGs K E Ed [] gNil [] ρ μ Q := by
  intro w σ v e ok l x i1 k hk
  cases i1
  exact ⟨rfl, hk _ _ w (e ▸ q) l ok (Wd.le.refl w) ⟨rfl, fun _ _ => rfl⟩⟩
theorem sgs_cons {js js' : List Nat} {g : TG} {gs : TGs} {d : D} {ds : List D} {Q : Env → Store → Prop} (h : SG K E Ed js g d ρ μ fun ρ1 μ1 => SGs K E Ed js' gs ds ρ1 μ1 Q) : SGs K E Ed (js ++ js') (gCons g gs) (d :: ds) ρ μ Q := by
  intro w σ v e ok l x i1 k hk
  cases i1 with
  | cons h1 h2 =>
  refine ⟨_, _, rfl, h w σ _ e ok l x h1 _ fun σ1 ρ1 w1 q1 lo1 ok1 l1 out1 => ?_⟩
  refine q1 w1 σ1 _ rfl ok1 lo1 (x.step ok ok1 l1) (h2.mono l1.ex) _ fun σ2 ρ2 w2 q2 lo2 ok2 l2 out2 => ?_
  exact hk _ _ w2 q2 lo2 ok2 (l1.trans ok ok1 l2) ⟨out2.1.trans out1.1, fun j hj => (out2.2 j fun z => hj (List.mem_append_right _ z)).trans (out1.2 j fun z => hj (List.mem_append_left _ z))⟩
theorem sg_tup {n : Nat} {js : List Nat} {gs : TGs} {ds : List D} {Q : Env → Store → Prop} (hn : ds.length = n) (h : SGs K E Ed js gs ds ρ μ Q) : SG K E Ed js (gTup K n gs) (.tup ds) ρ μ Q := by
  intro w σ v e ok l x i1 k hk
  cases i1 with
  | tup h1 h2 => exact ⟨_, _, rfl, ex_t ok.sub h1, by rw [h2.length]; exact hn, h w σ _ e ok l x h2 k hk⟩
/-! ### statements -/
variable {P : DE} {t1 t2 : TS}
theorem ss_next (q : P.nx ρ μ) : SS K E Ed tNext ρ μ P := fun w σ e ok l x D o => o.nx σ ρ w (e ▸ q) l ok (Wd.le.refl w)
theorem ss_break (q : P.bk ρ μ) : SS K E Ed tBreak ρ μ P := fun w σ e ok l x D o => o.bk σ ρ w (e ▸ q) l ok (Wd.le.refl w)
theorem ss_cont (q : P.ct ρ μ) : SS K E Ed tCont ρ μ P := fun w σ e ok l x D o => o.ct σ ρ w (e ▸ q) l ok (Wd.le.refl w)
theorem ss_seq (h : SS K E Ed t1 ρ μ { P with nx := fun ρ1 μ1 => SS K E Ed t2 ρ1 μ1 P }) : SS K E Ed (tSeq t1 t2) ρ μ P := by
  intro w σ e ok l x D o
  refine h w σ e ok l x { D with nx := t2 D } ⟨fun σ1 ρ1 w1 q lo1 ok1 l1 => ?_, o.rt, o.bk, o.ct⟩
  exact q w1 σ1 rfl ok1 lo1 (x.step ok ok1 l1) D (o.step ok ok1 l1)
theorem ss_drop (h : SE K E Ed te ρ μ fun _ μ1 => P.nx ρ μ1) : SS K E Ed (tDrop te) ρ μ P := fun w σ e ok l x D o =>
  h w σ e ok l x _ fun v d w1 q i1 ok1 l1 => o.nx σ ρ w1 q (l.mono l1.ex) ok1 l1
theorem ss_ret (h : SE K E Ed te ρ μ P.rt) : SS K E Ed (tRet te) ρ μ P := fun w σ e ok l x D o => h w σ e ok l x _ fun v d w1 q i1 ok1 l1 => o.rt v d w1 q i1 ok1 l1
theorem ss_retN (q : P.rt .non μ) : SS K E Ed tRetN ρ μ P := fun w σ e ok l x D o => o.rt .non .non w (e ▸ q) .non ok (Wd.le.refl w)
theorem ss_if (h : STT K E Ed t ρ μ fun b μ1 => if b = true then SS K E Ed t1 ρ μ1 P else SS K E Ed t2 ρ μ1 P) : SS K E Ed (tIfS t t1 t2) ρ μ P := by
  intro w σ e ok l x D o
  refine h w σ e ok l x _ fun b w1 q ok1 l1 => ?_
  cases b with
  | true => exact q w1 σ rfl ok1 (l.mono l1.ex) (x.step ok ok1 l1) D (o.step ok ok1 l1)
  | false => exact q w1 σ rfl ok1 (l.mono l1.ex) (x.step ok ok1 l1) D (o.step ok ok1 l1)
theorem ss_asg {js : List Nat} {g : TG} (h : SE K E Ed te ρ μ fun d μ1 => SG K E Ed js g d ρ μ1 P.nx) : SS K E Ed (tAsg te g) ρ μ P := by
  intro w σ e ok l x D o
  refine h w σ e ok l x _ fun v d w1 q i1 ok1 l1 => ?_
  exact q w1 σ v rfl ok1 (l.mono l1.ex) (x.step ok ok1 l1) i1 _ fun σ2 ρ2 w2 q2 lo2 ok2 l2 _ => o.nx σ2 ρ2 w2 q2 lo2 ok2 (l1.trans ok ok1 l2)
theorem ss_set {i : Nat} (h : SE K E Ed te ρ μ fun d μ1 => P.nx (ρ.set i (some d)) μ1) : SS K E Ed (tAsg te (gName i)) ρ μ P := ss_asg (h.imp fun _ _ q => sg_name q)
theorem ss_par {i j : Nat} (h : SA K E Ed tas ρ μ fun ds μ1 => ∃ d e, ds = [d, e] ∧ P.nx ((ρ.set i (some d)).set j (some e)) μ1) : SS K E Ed (tPar i j tas) ρ μ P := by
  intro w σ e ok l x D o
  refine h w σ e ok l x _ fun vs ds w1 ⟨d, e, e1, q⟩ i1 ok1 l1 => ?_
  subst e1
  cases i1 with
  | cons h1 r1 =>
  cases r1 with
  | cons h2 r2 =>
  cases r2
  exact ⟨_, _, rfl, o.nx _ _ w1 q (((l.mono l1.ex).set i h1).set j h2) ok1 l1⟩
/-- o.f = e -/
theorem putF_zip {f : Str} {v : V} : ∀ {fs : List Str} {vs : List V}, fs.length = vs.length → ∀ {j : Nat}, fs.idxOf f = j → j < fs.length → putF f v (fs.zip vs) = fs.zip (vs.set j v)
  | [], _, _, j, _, h => by simp at h
  | g :: fs, [], h, _, _, _ => by simp at h
  | g :: fs, w :: vs, h, j, hj, hl => by
    rw [List.idxOf_cons] at hj
    by_cases z : g = f
    · subst z
      have e : j = 0 := by
        rw [← hj]
        simp
      subst e
      show putF g v ((g, w) :: fs.zip vs) = (g :: fs).zip (v :: vs)
      unfold putF
      rw [if_pos rfl]
      rfl
    · have e : j = fs.idxOf f + 1 := by
        rw [← hj]
        simp [beq_eq_false_iff_ne.mpr z]
      subst e
      have ih := putF_zip (f := f) (v := v) (fs := fs) (vs := vs) (by simpa using h) rfl (by simpa using hl)
      show putF f v ((g, w) :: fs.zip vs) = (g :: fs).zip (w :: vs.set _ v)
      unfold putF
      rw [if_neg z, ih]
      rfl
theorem putF_zipN {f : Str} {v : V} : ∀ {fs : List Str} {vs : List V}, fs.length = vs.length → f ∉ fs → putF f v (fs.zip vs) = (fs ++ [f]).zip (vs ++ [v])
  | [], [], _, _ => by simp [putF]
  | [], _ :: _, h, _ => by simp at h
  | g :: fs, [], h, _ => by simp at h
  | g :: fs, w :: vs, h, hf => by
    have hf1 : ¬ g = f := fun z => hf (by rw [z]; exact List.mem_cons_self)
    have ih := putF_zipN (f := f) (v := v) (fs := fs) (vs := vs) (by simpa using h) (fun z => hf (List.mem_cons_of_mem _ z))
    show putF f v ((g, w) :: fs.zip vs) = (g, w) :: (fs ++ [f]).zip (vs ++ [v])
    unfold putF
    rw [if_neg hf1, ih]
/-- the fields with another one, as data -/
def putD (f : Str) (d : D) (fs : List Str) (ds : List D) : List Str × List D := if fs.idxOf f < fs.length then (fs, ds.set (fs.idxOf f) d) else (fs ++ [f], ds ++ [d])
theorem ss_fld {C : Addr} {f : Str} (c : Cls K C) (n : NoAttr K C f) (h : SE K E Ed te ρ μ fun d μ1 => SE K E Ed ta ρ μ1 fun o μ2 => ∃ a fs ds μ3, o = .ref a ∧ Upd μ2 a (.ins C fs ds) (.ins C (putD f d fs ds).1 (putD f d fs ds).2) μ3 ∧ fs.length < 900 ∧ P.nx ρ μ3) : SS K E Ed (sFld K ta te f) ρ μ P := by
  intro w σ e ok l x D o
  refine h w σ e ok l x _ fun v d w1 q1 i1 ok1 l1 => ?_
  refine q1 w1 σ rfl ok1 (l.mono l1.ex) (x.step ok ok1 l1) _ fun v2 d2 w2 ⟨a, fs, ds, μ3, e2, u, hl, q2⟩ i2 ok2 l2 => ?_
  have l12 := l1.trans ok ok1 l2
  subst e2
  cases i2
  obtain ⟨_, dx, vs, h1, h2, h3⟩ := ok2.own _ u.mem
  refine ⟨a, C, dx, _, rfl, h1, c, n, by rw [List.length_zip]; omega, ?_⟩
  have e3 : ∃ vs', putF f v (fs.zip vs) = ((putD f d fs ds).1).zip vs' ∧ ((putD f d fs ds).1).length = vs'.length ∧ IsAll K w2.S vs' (putD f d fs ds).2 := by
    unfold putD
    by_cases z : fs.idxOf f < fs.length
    · rw [if_pos z]
      exact ⟨_, putF_zip h2 rfl z, by rw [List.length_set]; exact h2, h3.set _ (i1.mono l2.ex)⟩
    · rw [if_neg z]
      exact ⟨_, putF_zipN h2 (fun m => z (List.idxOf_lt_length_iff.mpr m)), by simp [h2], h3.append (.cons (i1.mono l2.ex) .nil)⟩
  obtain ⟨vs', e4, e5, e6⟩ := e3
  rw [e4]
  have le := Wd.le_put u (.ins C dx (((putD f d fs ds).1).zip vs'))
  exact o.nx σ ρ (w2.put a _ μ3) q2 (l.mono (l12.ex.trans le.ex)) (ok2.put u ⟨dx, vs', upd_same, e5, e6⟩) (l12.trans ok ok2 le)
/-- while -/
theorem ss_while (W : Nat → Env → Store → Prop) {m0 : Nat} (h0 : W m0 ρ μ) (hs : ∀ m ρ' μ', W m ρ' μ' → STT K E Ed t ρ' μ' fun b μ1 => if b = true then SS K E Ed t1 ρ' μ1 { P with nx := fun ρ2 μ2 => ∃ m', m' < m ∧ W m' ρ2 μ2, ct := fun ρ2 μ2 => ∃ m', m' < m ∧ W m' ρ2 μ2, bk := P.nx } else P.nx ρ' μ1) :
    SS K E Ed (tWhile t t1) ρ μ P := by
  intro w σ e ok l x D o
  refine ⟨fun m σ' H' => ∃ (w' : Wd) (ρ' : Env), w'.H = H' ∧ w'.Ok K ∧ LocD K w'.S σ' ρ' ∧ w.le w' ∧ W m ρ' w'.μ, ⟨m0, w, ρ, rfl, ok, l, Wd.le.refl w, e ▸ h0⟩, ?_⟩
  rintro m σ' H' ⟨w', ρ', rfl, ok', lo', le', hW⟩
  refine hs m ρ' _ hW w' σ' rfl ok' lo' (x.step ok ok' le') _ fun b w1 q ok1 l1 => ?_
  have l01 := le'.trans ok ok' l1
  cases b with
  | true =>
    refine ⟨fun σ2 H2 => ∃ (w2 : Wd) (ρ2 : Env), w2.H = H2 ∧ w2.Ok K ∧ LocD K w2.S σ2 ρ2 ∧ w.le w2 ∧ ∃ m', m' < m ∧ W m' ρ2 w2.μ, ?_, ?_⟩
    · rintro σ2 H2 ⟨w2, ρ2, e2, ok2, lo2, le2, m', hm, hW2⟩
      exact ⟨m', hm, w2, ρ2, e2, ok2, lo2, le2, hW2⟩
    · refine q w1 σ' rfl ok1 (lo'.mono l1.ex) (x.step ok ok1 l01) _ ⟨fun σ2 ρ2 w2 q2 lo2 ok2 l2 => ⟨w2, ρ2, rfl, ok2, lo2, l01.trans ok ok1 l2, q2⟩, fun v d w2 q2 i2 ok2 l2 => o.rt v d w2 q2 i2 ok2 (l01.trans ok ok1 l2),
        fun σ2 ρ2 w2 q2 lo2 ok2 l2 => o.nx σ2 ρ2 w2 q2 lo2 ok2 (l01.trans ok ok1 l2), fun σ2 ρ2 w2 q2 lo2 ok2 l2 => ⟨w2, ρ2, rfl, ok2, lo2, l01.trans ok ok1 l2, q2⟩⟩
  | false => exact o.nx σ' ρ' w1 q (lo'.mono l1.ex) ok1 l01
/-- for -/
theorem ss_for {ti : TI} {g : TG} {js : List Nat} (h : SI K E Ed ti ρ μ fun ds μ1 => ∃ Pv : Nat → Env → Store → Prop, Pv 0 ρ μ1 ∧ (∀ i d ρ' μ', ds[i]? = some d → Pv i ρ' μ' → SG K E Ed js g d ρ' μ' fun ρ2 μ2 => SS K E Ed t1 ρ2 μ2 { P with nx := Pv (i + 1), ct := Pv (i + 1), bk := P.nx }) ∧ ∀ ρ' μ', Pv ds.length ρ' μ' → P.nx ρ' μ') :
    SS K E Ed (tFor ti g t1) ρ μ P := by
  intro w σ e ok l x D o
  refine h w σ e ok l x _ fun J ds w1 G Y ⟨Pv, h0, hs, hd⟩ ok1 l1 wk hG hY => ?_
  refine for_it wk (fun i σ' H' => ∃ (w' : Wd) (ρ' : Env), w'.H = H' ∧ w'.Ok K ∧ LocD K w'.S σ' ρ' ∧ w1.le w' ∧ Pv i ρ' w'.μ) ⟨w1, ρ, rfl, ok1, l.mono l1.ex, Wd.le.refl w1, h0⟩ ?_ ?_ ?_
  · rintro i σ' H' _ ⟨w', ρ', rfl, ok', lo', le', _⟩
    exact hG w' ok' le'.ex
  · rintro i xv σ' H' H2 hi ⟨w', ρ', rfl, ok', lo', le', p⟩ y
    obtain ⟨w3, d, rfl, ok3, l3, em, hd3, is3⟩ := hY w' i xv H2 hi ok' le'.ex y
    have l13 := le'.trans ok1 ok' l3
    have l03 := l1.trans ok ok1 l13
    refine hs i d ρ' w3.μ hd3 (em ▸ p) w3 σ' xv rfl ok3 (lo'.mono l3.ex) (x.step ok ok3 l03) is3 _ fun σ4 ρ4 w4 q4 lo4 ok4 l4 _ => ?_
    have l14 := l13.trans ok1 ok3 l4
    have l04 := l1.trans ok ok1 l14
    refine q4 w4 σ4 rfl ok4 lo4 (x.step ok ok4 l04) _ ⟨fun σ5 ρ5 w5 q5 lo5 ok5 l5 => ⟨w5, ρ5, rfl, ok5, lo5, l14.trans ok1 ok4 l5, q5⟩, fun v d w5 q5 i5 ok5 l5 => o.rt v d w5 q5 i5 ok5 (l04.trans ok ok4 l5),
      fun σ5 ρ5 w5 q5 lo5 ok5 l5 => o.nx σ5 ρ5 w5 q5 lo5 ok5 (l04.trans ok ok4 l5), fun σ5 ρ5 w5 q5 lo5 ok5 l5 => ⟨w5, ρ5, rfl, ok5, lo5, l14.trans ok1 ok4 l5, q5⟩⟩
  · rintro σ' H' ⟨w', ρ', rfl, ok', lo', le', p⟩
    exact o.nx σ' ρ' w' (hd _ _ p) lo' ok' (l1.trans ok ok1 le')
end
section
variable {K : PySem.W.Frag} {E : XK} {Ed : XD} {ρ : Env} {μ : Store} {ta tb te : TE} {t u : TT} {tas : TA}
/-! ### what is walked -/
/-- a list, a tuple, a text -/
def iAny (K : PySem.W.Frag) (tl : TE) : TI := fun σ H R => tl σ H fun x H1 => (∃ a, x = .ref a ∧ (∃ xs, SqL K H1 a xs) ∧ R (Itl K a) H1) ∨ (∃ a, x = .ref a ∧ (∃ xs, SqT K H1 a xs) ∧ R (Itt K a) H1) ∨ ∃ z, x = .str z ∧ R (Its z) H1
theorem pi_any {X : Cx} {tg l : Expr} {tl : TE} (hl : PE X l tl) : PI X tg l (iAny X.K tl) := by
  refine ⟨fun pins s σ H R I h => ?_⟩
  refine thn (hl.run pins s σ H _ I h) fun v s1 ⟨x, H1, I1, r1, q1⟩ => ?_
  rcases q1 with ⟨a, e, ⟨xs, hq⟩, q⟩ | ⟨a, e, ⟨xs, hq⟩, q⟩ | ⟨z, e, q⟩
  · subst e
    cases r1
    obtain ⟨its, rv, p, hz⟩ := I1.list hq
    refine wpAny_pyIter_list p.isList ?_
    refine ⟨s1.heap.objs.size, [s1.heap.objs.size], _, _, H1, rfl, I1.kept (t' := s1.toks) fun b o e => Heap.get?_push_of_some _ e, turn_list a _, ⟨_, Heap.get?_push_size _ rfl, rfl, rfl⟩, fun b hb => ?_, q⟩
    have e : b = s1.heap.objs.size := by simpa using hb
    subst e
    exact I1.fpOk (Nat.le_refl _) (I1.hok.fresh (Nat.le_refl _))
  · subst e
    cases r1
    obtain ⟨its, rv, p, hz⟩ := I1.tuple hq
    refine wpAny_pyIter_tuple (show s1.heap.IsTuple a its.toArray from p) ?_
    refine ⟨s1.heap.objs.size, [s1.heap.objs.size], _, _, H1, rfl, I1.kept (t' := s1.toks) fun b o e => Heap.get?_push_of_some _ e, turn_tuple a _, ⟨_, Heap.get?_push_size _ rfl, rfl, rfl⟩, fun b hb => ?_, q⟩
    have e : b = s1.heap.objs.size := by simpa using hb
    subst e
    exact I1.fpOk (Nat.le_refl _) (I1.hok.fresh (Nat.le_refl _))
  · subst e
    obtain ⟨t, rfl⟩ := r1
    cases ha : z.cps.all (· < 128)
    · exact wpAny_pyIter_wide ha (pi_one (tk := s1.toks) I1 _ (turn_str _ z t "str_iterator" (.inr rfl)) ⟨_, Heap.get?_push_size _ rfl, rfl, rfl⟩ q)
    · exact wpAny_pyIter_ascii ha (pi_one (tk := s1.toks) I1 _ (turn_str _ z t "str_ascii_iterator" (.inl rfl)) ⟨_, Heap.get?_push_size _ rfl, rfl, rfl⟩ q)
/-- the signs of a text, as data -/
def signsD (z : Str) : List D := z.cps.toList.map fun c => D.str ⟨#[c]⟩
theorem si_scr {tl : TE} {R : List D → Store → Prop} (h : SE K E Ed tl ρ μ fun d μ1 => ∃ ns, d = .scr ns ∧ R (ns.map D.int) μ1) : SI K E Ed (iAny K tl) ρ μ R := by
  intro w σ e ok l x k hk
  refine h w σ e ok l x _ fun v d w1 ⟨ns, e1, q⟩ i1 ok1 l1 => ?_
  subst e1
  cases i1 with
  | @scr a _ h1 =>
  refine .inl ⟨a, rfl, ⟨_, ex_l ok1.sub h1⟩, ?_⟩
  have wk : Walk (Itl K a) (ns.map V.int).length (fun H => SqL K H a (ns.map V.int)) (YAt (ns.map V.int)) := walk_list
  rw [show (ns.map V.int).length = (ns.map D.int).length by simp] at wk
  refine hk _ _ w1 _ _ q ok1 l1 wk (fun w2 ok2 e2 => ex_l (e2.trans ok2.sub) h1) fun w2 i xv H' hi ok2 e2 y => ?_
  obtain ⟨rfl, y⟩ := y
  obtain ⟨d, hd, is⟩ := (IsAll.ints (K := K) (S := w2.S) ns).get y
  exact ⟨w2, d, rfl, ok2, Wd.le.refl w2, rfl, hd, is⟩
theorem si_any {tl : TE} {R : List D → Store → Prop} (h : SE K E Ed tl ρ μ fun d μ1 => (∃ ds, d = .lst ds ∧ R ds μ1) ∨ (∃ ds, d = .tup ds ∧ R ds μ1) ∨ ∃ z, d = .str z ∧ R (signsD z) μ1) : SI K E Ed (iAny K tl) ρ μ R := by
  intro w σ e ok l x k hk
  refine h w σ e ok l x _ fun v d w1 q i1 ok1 l1 => ?_
  rcases q with ⟨ds, rfl, q⟩ | ⟨ds, rfl, q⟩ | ⟨z, rfl, q⟩
  · cases i1 with
    | @lst a vs _ h1 h2 =>
    refine .inl ⟨a, rfl, ⟨vs, SqL.of (ok1.sub _ _ h1)⟩, ?_⟩
    have wk : Walk (Itl K a) vs.length (fun H => SqL K H a vs) (YAt vs) := walk_list
    rw [h2.length] at wk
    refine hk _ ds w1 _ _ q ok1 l1 wk (fun w2 ok2 e2 => SqL.of (ok2.sub _ _ (e2 _ _ h1))) fun w2 i xv H' hi ok2 e2 y => ?_
    obtain ⟨rfl, y⟩ := y
    obtain ⟨d, hd, is⟩ := (h2.mono e2).get y
    exact ⟨w2, d, rfl, ok2, Wd.le.refl w2, rfl, hd, is⟩
  · cases i1 with
    | @tup a vs _ h1 h2 =>
    refine .inr (.inl ⟨a, rfl, ⟨vs, ex_t ok1.sub h1⟩, ?_⟩)
    have wk : Walk (Itt K a) vs.length (fun H => SqT K H a vs) (YAt vs) := walk_tup
    rw [h2.length] at wk
    refine hk _ ds w1 _ _ q ok1 l1 wk (fun w2 ok2 e2 => ex_t (e2.trans ok2.sub) h1) fun w2 i xv H' hi ok2 e2 y => ?_
    obtain ⟨rfl, y⟩ := y
    obtain ⟨d, hd, is⟩ := (h2.mono e2).get y
    exact ⟨w2, d, rfl, ok2, Wd.le.refl w2, rfl, hd, is⟩
  · cases i1
    refine .inr (.inr ⟨z, rfl, ?_⟩)
    have wk := walk_str (z := z)
    have e3 : z.cps.size = (signsD z).length := by simp [signsD]
    rw [e3] at wk
    refine hk _ _ w1 _ _ q ok1 l1 wk (fun _ _ _ => trivial) fun w2 i xv H' hi ok2 e2 y => ?_
    obtain ⟨rfl, c, hc, rfl⟩ := y
    refine ⟨w2, .str ⟨#[c]⟩, rfl, ok2, Wd.le.refl w2, rfl, ?_, .str _⟩
    show ((z.cps.toList.map fun c => D.str ⟨#[c]⟩))[i]? = _
    rw [List.getElem?_map, Array.getElem?_toList, hc]
    rfl
def rangeD (n : Nat) : List D := (List.range n).map fun (i : Nat) => D.int (i : Int)
theorem si_rng1 {R : List D → Store → Prop} (h : SA K E Ed tas ρ μ fun ds μ1 => ∃ j : Int, ds = [.int j] ∧ -(2 ^ 62) ≤ j ∧ j < 2 ^ 62 ∧ R (rangeD j.toNat) μ1) : SI K E Ed (iRng1 tas) ρ μ R := by
  intro w σ e ok l x k hk
  refine h w σ e ok l x _ fun vs ds w1 ⟨j, e1, h1, h2, q⟩ i1 ok1 l1 => ?_
  subst e1
  cases i1 with
  | cons a r =>
  cases a
  cases r
  refine ⟨j, rfl, h1, h2, ?_⟩
  have wk := walk_range (lo := 0) (n := j.toNat)
  have e3 : j.toNat = (rangeD j.toNat).length := by simp [rangeD]
  have wk2 : Walk (Itr 0 j.toNat) (rangeD j.toNat).length (fun _ => True) (YFn fun i => .int (0 + i)) := e3 ▸ wk
  refine hk _ _ w1 _ _ q ok1 l1 wk2 (fun _ _ _ => trivial) fun w2 i xv H' hi ok2 e2 y => ?_
  obtain ⟨rfl, rfl⟩ := y
  refine ⟨w2, .int (i : Int), rfl, ok2, Wd.le.refl w2, rfl, ?_, by show Is K w2.S (.int (0 + (i : Int))) _; rw [Int.zero_add]; exact .int _⟩
  unfold rangeD at hi ⊢
  rw [List.getElem?_map, List.getElem?_range (by simpa using hi)]
  rfl
def enumD (ds : List D) : List D := (List.range ds.length).map fun (i : Nat) => D.tup [.int (i : Int), ds.getD i .non]
theorem si_enum {R : List D → Store → Prop} (h : SA K E Ed tas ρ μ fun es μ1 => ∃ ds, es = [.lst ds] ∧ R (enumD ds) μ1) : SI K E Ed (iEnum K tas) ρ μ R := by
  intro w σ e ok l x k hk
  refine h w σ e ok l x _ fun vs es w1 ⟨ds, e1, q⟩ i1 ok1 l1 => ?_
  subst e1
  cases i1 with
  | cons a r =>
  cases r
  cases a with
  | @lst a vs _ h1 h2 =>
  refine ⟨a, vs, rfl, SqL.of (ok1.sub _ _ h1), ?_⟩
  have wk : Walk (Ite K a) vs.length (fun H => SqL K H a vs) (YPair (fun i => some (.int (i : Nat))) (fun i => vs[i]?)) := walk_enum
  have e3 : vs.length = (enumD ds).length := by simp [enumD, h2.length]
  rw [e3] at wk
  refine hk _ _ w1 _ _ q ok1 l1 wk (fun w2 ok2 e2 => SqL.of (ok2.sub _ _ (e2 _ _ h1))) fun w2 i xv H' hi ok2 e2 y => ?_
  obtain ⟨T, x, y, rfl, hT, rfl, hx, hy⟩ := y
  cases hx
  obtain ⟨d, hd, is⟩ := (h2.mono e2).get hy
  have le := Wd.le_lay ok2 hT (.tup [V.int (i : Nat), y])
  refine ⟨w2.lay T (.tup [V.int (i : Nat), y]), .tup [.int (i : Int), d], rfl, ok2.lay hT _, le, rfl, ?_, .tup (SqT.of upd_same) (.cons (.int _) (.cons (is.mono le.ex) .nil))⟩
  have hi2 : i < ds.length := (List.getElem?_eq_some_iff.mp hd).1
  unfold enumD
  rw [List.getElem?_map, List.getElem?_range hi2]
  simp [List.getD, hd]
def zipD (ds es : List D) : List D := (ds.zip es).map fun p => D.tup [p.1, p.2]
theorem si_zip {R : List D → Store → Prop} (h : SA K E Ed tas ρ μ fun as μ1 => ∃ ds es, ((as = [.lst ds, .lst es]) ∨ (as = [.tup ds, .tup es])) ∧ (∃ n, n = min ds.length es.length) ∧ R (zipD ds es) μ1) : SI K E Ed (RZ.iZipA K tas) ρ μ R := by
  intro w σ e ok l x k hk
  refine h w σ e ok l x _ fun vs as w1 ⟨ds, es, e1, _, q⟩ i1 ok1 l1 => ?_
  have zl : (zipD ds es).length = min ds.length es.length := by simp [zipD]
  have zget : ∀ (i : Nat) (d e : D), ds[i]? = some d → es[i]? = some e → (zipD ds es)[i]? = some (.tup [d, e]) := by
    intro i d e h1 h2
    unfold zipD
    have hz : (ds.zip es)[i]? = some (d, e) := List.getElem?_zip_eq_some.mpr ⟨h1, h2⟩
    rw [List.getElem?_map, hz]
    rfl
  rcases e1 with rfl | rfl
  · cases i1 with
    | cons a r =>
    cases r with
    | cons b r =>
    cases r
    cases a with
    | @lst a vs _ h1 h2 =>
    cases b with
    | @lst b ws _ g1 g2 =>
    refine ⟨a, b, vs, ws, rfl, .inl ⟨SqL.of (ok1.sub _ _ h1), SqL.of (ok1.sub _ _ g1), ?_⟩⟩
    have wk := walk_zip (K := K) (a := a) (b := b) (xs := vs) (ys := ws) (n := (zipD ds es).length) (by rw [zl, h2.length, g2.length])
    refine hk _ _ w1 _ _ q ok1 l1 wk (fun w2 ok2 e2 => ⟨SqL.of (ok2.sub _ _ (e2 _ _ h1)), SqL.of (ok2.sub _ _ (e2 _ _ g1))⟩) fun w2 i xv H' hi ok2 e2 y => ?_
    obtain ⟨T, x, y, rfl, hT, rfl, hx, hy⟩ := y
    obtain ⟨d, hd, is⟩ := (h2.mono e2).get hx
    obtain ⟨e, he, ie⟩ := (g2.mono e2).get hy
    have le := Wd.le_lay ok2 hT (.tup [x, y])
    exact ⟨w2.lay T (.tup [x, y]), .tup [d, e], rfl, ok2.lay hT _, le, rfl, zget i d e hd he, .tup (SqT.of upd_same) (.cons (is.mono le.ex) (.cons (ie.mono le.ex) .nil))⟩
  · cases i1 with
    | cons a r =>
    cases r with
    | cons b r =>
    cases r
    cases a with
    | @tup a vs _ h1 h2 =>
    cases b with
    | @tup b ws _ g1 g2 =>
    refine ⟨a, b, vs, ws, rfl, .inr ⟨ex_t ok1.sub h1, ex_t ok1.sub g1, ?_⟩⟩
    have wk : Walk (RZ.ItzT K a b) (zipD ds es).length (fun H => SqT K H a vs ∧ SqT K H b ws) (YPair (fun i => vs[i]?) (fun i => ws[i]?)) := by
      refine ⟨fun i _ hi q => ?_, fun _ q => ⟨vs, ws, q.1, q.2, by rw [zl]; have := h2.length; have := g2.length; omega⟩, fun i H v H' _ q y => ?_⟩
      · rw [zl] at hi
        have := h2.length
        have := g2.length
        have h1 : i < vs.length := by omega
        have h2 : i < ws.length := by omega
        exact ⟨vs, ws, vs[i], ws[i], q.1, q.2, by simp [h1], by simp [h2]⟩
      · obtain ⟨T, x, z, h1, h2, h3, h4, h5⟩ := y
        exact ⟨T, x, z, h1, h2, h3, h4 vs q.1, h5 ws q.2⟩
    refine hk _ _ w1 _ _ q ok1 l1 wk (fun w2 ok2 e2 => ⟨ex_t (e2.trans ok2.sub) h1, ex_t (e2.trans ok2.sub) g1⟩) fun w2 i xv H' hi ok2 e2 y => ?_
    obtain ⟨T, x, y, rfl, hT, rfl, hx, hy⟩ := y
    obtain ⟨d, hd, is⟩ := (h2.mono e2).get hx
    obtain ⟨e, he, ie⟩ := (g2.mono e2).get hy
    have le := Wd.le_lay ok2 hT (.tup [x, y])
    exact ⟨w2.lay T (.tup [x, y]), .tup [d, e], rfl, ok2.lay hT _, le, rfl, zget i d e hd he, .tup (SqT.of upd_same) (.cons (is.mono le.ex) (.cons (ie.mono le.ex) .nil))⟩
/-! ### a new list being made, no one's -/
theorem Wd.Ok.heap {w : Wd} (ok : w.Ok K) {p : Addr} (hs : w.S p = none) (hm : p ∉ dom w.μ) (o : HO) : Wd.Ok K ⟨w.S, upd w.H p o, w.μ⟩ := by
  refine ⟨fun a u e => ?_, fun q hq => ?_, ok.nd⟩
  · show upd w.H p o a = some u
    have e : w.S a = some u := e
    rw [upd_ne (ne_of_none e hs)]
    exact ok.sub a u e
  · have nq : q.1 ≠ p := fun z => hm (z ▸ List.mem_map.mpr ⟨q, hq, rfl⟩)
    obtain ⟨q1, q2⟩ := ok.own q hq
    exact ⟨q1, q2.mono (Ex.refl _) fun u e => by show upd w.H p o q.1 = some u; rw [upd_ne nq]; exact e⟩
theorem Wd.Ok.stay {w : Wd} (ok : w.Ok K) {p : Addr} {o : HO} (hs : w.S p = none) (hm : p ∉ dom w.μ) (hh : w.H p = some o) : Wd.Ok K ⟨upd w.S p o, w.H, w.μ⟩ := by
  refine ⟨fun a u e => ?_, fun q hq => ?_, ok.nd⟩
  · have e : upd w.S p o a = some u := e
    by_cases z : a = p
    · subst z
      rw [upd_same] at e
      cases e
      exact hh
    · rw [upd_ne z] at e
      exact ok.sub a u e
  · have nq : q.1 ≠ p := fun z => hm (z ▸ List.mem_map.mpr ⟨q, hq, rfl⟩)
    obtain ⟨q1, q2⟩ := ok.own q hq
    exact ⟨by show upd w.S p o q.1 = none; rw [upd_ne nq]; exact q1, q2.mono (Ex.new hs) fun u e => e⟩
/-- what is new to w0 may change -/
theorem Wd.le.heap {w0 w : Wd} (l : w0.le w) {p : Addr} (h0 : w0.H p = none) (o : HO) : w0.le ⟨w.S, upd w.H p o, w.μ⟩ := by
  refine ⟨l.ex, fun a u e e2 e3 => ?_, l.nw⟩
  obtain ⟨q1, q2⟩ := l.kp a u e e2 e3
  exact ⟨by show upd w.H p o a = _; rw [upd_ne (ne_of_none e h0)]; exact q1, q2⟩
theorem Wd.le.stay {w0 w : Wd} (ok0 : w0.Ok K) (l : w0.le w) {p : Addr} (h0 : w0.H p = none) (hs : w.S p = none) (o : HO) : w0.le ⟨upd w.S p o, w.H, w.μ⟩ := by
  refine ⟨l.ex.trans (Ex.new hs), fun a u e e2 e3 => ?_, l.nw⟩
  obtain ⟨q1, q2⟩ := l.kp a u e e2 e3
  exact ⟨q1, by show upd w.S p o a = _; rw [upd_ne (ne_of_none e h0)]; exact q2⟩
/-- the block's own names forgotten -/
def wipeE (ρ : Env) : List Nat → Env
  | [] => ρ
  | v :: vs => (wipeE ρ vs).set v none
theorem LocD.wipe {S : Hp} {σ : L2.St} (l : LocD K S σ ρ) : ∀ vs : List Nat, LocD K S (L2.wipe σ vs) (wipeE ρ vs)
  | [] => l
  | v :: vs => (LocD.wipe l vs).clear v none
theorem wipe_out {σ σ' : L2.St} {vs : List Nat} (hl : σ'.length = σ.length) (h : ∀ j, j ∉ vs → σ'[j]? = σ[j]?) : L2.wipe σ' vs = L2.wipe σ vs := by
  have key : ∀ (τ τ' : L2.St) (us : List Nat) (j : Nat), τ'.length = τ.length → (j ∉ us → τ'[j]? = τ[j]?) → (L2.wipe τ' us)[j]? = (L2.wipe τ us)[j]? := by
    intro τ τ' us
    induction us with
    | nil => intro j hl h; exact h (by simp)
    | cons u us ih =>
      intro j hl h
      show ((L2.wipe τ' us).set u none)[j]? = ((L2.wipe τ us).set u none)[j]?
      by_cases z : u = j
      · subst z
        simp [List.getElem?_set, L2.wipe_length, hl]
      · rw [List.getElem?_set_ne z, List.getElem?_set_ne z]
        exact ih j hl fun hj => h (by simp only [List.mem_cons, not_or]; exact ⟨fun e => z e.symm, hj⟩)
  exact List.ext_getElem? fun j => key σ σ' vs j hl (h j)
theorem wipe_wipe {σ : L2.St} (vs : List Nat) : L2.wipe (L2.wipe σ vs) vs = L2.wipe σ vs := by
  refine wipe_out (L2.wipe_length _ _) fun j hj => ?_
  induction vs with
  | nil => rfl
  | cons u us ih =>
    show ((L2.wipe σ us).set u none)[j]? = _
    rw [List.getElem?_set_ne (fun z => hj (by rw [z]; exact List.mem_cons_self))]
    exact ih fun h => hj (List.mem_cons_of_mem _ h)
theorem se_lc {ti : TI} {g : TG} {tt : TT} {vs js : List Nat} {Q : D → Store → Prop} (hj : ∀ j ∈ js, j ∈ vs)
    (h : SI K E Ed ti ρ μ fun ds μ1 => ∃ Pv : Nat → List D → Store → Prop, Pv 0 [] μ1 ∧ (∀ i d acc μ', ds[i]? = some d → Pv i acc μ' → SG K E0 XF js g d (wipeE ρ vs) μ' fun ρ2 μ2 => STT K E0 XF tt ρ2 μ2 fun b μ3 =>
      if b = true then SE K E0 XF te ρ2 μ3 fun y μ4 => acc.length < sizeLine ∧ Pv (i + 1) (acc ++ [y]) μ4 else Pv (i + 1) acc μ3) ∧ ∀ acc μ', Pv ds.length acc μ' → Q (.lst acc) μ') :
    SE K E Ed (tLc ti g tt te vs) ρ μ Q := by
  intro w σ e ok l x k hk
  refine h w σ e ok l x _ fun J ds w1 G Y ⟨Pv, p0, hs, hd⟩ ok1 l1 wk hG hY => fun Dl hD => ?_
  obtain ⟨hDs, hDm⟩ := ok1.fresh hD
  refine lc_it wk (fun i H' => ∃ (w' : Wd) (acc : List D) (us : List V), w'.H = H' ∧ w'.Ok K ∧ w1.le w' ∧ w'.S Dl = none ∧ Dl ∉ dom w'.μ ∧ w'.H Dl = some (.lst us) ∧ IsAll K w'.S us acc ∧ Pv i acc w'.μ)
    ⟨⟨w1.S, upd w1.H Dl (.lst []), w1.μ⟩, [], [], rfl, ok1.heap hDs hDm _, (Wd.le.refl w1).heap hD _, hDs, hDm, upd_same, .nil, p0⟩ ?_ ?_ ?_
  · rintro i H' _ ⟨w', acc, us, rfl, ok', le', _⟩
    exact hG w' ok' le'.ex
  · rintro i xv H' H2 hi ⟨w', acc, us, rfl, ok', le', n1, n2, n3, ia, p⟩ y
    obtain ⟨w3, d, rfl, ok3, l3, em, hd3, is3⟩ := hY w' i xv H2 hi ok' le'.ex y
    have l13 := le'.trans ok1 ok' l3
    have lo3 : LocD K w3.S (L2.wipe σ vs) (wipeE ρ vs) := (l.mono (l1.ex.trans l13.ex)).wipe vs
    obtain ⟨a3, b3⟩ := l3.kp Dl _ n3 n1 n2
    have c3 : Dl ∉ dom w3.μ := em ▸ n2
    refine hs i d acc w3.μ hd3 (em ▸ p) w3 _ xv rfl ok3 lo3 XL.never is3 _ fun σ4 ρ4 w4 q4 lo4 ok4 l4 out => ?_
    have nn : ∀ {wa wb : Wd}, wa.Ok K → wa.le wb → wa.H Dl = some (.lst us) → wa.S Dl = none → Dl ∉ dom wa.μ → (wb.H Dl = some (.lst us) ∧ wb.S Dl = none ∧ Dl ∉ dom wb.μ) := fun {wa wb} oka lab h1 h2 h3 => by
      obtain ⟨z1, z2⟩ := lab.kp Dl _ h1 h2 h3
      refine ⟨z1, z2, fun hm => ?_⟩
      rcases lab.nw Dl hm with z | z
      · exact h3 z
      · rw [h1] at z
        cases z
    obtain ⟨a4, b4, c4⟩ := nn ok3 l4 a3 b3 c3
    have l14 := l13.trans ok1 ok3 l4
    refine ⟨by rw [wipe_out out.1 (fun j hjv => out.2 j fun z => hjv (hj j z)), wipe_wipe], ?_⟩
    refine q4 w4 σ4 rfl ok4 lo4 XL.never _ fun b w5 q5 ok5 l5 => ?_
    obtain ⟨a5, b5, c5⟩ := nn ok4 l5 a4 b4 c4
    have l15 := l14.trans ok1 ok4 l5
    cases b with
    | false => exact ⟨w5, acc, us, rfl, ok5, l15, b5, c5, a5, ia.mono (l3.ex.trans (l4.ex.trans l5.ex)), q5⟩
    | true =>
      refine q5 w5 σ4 rfl ok5 (lo4.mono l5.ex) XL.never _ fun yv yd w6 ⟨z6, q6⟩ i6 ok6 l6 => ?_
      obtain ⟨a6, b6, c6⟩ := nn ok5 l6 a5 b5 c5
      have l16 := l15.trans ok1 ok5 l6
      have ia6 := ia.mono (l3.ex.trans (l4.ex.trans (l5.ex.trans l6.ex)))
      refine ⟨us, a6, by rw [ia6.length]; exact z6, ⟨w6.S, upd w6.H Dl (.lst (us ++ [yv])), w6.μ⟩, acc ++ [yd], us ++ [yv], rfl, ok6.heap b6 c6 _, l16.heap hD _, b6, c6, upd_same, ia6.append (.cons i6 .nil), q6⟩
  · rintro H' ⟨w', acc, us, rfl, ok', le', n1, n2, n3, ia, p⟩
    have l6 := le'.stay ok1 hD n1 (.lst us)
    exact hk _ _ ⟨upd w'.S Dl (.lst us), w'.H, w'.μ⟩ (hd acc _ p) (.lst upd_same (ia.mono (Ex.new n1))) (ok'.stay n1 n2 n3) (l1.trans ok ok1 l6)
/-! ### from now on it stays -/
inductive Del : Store → Addr → D → Store → Prop
  | here {a : Addr} {d : D} {μ : Store} : Del ((a, d) :: μ) a d μ
  | there {a : Addr} {d : D} {p : Addr × D} {μ μ' : Store} : Del μ a d μ' → Del (p :: μ) a d (p :: μ')
theorem Del.mem {μ μ' : Store} {a : Addr} {d : D} (u : Del μ a d μ') : (a, d) ∈ μ := by
  induction u with
  | here => exact List.mem_cons_self
  | there _ ih => exact List.mem_cons_of_mem _ ih
theorem Del.sub {μ μ' : Store} {a : Addr} {d : D} (u : Del μ a d μ') : ∀ p ∈ μ', p ∈ μ := by
  induction u with
  | here => exact fun p hp => List.mem_cons_of_mem _ hp
  | there _ ih =>
    intro p hp
    rcases List.mem_cons.mp hp with z | z
    · rw [z]
      exact List.mem_cons_self
    · exact List.mem_cons_of_mem _ (ih p z)
theorem Del.nd {μ μ' : Store} {a : Addr} {d : D} (u : Del μ a d μ') : (dom μ).Nodup → (dom μ').Nodup ∧ a ∉ dom μ' := by
  induction u with
  | here => exact fun nd => ⟨(List.nodup_cons.mp nd).2, (List.nodup_cons.mp nd).1⟩
  | @there a d p μ μ' u ih =>
    intro nd
    obtain ⟨n1, n2⟩ := List.nodup_cons.mp nd
    obtain ⟨i1, i2⟩ := ih n2
    refine ⟨List.nodup_cons.mpr ⟨fun hm => n1 ?_, i1⟩, fun hm => ?_⟩
    · obtain ⟨q, hq, e⟩ := List.mem_map.mp hm
      exact List.mem_map.mpr ⟨q, u.sub q hq, e⟩
    · rcases List.mem_cons.mp hm with z | z
      · exact n1 (z ▸ List.mem_map.mpr ⟨_, u.mem, rfl⟩)
      · exact i2 z
theorem freeze {w : Wd} (ok : w.Ok K) {a : Addr} {d : D} {μ' : Store} (u : Del w.μ a d μ') (nt : ∀ q, d ≠ .str q) : ∃ w' : Wd, w'.H = w.H ∧ w'.μ = μ' ∧ w'.Ok K ∧ w.le w' ∧ Is K w'.S (.ref a) d := by
  obtain ⟨hs, hm⟩ := ok.own _ u.mem
  have hs : w.S a = none := hs
  obtain ⟨o, ho⟩ := hm.there
  obtain ⟨nd, na⟩ := u.nd ok.nd
  have okr : Wd.Ok K ⟨w.S, w.H, μ'⟩ := ⟨ok.sub, fun p hp => ok.own p (u.sub p hp), nd⟩
  have e1 : Ex w.S (upd w.S a o) := Ex.new hs
  refine ⟨⟨upd w.S a o, w.H, μ'⟩, rfl, rfl, okr.stay (p := a) hs na ho, ⟨e1, fun b u' e e2 e3 => ⟨e, ?_⟩, fun b hb => .inl ?_⟩, ?_⟩
  · show upd w.S a o b = none
    rw [upd_ne (show b ≠ a from fun z => e3 (by rw [z]; exact List.mem_map.mpr ⟨_, u.mem, rfl⟩))]
    exact e2
  · obtain ⟨q, hq, e⟩ := List.mem_map.mp hb
    exact List.mem_map.mpr ⟨q, u.sub q hq, e⟩
  · cases d with
    | lst ds =>
      obtain ⟨vs, h1, h2⟩ := hm
      have h1 : w.H a = some (.lst vs) := h1
      rw [ho] at h1
      cases h1
      exact .lst upd_same (h2.mono e1)
    | dict ks ds =>
      obtain ⟨vs, h1, h2, h3⟩ := hm
      have h1 : w.H a = some (.dK (ks.zip vs)) := h1
      rw [ho] at h1
      cases h1
      exact .dict upd_same h2 (h3.mono e1)
    | ins C fs ds =>
      obtain ⟨dx, vs, h1, h2, h3⟩ := hm
      have h1 : w.H a = some (.ins C dx (fs.zip vs)) := h1
      rw [ho] at h1
      cases h1
      exact .ins upd_same h2 (h3.mono e1)
    | str q => exact absurd rfl (nt q)
    | _ => exact hm.elim
theorem ss_freeze {ts : TS} {P : DE} {i : Nat} {a : Addr} {d : D} {μ' : Store} (hi : ρ[i]? = some (some (.ref a))) (u : Del μ a d μ') (h : SS K E Ed ts (ρ.set i (some d)) μ' P) (nt : ∀ q, d ≠ .str q := by intro q h; cases h) : SS K E Ed ts ρ μ P := by
  intro w σ e ok l x D o
  obtain ⟨w', e1, e2, ok', le', is⟩ := freeze ok (e ▸ u) nt
  have lo : LocD K w'.S σ (ρ.set i (some d)) := by
    refine ⟨by rw [List.length_set]; exact l.1, fun j e hj => ?_⟩
    by_cases z : i = j
    · subst z
      have hl : i < ρ.length := (List.getElem?_eq_some_iff.mp hi).1
      rw [List.getElem?_set_self hl] at hj
      cases hj
      obtain ⟨v, h1, h2⟩ := l.2 i _ hi
      cases h2
      exact ⟨_, h1, is⟩
    · rw [List.getElem?_set_ne z] at hj
      exact (l.mono le'.ex).2 j e hj
  have r := h w' σ e2 ok' lo (x.step ok ok' le') D (o.step ok ok' le')
  rw [e1] at r
  exact r
theorem se_freeze {Q : D → Store → Prop} {i : Nat} {a : Addr} {d : D} {μ' : Store} (hi : ρ[i]? = some (some (.ref a))) (u : Del μ a d μ') (h : SE K E Ed te (ρ.set i (some d)) μ' Q) (nt : ∀ q, d ≠ .str q := by intro q h; cases h) : SE K E Ed te ρ μ Q := by
  intro w σ e ok l x k hk
  obtain ⟨w', e1, e2, ok', le', is⟩ := freeze ok (e ▸ u) nt
  have lo : LocD K w'.S σ (ρ.set i (some d)) := by
    refine ⟨by rw [List.length_set]; exact l.1, fun j e hj => ?_⟩
    by_cases z : i = j
    · subst z
      have hl : i < ρ.length := (List.getElem?_eq_some_iff.mp hi).1
      rw [List.getElem?_set_self hl] at hj
      cases hj
      obtain ⟨v, h1, h2⟩ := l.2 i _ hi
      cases h2
      exact ⟨_, h1, is⟩
    · rw [List.getElem?_set_ne z] at hj
      exact (l.mono le'.ex).2 j e hj
  have r := h w' σ e2 ok' lo (x.step ok ok' le') k (KE.step hk ok ok' le')
  rw [e1] at r
  exact r
/-! ### calls -/
/-- a promise told of data and a store: F args store (what follows) (what is raised) -/
abbrev FD := List D → Store → (D → Store → Prop) → XD → Prop
def spD (K : PySem.W.Frag) (F : FD) : Sp := fun vs H Q E => ∃ (w : Wd) (ds : List D) (Qd : D → Store → Prop) (Ed : XD), w.H = H ∧ w.Ok K ∧ IsAll K w.S vs ds ∧ F ds w.μ Qd Ed ∧ KE K w Qd Q ∧ XL K E w Ed
theorem frame {w w' : Wd} {μa μf : Store} (ok : w.Ok K) (e : w.μ = μa ++ μf) (ok' : w'.Ok K) (l : Wd.le ⟨w.S, w.H, μa⟩ w') : Wd.Ok K ⟨w'.S, w'.H, w'.μ ++ μf⟩ ∧ w.le ⟨w'.S, w'.H, w'.μ ++ μf⟩ := by
  have nd : (dom μa ++ dom μf).Nodup := by
    have h := ok.nd
    rw [e] at h
    simpa [dom] using h
  have disj : ∀ b, b ∈ dom μf → b ∉ dom μa := fun b hb ha => (List.nodup_append.mp nd).2.2 b ha b hb rfl
  have own : ∀ p ∈ μf, w.S p.1 = none ∧ MIs K w.S w.H p.1 p.2 := fun p hp => ok.own p (e ▸ List.mem_append_right _ hp)
  refine ⟨⟨ok'.sub, fun p hp => ?_, ?_⟩, ⟨l.ex, fun a o h1 h2 h3 => l.kp a o h1 h2 fun hm => h3 ?_, fun a ha => ?_⟩⟩
  · rcases List.mem_append.mp hp with h | h
    · exact ok'.own p h
    · obtain ⟨h1, h2⟩ := own p h
      have hd := disj p.1 (List.mem_map.mpr ⟨p, h, rfl⟩)
      obtain ⟨o, ho⟩ := h2.there
      obtain ⟨_, z2⟩ := l.kp p.1 o ho h1 hd
      exact ⟨z2, h2.mono l.ex fun u hu => (l.kp p.1 u hu h1 hd).1⟩
  · show (dom (w'.μ ++ μf)).Nodup
    unfold dom
    rw [List.map_append]
    refine List.nodup_append.mpr ⟨ok'.nd, (List.nodup_append.mp nd).2.1, fun a ha b hb z => ?_⟩
    subst z
    rcases l.nw a ha with h | h
    · exact disj a hb h
    · obtain ⟨p, hp, ep⟩ := List.mem_map.mp hb
      obtain ⟨o, ho⟩ := (own p hp).2.there
      rw [ep] at ho
      have h : w.H a = none := h
      rw [ho] at h
      cases h
  · rw [e]
    show a ∈ (μa ++ μf).map (·.1)
    rw [List.map_append]
    exact List.mem_append_left _ hm
  · have ha : a ∈ (w'.μ ++ μf).map (·.1) := ha
    rw [List.map_append] at ha
    rw [e]
    show a ∈ (μa ++ μf).map (·.1) ∨ w.H a = none
    rw [List.map_append]
    rcases List.mem_append.mp ha with h | h
    · rcases l.nw a h with z | z
      · exact .inl (List.mem_append_left _ z)
      · exact .inr z
    · exact .inl (List.mem_append_right _ h)
theorem Wd.Ok.part {w : Wd} {μa μf : Store} (ok : w.Ok K) (e : w.μ = μa ++ μf) : Wd.Ok K ⟨w.S, w.H, μa⟩ := by
  refine ⟨ok.sub, fun p hp => ok.own p (e ▸ List.mem_append_left _ hp), ?_⟩
  have h := ok.nd
  rw [e] at h
  unfold dom at h
  rw [List.map_append] at h
  exact (List.nodup_append.mp h).1
theorem sc_call {F : FD} {ds : List D} {Q : D → Store → Prop} (h : ∃ μa μf, μ = μa ++ μf ∧ F ds μa (fun d μ' => Q d (μ' ++ μf)) fun C fs es μ' => Ed C fs es (μ' ++ μf)) : SC K E Ed (fun vs H Q => spD K F (vs ++ []) H Q E) ds μ Q := by
  intro w vs e ok i x k hk
  obtain ⟨μa, μf, em, hF⟩ := h
  have e2 : w.μ = μa ++ μf := e.trans em
  rw [List.append_nil]
  refine ⟨⟨w.S, w.H, μa⟩, ds, _, _, rfl, ok.part e2, i, hF, fun v d w' q i' ok' l' => ?_, fun C fs us es w' dd q hd hl ia ok' l' => ?_⟩
  · obtain ⟨f1, f2⟩ := frame ok e2 ok' l'
    exact hk v d ⟨w'.S, w'.H, w'.μ ++ μf⟩ q i' f1 f2
  · obtain ⟨f1, f2⟩ := frame ok e2 ok' l'
    exact x C fs us es ⟨w'.S, w'.H, w'.μ ++ μf⟩ dd q hd hl ia f1 f2
theorem se_call {F : FD} {Q : D → Store → Prop} (h : SA K E Ed tas ρ μ fun ds μ1 => ∃ μa μf, μ1 = μa ++ μf ∧ F ds μa (fun d μ' => Q d (μ' ++ μf)) fun C fs es μ' => Ed C fs es (μ' ++ μf)) : SE K E Ed (tCall (spD K F) [] E tas) ρ μ Q := by
  intro w σ e ok l x k hk
  refine h w σ e ok l x _ fun vs ds w1 q1 i1 ok1 l1 => ?_
  exact sc_call q1 w1 vs rfl ok1 i1 (x.step ok ok1 l1) k (KE.step hk ok ok1 l1)
theorem lookup_none {fs : List Str} {vs : List V} {m : Str} (h : m ∉ fs) : (fs.zip vs).lookup m = none := by
  rw [List.lookup_eq_none_iff]
  intro p hp
  have hm : p.1 ∈ fs := (List.of_mem_zip hp).1
  have e : m ≠ p.1 := fun z => h (z ▸ hm)
  simpa using e
/-- o.m(..), o may change -/
theorem se_meth {C : Addr} {m : Str} {F : FD} {Q : D → Store → Prop} (h : SE K E Ed ta ρ μ fun o μ0 => ∃ a fs ds, o = .ref a ∧ (a, D.ins C fs ds) ∈ μ0 ∧ m ∉ fs ∧ SA K E Ed tas ρ μ0 fun es μ1 => ∃ μa μf, μ1 = μa ++ μf ∧
    F (.ref a :: es) μa (fun d μ' => Q d (μ' ++ μf)) fun C fs es μ' => Ed C fs es (μ' ++ μf)) : SE K E Ed (tMeth C m (spD K F) [] E ta tas) ρ μ Q := by
  intro w σ e ok l x k hk
  refine h w σ e ok l x _ fun v d w1 ⟨a, fs, ds, e1, hm, hn, q1⟩ i1 ok1 l1 => ?_
  subst e1
  cases i1
  obtain ⟨_, dx, vs, h1, h2, h3⟩ := ok1.own _ hm
  refine ⟨a, dx, _, rfl, h1, lookup_none hn, ?_⟩
  refine q1 w1 σ rfl ok1 (l.mono l1.ex) (x.step ok ok1 l1) _ fun vs es w2 q2 i2 ok2 l2 => ?_
  have l12 := l1.trans ok ok1 l2
  exact sc_call (K := K) (E := E) (Ed := Ed) q2 w2 (.ref a :: vs) rfl ok2 (.cons (.ref a) i2) (x.step ok ok2 l12) k (KE.step hk ok ok2 l12)
theorem se_methS {C : Addr} {m : Str} {F : FD} {Q : D → Store → Prop} (h : SE K E Ed ta ρ μ fun o μ0 => ∃ fs ds, o = .ins C fs ds ∧ m ∉ fs ∧ SA K E Ed tas ρ μ0 fun es μ1 => ∃ μa μf, μ1 = μa ++ μf ∧
    F (.ins C fs ds :: es) μa (fun d μ' => Q d (μ' ++ μf)) fun C fs es μ' => Ed C fs es (μ' ++ μf)) : SE K E Ed (tMeth C m (spD K F) [] E ta tas) ρ μ Q := by
  intro w σ e ok l x k hk
  refine h w σ e ok l x _ fun v d w1 ⟨fs, ds, e1, hn, q1⟩ i1 ok1 l1 => ?_
  subst e1
  cases i1 with
  | @ins a _ dx _ vs _ h1 h2 h3 =>
  refine ⟨a, dx, _, rfl, ok1.sub _ _ h1, lookup_none hn, ?_⟩
  refine q1 w1 σ rfl ok1 (l.mono l1.ex) (x.step ok ok1 l1) _ fun vs' es w2 q2 i2 ok2 l2 => ?_
  have l12 := l1.trans ok ok1 l2
  exact sc_call (K := K) (E := E) (Ed := Ed) q2 w2 (.ref a :: vs') rfl ok2 (.cons (.ins (l2.ex _ _ h1) h2 (h3.mono l2.ex)) i2) (x.step ok ok2 l12) k (KE.step hk ok ok2 l12)
/-- C(..) -/
theorem se_make {C : Addr} {F : FD} {Q : D → Store → Prop} (h : SA K E Ed tas ρ μ fun ds μ1 => ∀ a, F (.ref a :: ds) [(a, .ins C [] [])] (fun d μ' => d = .non ∧ Q (.ref a) (μ' ++ μ1)) fun C fs es μ' => Ed C fs es (μ' ++ μ1)) : SE K E Ed (tMake C (spD K F) [] E tas) ρ μ Q := by
  intro w σ e ok l x k hk
  refine h w σ e ok l x _ fun vs ds w1 q1 i1 ok1 l1 => ?_
  intro a dx ha hdx hne
  rw [List.append_nil]
  obtain ⟨s1, m1⟩ := ok1.fresh ha
  obtain ⟨s2, m2⟩ := ok1.fresh hdx
  have okx : Wd.Ok K ⟨w1.S, upd w1.H dx (.own a), w1.μ⟩ := ok1.heap s2 m2 _
  have lx : w1.le ⟨w1.S, upd w1.H dx (.own a), w1.μ⟩ := (Wd.le.refl w1).heap hdx _
  have ha2 : upd w1.H dx (.own a) a = none := by rw [upd_ne (Ne.symm hne)]; exact ha
  have ok2 := okx.add (p := a) ha2 (o := .ins C dx []) (d := .ins C [] []) ⟨dx, [], upd_same, rfl, .nil⟩
  have l2 := lx.trans ok1 okx (Wd.le_add (w := ⟨w1.S, upd w1.H dx (.own a), w1.μ⟩) ha2 (.ins C dx []) (.ins C [] []))
  have e2 : ((⟨w1.S, upd w1.H dx (.own a), w1.μ⟩ : Wd).add a (.ins C dx []) (.ins C [] [])).μ = [(a, D.ins C [] [])] ++ w1.μ := rfl
  refine ⟨⟨w1.S, upd (upd w1.H dx (.own a)) a (.ins C dx []), [(a, .ins C [] [])]⟩, .ref a :: ds, _, _, rfl, ok2.part e2, .cons (.ref a) i1, q1 a, fun v d w' ⟨q0, q⟩ i' ok' l' => ?_, fun C fs us es w' dd q hd hl ia ok' l' => ?_⟩
  · obtain ⟨f1, f2⟩ := frame ok2 e2 ok' l'
    subst q0
    cases i'
    exact ⟨rfl, hk _ _ ⟨w'.S, w'.H, w'.μ ++ w1.μ⟩ q (.ref a) f1 (l1.trans ok ok1 (l2.trans ok1 ok2 f2))⟩
  · obtain ⟨f1, f2⟩ := frame ok2 e2 ok' l'
    exact x C fs us es ⟨w'.S, w'.H, w'.μ ++ w1.μ⟩ dd q hd hl ia f1 (l1.trans ok ok1 (l2.trans ok1 ok2 f2))
end
/-! ### a def and its promise -/
section
variable {P : Program} {w : World} {K : PySem.W.Frag} {mg : Str → Option Value} {base : Heap}
/-- the environment at the entry -/
def startE (N : List Str) (ds : List D) : Env := ds.map some ++ List.replicate (N.length - ds.length) none
theorem startE_loc {S : Hp} {N : List Str} {vs : List V} {ds : List D} (h : IsAll K S vs ds) : LocD K S (L2.start N vs) (startE N ds) := by
  refine ⟨by simp [L2.start, startE, h.length], fun i d hd => ?_⟩
  unfold startE at hd
  unfold L2.start
  by_cases z : i < ds.length
  · rw [List.getElem?_append_left (by simpa using z), List.getElem?_map] at hd
    cases hx : ds[i]? with
    | none => rw [hx] at hd; cases hd
    | some e =>
      rw [hx] at hd
      cases hd
      obtain ⟨v, hv, is⟩ := h.at hx
      refine ⟨v, ?_, is⟩
      rw [List.getElem?_append_left (by rw [List.length_map, h.length]; exact z), List.getElem?_map, hv]
      rfl
  · rw [List.getElem?_append_right (by simpa using Nat.le_of_not_lt z)] at hd
    rw [List.getElem?_replicate] at hd
    split at hd
    · cases hd
    · cases hd
/-- THE RULE for a def -/
theorem fn_D {x qual : Str} {st : Stmt} {f : Addr} {fd : FuncData} {N ps : List Str} {k : Nat} {F : FD} (FU : Fun K x qual st f fd) (Sc : FnScope N ps (defScope st)) (len : ∀ ds μ Q Ed, F ds μ Q Ed → ds.length = ps.length)
    (hbody : ∀ (cdv : Value) (A : Around) (outer : List PySem.Env) (s : Shared) (H : Hp) (E : XK), Room k (A.deeper (PyProof.Rows.envOfC qual (defScope st) s.heap.objs.size f cdv)) →
      ∃ t, PSs (cxOf (L2.CX P w) P w K mg base N qual (defScope st) f cdv A outer s H E) (defBody st) t ∧ ∀ ds μ Qd Ed, F ds μ Qd Ed → SS K E Ed t (startE N ds) μ ⟨fun _ μ' => Qd .non μ', Qd, fun _ _ => False, fun _ _ => False⟩) : FnOk P w K mg base (L2.CX P w) (k + 1) f fd ps (spD K F) := by
  refine FU.okX Sc (fun vs H Q E h => ?_) fun cdv A outer s H vs Q E hr h => ?_
  · obtain ⟨w', ds, Qd, Ed, _, _, ia, hF, _⟩ := h
    rw [ia.length]
    exact len _ _ _ _ hF
  · obtain ⟨t, ht, hs⟩ := hbody cdv A outer s H E hr
    refine ⟨t, ht, ?_⟩
    obtain ⟨w', ds, Qd, Ed, rfl, ok, ia, hF, hk, hx⟩ := h
    exact hs ds w'.μ Qd Ed hF w' _ rfl ok (startE_loc ia) hx _ ⟨fun σ ρ w2 q lo ok2 l2 => hk .non .non w2 q .non ok2 l2, fun v d w2 q i ok2 l2 => hk v d w2 q i ok2 l2, fun _ _ _ q => q.elim, fun _ _ _ q => q.elim⟩
/-- a module's def as callers see it -/
structure Has (P : Program) (w : World) (K : PySem.W.Frag) (mg : Str → Option Value) (base : Heap) (k : Nat) (x : Str) (ps : List Str) (sp : Sp) : Prop where
  ex : ∃ (f : Addr) (fd : FuncData), FnOk P w K mg base (L2.CX P w) k f fd ps sp ∧ mg x = some (.ref f) ∧ PySem.W.keepIn K (.ref f) = true ∧ Binds K fd ps []
theorem pe_has {X : Cx} {k : Nat} {x : Str} {ps : List Str} {sp : Sp} {e : Expr} {es : List Expr} {t : TA} {p pos : Pos} {E : XK} (h : Has X.prog X.w X.K X.mg X.base k x ps sp) (hr : Room k X.A) (hg : Gl X x) (hx : Passes (L2.CX X.prog X.w) X E) (ha : PA X (e :: es) t)
    (hdb : (x == ("__debug__" : Str)) = false := by decide) (he : starEach (e :: es) X.env = (false, eval e X.env) :: starEach es X.env := by rfl) (hpl : (backTo pos (starEach es X.env)).any (·.1) = false := by rfl) : PE X (.Call (.Name x p) (e :: es) [] pos) (tCall sp [] E t) := by
  obtain ⟨f, fd, F, hm, hk, hb⟩ := h.ex
  exact pe_call F hr hg hm hk hb .nil hx ha hdb he hpl
theorem pe_has0 {X : Cx} {k : Nat} {x : Str} {ps : List Str} {sp : Sp} {p pos : Pos} {E : XK} (h : Has X.prog X.w X.K X.mg X.base k x ps sp) (hr : Room k X.A) (hg : Gl X x) (hx : Passes (L2.CX X.prog X.w) X E)
    (hdb : (x == ("__debug__" : Str)) = false := by decide) : PE X (.Call (.Name x p) [] [] pos) (tCall sp [] E tNil) := by
  obtain ⟨f, fd, F, hm, hk, hb⟩ := h.ex
  exact pe_call0 F hr hg hm hk hb .nil hx hdb
end
end DD
set_option Elab.async false
set_option linter.all false
set_option maxRecDepth 100000
set_option maxHeartbeats 1000000
namespace DD
open PySem L2
/-! ### operators by values, whatever kinds the values are of -/
section
variable {X : Cx}
def rAddX (K : PySem.W.Frag) : R2 := fun x y H Q => rI0 (fun i j => .int (i + j)) x y H Q ∨ (∃ i j, x = .str i ∧ y = .str j ∧ i.length + j.length ≤ sizeLine ∧ Q (.str (i ++ j)) H) ∨ rCat x y H Q ∨ rCatA K x y H Q
theorem op_addX : OpR X (binaryOp .Add) (rAddX X.K) := OpR.or op_add (OpR.or op_add_str (OpR.or op_cat op_catA))
def rMulX : R2 := fun x y H Q => rI CMul (fun i j => .int (i * j)) x y H Q ∨ rRep x y H Q
theorem op_mulX : OpR X (binaryOp .Mult) rMulX := OpR.or op_mul op_rep
def rEqX (K : PySem.W.Frag) : R2 := fun x y H Q => rEq x y H Q ∨ rEqD K x y H Q
theorem op_eqX (hu : X.A.units + 64 < cLine) : OpR X (compareOp .Eq) (rEqX X.K) := OpR.or op_eq (op_eqD hu)
def rNeX (K : PySem.W.Frag) : R2 := fun x y H Q => rNe x y H Q ∨ rNeD K x y H Q
theorem op_neX (hu : X.A.units + 64 < cLine) : OpR X (compareOp .NotEq) (rNeX X.K) := OpR.or op_ne (op_neD hu)
def rInX (K : PySem.W.Frag) : R2 := fun x y H Q => rInS x y H Q ∨ rIn K false x y H Q ∨ rInD K x y H Q
theorem op_inX (hu : X.A.units + 65 < cLine) : OpR X (compareOp .In) (rInX X.K) := OpR.or op_inS (OpR.or op_in_seq (op_inD hu))
def rNotInX (K : PySem.W.Frag) : R2 := fun x y H Q => rNotInS x y H Q ∨ rIn K true x y H Q ∨ rNotInD K x y H Q
theorem op_notInX (hu : X.A.units + 65 < cLine) : OpR X (compareOp .NotIn) (rNotInX X.K) := OpR.or op_notInS (OpR.or op_notIn_seq (op_notInD hu))
/-- is None, is True, is False -/
def oneV : V → Bool
  | .non => true
  | .bl _ => true
  | _ => false
def rIsX : R2 := fun x y H Q => oneV y = true ∧ Q (.bl (decide (x = y))) H
def rIsNotX : R2 := fun x y H Q => oneV y = true ∧ Q (.bl (!decide (x = y))) H
theorem plainIs_one {x y : V} {u v : Value} (rx : RelV x u) (ry : RelV y v) (h : oneV y = true) : plainIs u v = true := by
  cases y with
  | non =>
    cases ry
    cases x <;> first
      | (cases rx; rfl)
      | (obtain ⟨t, rfl⟩ := rx; rfl)
  | bl b =>
    cases ry
    cases x <;> first
      | (cases rx; rfl)
      | (obtain ⟨t, rfl⟩ := rx; rfl)
  | _ => cases h
theorem rel_one {x y : V} {u v : Value} (rx : RelV x u) (ry : RelV y v) (h : oneV y = true) : u = v → x = y := by
  intro e
  subst e
  exact RelV.inj rx ry
theorem op_isX : OpR X (compareOp .Is) rIsX := by
  intro pins s σ H x y v u Q I rx ry h
  obtain ⟨h1, q⟩ := h
  by_cases e : x = y
  · subst e
    have e2 : v = u := by
      cases x with
      | non => cases rx; cases ry; rfl
      | bl b => cases rx; cases ry; rfl
      | _ => cases h1
    subst e2
    exact wpAny_is_self (plainIs_one rx ry h1) ⟨.bl true, H, I, rfl, by simpa using q⟩
  · exact wpAny_is_other (plainIs_one rx ry h1) (fun z => e (rel_one rx ry h1 z)) ⟨.bl false, H, I, rfl, by simpa [e] using q⟩
theorem op_isNotX : OpR X (compareOp .IsNot) rIsNotX := by
  intro pins s σ H x y v u Q I rx ry h
  obtain ⟨h1, q⟩ := h
  by_cases e : x = y
  · subst e
    have e2 : v = u := by
      cases x with
      | non => cases rx; cases ry; rfl
      | bl b => cases rx; cases ry; rfl
      | _ => cases h1
    subst e2
    exact wpAny_isNot_self (plainIs_one rx ry h1) ⟨.bl false, H, I, rfl, by simpa using q⟩
  · exact wpAny_isNot_other (plainIs_one rx ry h1) (fun z => e (rel_one rx ry h1 z)) ⟨.bl true, H, I, rfl, by simpa [e] using q⟩
def rSlX (K : PySem.W.Frag) : V → Option Int → Option Int → Hp → VK → Prop := fun x lo hi H Q => rSlS x lo hi H Q ∨ rSlL K x lo hi H Q ∨ rSlA K x lo hi H Q
theorem sl_X : SlR X (rSlX X.K) := SlR.or sl_str (SlR.or sl_list sl_tupA)
def rLenX (K : PySem.W.Frag) : List V → Hp → VK → Prop := fun xs H Q => (∃ p ys, xs = [.ref p] ∧ (SqL K H p ys ∨ SqT K H p ys) ∧ Q (.int ys.length) H) ∨ ∃ z, xs = [.str z] ∧ z.length ≤ sizeLine ∧ Q (.int z.length) H
theorem call_lenX : CallR X (.builtin "len") (rLenX X.K) := CallR.or call_len_seq call_len_str
def rIsiX (K : PySem.W.Frag) : List V → Hp → VK → Prop := fun xs H Q => rIsi K xs H Q ∨ rIsiT K xs H Q
theorem call_isiX : CallR X (.builtin "isinstance") (rIsiX X.K) := CallR.or call_isi call_isiT
def rListX (K : PySem.W.Frag) : List V → Hp → VK → Prop := fun xs H Q => ∃ p ys, xs = [.ref p] ∧ (SqL K H p ys ∨ SqT K H p ys) ∧ ∀ l, H l = none → Q (.ref l) (upd H l (.lst ys))
theorem call_listX : CallR X (.type "list") (rListX X.K) := call_list_of
def rTupleX (K : PySem.W.Frag) : List V → Hp → VK → Prop := fun xs H Q => ∃ p ys, xs = [.ref p] ∧ ((SqL K H p ys ∧ ∀ l, H l = none → Q (.ref l) (upd H l (.tup ys))) ∨ (SqT K H p ys ∧ Q (.ref p) H))
theorem call_tupleX : CallR X (.type "tuple") (rTupleX X.K) := call_tuple_of
def rIntX : List V → Hp → VK → Prop := fun xs H Q => (∃ i, xs = [.int i] ∧ Q (.int i) H) ∨ ∃ k, xs = [.bl k] ∧ Q (.int (if k then 1 else 0)) H
theorem call_intX : CallR X (.type "int") rIntX := call_int1
def rStrX : List V → Hp → VK → Prop := fun xs H Q => ∃ i, xs = [.int i] ∧ i.natAbs.log2 < 1920 ∧ Q (.str (toString i)) H
theorem call_strX : CallR X (.type "str") rStrX := call_str_int
def rMax2X : List V → Hp → VK → Prop := fun xs H Q => ∃ i j, xs = [.int i, .int j] ∧ Q (.int (if j > i then j else i)) H
theorem call_max2X (hc : X.calm = true) : CallR X (.builtin "max") rMax2X := call_max2 hc
/-- o.f = .. as a target -/
def gFld (K : PySem.W.Frag) (to : TE) (f : Str) : TG := fun y σ H Q => to σ H fun x H1 => ∃ a C dx fs, x = .ref a ∧ H1 a = some (.ins C dx fs) ∧ Cls K C ∧ NoAttr K C f ∧ fs.length < 1000 ∧ Q σ (upd H1 a (.ins C dx (putF f y fs)))
theorem pg_fld {o : Expr} {f : Str} {pos : Pos} {to : TE} (ho : PE X o to) : PG X (.Attribute o f pos) (gFld X.K to f) := by
  refine ⟨fun pins s σ H v u Q I r h => ?_⟩
  rw [assign_Attribute]
  refine wpAny_bind (wpAny_holding (thn (ho.run pins s σ H _ I h) fun ov s1 ⟨x, H1, I1, r1, a, C, dx, fs, e1, ea, c, n, l, q⟩ => ?_))
  subst e1
  obtain rfl : ov = Value.ref a := r1
  refine wpAny_bind (wpAny_standAt (wpAny_bind (wpAny_holding ?_)))
  refine setattr_ok I1 ea c n l r fun s3 I3 => ?_
  exact wpAny_release ⟨σ, _, I3, q⟩
end
section
variable {K : PySem.W.Frag} {E : XK} {Ed : XD} {ρ : Env} {μ : Store} {ta tb te : TE} {t u : TT} {tas : TA} {Q : D → Store → Prop}
/-- operators that only look, whose answer is a scalar -/
theorem sr_of {r : R2} {d1 d2 d3 : D} (h : ∀ (w : Wd) (v1 v2 : V), w.Ok K → w.μ = μ → Is K w.S v1 d1 → Is K w.S v2 d2 → ∃ v3, Is K w.S v3 d3 ∧ ∀ k : VK, k v3 w.H → r v1 v2 w.H k) (q : Q d3 μ) : SR K E Ed r d1 d2 μ Q := by
  intro w v1 v2 e ok i1 i2 x k hk
  obtain ⟨v3, i3, g⟩ := h w v1 v2 ok e i1 i2
  exact g k (hk v3 d3 w (e ▸ q) i3 ok (Wd.le.refl w))
theorem sc_of {r : List V → Hp → VK → Prop} {ds : List D} {d3 : D} (h : ∀ (w : Wd) (vs : List V), w.Ok K → w.μ = μ → IsAll K w.S vs ds → ∃ v3, Is K w.S v3 d3 ∧ ∀ k : VK, k v3 w.H → r vs w.H k) (q : Q d3 μ) : SC K E Ed r ds μ Q := by
  intro w vs e ok i1 x k hk
  obtain ⟨v3, i3, g⟩ := h w vs ok e i1
  exact g k (hk v3 d3 w (e ▸ q) i3 ok (Wd.le.refl w))
theorem sr_addI {i j : Int} (q : Q (.int (i + j)) μ) : SR K E Ed (rAddX K) (.int i) (.int j) μ Q := sr_of (fun w v1 v2 ok e i1 i2 => by
  cases i1; cases i2
  exact ⟨_, .int _, fun k h => .inl ⟨i, j, rfl, rfl, h⟩⟩) q
theorem sr_addS {i j : Str} (hl : i.length + j.length ≤ sizeLine) (q : Q (.str (i ++ j)) μ) : SR K E Ed (rAddX K) (.str i) (.str j) μ Q := sr_of (fun w v1 v2 ok e i1 i2 => by
  cases i1; cases i2
  exact ⟨_, .str _, fun k h => .inr (.inl ⟨i, j, rfl, rfl, hl, h⟩)⟩) q
theorem sr_addL {ds es : List D} (hl : ds.length + es.length ≤ sizeLine) (q : Q (.lst (ds ++ es)) μ) : SR K E Ed (rAddX K) (.lst ds) (.lst es) μ Q := by
  intro w v1 v2 e ok i1 i2 x k hk
  cases i1 with
  | @lst a vs _ h1 h2 =>
  cases i2 with
  | @lst b ws _ g1 g2 =>
  refine .inr (.inr (.inl ⟨a, b, vs, ws, rfl, rfl, ok.sub _ _ h1, ok.sub _ _ g1, by rw [h2.length, g2.length]; exact hl, fun p hp => ?_⟩))
  have le := Wd.le_lay ok hp (.lst (vs ++ ws))
  exact hk _ _ (w.lay p (.lst (vs ++ ws))) (by show Q _ w.μ; rw [e]; exact q) (.lst upd_same ((h2.append g2).mono le.ex)) (ok.lay hp _) le
theorem sr_addT {ds es : List D} (hl : ds.length + es.length ≤ sizeLine) (q : Q (.tup (ds ++ es)) μ) : SR K E Ed (rAddX K) (.tup ds) (.tup es) μ Q := by
  intro w v1 v2 e ok i1 i2 x k hk
  cases i1 with
  | @tup a vs _ h1 h2 =>
  cases i2 with
  | @tup b ws _ g1 g2 =>
  refine .inr (.inr (.inr ⟨a, b, vs, ws, rfl, rfl, ex_t ok.sub h1, ex_t ok.sub g1, by rw [h2.length, g2.length]; exact hl, fun e1 => ?_, fun _ e1 => ?_, fun _ _ p hp => ?_⟩))
  · subst e1
    cases h2
    exact hk _ _ w (e ▸ q) (.tup g1 g2) ok (Wd.le.refl w)
  · subst e1
    cases g2
    rw [List.append_nil] at q
    exact hk _ _ w (e ▸ q) (.tup h1 h2) ok (Wd.le.refl w)
  · have le := Wd.le_lay ok hp (.tup (vs ++ ws))
    exact hk _ _ (w.lay p (.tup (vs ++ ws))) (by show Q _ w.μ; rw [e]; exact q) (.tup (SqT.of upd_same) ((h2.append g2).mono le.ex)) (ok.lay hp _) le
theorem sr_sub {i j : Int} (q : Q (.int (i - j)) μ) : SR K E Ed (rI0 fun i j => .int (i - j)) (.int i) (.int j) μ Q := sr_of (fun w v1 v2 ok e i1 i2 => by
  cases i1; cases i2
  exact ⟨_, .int _, fun k h => ⟨i, j, rfl, rfl, h⟩⟩) q
theorem sr_cmp {i j : Int} {g : Int → Int → Bool} (q : Q (.bl (g i j)) μ) : SR K E Ed (rI0 fun i j => .bl (g i j)) (.int i) (.int j) μ Q := sr_of (fun w v1 v2 ok e i1 i2 => by
  cases i1; cases i2
  exact ⟨_, .bl _, fun k h => ⟨i, j, rfl, rfl, h⟩⟩) q
theorem sr_I {i j : Int} {C : Int → Int → Prop} {g : Int → Int → Int} (hc : C i j) (q : Q (.int (g i j)) μ) : SR K E Ed (rI C fun i j => .int (g i j)) (.int i) (.int j) μ Q := sr_of (fun w v1 v2 ok e i1 i2 => by
  cases i1; cases i2
  exact ⟨_, .int _, fun k h => ⟨i, j, rfl, rfl, hc, h⟩⟩) q
theorem sr_mulI {i j : Int} (hc : CMul i j) (q : Q (.int (i * j)) μ) : SR K E Ed rMulX (.int i) (.int j) μ Q := sr_of (fun w v1 v2 ok e i1 i2 => by
  cases i1; cases i2
  exact ⟨_, .int _, fun k h => .inl ⟨i, j, rfl, rfl, hc, h⟩⟩) q
theorem sr_rep {ds : List D} {n : Nat} (hl : ds.length * n ≤ sizeLine) (hn : n ≤ 1000000) (q : Q (.lst (List.replicate n ds).flatten) μ) : SR K E Ed rMulX (.lst ds) (.int n) μ Q := by
  intro w v1 v2 e ok i1 i2 x k hk
  cases i2
  cases i1 with
  | @lst a vs _ h1 h2 =>
  refine .inr ⟨a, n, vs, rfl, rfl, ok.sub _ _ h1, by omega, by omega, by rw [h2.length, Int.toNat_natCast]; exact hl, fun p hp => ?_⟩
  have le := Wd.le_lay ok hp (.lst (List.replicate (n : Int).toNat vs).flatten)
  refine hk _ _ (w.lay p (.lst (List.replicate (n : Int).toNat vs).flatten)) (by show Q _ w.μ; rw [e]; exact q) (.lst upd_same ?_) (ok.lay hp _) le
  rw [Int.toNat_natCast]
  exact (h2.rep n).mono le.ex
/-- == of scalars -/
def scalD : D → D → Option Bool
  | .int i, .int j => some (decide (i = j))
  | .str x, .str y => some (decide (x = y))
  | .bl x, .bl y => some (decide (x = y))
  | .non, .non => some true
  | _, _ => none
theorem scal_is {S : Hp} {v1 v2 : V} {d1 d2 : D} {b : Bool} (h : scalD d1 d2 = some b) (i1 : Is K S v1 d1) (i2 : Is K S v2 d2) : scal v1 v2 = true ∧ decide (v1 = v2) = b := by
  cases i1 <;> cases i2 <;> (cases h) <;> exact ⟨rfl, by simp⟩
theorem sr_eqS {d1 d2 : D} {b : Bool} (h : scalD d1 d2 = some b) (q : Q (.bl b) μ) : SR K E Ed (rEqX K) d1 d2 μ Q := sr_of (fun w v1 v2 ok e i1 i2 => by
  obtain ⟨h1, h2⟩ := scal_is h i1 i2
  exact ⟨_, .bl _, fun k h => .inl ⟨h1, by rw [h2]; exact h⟩⟩) q
theorem sr_neS {d1 d2 : D} {b : Bool} (h : scalD d1 d2 = some b) (q : Q (.bl (!b)) μ) : SR K E Ed (rNeX K) d1 d2 μ Q := sr_of (fun w v1 v2 ok e i1 i2 => by
  obtain ⟨h1, h2⟩ := scal_is h i1 i2
  exact ⟨_, .bl _, fun k h => .inl ⟨h1, by rw [h2]; exact h⟩⟩) q
/-- == of plain data -/
theorem sr_eqD {d1 d2 : D} (p1 : plain d1 = true) (p2 : plain d2 = true) (z1 : SeqAt.shaped (pyOf d1) = true) (z2 : SeqAt.shaped (pyOf d2) = true) (q : Q (.bl (PyData.eqv (pyOf d1) (pyOf d2))) μ) : SR K E Ed (rEqX K) d1 d2 μ Q := sr_of (fun w v1 v2 ok e i1 i2 =>
  ⟨_, .bl _, fun k h => .inr ⟨_, _, (i1.mono ok.sub).dp p1, (i2.mono ok.sub).dp p2, z1, z2, h⟩⟩) q
theorem sr_neD {d1 d2 : D} (p1 : plain d1 = true) (p2 : plain d2 = true) (z1 : SeqAt.shaped (pyOf d1) = true) (z2 : SeqAt.shaped (pyOf d2) = true) (q : Q (.bl (!PyData.eqv (pyOf d1) (pyOf d2))) μ) : SR K E Ed (rNeX K) d1 d2 μ Q := sr_of (fun w v1 v2 ok e i1 i2 =>
  ⟨_, .bl _, fun k h => .inr ⟨_, _, (i1.mono ok.sub).dp p1, (i2.mono ok.sub).dp p2, z1, z2, h⟩⟩) q
/-- is None, True, False -/
def isD : D → D → Option Bool
  | .non, .non => some true
  | _, .non => some false
  | .bl a, .bl b => some (decide (a = b))
  | _, .bl _ => some false
  | _, _ => none
theorem isD_is {S : Hp} {v1 v2 : V} {d1 d2 : D} {b : Bool} (h : isD d1 d2 = some b) (i1 : Is K S v1 d1) (i2 : Is K S v2 d2) : oneV v2 = true ∧ decide (v1 = v2) = b := by
  cases i2 <;> cases i1 <;> (cases h) <;> exact ⟨rfl, by simp⟩
theorem sr_is {d1 d2 : D} {b : Bool} (h : isD d1 d2 = some b) (q : Q (.bl b) μ) : SR K E Ed rIsX d1 d2 μ Q := sr_of (fun w v1 v2 ok e i1 i2 => by
  obtain ⟨h1, h2⟩ := isD_is h i1 i2
  exact ⟨_, .bl _, fun k h => ⟨h1, by rw [h2]; exact h⟩⟩) q
theorem sr_isNot {d1 d2 : D} {b : Bool} (h : isD d1 d2 = some b) (q : Q (.bl (!b)) μ) : SR K E Ed rIsNotX d1 d2 μ Q := sr_of (fun w v1 v2 ok e i1 i2 => by
  obtain ⟨h1, h2⟩ := isD_is h i1 i2
  exact ⟨_, .bl _, fun k h => ⟨h1, by rw [h2]; exact h⟩⟩) q
/-- a sign in a text; a text among texts -/
theorem sr_inS {c : Nat} {z : Str} (q : Q (.bl (decide (c ∈ z.cps.toList))) μ) : SR K E Ed (rInX K) (.str ⟨#[c]⟩) (.str z) μ Q := sr_of (fun w v1 v2 ok e i1 i2 => by
  cases i1; cases i2
  exact ⟨_, .bl _, fun k h => .inl ⟨c, z, rfl, rfl, h⟩⟩) q
theorem sr_ninS {c : Nat} {z : Str} (q : Q (.bl (!decide (c ∈ z.cps.toList))) μ) : SR K E Ed (rNotInX K) (.str ⟨#[c]⟩) (.str z) μ Q := sr_of (fun w v1 v2 ok e i1 i2 => by
  cases i1; cases i2
  exact ⟨_, .bl _, fun k h => .inl ⟨c, z, rfl, rfl, h⟩⟩) q
theorem inV_strs (x : Str) (ys : List Str) : inV (.str x) (ys.map V.str) = decide (x ∈ ys) := by
  induction ys with
  | nil => simp [inV]
  | cons y ys ih =>
    unfold inV at ih ⊢
    rw [List.map_cons, List.any_cons, ih]
    have e : eqV (.str y) (.str x) = decide (y = x) := by
      unfold eqV
      simp [Bool.beq_eq_decide_eq]
    rw [e]
    by_cases h : y = x
    · subst h; simp
    · have h2 : ¬ x = y := fun z => h z.symm
      simp [h, h2]
theorem all_flat (ys : List Str) : (ys.map V.str).all flatV = true := by
  induction ys with
  | nil => rfl
  | cons y ys ih => rw [List.map_cons, List.all_cons, ih]; rfl
theorem sr_inL {x : Str} {ys : List Str} {d : D} (hd : d = .lst (ys.map D.str) ∨ d = .tup (ys.map D.str)) (q : Q (.bl (decide (x ∈ ys))) μ) : SR K E Ed (rInX K) (.str x) d μ Q := sr_of (fun w v1 v2 ok e i1 i2 => by
  cases i1
  refine ⟨_, .bl _, fun k h => .inr (.inl ?_)⟩
  rcases hd with rfl | rfl
  · cases i2 with
    | lst h1 h2 =>
    have e2 := h2.strs_inv
    subst e2
    exact ⟨_, _, rfl, .inl (SqL.of (ok.sub _ _ h1)), rfl, all_flat ys, by show k (.bl (inV _ _)) _; rw [inV_strs]; exact h⟩
  · cases i2 with
    | tup h1 h2 =>
    have e2 := h2.strs_inv
    subst e2
    exact ⟨_, _, rfl, .inr (ex_t ok.sub h1), rfl, all_flat ys, by show k (.bl (inV _ _)) _; rw [inV_strs]; exact h⟩) q
theorem sr_ninL {x : Str} {ys : List Str} {d : D} (hd : d = .lst (ys.map D.str) ∨ d = .tup (ys.map D.str)) (q : Q (.bl (!decide (x ∈ ys))) μ) : SR K E Ed (rNotInX K) (.str x) d μ Q := sr_of (fun w v1 v2 ok e i1 i2 => by
  cases i1
  refine ⟨_, .bl _, fun k h => .inr (.inl ?_)⟩
  rcases hd with rfl | rfl
  · cases i2 with
    | lst h1 h2 =>
    have e2 := h2.strs_inv
    subst e2
    exact ⟨_, _, rfl, .inl (SqL.of (ok.sub _ _ h1)), rfl, all_flat ys, by show k (.bl (!inV _ _)) _; rw [inV_strs]; exact h⟩
  · cases i2 with
    | tup h1 h2 =>
    have e2 := h2.strs_inv
    subst e2
    exact ⟨_, _, rfl, .inr (ex_t ok.sub h1), rfl, all_flat ys, by show k (.bl (!inV _ _)) _; rw [inV_strs]; exact h⟩) q
/-! ### places -/
theorem atI_is {S : Hp} {vs : List V} {ds : List D} {i : Int} {d : D} (h : IsAll K S vs ds) (e : atI ds i = some d) : ∃ v, atI vs i = some v ∧ Is K S v d := by
  unfold atI at e ⊢
  rw [h.length]
  cases hj : ixN ds.length i with
  | none => rw [hj] at e; cases e
  | some j =>
    rw [hj] at e
    obtain ⟨v, h1, h2⟩ := h.at (show ds[j]? = some d from e)
    exact ⟨v, h1, h2⟩
theorem sr_ixL {ds : List D} {i : Int} {d : D} (h : atI ds i = some d) (q : Q d μ) : SR K E Ed (rIx K) (.lst ds) (.int i) μ Q := sr_of (fun w v1 v2 ok e i1 i2 => by
  cases i2
  cases i1 with
  | lst h1 h2 =>
  obtain ⟨v, hv, is⟩ := atI_is h2 h
  exact ⟨v, is, fun k hk => .inl ⟨_, _, i, v, rfl, rfl, SqL.of (ok.sub _ _ h1), hv, hk⟩⟩) q
theorem sr_ixT {ds : List D} {i : Int} {d : D} (h : atI ds i = some d) (q : Q d μ) : SR K E Ed (rIx K) (.tup ds) (.int i) μ Q := sr_of (fun w v1 v2 ok e i1 i2 => by
  cases i2
  cases i1 with
  | tup h1 h2 =>
  obtain ⟨v, hv, is⟩ := atI_is h2 h
  exact ⟨v, is, fun k hk => .inr (.inl ⟨_, _, i, v, rfl, rfl, ex_t ok.sub h1, hv, hk⟩)⟩) q
theorem sr_ixS {z : Str} {i : Int} {c : Nat} (hz : z.length ≤ sizeLine) (h : atI z.cps.toList i = some c) (q : Q (.str ⟨#[c]⟩) μ) : SR K E Ed (rIx K) (.str z) (.int i) μ Q := sr_of (fun w v1 v2 ok e i1 i2 => by
  cases i2; cases i1
  exact ⟨_, .str _, fun k hk => .inr (.inr ⟨z, i, c, rfl, rfl, hz, h, hk⟩)⟩) q
/-! ### slices -/
def cutD (ds : List D) (lo hi : Option Int) : List D := (ds.drop (HT.sIx ds.length 0 lo)).take (HT.sIx ds.length ds.length hi - HT.sIx ds.length 0 lo)
theorem cut_is {S : Hp} {vs : List V} {ds : List D} (h : IsAll K S vs ds) (lo hi : Option Int) : IsAll K S (cutV vs lo hi) (cutD ds lo hi) := by
  unfold cutV cutD
  rw [h.length]
  exact (h.drop _).take _
theorem sl_S {z : Str} {lo hi : Option Int} (hz : z.length ≤ sizeLine) (q : Q (.str (cutS z lo hi)) μ) : SL K E Ed (rSlX K) (.str z) lo hi μ Q := by
  intro w v e ok i x k hk
  cases i
  exact .inl ⟨z, rfl, hz, hk _ _ w (e ▸ q) (.str _) ok (Wd.le.refl w)⟩
theorem sl_L {ds : List D} {lo hi : Option Int} (q : Q (.lst (cutD ds lo hi)) μ) : SL K E Ed (rSlX K) (.lst ds) lo hi μ Q := by
  intro w v e ok i x k hk
  cases i with
  | @lst a vs _ h1 h2 =>
  refine .inr (.inl ⟨a, vs, rfl, SqL.of (ok.sub _ _ h1), fun p hp => ?_⟩)
  have le := Wd.le_lay ok hp (.lst (cutV vs lo hi))
  exact hk _ _ (w.lay p (.lst (cutV vs lo hi))) (by show Q _ w.μ; rw [e]; exact q) (.lst upd_same ((cut_is h2 lo hi).mono le.ex)) (ok.lay hp _) le
theorem sl_T {ds : List D} {lo hi : Option Int} (q : Q (.tup (cutD ds lo hi)) μ) : SL K E Ed (rSlX K) (.tup ds) lo hi μ Q := by
  intro w v e ok i x k hk
  cases i with
  | @tup a vs _ h1 h2 =>
  refine .inr (.inr ⟨a, vs, rfl, ex_t ok.sub h1, fun ⟨z1, z2⟩ => ?_, fun _ p hp => ?_⟩)
  · have e2 : cutV vs lo hi = vs := by
      unfold cutV
      rw [z1, z2, List.drop_zero, Nat.sub_zero, List.take_length]
    have h3 := cut_is h2 lo hi
    rw [e2] at h3
    exact hk _ _ w (e ▸ q) (.tup h1 h3) ok (Wd.le.refl w)
  · have le := Wd.le_lay ok hp (.tup (cutV vs lo hi))
    exact hk _ _ (w.lay p (.tup (cutV vs lo hi))) (by show Q _ w.μ; rw [e]; exact q) (.tup (SqT.of upd_same) ((cut_is h2 lo hi).mono le.ex)) (ok.lay hp _) le
/-! ### built-in calls -/
theorem sc_lenL {ds : List D} (q : Q (.int ds.length) μ) : SC K E Ed (rLenX K) [.lst ds] μ Q := sc_of (fun w vs ok e i1 => by
  cases i1 with
  | cons a r =>
  cases r
  cases a with
  | lst h1 h2 => exact ⟨_, .int _, fun k hk => .inl ⟨_, _, rfl, .inl (SqL.of (ok.sub _ _ h1)), by rw [h2.length]; exact hk⟩⟩) q
theorem sc_lenT {ds : List D} (q : Q (.int ds.length) μ) : SC K E Ed (rLenX K) [.tup ds] μ Q := sc_of (fun w vs ok e i1 => by
  cases i1 with
  | cons a r =>
  cases r
  cases a with
  | tup h1 h2 => exact ⟨_, .int _, fun k hk => .inl ⟨_, _, rfl, .inr (ex_t ok.sub h1), by rw [h2.length]; exact hk⟩⟩) q
theorem sc_lenS {z : Str} (hz : z.length ≤ sizeLine) (q : Q (.int z.length) μ) : SC K E Ed (rLenX K) [.str z] μ Q := sc_of (fun w vs ok e i1 => by
  cases i1 with
  | cons a r =>
  cases r
  cases a
  exact ⟨_, .int _, fun k hk => .inr ⟨z, rfl, hz, hk⟩⟩) q
theorem sc_lenM {a : Addr} {ds : List D} (hm : (a, D.lst ds) ∈ μ) (q : Q (.int ds.length) μ) : SC K E Ed (rLenX K) [.ref a] μ Q := sc_of (fun w vs ok e i1 => by
  cases i1 with
  | cons a r =>
  cases r
  cases a
  obtain ⟨_, vs, h1, h2⟩ := ok.own _ (e ▸ hm)
  exact ⟨_, .int _, fun k hk => .inl ⟨_, _, rfl, .inl (SqL.of h1), by rw [h2.length]; exact hk⟩⟩) q
theorem sc_int {i : Int} (q : Q (.int i) μ) : SC K E Ed rIntX [.int i] μ Q := sc_of (fun w vs ok e i1 => by
  cases i1 with
  | cons a r =>
  cases r
  cases a
  exact ⟨_, .int _, fun k hk => .inl ⟨i, rfl, hk⟩⟩) q
theorem sc_str {i : Int} (h : i.natAbs.log2 < 1920) (q : Q (.str (toString i)) μ) : SC K E Ed rStrX [.int i] μ Q := sc_of (fun w vs ok e i1 => by
  cases i1 with
  | cons a r =>
  cases r
  cases a
  exact ⟨_, .str _, fun k hk => ⟨i, rfl, h, hk⟩⟩) q
theorem sc_max2 {i j : Int} (q : Q (.int (if j > i then j else i)) μ) : SC K E Ed rMax2X [.int i, .int j] μ Q := sc_of (fun w vs ok e i1 => by
  cases i1 with
  | cons a r =>
  cases r with
  | cons b r =>
  cases r
  cases a
  cases b
  exact ⟨_, .int _, fun k hk => ⟨i, j, rfl, hk⟩⟩) q
theorem sc_all {bs : List Bool} (q : Q (.bl (bs.all id)) μ) : SC K E Ed (rAll K) [.lst (bs.map D.bl)] μ Q := sc_of (fun w vs ok e i1 => by
  cases i1 with
  | cons a r =>
  cases r
  cases a with
  | lst h1 h2 =>
  have e2 := h2.bls_inv
  subst e2
  exact ⟨_, .bl _, fun k hk => ⟨_, bs, rfl, SqL.of (ok.sub _ _ h1), hk⟩⟩) q
theorem sc_list {ds : List D} {d : D} (hd : d = .lst ds ∨ d = .tup ds) (q : Q (.lst ds) μ) : SC K E Ed (rListX K) [d] μ Q := by
  intro w vs e ok i1 x k hk
  cases i1 with
  | cons a r =>
  cases r
  rcases hd with rfl | rfl
  · cases a with
    | @lst a vs _ h1 h2 =>
    refine ⟨a, vs, rfl, .inl (SqL.of (ok.sub _ _ h1)), fun p hp => ?_⟩
    have le := Wd.le_lay ok hp (.lst vs)
    exact hk _ _ (w.lay p (.lst vs)) (by show Q _ w.μ; rw [e]; exact q) (.lst upd_same (h2.mono le.ex)) (ok.lay hp _) le
  · cases a with
    | @tup a vs _ h1 h2 =>
    refine ⟨a, vs, rfl, .inr (ex_t ok.sub h1), fun p hp => ?_⟩
    have le := Wd.le_lay ok hp (.lst vs)
    exact hk _ _ (w.lay p (.lst vs)) (by show Q _ w.μ; rw [e]; exact q) (.lst upd_same (h2.mono le.ex)) (ok.lay hp _) le
theorem sc_listScr {ns : List Int} (q : Q (.lst (ns.map D.int)) μ) : SC K E Ed (rListX K) [.scr ns] μ Q := by
  intro w vs e ok i1 x k hk
  cases i1 with
  | cons a r =>
  cases r
  cases a with
  | @scr a _ h1 =>
  refine ⟨a, _, rfl, .inl (ex_l ok.sub h1), fun p hp => ?_⟩
  have le := Wd.le_lay ok hp (.lst (ns.map V.int))
  exact hk _ _ (w.lay p (.lst (ns.map V.int))) (by show Q _ w.μ; rw [e]; exact q) (.lst upd_same (IsAll.ints ns)) (ok.lay hp _) le
/-- list(..), to be changed -/
theorem sc_listM {ds : List D} {d : D} (hd : d = .lst ds ∨ d = .tup ds) (q : ∀ p, Q (.ref p) ((p, .lst ds) :: μ)) : SC K E Ed (rListX K) [d] μ Q := by
  intro w vs e ok i1 x k hk
  cases i1 with
  | cons a r =>
  cases r
  rcases hd with rfl | rfl
  · cases a with
    | @lst a vs _ h1 h2 =>
    refine ⟨a, vs, rfl, .inl (SqL.of (ok.sub _ _ h1)), fun p hp => ?_⟩
    exact hk _ _ (w.add p (.lst vs) (.lst ds)) (by show Q _ ((p, _) :: w.μ); rw [e]; exact q p) (.ref p) (ok.add hp ⟨vs, upd_same, h2⟩) (Wd.le_add hp _ _)
  · cases a with
    | @tup a vs _ h1 h2 =>
    refine ⟨a, vs, rfl, .inr (ex_t ok.sub h1), fun p hp => ?_⟩
    exact hk _ _ (w.add p (.lst vs) (.lst ds)) (by show Q _ ((p, _) :: w.μ); rw [e]; exact q p) (.ref p) (ok.add hp ⟨vs, upd_same, h2⟩) (Wd.le_add hp _ _)
theorem sc_tuple {ds : List D} {d : D} (hd : d = .lst ds ∨ d = .tup ds) (q : Q (.tup ds) μ) : SC K E Ed (rTupleX K) [d] μ Q := by
  intro w vs e ok i1 x k hk
  cases i1 with
  | cons a r =>
  cases r
  rcases hd with rfl | rfl
  · cases a with
    | @lst a vs _ h1 h2 =>
    refine ⟨a, vs, rfl, .inl ⟨SqL.of (ok.sub _ _ h1), fun p hp => ?_⟩⟩
    have le := Wd.le_lay ok hp (.tup vs)
    exact hk _ _ (w.lay p (.tup vs)) (by show Q _ w.μ; rw [e]; exact q) (.tup (SqT.of upd_same) (h2.mono le.ex)) (ok.lay hp _) le
  · cases a with
    | @tup a vs _ h1 h2 =>
    exact ⟨a, vs, rfl, .inr ⟨ex_t ok.sub h1, hk _ _ w (e ▸ q) (.tup h1 h2) ok (Wd.le.refl w)⟩⟩
/-- isinstance -/
def kindD : D → Option String
  | .non => some "NoneType"
  | .bl _ => some "bool"
  | .int _ => some "int"
  | .str _ => some "str"
  | .lst _ => some "list"
  | .tup _ => some "tuple"
  | .dict _ _ => some "dict"
  | _ => none
theorem kind_is {w : Wd} (ok : w.Ok K) {v : V} {d : D} {n : String} (i : Is K w.S v d) (h : kindD d = some n) : TyX K w.H v (.type n) := by
  cases i with
  | non => cases h; exact .base .non
  | bl b => cases h; exact .base (.bl b)
  | int b => cases h; exact .base (.int b)
  | str b => cases h; exact .base (.str b)
  | lst h1 h2 => cases h; exact .base (.lst (ok.sub _ _ h1))
  | tup h1 h2 =>
    cases h
    rcases ex_t ok.sub h1 with (z | ⟨o, z⟩) | z
    · exact .base (.tup z)
    · exact .fTuple z
    · obtain ⟨o, its, n, z1, z2, _⟩ := z
      exact .kTuple z1 z2
  | dict h1 _ _ => cases h; exact .base (.dK (ok.sub _ _ h1))
  | _ => cases h
theorem sc_isi {d : D} {n m : String} {b : Bool} (h : kindD d = some n) (hb : kitB n m = some b) (q : Q (.bl b) μ) : SC K E Ed (rIsiX K) [d, .ty m] μ Q := sc_of (fun w vs ok e i1 => by
  cases i1 with
  | cons a r =>
  cases r with
  | cons c r =>
  cases r
  cases c
  exact ⟨_, .bl _, fun k hk => .inl ⟨_, _, _, _, b, rfl, .ty m, kind_is ok a h, kit_ty hb, hk⟩⟩) q
end
end DD
set_option Elab.async false
set_option linter.all false
set_option maxRecDepth 100000
set_option maxHeartbeats 1000000
namespace DD
open PySem L2
section
variable {K : PySem.W.Frag} {E : XK} {Ed : XD} {ρ : Env} {μ : Store} {ta tb te : TE} {t u : TT} {tas : TA} {Q : D → Store → Prop} {P : DE}
/-! ### methods -/
theorem sm_append {a : Addr} {ds : List D} {d : D} {μ' : Store} (u : Upd μ a (.lst ds) (.lst (ds ++ [d])) μ') (hl : ds.length < sizeLine) (q : Q .non μ') : SM K E Ed rAppend (.ref a) [d] μ Q := by
  intro w v vs e ok i is x k hk
  cases i
  cases is with
  | cons h r =>
  cases r
  have u2 : Upd w.μ a (.lst ds) (.lst (ds ++ [d])) μ' := by rw [e]; exact u
  obtain ⟨_, us, h1, h2⟩ := ok.own _ u2.mem
  refine ⟨a, us, _, rfl, rfl, h1, by rw [h2.length]; exact hl, ?_⟩
  exact hk _ _ (w.put a (.lst (us ++ [_])) μ') q .non (ok.put u2 ⟨_, upd_same, h2.append (.cons h .nil)⟩) (Wd.le_put u2 _)
theorem sm_popAt {a : Addr} {ds : List D} {d : D} {j : Nat} {μ' : Store} (u : Upd μ a (.lst ds) (.lst (ds.eraseIdx j)) μ') (hj : ds[j]? = some d) (hl : ds.length ≤ sizeLine) (q : Q d μ') : SM K E Ed rPopAt (.ref a) [.int (j : Nat)] μ Q := by
  intro w v vs e ok i is x k hk
  cases i
  cases is with
  | cons h r =>
  cases r
  cases h
  have u2 : Upd w.μ a (.lst ds) (.lst (ds.eraseIdx j)) μ' := by rw [e]; exact u
  obtain ⟨_, us, h1, h2⟩ := ok.own _ u2.mem
  obtain ⟨v, hv, is⟩ := h2.at hj
  have hlt : j < us.length := (List.getElem?_eq_some_iff.mp hv).1
  have hls : us.length ≤ 16777216 := by rw [h2.length, ← PySem.sizeLine_eq]; exact hl
  refine ⟨a, us, (j : Nat), j, v, rfl, rfl, h1, by omega, by omega, (ixN_seq (n := us.length) (i := (j : Nat)) (j := j) ?_).1, hv, ?_⟩
  · unfold ixN
    rw [if_pos (by omega), if_pos (by omega), Int.toNat_natCast]
  · exact hk _ _ (w.put a (.lst (us.eraseIdx j)) μ') q is (ok.put u2 ⟨_, upd_same, h2.eraseIdx j⟩) (Wd.le_put u2 _)
theorem sm_split {a b : Str} (hb : (b.length == 0) = false) (hl : a.length + 2 ≤ sizeLine) (q : Q (.lst ((Txt.split a b).map D.str)) μ) :
    SM K E Ed (fun x xs H Q => ∃ a b, x = .str a ∧ xs = [.str b] ∧ (b.length == 0) = false ∧ a.length + 2 ≤ sizeLine ∧ rNewStrs (Txt.split a b) H Q) (.str a) [.str b] μ Q := by
  intro w v vs e ok i is x k hk
  cases i
  cases is with
  | cons h r =>
  cases r
  cases h
  refine ⟨a, b, rfl, rfl, hb, hl, fun p hp => ?_⟩
  have le := Wd.le_lay ok hp (.lst ((Txt.split a b).map V.str))
  exact hk _ _ (w.lay p (.lst ((Txt.split a b).map V.str))) (by show Q _ w.μ; rw [e]; exact q) (.lst upd_same (IsAll.strs _)) (ok.lay hp _) le
/-! ### dicts that may change -/
def keyD : Key → D
  | .inl i => .int i
  | .inr x => .str x
theorem key_is {S : Hp} {v : V} {k : Key} (i : Is K S v (keyD k)) : v = kV k := by
  cases k with
  | inl n => cases i; rfl
  | inr z => cases i; rfl
theorem valV_zip {k : Key} : ∀ {ks : List Key} {vs : List V} {j : Nat} {v : V}, ks.findIdx (fun q => decide (q = k)) = j → ks.length = vs.length → vs[j]? = some v → valV (ks.zip vs) k = some v
  | [], [], _, _, _, _, h => by simp at h
  | [], _ :: _, _, _, _, h, _ => by simp at h
  | _ :: _, [], _, _, _, h, _ => by simp at h
  | q :: ks, u :: vs, j, v, hj, hl, hv => by
    rw [List.findIdx_cons] at hj
    unfold valV
    by_cases z : q = k
    · subst z
      simp only [decide_true, cond_true] at hj
      subst hj
      simp at hv
      subst hv
      simp
    · simp only [z, decide_false, cond_false] at hj
      subst hj
      have ih := valV_zip (k := k) (ks := ks) (vs := vs) (j := ks.findIdx fun q => decide (q = k)) (v := v) rfl (by simpa using hl) (by simpa using hv)
      unfold valV at ih
      simp only [List.zip_cons_cons]
      rw [List.find?_cons_of_neg (by simpa using z)]
      exact ih
theorem se_dget {k : Key} {j : Nat} (h : SE K E Ed ta ρ μ fun o μ1 => SE K E Ed tb ρ μ1 fun y μ2 => ∃ a ks ds d, o = .ref a ∧ y = keyD k ∧ (a, D.dict ks ds) ∈ μ2 ∧ ks.findIdx (fun q => decide (q = k)) = j ∧ ds[j]? = some d ∧ Q d μ2) : SE K E Ed (tDGet ta tb) ρ μ Q := by
  intro w σ e ok l x kk hk
  refine h w σ e ok l x _ fun v1 d1 w1 q1 i1 ok1 l1 => ?_
  refine q1 w1 σ rfl ok1 (l.mono l1.ex) (x.step ok ok1 l1) _ fun v2 d2 w2 ⟨a, ks, ds, d, e1, e2, hm, hj, hd, q2⟩ i2 ok2 l2 => ?_
  subst e1
  subst e2
  cases i1
  have e3 := key_is i2
  subst e3
  obtain ⟨_, vs, h1, h2, h3⟩ := ok2.own _ hm
  obtain ⟨v, hv, is⟩ := h3.at hd
  refine ⟨a, v, rfl, ?_, hk _ _ w2 q2 is ok2 (l1.trans ok ok1 l2)⟩
  rw [← valV_zip hj h2 hv]
  exact DGet.k h1
theorem putK_zip {k : Key} {v : V} : ∀ {ks : List Key} {vs : List V} {j : Nat}, ks.Nodup → ks.findIdx (fun q => decide (q = k)) = j → j < ks.length → ks.length = vs.length → putK (ks.zip vs) k v = ks.zip (vs.set j v) := by
  have gone : ∀ (ks : List Key) (vs : List V), k ∉ ks → (ks.zip vs).map (fun kv => if kv.1 = k then (kv.1, v) else kv) = ks.zip vs := by
    intro ks
    induction ks with
    | nil => intro vs _; rfl
    | cons q ks ih =>
      intro vs h
      cases vs with
      | nil => rfl
      | cons u vs =>
        simp only [List.zip_cons_cons, List.map_cons]
        rw [ih vs fun z => h (List.mem_cons_of_mem _ z), if_neg fun z => h (by rw [← z]; exact List.mem_cons_self)]
  intro ks
  induction ks with
  | nil => intro vs j _ _ h; simp at h
  | cons q ks ih =>
    intro vs j nd hj hlt hl
    cases vs with
    | nil => simp at hl
    | cons u vs =>
      rw [List.findIdx_cons] at hj
      obtain ⟨n1, n2⟩ := List.nodup_cons.mp nd
      by_cases z : q = k
      · subst z
        simp only [decide_true, cond_true] at hj
        subst hj
        unfold putK
        rw [if_pos (by simp)]
        simp only [List.zip_cons_cons, List.map_cons, List.set_cons_zero]
        rw [gone ks vs n1]
        simp
      · simp only [z, decide_false, cond_false] at hj
        subst hj
        have hlt2 : ks.findIdx (fun q => decide (q = k)) < ks.length := by simpa using hlt
        have ih2 := ih (vs := vs) n2 rfl hlt2 (by simpa using hl)
        have hin : ((ks.zip vs).any fun kv => decide (kv.1 = k)) = true := by
          obtain ⟨x, hx, hxk⟩ := List.findIdx_lt_length.mp hlt2
          obtain ⟨i, hi⟩ := List.getElem?_of_mem hx
          rw [List.any_eq_true]
          have hvl : i < vs.length := by
            have h1 := (List.getElem?_eq_some_iff.mp hi).1
            have h2 : ks.length = vs.length := by simpa using hl
            omega
          have hz : (ks.zip vs)[i]? = some (x, vs[i]) := List.getElem?_zip_eq_some.mpr ⟨hi, by simp [hvl]⟩
          exact ⟨_, List.mem_of_getElem? hz, hxk⟩
        unfold putK at ih2 ⊢
        rw [if_pos hin] at ih2
        rw [if_pos (by simp only [List.zip_cons_cons, List.any_cons]; rw [hin]; simp)]
        simp only [List.zip_cons_cons, List.map_cons, List.set_cons_succ]
        rw [ih2, if_neg z]
theorem ss_dput {k : Key} {j : Nat} (h : SE K E Ed te ρ μ fun d μ1 => SE K E Ed ta ρ μ1 fun o μ2 => SE K E Ed tb ρ μ2 fun y μ3 => ∃ a ks ds μ4, o = .ref a ∧ y = keyD k ∧ Upd μ3 a (.dict ks ds) (.dict ks (ds.set j d)) μ4 ∧ ks.Nodup ∧ ks.findIdx (fun q => decide (q = k)) = j ∧ j < ks.length ∧ ks.length ≤ 1000 ∧ P.nx ρ μ4) :
    SS K E Ed (sDPut ta tb te) ρ μ P := by
  intro w σ e ok l x D o
  refine h w σ e ok l x _ fun v1 d1 w1 q1 i1 ok1 l1 => ?_
  refine q1 w1 σ rfl ok1 (l.mono l1.ex) (x.step ok ok1 l1) _ fun v2 d2 w2 q2 i2 ok2 l2 => ?_
  have l12 := l1.trans ok ok1 l2
  refine q2 w2 σ rfl ok2 (l.mono l12.ex) (x.step ok ok2 l12) _ fun v3 d3 w3 ⟨a, ks, ds, μ4, e1, e2, u, nd, hj, hlt, hz, q3⟩ i3 ok3 l3 => ?_
  have l13 := l12.trans ok ok2 l3
  subst e1
  subst e2
  cases i2
  have e3 := key_is i3
  subst e3
  obtain ⟨_, vs, h1, h2, h3⟩ := ok3.own _ u.mem
  have hs : (ks.zip vs).length < sizeLine := by
    rw [List.length_zip]
    exact Nat.lt_of_le_of_lt (Nat.le_trans (Nat.min_le_left _ _) hz) (by decide)
  refine ⟨a, _, rfl, DPut.k h1 hs, ?_⟩
  rw [putK_zip nd hj hlt h2]
  have le := Wd.le_put u (.dK (ks.zip (vs.set j v1)))
  exact o.nx σ ρ (w3.put a _ μ4) q3 (l.mono (l13.ex.trans le.ex)) (ok3.put u ⟨vs.set j v1, upd_same, by rw [List.length_set]; exact h2, h3.set j (i1.mono (l2.ex.trans l3.ex))⟩) (l13.trans ok ok3 le)
/-- a dict's display: the values one by one; keys are unlike texts -/
def SP (K : PySem.W.Frag) (E : XK) (Ed : XD) : List (TE × TE) → Env → Store → (List Key → List D → Store → Prop) → Prop
  | [], _, μ, R => R [] [] μ
  | (tk, tv) :: r, ρ, μ, R => SE K E Ed tk ρ μ fun y μ1 => ∃ k, y = keyD k ∧ SE K E Ed tv ρ μ1 fun d μ2 => SP K E Ed r ρ μ2 fun ks ds μ3 => R (k :: ks) (d :: ds) μ3
theorem mergeK_zip : ∀ (ks : List Key) (vs : List V) (acc : List (Key × V)), ks.Nodup → (∀ k ∈ ks, k ∉ acc.map (·.1)) → mergeK acc (ks.zip vs) = acc ++ ks.zip vs
  | [], _, acc, _, _ => by simp [mergeK]
  | _ :: _, [], acc, _, _ => by simp [mergeK]
  | k :: ks, v :: vs, acc, nd, h => by
    obtain ⟨n1, n2⟩ := List.nodup_cons.mp nd
    have e : putK acc k v = acc ++ [(k, v)] := by
      unfold putK
      rw [if_neg]
      intro z
      rw [List.any_eq_true] at z
      obtain ⟨p, hp, e⟩ := z
      exact h k List.mem_cons_self (List.mem_map.mpr ⟨p, hp, by simpa using e⟩)
    show mergeK (putK acc k v) (ks.zip vs) = _
    rw [e, mergeK_zip ks vs (acc ++ [(k, v)]) n2 (fun q hq z => ?_)]
    · simp
    · rw [List.map_append] at z
      rcases List.mem_append.mp z with z | z
      · exact h q (List.mem_cons_of_mem _ hq) z
      · have : q = k := by simpa using z
        exact n1 (this ▸ hq)
theorem Wd.Ok.own1 {S H : Hp} {μ : Store} (ok : Wd.Ok K ⟨S, H, μ⟩) {p : Addr} {d : D} (hs : S p = none) (hm : p ∉ dom μ) (m : MIs K S H p d) : Wd.Ok K ⟨S, H, (p, d) :: μ⟩ := by
  refine ⟨ok.sub, fun q hq => ?_, List.nodup_cons.mpr ⟨hm, ok.nd⟩⟩
  rcases List.mem_cons.mp hq with z | hq
  · subst z
    exact ⟨hs, m⟩
  · exact ok.own q hq
theorem Wd.le.own1 {w : Wd} {S H : Hp} {μ : Store} (l : w.le ⟨S, H, μ⟩) {p : Addr} (d : D) (h : w.H p = none) : w.le ⟨S, H, (p, d) :: μ⟩ := by
  refine ⟨l.ex, l.kp, fun a ha => ?_⟩
  have ha : a ∈ p :: dom μ := ha
  rcases List.mem_cons.mp ha with z | z
  · exact .inr (z ▸ h)
  · exact l.nw a z
theorem priv {wa wb : Wd} {p : Addr} {o : HO} (lab : wa.le wb) (h1 : wa.H p = some o) (h2 : wa.S p = none) (h3 : p ∉ dom wa.μ) : wb.H p = some o ∧ wb.S p = none ∧ p ∉ dom wb.μ := by
  obtain ⟨z1, z2⟩ := lab.kp p _ h1 h2 h3
  refine ⟨z1, z2, fun hm => ?_⟩
  rcases lab.nw p hm with z | z
  · exact h3 z
  · rw [h1] at z
    cases z
theorem se_dispM {trs : List (TE × TE)} (h : SP K E Ed trs ρ μ fun ks ds μ1 => ks.Nodup ∧ ks.length ≤ 15 ∧ ∀ p, Q (.ref p) ((p, .dict ks ds) :: μ1)) : SE K E Ed (tDisp trs) ρ μ Q := by
  intro w σ e ok l x k hk
  intro p hp
  obtain ⟨hs, hm⟩ := ok.fresh hp
  have ok0 : Wd.Ok K ⟨w.S, upd w.H p (.dK []), w.μ⟩ := ok.heap hs hm _
  have l0 : w.le ⟨w.S, upd w.H p (.dK []), w.μ⟩ := (Wd.le.refl w).heap hp _
  have key : ∀ (trs : List (TE × TE)) (w1 : Wd) (R : List Key → List D → Store → Prop) (kk : List (V × V) → Hp → Prop), SP K E Ed trs ρ w1.μ R → w1.Ok K → w.le w1 → w1.H p = some (.dK []) → w1.S p = none → p ∉ dom w1.μ →
      (∀ (ks : List Key) (vs : List V) (ds : List D) (w2 : Wd), R ks ds w2.μ → ks.length = vs.length → IsAll K w2.S vs ds → w2.Ok K → w1.le w2 → kk ((ks.zip vs).map fun kv => (kV kv.1, kv.2)) w2.H) → tPairs trs σ w1.H kk := by
    intro trs
    induction trs with
    | nil => intro w1 R kk h1 ok1 l1 a1 b1 c1 hkk; exact hkk [] [] [] w1 h1 rfl .nil ok1 (Wd.le.refl w1)
    | cons tr r ih =>
      obtain ⟨tk, tv⟩ := tr
      intro w1 R kk h1 ok1 l1 a1 b1 c1 hkk
      have h1' : SE K E Ed tk ρ w1.μ fun y μ1 => ∃ k, y = keyD k ∧ SE K E Ed tv ρ μ1 fun d μ2 => SP K E Ed r ρ μ2 fun ks ds μ3 => R (k :: ks) (d :: ds) μ3 := h1
      refine h1' w1 σ rfl ok1 (l.mono l1.ex) (x.step ok ok1 l1) _ fun v2 d2 w2 ⟨key, ek, q2⟩ i2 ok2 l2 => ?_
      subst ek
      have e2 := key_is i2
      subst e2
      obtain ⟨a2, b2, c2⟩ := priv l2 a1 b1 c1
      have l02 := l1.trans ok ok1 l2
      refine q2 w2 σ rfl ok2 (l.mono l02.ex) (x.step ok ok2 l02) _ fun v3 d3 w3 q3 i3 ok3 l3 => ?_
      obtain ⟨a3, b3, c3⟩ := priv l3 a2 b2 c2
      have l03 := l02.trans ok ok2 l3
      refine ih w3 _ _ q3 ok3 l03 a3 b3 c3 fun ks vs ds w4 q4 hl ia ok4 l4 => ?_
      exact hkk (key :: ks) (v3 :: vs) (d3 :: ds) w4 q4 (by simp [hl]) (.cons (i3.mono l4.ex) ia) ok4 (l2.trans ok1 ok2 (l3.trans ok2 ok3 l4))
  have hh : SP K E Ed trs ρ w.μ fun ks ds μ1 => ks.Nodup ∧ ks.length ≤ 15 ∧ ∀ p, Q (.ref p) ((p, .dict ks ds) :: μ1) := by rw [e]; exact h
  refine key trs ⟨w.S, upd w.H p (.dK []), w.μ⟩ _ _ hh ok0 l0 upd_same hs hm fun ks vs ds w2 hq hl ia ok2 l2 => ?_
  obtain ⟨nd, h15, q⟩ := hq
  obtain ⟨a2, b2, c2⟩ := priv l2 (o := .dK []) (p := p) upd_same hs hm
  refine ⟨a2, ks.zip vs, rfl, by rw [List.length_zip]; omega, ?_⟩
  have e3 : mergeK [] (ks.zip vs) = ks.zip vs := by
    rw [mergeK_zip ks vs [] nd (fun _ _ z => by simp at z)]
    rfl
  rw [e3]
  have l02 := l0.trans ok ok0 l2
  exact hk (.ref p) (.ref p) ⟨w2.S, upd w2.H p (.dK (ks.zip vs)), (p, .dict ks ds) :: w2.μ⟩ (q p) (.ref p) ((ok2.heap b2 c2 _).own1 b2 c2 ⟨vs, upd_same, hl, ia⟩) ((l02.heap hp _).own1 _ hp)
/-! ### fields as targets -/
theorem sg_fld {C : Addr} {f : Str} {d : D} {Q : Env → Store → Prop} (c : Cls K C) (n : NoAttr K C f) (h : SE K E Ed ta ρ μ fun o μ2 => ∃ a fs ds μ3, o = .ref a ∧ Upd μ2 a (.ins C fs ds) (.ins C (putD f d fs ds).1 (putD f d fs ds).2) μ3 ∧ fs.length < 900 ∧ Q ρ μ3) : SG K E Ed [] (gFld K ta f) d ρ μ Q := by
  intro w σ v e ok l x i1 k hk
  refine h w σ e ok l x _ fun v2 d2 w2 ⟨a, fs, ds, μ3, e2, u, hl, q2⟩ i2 ok2 l2 => ?_
  subst e2
  cases i2
  obtain ⟨_, dx, vs, h1, h2, h3⟩ := ok2.own _ u.mem
  refine ⟨a, C, dx, _, rfl, h1, c, n, by rw [List.length_zip]; omega, ?_⟩
  have e3 : ∃ vs', putF f v (fs.zip vs) = ((putD f d fs ds).1).zip vs' ∧ ((putD f d fs ds).1).length = vs'.length ∧ IsAll K w2.S vs' (putD f d fs ds).2 := by
    unfold putD
    by_cases z : fs.idxOf f < fs.length
    · rw [if_pos z]
      exact ⟨_, putF_zip h2 rfl z, by rw [List.length_set]; exact h2, h3.set _ (i1.mono l2.ex)⟩
    · rw [if_neg z]
      exact ⟨_, putF_zipN h2 (fun m => z (List.idxOf_lt_length_iff.mpr m)), by simp [h2], h3.append (.cons (i1.mono l2.ex) .nil)⟩
  obtain ⟨vs', e4, e5, e6⟩ := e3
  rw [e4]
  have le := Wd.le_put u (.ins C dx (((putD f d fs ds).1).zip vs'))
  exact hk σ ρ (w2.put a _ μ3) q2 (l.mono (l2.ex.trans le.ex)) (ok2.put u ⟨dx, vs', upd_same, e5, e6⟩) (l2.trans ok ok2 le) ⟨rfl, fun _ _ => rfl⟩
/-- name += e -/
theorem ss_aug {i : Nat} {f : Int → Int → Int} {a : Int} (hx : ρ[i]? = some (some (.int a))) (h : SE K E Ed te ρ μ fun d μ1 => ∃ b, d = .int b ∧ P.nx (ρ.set i (some (.int (f a b)))) μ1) : SS K E Ed (tAug i te (ipI f)) ρ μ P := by
  intro w σ e ok l x D o
  obtain ⟨v, hv, is⟩ := l.2 i _ hx
  cases is
  refine ⟨_, hv, ?_⟩
  refine h w σ e ok l x _ fun v1 d1 w1 ⟨b, e1, q⟩ i1 ok1 l1 => ?_
  subst e1
  cases i1
  exact ⟨a, b, rfl, rfl, o.nx _ _ w1 q ((l.mono l1.ex).set i (.int _)) ok1 l1⟩
theorem look_zip {f : Str} : ∀ {fs : List Str} {vs : List V} {j : Nat} {v : V}, fs.idxOf f = j → fs.length = vs.length → vs[j]? = some v → (fs.zip vs).lookup f = some v
  | [], [], _, _, _, _, h => by simp at h
  | [], _ :: _, _, _, _, h, _ => by simp at h
  | _ :: _, [], _, _, _, h, _ => by simp at h
  | g :: fs, u :: vs, j, v, hj, hl, hv => by
    rw [List.idxOf_cons] at hj
    simp only [List.zip_cons_cons, List.lookup_cons]
    by_cases z : g = f
    · subst z
      simp at hj
      subst hj
      simp at hv
      subst hv
      simp
    · have e1 : (g == f) = false := beq_eq_false_iff_ne.mpr z
      have e2 : (f == g) = false := beq_eq_false_iff_ne.mpr fun y => z y.symm
      rw [e1] at hj
      rw [e2]
      simp at hj
      subst hj
      exact look_zip rfl (by simpa using hl) (by simpa using hv)
/-- o.f += e, ints -/
theorem ss_fldaug {C : Addr} {f : Str} {g : Int → Int → Int} {rd : V → V → Hp → VK → Prop} (hrd : ∀ (i j : Int) (H : Hp) (k : VK), k (.int (g i j)) H → rd (.int i) (.int j) H k) (c : Cls K C) (n : NoAttr K C f)
    (h : SE K E Ed ta ρ μ fun o μ1 => ∃ a fs ds i, o = .ref a ∧ (a, D.ins C fs ds) ∈ μ1 ∧ ds[fs.idxOf f]? = some (.int i) ∧ SE K E Ed te ρ μ1 fun d μ2 => ∃ j fs' ds' μ3, d = .int j ∧ Upd μ2 a (.ins C fs' ds') (.ins C (putD f (.int (g i j)) fs' ds').1 (putD f (.int (g i j)) fs' ds').2) μ3 ∧ fs'.length < 900 ∧ P.nx ρ μ3) :
    SS K E Ed (sFldAug K ta te rd f) ρ μ P := by
  intro w σ e ok l x D o
  refine h w σ e ok l x _ fun v1 d1 w1 ⟨a, fs, ds, i, e1, hm, hi, q1⟩ i1 ok1 l1 => ?_
  subst e1
  cases i1
  obtain ⟨_, dx, vs, h1, h2, h3⟩ := ok1.own _ hm
  obtain ⟨v, hv, is⟩ := h3.at hi
  cases is
  refine ⟨a, C, dx, _, .int i, rfl, h1, c, n, look_zip rfl h2 hv, ?_⟩
  refine q1 w1 σ rfl ok1 (l.mono l1.ex) (x.step ok ok1 l1) _ fun v2 d2 w2 ⟨j, fs', ds', μ3, e2, u, hl, q2⟩ i2 ok2 l2 => ?_
  have l12 := l1.trans ok ok1 l2
  subst e2
  cases i2
  refine hrd i j w2.H _ ?_
  obtain ⟨_, dx', vs', g1, g2, g3⟩ := ok2.own _ u.mem
  refine ⟨dx', _, g1, by rw [List.length_zip]; omega, ?_⟩
  have e3 : ∃ vs2, putF f (.int (g i j)) (fs'.zip vs') = ((putD f (.int (g i j)) fs' ds').1).zip vs2 ∧ ((putD f (.int (g i j)) fs' ds').1).length = vs2.length ∧ IsAll K w2.S vs2 (putD f (.int (g i j)) fs' ds').2 := by
    unfold putD
    by_cases z : fs'.idxOf f < fs'.length
    · rw [if_pos z]
      exact ⟨_, putF_zip g2 rfl z, by rw [List.length_set]; exact g2, g3.set _ (.int _)⟩
    · rw [if_neg z]
      exact ⟨_, putF_zipN g2 (fun m => z (List.idxOf_lt_length_iff.mpr m)), by simp [g2], g3.append (.cons (.int _) .nil)⟩
  obtain ⟨vs2, e4, e5, e6⟩ := e3
  rw [e4]
  have le := Wd.le_put u (.ins C dx' (((putD f (.int (g i j)) fs' ds').1).zip vs2))
  exact o.nx σ ρ (w2.put a _ μ3) q2 (l.mono (l12.ex.trans le.ex)) (ok2.put u ⟨dx', vs2, upd_same, e5, e6⟩) (l12.trans ok ok2 le)
theorem ss_par3 {i j m : Nat} (h : SA K E Ed tas ρ μ fun ds μ1 => ∃ d e f, ds = [d, e, f] ∧ P.nx (((ρ.set i (some d)).set j (some e)).set m (some f)) μ1) : SS K E Ed (tPar3 i j m tas) ρ μ P := by
  intro w σ e ok l x D o
  refine h w σ e ok l x _ fun vs ds w1 ⟨d, e, f, e1, q⟩ i1 ok1 l1 => ?_
  subst e1
  cases i1 with
  | cons h1 r1 =>
  cases r1 with
  | cons h2 r2 =>
  cases r2 with
  | cons h3 r3 =>
  cases r3
  exact ⟨_, _, _, rfl, o.nx _ _ w1 q ((((l.mono l1.ex).set i h1).set j h2).set m h3) ok1 l1⟩
/-! ### raising -/
/-- an exception's __init__ that stores its arguments, field by field -/
def spXI (C : Addr) (fs : List Str) : Sp := fun vs H Q _ => ∃ (a : Addr) (ys : List V), vs = .ref a :: ys ∧ ys.length = fs.length ∧ H a = some (exo a C none) ∧ ∀ (d : Addr) (H' : Hp), H d = none → d ≠ a → H' a = some (exo a C (some d)) → H' d = some (exd d (fs.reverse.zip ys.reverse)) → (∀ b, b ≠ a → b ≠ d → H' b = H b) → Q .non H'
theorem IsAll.rev {S : Hp} : ∀ {vs : List V} {ds : List D}, IsAll K S vs ds → IsAll K S vs.reverse ds.reverse
  | _, _, .nil => .nil
  | _, _, .cons h r => by
    rw [List.reverse_cons, List.reverse_cons]
    exact (IsAll.rev r).append (.cons h .nil)
theorem ss_raise {C : Addr} {fs : List Str} (h : SA K E Ed tas ρ μ fun ds μ1 => ds.length = fs.length ∧ ds.length ≤ 1000 ∧ Ed C fs.reverse ds.reverse μ1) : SS K E Ed (fun _ σ H => tMkO C (spXI C fs) [] tas σ H fun cls d H' => E cls d H') ρ μ P := by
  intro w σ e ok l x D o
  refine h w σ e ok l x _ fun vs ds w1 ⟨hl, hz, q⟩ i1 ok1 l1 => ⟨by rw [i1.length]; exact hz, fun a ha => ?_⟩
  refine ⟨a, vs, by rw [List.append_nil], by rw [i1.length]; exact hl, upd_same, fun d H' hd hda h1 h2 h3 => ⟨rfl, d, _, h1, h2, ?_, ?_⟩⟩
  · rw [upd_ne hda] at hd
    exact hd
  · rw [upd_ne hda] at hd
    have e3 : upd (del H' a) d (.xd (fs.reverse.zip vs.reverse)) = upd w1.H d (.xd (fs.reverse.zip vs.reverse)) := by
      funext b
      by_cases z : b = d
      · subst z
        rw [upd_same, upd_same]
      · rw [upd_ne z, upd_ne z]
        by_cases y : b = a
        · subst y
          rw [del_same, ha]
        · rw [del_ne y, h3 b y z, upd_ne y]
    rw [e3]
    obtain ⟨s1, m1⟩ := ok1.fresh hd
    refine x C _ _ _ ⟨w1.S, upd w1.H d (.xd (fs.reverse.zip vs.reverse)), w1.μ⟩ d q upd_same ?_ i1.rev (ok1.heap s1 m1 _) (l1.trans ok ok1 ((Wd.le.refl w1).heap hd _))
    rw [List.length_reverse, List.length_reverse, i1.length, hl]
end
/-! ### what a def's context lets through -/
section
variable {P : Program} {w : World} {K : PySem.W.Frag} {mg : Str → Option Value} {base : Heap}
theorem takesX {N : List Str} {qual : Str} {scope : Scope} {f : Addr} {cdv : Value} {A : Around} {outer : List PySem.Env} {s : Shared} {H : Hp} {E : XK} : Takes (cxOf (L2.CX P w) P w K mg base N qual scope f cdv A outer s H E) (fun cls d _ H => E cls d H) := takes_of rfl rfl rfl rfl
theorem passX {N : List Str} {qual : Str} {scope : Scope} {f : Addr} {cdv : Value} {A : Around} {outer : List PySem.Env} {s : Shared} {H : Hp} {E : XK} : Passes (L2.CX P w) (cxOf (L2.CX P w) P w K mg base N qual scope f cdv A outer s H E) E := passes_call takesX fun _ _ _ _ h => h
theorem ownX {N : List Str} {qual : Str} {scope : Scope} {f : Addr} {cdv : Value} {A : Around} {outer : List PySem.Env} {s : Shared} {H : Hp} {E : XK} : PassesOwn (model P w) (cxOf (L2.CX P w) P w K mg base N qual scope f cdv A outer s H E).A (cxOf (L2.CX P w) P w K mg base N qual scope f cdv A outer s H E).env (cxOf (L2.CX P w) P w K mg base N qual scope f cdv A outer s H E).xe := passes_of rfl
/-- a method, a class with an __init__ of one's own, an exception's class as users see them -/
structure HasM (P : Program) (w : World) (K : PySem.W.Frag) (mg : Str → Option Value) (base : Heap) (k : Nat) (C : Addr) (m : Str) (ps : List Str) (sp : Sp) : Prop where
  ex : ∃ (f : Addr) (fd : FuncData), FnOk P w K mg base (L2.CX P w) k f fd ps sp ∧ Meth K C m f ∧ Binds K fd ps []
structure HasC (P : Program) (w : World) (K : PySem.W.Frag) (mg : Str → Option Value) (base : Heap) (k : Nat) (x : Str) (C : Addr) (ps : List Str) (sp : Sp) : Prop where
  ex : ∃ (f : Addr) (fd : FuncData), FnOk P w K mg base (L2.CX P w) k f fd ps sp ∧ Mk K C f ∧ mg x = some (.ref C) ∧ Binds K fd ps []
structure HasX (P : Program) (w : World) (K : PySem.W.Frag) (mg : Str → Option Value) (base : Heap) (k : Nat) (x : Str) (C : Addr) (ps : List Str) (sp : Sp) : Prop where
  ex : ∃ (f : Addr) (fd : FuncData), OexC K C ∧ PySem.W.findIn K (.ref C) "__init__" = some (some (.ref f)) ∧ PySem.W.typeIn K (.ref f) = some (.type "function") ∧ FnOk P w K mg base (L2.CX P w) k f fd ps sp ∧ mg x = some (.ref C) ∧ Binds K fd ps []
theorem pmk_hasX {X : Cx} {x : Str} {C : Addr} {k : Nat} {ps : List Str} {sp : Sp} {e : Expr} {es : List Expr} {ta : TA} {p pos : Pos} (h : HasX X.prog X.w X.K X.mg X.base k x C ps sp) (hr : Room (k + 1) X.A) (hg : Gl X x) (ha : PA X (e :: es) ta)
    (hdb : (x == ("__debug__" : Str)) = false := by decide) (he : starEach (e :: es) X.env = (false, eval e X.env) :: starEach es X.env := by rfl) (hpl : (backTo pos (starEach es X.env)).any (·.1) = false := by rfl) :
    PMk X (.Call (.Name x p) (e :: es) [] pos) (tMkO C sp [] ta) := by
  obtain ⟨f, fd, T, iC, tI, F1, hm, hb⟩ := h.ex
  exact pmk_oex T iC tI F1 hr hb .nil passL hg hm ha hdb he hpl
end
theorem b_len : bootBuiltins "len" = some (.builtin "len") := by decide +kernel
theorem b_list : bootBuiltins "list" = some (.type "list") := by decide +kernel
theorem b_tuple : bootBuiltins "tuple" = some (.type "tuple") := by decide +kernel
theorem b_int : bootBuiltins "int" = some (.type "int") := by decide +kernel
theorem b_str : bootBuiltins "str" = some (.type "str") := by decide +kernel
theorem b_bool : bootBuiltins "bool" = some (.type "bool") := by decide +kernel
theorem b_all : bootBuiltins "all" = some (.builtin "all") := by decide +kernel
theorem b_max : bootBuiltins "max" = some (.builtin "max") := by decide +kernel
theorem b_isinstance : bootBuiltins "isinstance" = some (.builtin "isinstance") := by decide +kernel
theorem b_repr : bootBuiltins "repr" = some (.builtin "repr") := by decide +kernel
end DD
namespace DD
open PySem L2
/-! ### texts by their codes -/
/-- the text of some codes -/
def TX (l : List Nat) : Str := ⟨l.toArray⟩
theorem tl_TX (l : List Nat) : (TX l).cps.toList = l := by simp [TX]
theorem TX_tl (z : Str) : TX z.cps.toList = z := by cases z; simp [TX]
theorem len_TX (l : List Nat) : (TX l).length = l.length := by simp [TX, Str.length]
theorem TX_inj {a b : List Nat} (h : TX a = TX b) : a = b := by
  have := congrArg (fun z : Str => z.cps.toList) h
  simpa [tl_TX] using this
theorem TX_app (a b : List Nat) : TX a ++ TX b = TX (a ++ b) := by
  apply TL.ext_tl
  rw [TL.tl_append]
  show (TX a).cps.toList ++ (TX b).cps.toList = (TX (a ++ b)).cps.toList
  rw [tl_TX, tl_TX, tl_TX]
theorem cutS_TX (l : List Nat) (lo hi : Option Int) : cutS (TX l) lo hi = TX ((l.drop (HT.sIx l.length 0 lo)).take (HT.sIx l.length l.length hi - HT.sIx l.length 0 lo)) := by
  unfold cutS
  rw [tl_TX, len_TX]
  rfl
/-! ### comprehensions told by maps -/
section
variable {K : PySem.W.Frag} {E : XK} {Ed : XD} {ρ : Env} {μ : Store} {te : TE} {Q : D → Store → Prop}
theorem se_lcP {α : Type} {xs : List α} {gd : α → D} {p : α → Bool} {f : α → D} {ti : TI} {g : TG} {tt : TT} {vs js : List Nat} (hj : ∀ j ∈ js, j ∈ vs)
    (h : SI K E Ed ti ρ μ fun ds μ1 => ds = xs.map gd ∧ xs.length < sizeLine ∧ (∀ x ∈ xs, SG K E0 XF js g (gd x) (wipeE ρ vs) μ1 fun ρ2 μ2 => μ2 = μ1 ∧ STT K E0 XF tt ρ2 μ1 fun b μ3 => b = p x ∧ μ3 = μ1 ∧ (p x = true → SE K E0 XF te ρ2 μ1 fun y μ4 => y = f x ∧ μ4 = μ1)) ∧
      Q (.lst ((xs.filter p).map f)) μ1) : SE K E Ed (tLc ti g tt te vs) ρ μ Q := by
  refine se_lc hj ?_
  intro w σ e ok l x k hk
  refine h w σ e ok l x k fun J ds w1 G Y ⟨e1, hz, hb, q⟩ ok1 l1 wk hG hY => hk J ds w1 G Y ?_ ok1 l1 wk hG hY
  subst e1
  refine ⟨fun i acc μ' => μ' = w1.μ ∧ acc = ((xs.take i).filter p).map f, ⟨rfl, rfl⟩, ?_, ?_⟩
  · rintro i d acc μ' hd ⟨rfl, rfl⟩
    rw [List.getElem?_map] at hd
    cases hx : xs[i]? with
    | none => rw [hx] at hd; cases hd
    | some x0 =>
      rw [hx] at hd
      cases hd
      have hi : i < xs.length := (List.getElem?_eq_some_iff.mp hx).1
      have e3 : xs.take (i + 1) = xs.take i ++ [x0] := by rw [List.take_add_one, hx]; rfl
      have e4 : (xs.take (i + 1)).filter p = (xs.take i).filter p ++ (if p x0 = true then [x0] else []) := by rw [e3, List.filter_append, List.filter_cons]; rfl
      intro w2 σ2 v e2 ok2 lo2 x2 i2 k2 hk2
      refine hb x0 (List.mem_of_getElem? hx) w2 σ2 v e2 ok2 lo2 x2 i2 k2 fun σ' ρ' w' ⟨em, hq⟩ lo' ok' l' out => hk2 σ' ρ' w' ?_ lo' ok' l' out
      intro w3 σ3 e3 ok3 lo3 x3 k3 hk3
      refine hq w3 σ3 (e3.trans em) ok3 lo3 x3 k3 fun b w4 ⟨eb, em4, hp⟩ ok4 l4 => hk3 b w4 ?_ ok4 l4
      subst eb
      cases hpx : p x0 with
      | true =>
        rw [if_pos rfl]
        intro w5 σ5 e5 ok5 lo5 x5 k5 hk5
        refine hp hpx w5 σ5 (e5.trans em4) ok5 lo5 x5 k5 fun y d6 w6 ⟨ey, em6⟩ i6 ok6 l6 => hk5 y d6 w6 ?_ i6 ok6 l6
        refine ⟨?_, em6, by rw [e4, hpx, if_pos rfl, List.map_append, ey]; rfl⟩
        rw [List.length_map]
        exact Nat.lt_of_le_of_lt (Nat.le_trans (List.length_filter_le _ _) (List.length_take_le _ _)) (Nat.lt_of_lt_of_le hi (Nat.le_of_lt hz))
      | false =>
        rw [if_neg Bool.false_ne_true]
        exact ⟨em4, by rw [e4, hpx, if_neg Bool.false_ne_true, List.append_nil]⟩
  · rintro acc μ' ⟨rfl, rfl⟩
    rw [List.length_map, List.take_length]
    exact q
theorem se_lcM {α : Type} {xs : List α} {gd : α → D} {f : α → D} {ti : TI} {g : TG} {vs js : List Nat} (hj : ∀ j ∈ js, j ∈ vs)
    (h : SI K E Ed ti ρ μ fun ds μ1 => ds = xs.map gd ∧ xs.length < sizeLine ∧ (∀ x ∈ xs, SG K E0 XF js g (gd x) (wipeE ρ vs) μ1 fun ρ2 μ2 => μ2 = μ1 ∧ SE K E0 XF te ρ2 μ1 fun y μ4 => y = f x ∧ μ4 = μ1) ∧
      Q (.lst (xs.map f)) μ1) : SE K E Ed (tLc ti g tYes te vs) ρ μ Q := by
  refine se_lcP (p := fun _ => true) (f := f) (gd := gd) (xs := xs) hj ?_
  intro w σ e ok l x k hk
  refine h w σ e ok l x k fun J ds w1 G Y ⟨e1, hz, hb, q⟩ ok1 l1 wk hG hY => hk J ds w1 G Y ⟨e1, hz, fun x0 hx => ?_, ?_⟩ ok1 l1 wk hG hY
  · intro w2 σ2 v e2 ok2 lo2 x2 i2 k2 hk2
    exact hb x0 hx w2 σ2 v e2 ok2 lo2 x2 i2 k2 fun σ' ρ' w' ⟨em, hq⟩ lo' ok' l' out => hk2 σ' ρ' w' ⟨em, st_yes ⟨rfl, rfl, fun _ => hq⟩⟩ lo' ok' l' out
  · rw [List.filter_eq_self.mpr (fun _ _ => rfl)]
    exact q
theorem sc_allM {α : Type} {xs : List α} {b : α → Bool} (q : Q (.bl (xs.all b)) μ) : SC K E Ed (rAll K) [.lst (xs.map fun x => D.bl (b x))] μ Q := by
  have e : (xs.map fun x => D.bl (b x)) = (xs.map b).map D.bl := by rw [List.map_map]; rfl
  rw [e]
  refine sc_all ?_
  have e2 : (xs.map b).all id = xs.all b := by rw [List.all_map]; rfl
  rw [e2]
  exact q
end
end DD
namespace DD
open PySem L2
theorem putD_at {f : Str} {d : D} {fs : List Str} {ds : List D} {j : Nat} (h : fs.idxOf f = j) (hj : j < fs.length) : putD f d fs ds = (fs, ds.set j d) := by
  unfold putD
  rw [h, if_pos hj]
theorem putD_new {f : Str} {d : D} {fs : List Str} {ds : List D} (h : f ∉ fs) : putD f d fs ds = (fs ++ [f], ds ++ [d]) := by
  unfold putD
  rw [if_neg fun z => h (List.idxOf_lt_length_iff.mp z)]
section
variable {K : PySem.W.Frag} {E : XK} {Ed : XD} {ρ : Env} {μ : Store} {ta te : TE} {P : DE}
theorem ss_fldJ {C : Addr} {f : Str} (c : Cls K C) (n : NoAttr K C f) (h : SE K E Ed te ρ μ fun d μ1 => SE K E Ed ta ρ μ1 fun o μ2 => ∃ a fs ds j μ3, o = .ref a ∧ fs.idxOf f = j ∧ j < fs.length ∧ Upd μ2 a (.ins C fs ds) (.ins C fs (ds.set j d)) μ3 ∧ fs.length < 900 ∧ P.nx ρ μ3) : SS K E Ed (sFld K ta te f) ρ μ P :=
  ss_fld c n (h.imp fun d μ1 h1 => h1.imp fun o μ2 ⟨a, fs, ds, j, μ3, e, hj, hl, u, hz, q⟩ => ⟨a, fs, ds, μ3, e, by rw [putD_at hj hl]; exact u, hz, q⟩)
theorem ss_fldN {C : Addr} {f : Str} (c : Cls K C) (n : NoAttr K C f) (h : SE K E Ed te ρ μ fun d μ1 => SE K E Ed ta ρ μ1 fun o μ2 => ∃ a fs ds μ3, o = .ref a ∧ f ∉ fs ∧ Upd μ2 a (.ins C fs ds) (.ins C (fs ++ [f]) (ds ++ [d])) μ3 ∧ fs.length < 900 ∧ P.nx ρ μ3) : SS K E Ed (sFld K ta te f) ρ μ P :=
  ss_fld c n (h.imp fun d μ1 h1 => h1.imp fun o μ2 ⟨a, fs, ds, μ3, e, hj, u, hz, q⟩ => ⟨a, fs, ds, μ3, e, by rw [putD_new hj]; exact u, hz, q⟩)
theorem sg_fldJ {C : Addr} {f : Str} {d : D} {Q : Env → Store → Prop} (c : Cls K C) (n : NoAttr K C f) (h : SE K E Ed ta ρ μ fun o μ2 => ∃ a fs ds j μ3, o = .ref a ∧ fs.idxOf f = j ∧ j < fs.length ∧ Upd μ2 a (.ins C fs ds) (.ins C fs (ds.set j d)) μ3 ∧ fs.length < 900 ∧ Q ρ μ3) : SG K E Ed [] (gFld K ta f) d ρ μ Q :=
  sg_fld c n (h.imp fun o μ2 ⟨a, fs, ds, j, μ3, e, hj, hl, u, hz, q⟩ => ⟨a, fs, ds, μ3, e, by rw [putD_at hj hl]; exact u, hz, q⟩)
theorem ss_fldaugJ {C : Addr} {f : Str} {g : Int → Int → Int} {rd : V → V → Hp → VK → Prop} (hrd : ∀ (i j : Int) (H : Hp) (k : VK), k (.int (g i j)) H → rd (.int i) (.int j) H k) (c : Cls K C) (n : NoAttr K C f)
    (h : SE K E Ed ta ρ μ fun o μ1 => ∃ a fs ds m i, o = .ref a ∧ (a, D.ins C fs ds) ∈ μ1 ∧ fs.idxOf f = m ∧ m < fs.length ∧ ds[m]? = some (.int i) ∧ SE K E Ed te ρ μ1 fun d μ2 => ∃ j ds' μ3, d = .int j ∧ Upd μ2 a (.ins C fs ds') (.ins C fs (ds'.set m (.int (g i j)))) μ3 ∧ fs.length < 900 ∧ P.nx ρ μ3) :
    SS K E Ed (sFldAug K ta te rd f) ρ μ P :=
  ss_fldaug hrd c n (h.imp fun o μ1 ⟨a, fs, ds, m, i, e, hm, hj, hl, hi, h1⟩ => ⟨a, fs, ds, i, e, hm, by rw [hj]; exact hi, h1.imp fun d μ2 ⟨j, ds', μ3, e2, u, hz, q⟩ => ⟨j, fs, ds', μ3, e2, by rw [putD_at hj hl]; exact u, hz, q⟩⟩)
theorem rd_add : ∀ (i j : Int) (H : Hp) (k : VK), k (.int (i + j)) H → rAdd (.int i) (.int j) H k := fun i j H k h => ⟨i, j, rfl, rfl, h⟩
/-- o.f, its place told -/
theorem se_fldJ {C : Addr} {f : Str} {Q : D → Store → Prop} (c : Cls K C) (n : NoAttr K C f) (h : SE K E Ed ta ρ μ fun d μ1 => ∃ a fs ds j e, d = .ref a ∧ (a, D.ins C fs ds) ∈ μ1 ∧ fs.idxOf f = j ∧ ds[j]? = some e ∧ Q e μ1) : SE K E Ed (tFld K ta f) ρ μ Q := by
  intro w σ e ok l x k hk
  refine h w σ e ok l x _ fun v d w1 ⟨a, fs, ds, j, e', e1, hm, hj, hl, q1⟩ i1 ok1 l1 => ?_
  subst e1
  cases i1
  obtain ⟨_, dx, vs, h1, h2, h3⟩ := ok1.own _ hm
  obtain ⟨v, hv, is⟩ := h3.at hl
  exact ⟨a, C, dx, _, v, rfl, h1, c, n, look_zip hj h2 hv, hk _ _ w1 q1 is ok1 l1⟩
theorem se_fldSJ {C : Addr} {f : Str} {Q : D → Store → Prop} (c : Cls K C) (n : NoAttr K C f) (h : SE K E Ed ta ρ μ fun d μ1 => ∃ fs ds j e, d = .ins C fs ds ∧ fs.idxOf f = j ∧ ds[j]? = some e ∧ Q e μ1) : SE K E Ed (tFld K ta f) ρ μ Q := by
  intro w σ e ok l x k hk
  refine h w σ e ok l x _ fun v d w1 ⟨fs, ds, j, e', e1, hj, hl, q1⟩ i1 ok1 l1 => ?_
  subst e1
  cases i1 with
  | @ins a C dx fs vs ds h1 h2 h3 =>
  obtain ⟨v, hv, is⟩ := h3.at hl
  exact ⟨a, C, dx, _, v, rfl, ok1.sub _ _ h1, c, n, look_zip hj h2 hv, hk _ _ w1 q1 is ok1 l1⟩
end
end DD
namespace DD
open PySem L2
/-! ### the same, the written part told -/
section
variable {X : Cx} {K : PySem.W.Frag}
theorem op_addK (hK : X.K = K) : OpR X (binaryOp .Add) (rAddX K) := hK ▸ op_addX
theorem op_eqK (hK : X.K = K) (hu : X.A.units + 64 < cLine) : OpR X (compareOp .Eq) (rEqX K) := hK ▸ op_eqX hu
theorem op_neK (hK : X.K = K) (hu : X.A.units + 64 < cLine) : OpR X (compareOp .NotEq) (rNeX K) := hK ▸ op_neX hu
theorem op_inK (hK : X.K = K) (hu : X.A.units + 65 < cLine) : OpR X (compareOp .In) (rInX K) := hK ▸ op_inX hu
theorem op_notInK (hK : X.K = K) (hu : X.A.units + 65 < cLine) : OpR X (compareOp .NotIn) (rNotInX K) := hK ▸ op_notInX hu
theorem sl_K (hK : X.K = K) : SlR X (rSlX K) := hK ▸ sl_X
theorem ix_K (hK : X.K = K) : IxR X (rIx K) := hK ▸ ix_seq
theorem call_lenK (hK : X.K = K) : CallR X (.builtin "len") (rLenX K) := hK ▸ call_lenX
theorem call_isiK' (hK : X.K = K) : CallR X (.builtin "isinstance") (rIsiX K) := hK ▸ call_isiX
theorem call_listK (hK : X.K = K) : CallR X (.type "list") (rListX K) := hK ▸ call_listX
theorem call_tupleK (hK : X.K = K) : CallR X (.type "tuple") (rTupleX K) := hK ▸ call_tupleX
theorem cr_allK (hK : X.K = K) (hc : X.calm = true) : CallR X (.builtin "all") (rAll K) := hK ▸ cr_all hc
theorem pe_fldK {e : Expr} {f : Str} {pos : Pos} {ta : TE} (hK : X.K = K) (he : PE X e ta) (hb : attributeBase e f X.env (eval e X.env) = eval e X.env := by rfl) : PE X (.Attribute e f pos) (tFld K ta f) := hK ▸ pe_fld he hb
theorem pi_anyK {tg l : Expr} {tl : TE} (hK : X.K = K) (hl : PE X l tl) : PI X tg l (iAny K tl) := hK ▸ pi_any hl
theorem pi_enumK {e : Expr} {ta : TA} {p pos tpos : Pos} {elts : List Expr} {kk : Nat} (hK : X.K = K) (hg : Gl X "enumerate") (hm : X.mg "enumerate" = none) (ha : PA X [e] ta) (hs : starEach [e] X.env = [(false, eval e X.env)] := by rfl) :
    PI X (.Tuple elts kk tpos) (.Call (.Name "enumerate" p) [e] [] pos) (iEnum K ta) := hK ▸ pi_enum hg hm ha hs
theorem pi_zipK {e e2 : Expr} {ta : TA} {p pos tpos : Pos} {elts : List Expr} {kk : Nat} (hK : X.K = K) (hg : Gl X "zip") (hm : X.mg "zip" = none) (ha : PA X [e, e2] ta)
    (hs : starEach [e, e2] X.env = (false, eval e X.env) :: starEach [e2] X.env := by rfl) (hpl : (backTo pos (starEach [e2] X.env)).any (·.1) = false := by rfl) :
    PI X (.Tuple elts kk tpos) (.Call (.Name "zip" p) [e, e2] [] pos) (RZ.iZipA K ta) := hK ▸ RZ.pi_zipA hg hm ha hs hpl
theorem pg_tupK {es : List Expr} {k : Nat} {t : TGs} {n : Nat} {pos : Pos} (hK : X.K = K) (hc : X.calm = true) (h : PGs X es t)
    (hn : (assignEach es X.env).length = n := by rfl) (hst : (assignEach es X.env).findIdx? (·.1) = none := by rfl) : PG X (.Tuple es k pos) (gTup K n t) := hK ▸ pg_tup hc h hn hst
theorem pg_fldK {o : Expr} {f : Str} {pos : Pos} {to : TE} (hK : X.K = K) (ho : PE X o to) : PG X (.Attribute o f pos) (gFld K to f) := hK ▸ pg_fld ho
end
end DD
namespace DD
theorem iteN1 {A B : Prop} (h : A) : if (!false) = true then A else B := by rw [if_pos (by decide)]; exact h
theorem iteN2 {A B : Prop} (h : B) : if (!true) = true then A else B := by rw [if_neg (by decide)]; exact h
end DD
namespace DD
open PySem L2
/-! ### a store in another order, a store without what nobody asks for any more -/
theorem Wd.Ok.perm {K : PySem.W.Frag} {w : Wd} {μ' : Store} (ok : w.Ok K) (p : w.μ.Perm μ') : Wd.Ok K ⟨w.S, w.H, μ'⟩ ∧ w.le ⟨w.S, w.H, μ'⟩ :=
  ⟨⟨ok.sub, fun q hq => ok.own q (p.mem_iff.mpr hq), (p.map (·.1)).nodup_iff.mp ok.nd⟩, ⟨Ex.refl _, fun a o h h2 _ => ⟨h, h2⟩, fun a ha => .inl ((p.map (·.1)).mem_iff.mpr ha)⟩⟩
theorem Wd.Ok.gone {K : PySem.W.Frag} {w : Wd} {μx μ' : Store} (ok : w.Ok K) (p : w.μ.Perm (μx ++ μ')) : Wd.Ok K ⟨w.S, w.H, μ'⟩ ∧ w.le ⟨w.S, w.H, μ'⟩ := by
  have hs : ∀ q ∈ μ', q ∈ w.μ := fun q hq => p.mem_iff.mpr (List.mem_append_right _ hq)
  refine ⟨⟨ok.sub, fun q hq => ok.own q (hs q hq), ?_⟩, ⟨Ex.refl _, fun a o h h2 _ => ⟨h, h2⟩, fun a ha => .inl ?_⟩⟩
  · have h := (p.map (·.1)).nodup_iff.mp ok.nd
    rw [List.map_append] at h
    exact (List.nodup_append.mp h).2.1
  · obtain ⟨q, hq, e⟩ := List.mem_map.mp ha
    exact List.mem_map.mpr ⟨q, hs q hq, e⟩
def gR (Q : D → Store → Prop) : D → Store → Prop := fun d μ' => ∃ μx μ2, μ'.Perm (μx ++ μ2) ∧ Q d μ2
def gX (Ed : XD) : XD := fun C fs ds μ' => ∃ μx μ2, μ'.Perm (μx ++ μ2) ∧ Ed C fs ds μ2
section
variable {K : PySem.W.Frag} {E : XK} {Ed : XD} {ρ : Env} {μ μ' : Store} {te : TE} {ts : TS} {Q : D → Store → Prop} {P : DE}
theorem XL.gone {w : Wd} (x : XL K E w Ed) : XL K E w (gX Ed) := fun C fs vs ds w' dd ⟨μx, μ2, p, q⟩ h1 h2 h3 ok l => by
  obtain ⟨ok2, l2⟩ := ok.gone p
  refine x C fs vs ds ⟨w'.S, w'.H, μ2⟩ dd q h1 h2 h3 ok2 ⟨l.ex, l.kp, fun a ha => ?_⟩
  obtain ⟨q', hq, e⟩ := List.mem_map.mp (show a ∈ dom μ2 from ha)
  exact l.nw a (List.mem_map.mpr ⟨q', p.mem_iff.mpr (List.mem_append_right _ hq), e⟩)
theorem le_gone {w w' : Wd} {μx μ2 : Store} (l : w.le w') (p : w'.μ.Perm (μx ++ μ2)) : w.le ⟨w'.S, w'.H, μ2⟩ := ⟨l.ex, l.kp, fun a ha => by
  obtain ⟨q', hq, e⟩ := List.mem_map.mp (show a ∈ dom μ2 from ha)
  exact l.nw a (List.mem_map.mpr ⟨q', p.mem_iff.mpr (List.mem_append_right _ hq), e⟩)⟩
/-- a def's body: what it has made for itself may be forgotten at its ends -/
theorem ss_gone (h : SS K E (gX Ed) ts ρ μ { P with rt := gR P.rt }) : SS K E Ed ts ρ μ P := by
  intro w σ e ok l x D o
  refine h w σ e ok l x.gone D ⟨o.nx, fun v d w' ⟨μx, μ2, p, q⟩ i ok' l' => ?_, o.bk, o.ct⟩
  obtain ⟨ok2, _⟩ := ok'.gone p
  exact o.rt v d ⟨w'.S, w'.H, μ2⟩ q i ok2 (le_gone l' p)
theorem ss_perm (p : μ.Perm μ') (h : SS K E Ed ts ρ μ' P) : SS K E Ed ts ρ μ P := by
  intro w σ e ok l x D o
  obtain ⟨ok2, l2⟩ := ok.perm (μ' := μ') (e ▸ p)
  exact h ⟨w.S, w.H, μ'⟩ σ rfl ok2 l (x.step ok ok2 l2) D (o.step ok ok2 l2)
theorem se_perm (p : μ.Perm μ') (h : SE K E Ed te ρ μ' Q) : SE K E Ed te ρ μ Q := by
  intro w σ e ok l x k hk
  obtain ⟨ok2, l2⟩ := ok.perm (μ' := μ') (e ▸ p)
  exact h ⟨w.S, w.H, μ'⟩ σ rfl ok2 l (x.step ok ok2 l2) k (KE.step hk ok ok2 l2)
theorem gR.of {d : D} (q : Q d μ) : gR Q d μ := ⟨[], μ, .refl _, q⟩
end
end DD
namespace DD
open PySem L2
theorem pe_bmK {X : Cx} {K : PySem.W.Frag} {e : Expr} {T : String} {r : V → List V → Hp → VK → Prop} {to : TE} {t : TA} (hK : X.K = K) (h : PE X e (tBM X.K T r to t)) : PE X e (tBM K T r to t) := hK ▸ h
theorem pe_bm0K {X : Cx} {K : PySem.W.Frag} {e : Expr} {T : String} {r : V → List V → Hp → VK → Prop} {to : TE} (hK : X.K = K) (h : PE X e (tBM0 X.K T r to)) : PE X e (tBM0 K T r to) := hK ▸ h
end DD
namespace DD
open PySem L2
/-- a statement, then the rest, with a word between them -/
theorem ss_mid {K : PySem.W.Frag} {E : XK} {Ed : XD} {ρ : Env} {μ : Store} {t1 t2 : TS} {P : DE} (M : Env → Store → Prop) (h1 : SS K E Ed t1 ρ μ { P with nx := M }) (h2 : ∀ ρ' μ', M ρ' μ' → SS K E Ed t2 ρ' μ' P) : SS K E Ed (tSeq t1 t2) ρ μ P :=
  ss_seq (h1.imp (fun _ _ m => h2 _ _ m) (fun _ _ q => q) (fun _ _ q => q) fun _ _ q => q)
end DD
namespace DD
open PySem L2
/-- the same, the rest standing in what follows already -/
theorem ss_via {K : PySem.W.Frag} {E : XK} {Ed : XD} {ρ : Env} {μ : Store} {t1 : TS} {P : DE} (M : Env → Store → Prop) (h1 : SS K E Ed t1 ρ μ { P with nx := M }) (h2 : ∀ ρ' μ', M ρ' μ' → P.nx ρ' μ') : SS K E Ed t1 ρ μ P :=
  h1.imp h2 (fun _ _ q => q) (fun _ _ q => q) fun _ _ q => q
end DD
set_option Elab.async false
set_option linter.all false
set_option maxRecDepth 100000
set_option maxHeartbeats 2000000
namespace DD
open PySem L2 PySem.Spec PyProof.Rows
/-! ### try: .. with several clauses «except x as n», n the same in all -/
abbrev Suite := Addr → Value → Option Addr → TS
/-- D, the clause's name forgotten at each end -/
def endsAs (i : Nat) (D : Ends) : Ends := ⟨fun τ G => D.nx (τ.set i none) G, D.rt, fun τ G => D.bk (τ.set i none) G, fun τ G => D.ct (τ.set i none) G⟩
def wTry (K : PySem.W.Frag) (i : Nat) (Wo : WX) (D : Ends) : List (Value × Suite) → WX
  | [] => Wo
  | (c, su) :: more => fun k d τ G => ∃ yes, PySem.W.exmOne K k c = some yes ∧
      (yes = true → ∀ e, G e = none → su e k d (endsAs i D) (τ.set i (some (.ref e))) G) ∧ (yes = false → wTry K i Wo D more k d τ G)
theorem wTry_no {K : PySem.W.Frag} {i : Nat} {Wo : WX} {D : Ends} {c k : Value} {su : Suite} {more : List (Value × Suite)} {d : Option Addr} {τ : L2.St} {G : Hp} (h : PySem.W.exmOne K k c = some false) (r : wTry K i Wo D more k d τ G) : wTry K i Wo D ((c, su) :: more) k d τ G :=
  Exists.intro false (And.intro h (And.intro (fun z => Bool.noConfusion z) fun _ => r))
theorem wTry_yes {K : PySem.W.Frag} {i : Nat} {Wo : WX} {D : Ends} {c k : Value} {su : Suite} {more : List (Value × Suite)} {d : Option Addr} {τ : L2.St} {G : Hp} (h : PySem.W.exmOne K k c = some true) (r : ∀ e, G e = none → su e k d (endsAs i D) (τ.set i (some (.ref e))) G) : wTry K i Wo D ((c, su) :: more) k d τ G :=
  Exists.intro true (And.intro h (And.intro (fun _ => r) fun z => Bool.noConfusion z))
inductive Clauses (X : Cx) (n : Str) : List ExceptHandler → List (Value × Suite) → Prop
  | none : Clauses X n [] []
  | more {x : Str} {c : Value} {su : Suite} {s0 : Stmt} {ss : List Stmt} {p q : Pos} {hs : List ExceptHandler} {l : List (Value × Suite)} (nm : Names X x c)
      (body : ∀ (e : Addr) (oe : Obj) (k : Value) (d : Option Addr) (pn : List (Addr × Obj)), Zc k d oe → (∃ vs, oe.data = .fields vs) → PSs (X.suite e ((e, oe) :: pn)) (s0 :: ss) (su e k d))
      (rest : Clauses X n hs l) : Clauses X n (.ExceptHandler (some (.Name x p)) (some n) (s0 :: ss) q :: hs) ((c, su) :: l)
section
variable {X : Cx} {pins : List (Addr × Obj)} {i : Nat} {n : Str}
/-- an exception e that lies at the door of the frame's own handlers -/
structure Door (X : Cx) (pins : List (Addr × Obj)) (τ : L2.St) (G : Hp) (e : Addr) (k : Value) (d : Option Addr) (B : Heap) (s0 s : Shared) : Prop where
  inv : Inv X pins τ G s0
  old : ∀ b o, s0.heap.get? b = some o → b ∉ frs X.stack → B.get? b = some o
  up : s0.heap.UpToSlots s.heap
  fly : HandSPX.FlyingZ B (X.env :: X.outer) e (Zc k d) s.heap
  os : s.os = s0.os
  bare : AllBare s.gens
  new : G e = none
  notL : e ≠ X.env.locals
  notF : e ∉ X.fs
  stk : X.stack = X.env :: X.outer
  frm : X.env.frame = some X.env.locals
theorem Door.now {τ : L2.St} {G : Hp} {e : Addr} {k : Value} {d : Option Addr} {B : Heap} {s0 s : Shared} (z : Door X pins τ G e k d B s0 s) : Inv X pins τ G s :=
  z.inv.landed z.old z.fly.1 z.up z.os z.bare
/-- no clause takes it -/
theorem Door.none {τ : L2.St} {G : Hp} {e : Addr} {k : Value} {d : Option Addr} {B : Heap} {s0 s : Shared} {Wo : WX} {Q : Flow → Shared → Prop} (z : Door X pins τ G e k d B s0 s) (tk : Takes X Wo) (w : Wo k d τ G) :
    wpAny (model X.prog X.w) X.A (handleBy (.ref e) X.env []) Q X.xe s := by
  refine wpAny_handleBy_nil ?_
  have last : wpAny (model X.prog X.w) X.A (setFlight (.ref e) X.env.frame) (fun _ s4 => wpAny (model X.prog X.w) X.A (throw (.ref e) : Sem Flow) Q X.xe s4) X.xe s := by
    rw [z.frm]
    refine HandSPX.setFlight_upZ z.fly fun h4 hh4 up4 => wpAny_throw (tk _ _ ?_)
    have sky : Sky B X.stack e (Zc k d) X.env.locals h4 := .inr (.inr (by rw [z.stk]; exact hh4))
    exact ⟨e, B, s0, pins, τ, G, k, d, rfl, z.inv, z.old, z.up.trans up4, sky, z.new, z.os, z.bare, w⟩
  obtain ⟨_, _, _, oe, vs, tb, _, _, he, _, hd, hf, _⟩ := id z.fly
  unfold PySem.passOn
  refine wpAny_bind (wpAny_field he hd hf ?_)
  have ne : ¬ ((Value.ref tb == Value.none) = true) := by simp
  rw [if_neg ne]
  first
    | exact wpAny_bind (wpAny_pure (wpAny_bind last))
    | exact wpAny_bind last
/-- the clauses, one after the other -/
theorem Door.go {τ : L2.St} {G : Hp} {e : Addr} {k : Value} {d : Option Addr} {B : Heap} {s0 s : Shared} {Wo : WX} {D : Ends} (z : Door X pins τ G e k d B s0 s) (tk : Takes X Wo) (hN : X.N.Nodup) (hi : X.N[i]? = some n) (hln : X.env.kindOf n = some .local) :
    ∀ {hs : List ExceptHandler} {l : List (Value × Suite)}, Clauses X n hs l → wTry X.K i Wo D l k d τ G → wpAny (model X.prog X.w) X.A (handleBy (.ref e) X.env hs) (L2.SP X pins D) X.xe s := by
  intro hs l cl
  induction cl with
  | none => exact fun w => z.none tk w
  | @more x c su b0 ss p q hs' l' nm body rest ih =>
    intro w
    obtain ⟨yes, hm, hy, hno⟩ := w
    obtain ⟨oe, vs, he, hz, hd⟩ := z.fly.there
    have stand := z.now.suite he hd z.new z.notL z.notF
    refine wpAny_handleBy_cons (codeAny_handlers_test ?_) (by intro h; cases h)
    have ask : ∀ {Q : Value → Shared → Prop} {E : Value → Shared → Prop}, Q c s → wpAny (model X.prog X.w) (X.A.mark (some (.ref e))) (eval (.Name x p) X.env) Q E s := by
      intro Q E q
      obtain ⟨g, dbg, m | ⟨m, v, nn⟩⟩ := nm
      · exact ld_glob (X := X.suite e ((e, oe) :: (X.pn ++ pins))) stand g m q dbg
      · exact ld_blt (X := X.suite e ((e, oe) :: (X.pn ++ pins))) stand g m v q nn dbg
    have kind : PySem.W.Looks (model X.prog X.w) s.heap (typeOf (.ref e)) k := fun A Q E s' keep h => wpAny_typeOf_ref (keep _ _ he) (by rw [hz.1]; exact h)
    refine ask ((PySem.W.exm_one (M := model X.prog X.w) z.now.kIn kind hm).here ?_)
    cases yes with
    | false => exact ih (hno rfl)
    | true =>
      refine codeAny_handlers_suite_as ?_
      refine HandSPX.lands_againZ z.fly fun h4 fly4 up4 => ?_
      have z4 : Door X pins τ G e k d B s0 { s with heap := h4 } := ⟨z.inv, z.old, z.up.trans up4, fly4, z.os, z.bare, z.new, z.notL, z.notF, z.stk, z.frm⟩
      obtain ⟨oe4, vs4, he4, hz4, hd4⟩ := fly4.there
      have stand4 := z4.now.suite he4 hd4 z.new z.notL z.notF
      refine store_ok (X := X.suite e ((e, oe4) :: (X.pn ++ pins))) (v := .ref e) stand4 hN hi (.inl hln) rfl (fun s5 stand5 => ?_) (.inr hln)
      refine wpAny_mono ((body e oe4 k d (X.pn ++ pins) hz4 ⟨_, hd4⟩).run [] s5 _ G _ stand5 (hy rfl e z.new)) (fun fl s6 out => ?_) fun _ _ no => no.elim
      have ok := z.inv.ok
      cases fl with
      | next =>
        obtain ⟨τ6, G6, st6, q6⟩ := out
        exact gone_ok (st6.unsuite ok) hN hi hln fun s7 j7 => ⟨_, _, j7, q6⟩
      | brk =>
        obtain ⟨τ6, G6, st6, q6⟩ := out
        exact gone_ok (st6.unsuite ok) hN hi hln fun s7 j7 => ⟨_, _, j7, q6⟩
      | cont =>
        obtain ⟨τ6, G6, st6, q6⟩ := out
        exact gone_ok (st6.unsuite ok) hN hi hln fun s7 j7 => ⟨_, _, j7, q6⟩
      | ret u =>
        obtain ⟨v6, τ6, G6, st6, r6, q6⟩ := out
        exact gone_ok (st6.unsuite ok) hN hi hln fun s7 j7 => ⟨_, _, _, j7, r6, q6⟩
theorem ps_tryAs {body : List Stmt} {h0 : ExceptHandler} {hs : List ExceptHandler} {l : List (Value × Suite)} {pos : Pos} {tb : WX → TS} {Wo : WX} (stk : X.stack = X.env :: X.outer) (frm : X.env.frame = some X.env.locals) (hN : X.N.Nodup) (hi : X.N[i]? = some n)
    (hln : X.env.kindOf n = some .local) (tk : Takes X Wo) (hb : ∀ (W : WX) (pn : List (Addr × Obj)) (xe : Value → Shared → Prop), Takes (X.tr pn xe) W → PassesOwn (model X.prog X.w) X.A X.env xe → PSs (X.tr pn xe) body (tb W)) (cl : Clauses X n (h0 :: hs) l) :
    PS X (.Try body (h0 :: hs) [] [] pos) (fun D σ H => tb (wTry X.K i Wo D l) D σ H) := by
  refine ⟨fun pins s σ H D I h => ?_⟩
  have ok := I.ok
  have fr : X.A.frames = some (X.env :: X.outer) := by rw [ok.frames, stk]
  refine wpAny_Try_except ?_
  let door : Value → Shared → Prop := fun u s1 => wpAny (model X.prog X.w) X.A (noteFrame u X.env) (fun _ s2 => wpAny (model X.prog X.w) X.A (setFlight u none)
    (fun _ s3 => wpAny (model X.prog X.w) X.A (handleBy u X.env (h0 :: hs)) (L2.SP X pins D) X.xe s3) X.xe s2) X.xe s1
  have comes : Takes (X.tr (X.pn ++ pins) door) (wTry X.K i Wo D l) := by
    intro u s' x
    obtain ⟨e, B, s0, pins', τ, G, k, d, rfl, J', old, up, sky, na, os, bare, w⟩ := x
    have sky2 : Sky B (X.env :: X.outer) e (Zc k d) X.env.locals s'.heap := by rw [← stk]; exact sky
    show wpAny (model X.prog X.w) X.A (noteFrame (.ref e) X.env) _ _ _
    refine Sky.land Zc.steady fr frm sky2 fun h3 fly3 up3 => ?_
    obtain ⟨oe3, vs3, he3, hz3, hd3⟩ := fly3.there
    have away : e ∉ frs (X.env :: X.outer) := fun m => by
      obtain ⟨_, o', e', nf⟩ := fly3.2.2.1.mem m
      rw [he3] at e'
      cases e'
      exact nf _ hd3
    refine Door.go (i := i) (s0 := s0) (s := { s' with heap := h3 }) ⟨J'.ofTry ok, old, up.trans up3, fly3, os, bare, na, fun y => away ?_, fun y => away ?_, stk, frm⟩ tk hN hi hln cl w
    · exact List.mem_filterMap.mpr ⟨X.env, List.mem_cons_self, by rw [frm, y]⟩
    · obtain ⟨v, hv, q⟩ := List.mem_filterMap.mp y
      exact List.mem_filterMap.mpr ⟨v, List.mem_cons_of_mem _ hv, q⟩
  refine wpAny_mono ((hb _ (X.pn ++ pins) door comes PassesOwn.looking).run [] s σ H D (I.toTry _) h) (fun fl s1 out => ?_) fun u s1 q => q
  cases fl with
  | next =>
    obtain ⟨τ, G, J, q⟩ := out
    exact wpAny_execs_nil ⟨τ, G, J.ofTry ok, q⟩
  | brk =>
    obtain ⟨τ, G, J, q⟩ := out
    exact ⟨τ, G, J.ofTry ok, q⟩
  | cont =>
    obtain ⟨τ, G, J, q⟩ := out
    exact ⟨τ, G, J.ofTry ok, q⟩
  | ret u =>
    obtain ⟨v, τ, G, J, r, q⟩ := out
    exact ⟨v, τ, G, J.ofTry ok, r, q⟩
end
end DD
set_option Elab.async false
set_option linter.all false
set_option maxRecDepth 100000
set_option maxHeartbeats 2000000
namespace DD
open PySem L2 PySem.Spec PyProof.Rows LamX
/-! ### f(lambda: e), told by just what it changes: the table of code objects, and one new code object -/
section
variable {X : Cx} {pins : List (Addr × Obj)} {σ : L2.St} {H : Hp} {s : Shared}
/-- the heap behind: as it was, or a code object more that the table tells -/
def OneMore (H H1 : Hp) (P c : Addr) (q : Str) (ps : Array Value) : Prop := H1 = H ∨ ∃ more : Array Value, H c = none ∧ H1 = upd (upd H P (.tbl (ps ++ more))) c (CodeO c q) ∧ TriplesOk (ps ++ more).toList ∧
  ∀ (pos : Pos) (cv : Value), codeAmong pos (ps ++ more).toList = some cv → codeAmong pos ps.toList = some cv ∨ cv = .ref c
abbrev lamO (X : Cx) (params : Arguments) (body : Expr) (scope : Scope) (pm : Value) (c : Addr) (ctv : Value) : Obj := PySem.W.kla_obj "<lambda>" (X.env.qual ++ "<lambda>") params body scope (cloFrom X.env.cells scope.names []) pm c ctv
theorem lam_made {c P : Addr} {params : Arguments} {body : Expr} {scope : Scope} {pos : Pos} {E Q : Value → Shared → Prop} {ps : Array Value} (I : Inv X pins σ H s) (TB : TabB X.base X.mg c P) (code : X.env.code = .ref c) (tab : H P = some (.tbl ps)) (trip : TriplesOk ps.toList)
    (told : ∀ (p : Pos) (cv : Value), codeAmong p ps.toList = some cv → ∃ k, cv = .ref k ∧ H k = some (CodeO k (X.env.qual ++ "<lambda>"))) (nodef : defaultsOf params X.env = ([], [])) (cap : ∀ y ∈ scope.names, y.2 = .free → ∃ k, X.env.cells.lookup y.1 = some k)
    (h : ∀ (f k : Addr) (pm ctv : Value) (H1 : Hp) (s1 : Shared), Inv X pins σ H1 s1 → OneMore H H1 P k (X.env.qual ++ "<lambda>") ps → s1.heap.get? f = some (lamO X params body scope pm k ctv) → H1 f = none → f ∉ frs X.stack → H1 k = some (CodeO k (X.env.qual ++ "<lambda>")) → Q (.ref f) s1) :
    wpAny (model X.prog X.w) X.A (eval (.Lambda params body scope pos) X.env) Q E s := by
  refine PySem.W.kla_eval nodef ?_
  have blt := TB.bm.keeps I.bk
  have tab0 : s.heap.get? P = some { cls := .none, data := .fields ps } := I.hok P _ tab
  have out : ∀ f, s.heap.objs.size ≤ f → f ∉ frs X.stack := by
    intro f hf m
    rcases List.mem_cons.mp (I.stkSub _ m) with e | e
    · rw [e] at hf
      exact Nat.not_lt.mpr hf I.lt
    · exact I.nofs hf e
  have clo := closure_ok cap
  cases among : codeAmong pos ps.toList with
  | some cv =>
    obtain ⟨k, e, stands⟩ := told pos cv among
    subst e
    refine PySem.W.kla_makeFunctionHit (mg := X.mg) (c := c) (P := P) (ps := ps) clo I.ok.glob (I.mod.glob.keeps I.bk) code (TB.code.keeps I.bk) tab0 trip among blt fun ctv h1 tk keep size => ?_
    have J : Inv X pins σ H { s with heap := h1.push (lamO X params body scope ((X.mg "__name__").getD .none) k ctv), toks := tk } :=
      I.kept fun b o e => Heap.get?_push_of_some _ (keep b o e)
    exact h _ k _ ctv H _ J (.inl rfl) (Heap.get?_push_size _ rfl) (I.hok.fresh size) (out _ size) stands
  | none =>
    refine PySem.W.kla_makeFunction (mg := X.mg) (c := c) (P := P) (ps := ps) clo I.ok.glob (I.mod.glob.keeps I.bk) code (TB.code.keeps I.bk) tab0 trip among TB.gP blt fun k ctv h1 tk keep ge lt rec_ grown => ?_
    obtain ⟨k2, ok, vs, t, e2, hok, hd, hv⟩ := rec_
    cases e2
    have size : s.heap.objs.size ≤ h1.objs.size := by omega
    have free : H k = none := I.hok.fresh ge
    have J := inv_table (t' := tk) (more := #[rawInt pos.line, rawInt pos.col, .ref k]) (h' := h1.push (lamO X params body scope ((X.mg "__name__").getD .none) k ctv)) I tab
      (fun b o nb e => Heap.get?_push_of_some _ (keep b o nb e)) (Heap.get?_push_of_some _ grown) ge ⟨ok, vs, t, Heap.get?_push_of_some _ hok, hd, hv⟩
    have list : (ps ++ #[rawInt pos.line, rawInt pos.col, .ref k]).toList = ps.toList ++ [rawInt pos.line, rawInt pos.col, .ref k] := by simp
    refine h h1.objs.size k _ ctv _ _ J (.inr ⟨#[rawInt pos.line, rawInt pos.col, .ref k], free, rfl, ?_, fun p cv hcv => ?_⟩) (Heap.get?_push_size _ rfl) ?_ (out _ size) upd_same
    · rw [list]
      exact PySem.TriplesOk_snoc _ _ _ _ trip
    · rw [list] at hcv
      exact among_app _ trip hcv
    · have n1 : h1.objs.size ≠ k := by omega
      have n2 : h1.objs.size ≠ P := fun z => Nat.not_lt.mpr (z ▸ size) (Heap.lt_size tab0)
      rw [upd_ne n1, upd_ne n2]
      exact I.hok.fresh size
end
/-- the reading of x(lambda: ..): the table as it is, then what x makes of the body's reading -/
def tLam1 (P : Addr) (q : Str) (TT : (XK → Hp → VK → Prop) → Hp → VK → Prop) (t : XK → TE) : TE := fun σ H Q => ∃ ps : Array Value, H P = some (.tbl ps) ∧ TriplesOk ps.toList ∧
  (∀ (p : Pos) (cv : Value), codeAmong p ps.toList = some cv → ∃ k, cv = .ref k ∧ H k = some (CodeO k q)) ∧ ∀ (H1 : Hp) (k : Addr), OneMore H H1 P k q ps → H1 k = some (CodeO k q) → TT (fun E H' Q' => t E σ H' Q') H1 Q
section
variable {X : Cx}
theorem pe_lam1 {TT : (XK → Hp → VK → Prop) → Hp → VK → Prop} {x a : Str} {g c P : Addr} {k : Nat} {pg : Arguments} {bg : List Stmt} {sg : Scope} {dV kV doc pm cdv ct oc : Value} {an od : Option Addr} {osl : Array (Option Value)} {Ng : List Str}
    {params : Arguments} {body : Expr} {scope : Scope} {t : XK → TE} {p lpos pos : Pos} (gl : Gl X x) (hm : X.mg x = some (.ref g)) (kp : PySem.W.keepIn X.K (.ref g) = true)
    (lk : X.K.lookup g = some ⟨oc, od, .func (PySem.W.fnOf x x pg bg sg dV kV doc pm an cdv ct), osl⟩) (cg : PySem.W.codeIn X.K cdv x = true) (bi : L2.Binds X.K (PySem.W.fnOf x x pg bg sg dV kV doc pm an cdv ct) [a] []) (Sg : FnScope Ng [a] sg) (na : Ng[0]? = some a) (va : Vis sg a)
    (gives : GivesTo X Ng x sg g cdv bg a (X.env.qual ++ "<lambda>") TT) (TB : TabB X.base X.mg c P) (code : X.env.code = .ref c) (hr : Room (k + 2) X.A) (L : LamS X.env.scope scope) (nodef : defaultsOf params X.env = ([], []))
    (bind : ∀ (q : Str) (cl : List (Str × Addr)) (pm cv ctv : Value), bindArgs (PySem.W.kla_fn "<lambda>" q params body scope cl pm cv ctv) ⟨[], []⟩ = pure [])
    (inner : ∀ (A : Around) (outer : List PySem.Env) (s : Shared) (H : Hp) (E : XK) (f c' : Addr), Room k (A.deeper (lamEnv X scope s.heap.objs.size f c')) → PE (lamCx X A outer s H E scope f c') body (t E))
    (hdb : (x == ("__debug__" : Str)) = false := by decide) (hd : (a == ("__debug__" : Str)) = false := by decide) (hcd : (a == ("__classdict__" : Str)) = false := by decide) :
    PE X (.Call (.Name x p) [.Lambda params body scope lpos] [] pos) (tLam1 P (X.env.qual ++ "<lambda>") TT t) := by
  refine ⟨fun pins s σ H Q I h => ?_⟩
  obtain ⟨ps, tab, trip, told, h⟩ := h
  refine wpAny_Call_Name_kw (ld_glob I gl hm ?_ hdb)
  refine PySem.W.callWith_K (h₀ := X.base) I.ok.mod.kin kp ?_ (by rfl) (by rfl)
  show wpAny _ _ (spliced ((false, eval (.Lambda params body scope lpos) X.env) :: backTo pos (starEach [] X.env))) _ _ s
  refine Calls.spliced_cons (lam_made I TB code tab trip told nodef (L.has I.ok) fun f c' pm' ctv H1 s1 J om hf free nofr stands => ?_)
  refine Calls.spliced_nil ⟨J.kIn, ?_⟩
  have room : Room (k + 1 + 1) X.A := hr
  have called : codeAny (model X.prog X.w) X.A (.call (.ref g) ⟨[.ref f], []⟩) (CR C8.CX0 X.stack X.prog X.w H1 s1 Q C8.E0) s1 := by
    refine run_ofS (N := Ng) (ps := [a]) (us := [.ref f]) (vs := [.ref f]) lk cg Sg room J.env0 (bi s1 [.ref f] J.kIn rfl) (.cons rfl .nil) rfl fun room' => ?_
    obtain ⟨t', ht', hq'⟩ := gives f c' s1 H1 Q (fun E H' Q' => t E σ H' Q')
      (fun W pn xe E p1 p2 tk hW => pe_act (i := 0) J L hf free nofr (bind _ _ _ _ _) tk hW room' (fun A outer s' H' r2 => inner A outer s' H' E f c' r2) na va hd hcd) stands (h H1 c' om stands)
    exact ⟨t', ht'.nox, hq'⟩
  refine wpAny_call (codeAny_mono called fun r s2 hq => ?_)
  cases r with
  | error e => exact (show False from hq).elim
  | ok fl =>
    cases fl with
    | ret u => exact J.after hq
    | next => exact hq.elim
    | brk => exact hq.elim
    | cont => exact hq.elim
end
end DD
set_option Elab.async false
set_option linter.all false
set_option maxRecDepth 100000
set_option maxHeartbeats 1000000
namespace KT
open PySem L2 DD
def top (i : Nat) : Stmt := PySem.Challenge.pw_everycrew_k34_whole_letters_and_runs.main.body.getD i (.Pass ⟨0, 0, 0, 0⟩)
local macro_rules | `(tactic| walk_at "go") => `(tactic| first
  | with_reducible refine ss_seq ?_ | with_reducible refine ss_ret ?_ | with_reducible refine ss_if ?_ | with_reducible refine ss_set ?_ | with_reducible refine ss_drop ?_ | with_reducible refine ss_next ?_
  | with_reducible refine se_op ?_ | ((with_reducible refine' se_var ?h ?_); (case h => exact rfl)) | with_reducible refine se_int ?_ | with_reducible refine se_str ?_ | with_reducible refine se_bl ?_ | with_reducible refine se_non ?_ | with_reducible refine se_tup ?_ | with_reducible refine se_cb ?_ | with_reducible refine se_if ?_
  | with_reducible refine se_or ?_ | with_reducible refine se_and ?_ | with_reducible refine se_not ?_ | with_reducible refine se_sl ?_ | with_reducible refine so_none ?_ | with_reducible refine so_some ?_
  | with_reducible refine sa_cons ?_ | with_reducible refine sa_nil ?_ | with_reducible refine st_test ?_ | with_reducible refine st_B ?_ | with_reducible refine st_and ?_ | with_reducible refine st_or ?_ | with_reducible refine st_not ?_ | with_reducible refine st_yes ?_
  | with_reducible refine sg_name ?_ | with_reducible refine sg_tup rfl ?_ | with_reducible refine sgs_cons ?_ | with_reducible refine sgs_nil ?_
  | with_reducible refine sr_addI ?_ | with_reducible refine sr_sub ?_ | with_reducible refine sr_cmp ?_ | with_reducible refine sr_inS ?_ | with_reducible refine sr_ninS ?_
  | ((with_reducible refine' sr_eqS ?h ?_); (case h => exact rfl)) | ((with_reducible refine' sr_neS ?h ?_); (case h => exact rfl)) | ((with_reducible refine' sr_is ?h ?_); (case h => exact rfl)) | ((with_reducible refine' sr_isNot ?h ?_); (case h => exact rfl))
  | with_reducible refine sc_lenL ?_ | with_reducible refine sc_lenT ?_ | with_reducible refine sc_max2 ?_ | with_reducible refine sc_int ?_
  | with_reducible refine ⟨_, rfl, ?_⟩
  | with_reducible refine iteT ?_ | with_reducible refine iteF ?_ | with_reducible refine iteN1 ?_ | with_reducible refine iteN2 ?_)
local macro_rules | `(tactic| walk_at "walk") => `(tactic| repeat walk_at "go")
section
variable {P : Program} {w : World} {K : PySem.W.Frag} {mg : Str → Option Value} {base : Heap}
def keysS : List Str := ["site", "place", "crew", "rest", "road", "to", "by", "cost", "laid"]
def signsS : List Str := ["{", "}", ",", ";", ":"]
/-- the top's constants -/
structure Glob (K : PySem.W.Frag) (mg : Str → Option Value) : Prop where
  LETTERS : ∃ t, mg "LETTERS" = some (.str "abcdefghijklmnopqrstuvwxyz" t)
  FIGURES : ∃ t, mg "FIGURES" = some (.str "0123456789" t)
  LN : ∃ t, mg "LONGEST_NAME" = some (.int 12 t)
  LM : ∃ t, mg "LONGEST_NUMBER" = some (.int 3 t)
  KEYS : ∃ a, mg "KEYS" = some (.ref a) ∧ SqT K (fun _ => none) a (keysS.map V.str)
  SIGNS : ∃ a, mg "SIGNS" = some (.ref a) ∧ SqT K (fun _ => none) a (signsS.map V.str)
  len : mg "len" = none
  all : mg "all" = none
  isinstance : mg "isinstance" = none
  str : mg "str" = none
  max : mg "max" = none
  tuple : mg "tuple" = none
def isLetter (c : Nat) : Bool := decide (c ∈ ("abcdefghijklmnopqrstuvwxyz" : Str).cps.toList)
def isFigure (c : Nat) : Bool := decide (c ∈ ("0123456789" : Str).cps.toList)
def runSign (c : Nat) : Bool := isLetter c || isFigure c
theorem size16 : (sizeLine : Nat) = 16777216 := PySem.sizeLine_eq
theorem se_keys {a : Addr} {E : XK} {Ed : XD} {ρ : DD.Env} {μ : Store} {Q : D → Store → Prop} (h : SqT K (fun _ => none) a (keysS.map V.str)) (q : Q (.tup (keysS.map D.str)) μ) : SE K E Ed (tC (.ref a)) ρ μ Q := se_ktup h (fun S => IsAll.strs _) q
theorem se_signs {a : Addr} {E : XK} {Ed : XD} {ρ : DD.Env} {μ : Store} {Q : D → Store → Prop} (h : SqT K (fun _ => none) a (signsS.map V.str)) (q : Q (.tup (signsS.map D.str)) μ) : SE K E Ed (tC (.ref a)) ρ μ Q := se_ktup h (fun S => IsAll.strs _) q
/-! ### is_run_sign -/
def F_is_run_sign : FD := fun ds μ Q Ed => ∃ c, ds = [.str ⟨#[c]⟩] ∧ Q (.bl (runSign c)) μ
theorem sc_is_run_sign : FnScope ["sign"] ["sign"] (defScope (top 20)) := ⟨rfl, rfl, rfl, by decide +kernel, rfl, by decide +kernel, by decide +kernel⟩
theorem ok_is_run_sign {f : Addr} {fd : FuncData} (FU : Fun K "is_run_sign" "is_run_sign" (top 20) f fd) (G : Glob K mg) : FnOk P w K mg base (L2.CX P w) 1 f fd ["sign"] (spD K F_is_run_sign) := by
  obtain ⟨t1, C_LETTERS⟩ := G.LETTERS
  obtain ⟨t2, C_FIGURES⟩ := G.FIGURES
  refine fn_D FU sc_is_run_sign (fun ds μ Q Ed ⟨c, e, _⟩ => by rw [e]; rfl) fun cdv A outer s H E hr => ?_
  have nd := sc_is_run_sign.nd
  have hu65 : (A.deeper (PyProof.Rows.envOfC "is_run_sign" (defScope (top 20)) s.heap.objs.size f cdv)).units + 65 < cLine := by have := hr.un; omega
  have hu64 : (A.deeper (PyProof.Rows.envOfC "is_run_sign" (defScope (top 20)) s.heap.objs.size f cdv)).units + 64 < cLine := by have := hr.un; omega
  have hu1 : (A.deeper (PyProof.Rows.envOfC "is_run_sign" (defScope (top 20)) s.heap.objs.size f cdv)).units + 1 < cLine := by have := hr.un; omega
  refine ⟨_, (pss_one (ps_ret (pe_or (pe_cmpR (op_inK (K := K) rfl hu65) (pv 0) (pe_glob (v := .str "abcdefghijklmnopqrstuvwxyz") rfl C_LETTERS ⟨_, rfl⟩) (by rfl)) (pe_one (pe_cmpR (op_inK (K := K) rfl hu65) (pv 0) (pe_glob (v := .str "0123456789") rfl C_FIGURES ⟨_, rfl⟩) (by rfl)))))), ?_⟩
  rintro ds μ Qd Ed ⟨c, rfl, q⟩
  walk_at "walk"
  split
  · rename_i h
    have e : runSign c = true := by unfold runSign isLetter; rw [h]; rfl
    rw [e] at q
    exact q
  · rename_i h
    walk_at "walk"
    have e : runSign c = isFigure c := by unfold runSign isLetter; rw [show decide _ = false by simpa using h]; rfl
    rw [e] at q
    exact q
/-! ### is_numeral -/
theorem zero_TX : ("0" : Str) = TX [48] := by decide +kernel
def isNum (l : List Nat) : Bool := l.all isFigure && decide (l.length ≤ 3) && (decide (l = [48]) || !decide (l.head? = some 48))
def F_is_numeral : FD := fun ds μ Q Ed => ∃ c t, ds = [.str (TX (c :: t))] ∧ t.length < 16000000 ∧ Q (.bl (isNum (c :: t))) μ
theorem sc_is_numeral : FnScope ["run", "sign"] ["run"] (defScope (top 21)) := ⟨rfl, rfl, rfl, by decide +kernel, rfl, by decide +kernel, by decide +kernel⟩
theorem ok_is_numeral {f : Addr} {fd : FuncData} (FU : Fun K "is_numeral" "is_numeral" (top 21) f fd) (G : Glob K mg) : FnOk P w K mg base (L2.CX P w) 1 f fd ["run"] (spD K F_is_numeral) := by
  obtain ⟨t2, C_FIGURES⟩ := G.FIGURES
  obtain ⟨t3, C_LONGEST_NUMBER⟩ := G.LM
  have N_all := G.all
  have N_len := G.len
  refine fn_D FU sc_is_numeral (fun ds μ Q Ed ⟨c, t, e, _⟩ => by rw [e]; rfl) fun cdv A outer s H E hr => ?_
  have nd := sc_is_numeral.nd
  have hu65 : (A.deeper (PyProof.Rows.envOfC "is_numeral" (defScope (top 21)) s.heap.objs.size f cdv)).units + 65 < cLine := by have := hr.un; omega
  have hu64 : (A.deeper (PyProof.Rows.envOfC "is_numeral" (defScope (top 21)) s.heap.objs.size f cdv)).units + 64 < cLine := by have := hr.un; omega
  have hu1 : (A.deeper (PyProof.Rows.envOfC "is_numeral" (defScope (top 21)) s.heap.objs.size f cdv)).units + 1 < cLine := by have := hr.un; omega
  refine ⟨_, (pss_cons (ps_if (PW.pt (pw_or (pt_not (pt_val (pe_callB (cr_allK (K := K) rfl rfl) (by rfl) N_all b_all (pa_cons (pe_lc (own := [("sign", 1)]) rfl nd (pi_anyK (K := K) rfl (pv 0)) (blkOk_by (N := ["run", "sign"]) (sc := defScope (top 21)) (by decide +kernel)) (fun _ _ _ _ _ => (pg_name (i := 1) nd rfl (Or.inl rfl))) (fun _ _ _ _ _ => pts_nil) (fun _ _ _ _ _ => (pe_cmpR (op_inK (K := K) rfl hu65) (pv 1) (pe_glob (v := .str "0123456789") rfl C_FIGURES ⟨_, rfl⟩) (by rfl)))) pa_nil)))) (pw_or1 (pt_cmpR op_gt (pe_callB (call_lenK (K := K) rfl) (by rfl) N_len b_len (pa_cons (pv 0) pa_nil)) (pe_glob (v := .int 3) rfl C_LONGEST_NUMBER ⟨_, rfl⟩) (by rfl))))) (pss_one (ps_ret pe_bl)) pss_nil)
      (pss_one (ps_ret (pe_or (pe_cmpR (op_eqK (K := K) rfl hu64) (pv 0) pe_str (by rfl)) (pe_one (pe_cmpR (op_neK (K := K) rfl hu64) (pe_ix (ix_K (K := K) rfl) (pv 0) pe_int (fun _ _ => rfl)) pe_str (by rfl))))))), ?_⟩
  rintro ds μ Qd Ed ⟨c, t, rfl, hl, q⟩
  have s16 := size16
  have hL : (TX (c :: t)).length ≤ sizeLine := by rw [len_TX, List.length_cons]; omega
  refine ss_seq (ss_if (st_or (st_not (st_B (se_cb (sa_cons (se_lcM (xs := c :: t) (gd := fun c => .str ⟨#[c]⟩) (f := fun c => .bl (isFigure c)) (js := [1]) (by decide) (si_any (se_var rfl ?_)))))))))
  refine .inr (.inr ⟨_, rfl, ?_, by rw [List.length_cons]; omega, fun x hx => sg_name ⟨rfl, ?_⟩, ?_⟩)
  · unfold signsD; rw [tl_TX]
  · walk_at "walk"
    exact ⟨rfl, rfl⟩
  refine sa_nil (sc_allM ?_)
  refine ⟨_, rfl, ?_⟩
  split
  · rename_i h
    walk_at "walk"
    have h0 : (c :: t).all isFigure = false := by cases hh : (c :: t).all isFigure with | false => rfl | true => rw [hh] at h; cases h
    have e : isNum (c :: t) = false := by unfold isNum; rw [h0]; rfl
    rw [e] at q
    exact q
  · rename_i h
    walk_at "walk"
    refine sc_lenS hL ?_
    walk_at "walk"
    have h1 : (c :: t).all isFigure = true := by cases hh : (c :: t).all isFigure with | true => rfl | false => rw [hh] at h; exact absurd rfl h
    have e1 : decide ((3 : Int) < ((TX (c :: t)).length : Int)) = !decide ((c :: t).length ≤ 3) := by rw [len_TX, List.length_cons]; by_cases z : t.length + 1 ≤ 3 <;> simp [z] <;> omega
    rw [e1]
    cases h3 : decide ((c :: t).length ≤ 3) with
    | false =>
      walk_at "walk"
      have e : isNum (c :: t) = false := by unfold isNum; rw [h1, h3]; rfl
      rw [e] at q
      exact q
    | true =>
      walk_at "walk"
      rw [zero_TX]
      have e2 : decide (TX (c :: t) = TX [48]) = decide ((c :: t) = [48]) := by
        by_cases z : c :: t = [48]
        · rw [z]; simp
        · rw [decide_eq_false z, decide_eq_false fun y => z (TX_inj y)]
      rw [e2]
      have e3 : isNum (c :: t) = (decide (c :: t = [48]) || !decide ((c :: t).head? = some 48)) := by unfold isNum; rw [h1, h3]; rfl
      cases h4 : decide (c :: t = [48]) with
      | true =>
        walk_at "walk"
        rw [e3, h4] at q
        exact q
      | false =>
        walk_at "walk"
        refine sr_ixS (c := c) hL (by rw [tl_TX]; exact atI_nat (j := 0) rfl) ?_
        walk_at "walk"
        rw [e3, h4] at q
        have e5 : (!decide ((⟨#[c]⟩ : Str) = TX [48])) = (false || !decide ((c :: t).head? = some 48)) := by
          by_cases z : c = 48
          · subst z; simp [TX]
          · have y : ¬ (⟨#[c]⟩ : Str) = TX [48] := fun y => z (by have := TX_inj (a := [c]) (b := [48]) y; simpa using this)
            simp [y, z]
        rw [e5]
        exact q
/-! ### kind_of -/
def kindS (c : Nat) (t : List Nat) : Option Str := if TX (c :: t) ∈ keysS then some ("key" : Str) else if isLetter c = true then (if (c :: t).length ≤ 12 then some ("name" : Str) else none) else if isNum (c :: t) = true then some ("number" : Str) else none
def optS : Option Str → D
  | none => .non
  | some z => .str z
def F_kind_of : FD := fun ds μ Q Ed => ∃ c t, ds = [.str (TX (c :: t))] ∧ t.length < 16000000 ∧ Q (optS (kindS c t)) μ
theorem sc_kind_of : FnScope ["run"] ["run"] (defScope (top 22)) := ⟨rfl, rfl, rfl, by decide +kernel, rfl, by decide +kernel, by decide +kernel⟩
theorem ok_kind_of {f : Addr} {fd : FuncData} (FU : Fun K "kind_of" "kind_of" (top 22) f fd) (G : Glob K mg) (H_is_numeral : Has P w K mg base 1 "is_numeral" ["run"] (spD K F_is_numeral)) : FnOk P w K mg base (L2.CX P w) 2 f fd ["run"] (spD K F_kind_of) := by
  obtain ⟨t2, C_LETTERS⟩ := G.LETTERS
  obtain ⟨t3, C_LONGEST_NAME⟩ := G.LN
  obtain ⟨A_KEYS, C_KEYS, S_KEYS⟩ := G.KEYS
  have N_len := G.len
  refine fn_D FU sc_kind_of (fun ds μ Q Ed ⟨c, t, e, _⟩ => by rw [e]; rfl) fun cdv A outer s H E hr => ?_
  have nd := sc_kind_of.nd
  have hu65 : (A.deeper (PyProof.Rows.envOfC "kind_of" (defScope (top 22)) s.heap.objs.size f cdv)).units + 65 < cLine := by have := hr.un; omega
  have hu64 : (A.deeper (PyProof.Rows.envOfC "kind_of" (defScope (top 22)) s.heap.objs.size f cdv)).units + 64 < cLine := by have := hr.un; omega
  have hu1 : (A.deeper (PyProof.Rows.envOfC "kind_of" (defScope (top 22)) s.heap.objs.size f cdv)).units + 1 < cLine := by have := hr.un; omega
  refine ⟨_, (pss_cons (ps_if (pt_cmpR (op_inK (K := K) rfl hu65) (pv 0) (pe_glob (v := .ref A_KEYS) rfl C_KEYS rfl) (by rfl)) (pss_one (ps_ret pe_str)) pss_nil)
      (pss_cons (ps_if (pt_cmpR (op_inK (K := K) rfl hu65) (pe_ix (ix_K (K := K) rfl) (pv 0) pe_int (fun _ _ => rfl)) (pe_glob (v := .str "abcdefghijklmnopqrstuvwxyz") rfl C_LETTERS ⟨_, rfl⟩) (by rfl)) (pss_one (ps_ret (pe_ifExp (pt_cmpR op_le (pe_callB (call_lenK (K := K) rfl) (by rfl) N_len b_len (pa_cons (pv 0) pa_nil)) (pe_glob (v := .int 12) rfl C_LONGEST_NAME ⟨_, rfl⟩) (by rfl)) pe_str pe_non))) pss_nil)
      (pss_one (ps_ret (pe_ifExp (pt_val (pe_has H_is_numeral (hr.mono (by decide)) rfl passX (pa_cons (pv 0) pa_nil))) pe_str pe_non))))), ?_⟩
  rintro ds μ Qd Ed ⟨c, t, rfl, hl, q⟩
  have s16 := size16
  have hL : (TX (c :: t)).length ≤ sizeLine := by rw [len_TX, List.length_cons]; omega
  walk_at "walk"
  refine se_keys S_KEYS (sr_inL (.inr rfl) ⟨_, rfl, ?_⟩)
  unfold kindS at q
  by_cases h1 : TX (c :: t) ∈ keysS
  · rw [if_pos h1] at q
    rw [if_pos (decide_eq_true h1)]
    walk_at "walk"
    exact q
  rw [if_neg h1] at q
  rw [if_neg (by simpa using h1)]
  walk_at "walk"
  refine sr_ixS (c := c) hL (by rw [tl_TX]; exact atI_nat (j := 0) rfl) ?_
  walk_at "walk"
  by_cases h2 : isLetter c = true
  · rw [if_pos h2] at q
    rw [if_pos (show decide _ = true from h2)]
    walk_at "walk"
    refine sc_lenS hL ?_
    walk_at "walk"
    by_cases h3 : (c :: t).length ≤ 12
    · rw [if_pos h3] at q
      rw [if_pos (by rw [len_TX]; simp only [decide_eq_true_eq]; omega)]
      walk_at "walk"
      exact q
    · rw [if_neg h3] at q
      rw [if_neg (by rw [len_TX]; simp only [decide_eq_true_eq]; omega)]
      walk_at "walk"
      exact q
  · rw [if_neg h2] at q
    rw [if_neg (show ¬ decide _ = true from h2)]
    walk_at "walk"
    refine se_call ?_
    walk_at "walk"
    refine ⟨[], μ, rfl, c, t, rfl, hl, ?_⟩
    refine ⟨_, rfl, ?_⟩
    by_cases h4 : isNum (c :: t) = true
    · rw [if_pos h4] at q
      rw [if_pos h4]
      walk_at "walk"
      exact q
    · rw [if_neg h4] at q
      rw [if_neg h4]
      walk_at "walk"
      exact q
/-! ### is_name -/
def nameL (l : List Nat) : Bool := match l with
  | [] => false
  | c :: t => (c :: t).all runSign && decide (kindS c t = some ("name" : Str))
def nameD : D → Bool
  | .str z => nameL z.cps.toList
  | _ => false
/-- values whose kind is known, texts of some size -/
def okD : D → Prop
  | .str z => z.cps.toList.length < 16000000
  | d => ∃ n, kindD d = some n ∧ kitB n "str" = some false
def F_is_name : FD := fun ds μ Q Ed => ∃ d, ds = [d] ∧ okD d ∧ Q (.bl (nameD d)) μ
theorem empty_TX : ("" : Str) = TX [] := by decide +kernel
theorem sc_is_name : FnScope ["value", "sign"] ["value"] (defScope (top 23)) := ⟨rfl, rfl, rfl, by decide +kernel, rfl, by decide +kernel, by decide +kernel⟩
theorem ok_is_name {f : Addr} {fd : FuncData} (FU : Fun K "is_name" "is_name" (top 23) f fd) (G : Glob K mg) (H_is_run_sign : Has P w K mg base 1 "is_run_sign" ["sign"] (spD K F_is_run_sign)) (H_kind_of : Has P w K mg base 2 "kind_of" ["run"] (spD K F_kind_of)) : FnOk P w K mg base (L2.CX P w) 3 f fd ["value"] (spD K F_is_name) := by
  have N_isinstance := G.isinstance
  have N_str := G.str
  have N_all := G.all
  refine fn_D FU sc_is_name (fun ds μ Q Ed ⟨d, e, _⟩ => by rw [e]; rfl) fun cdv A outer s H E hr => ?_
  have nd := sc_is_name.nd
  have hu65 : (A.deeper (PyProof.Rows.envOfC "is_name" (defScope (top 23)) s.heap.objs.size f cdv)).units + 65 < cLine := by have := hr.un; omega
  have hu64 : (A.deeper (PyProof.Rows.envOfC "is_name" (defScope (top 23)) s.heap.objs.size f cdv)).units + 64 < cLine := by have := hr.un; omega
  have hu1 : (A.deeper (PyProof.Rows.envOfC "is_name" (defScope (top 23)) s.heap.objs.size f cdv)).units + 1 < cLine := by have := hr.un; omega
  refine ⟨_, (pss_cons (ps_if (PW.pt (pw_or (pt_not (pt_val (pe_callB (call_isiK' (K := K) rfl) (by rfl) N_isinstance b_isinstance (pa_cons (pv 0) (pa_cons (pe_bltn (v := .ty "str") rfl N_str b_str rfl) pa_nil))))) (pw_or (pt_cmpR (op_eqK (K := K) rfl hu64) (pv 0) pe_str (by rfl)) (pw_or1 (pt_not (pt_val (pe_callB (cr_allK (K := K) rfl rfl) (by rfl) N_all b_all (pa_cons (pe_lc (own := [("sign", 1)]) rfl nd (pi_anyK (K := K) rfl (pv 0)) (blkOk_by (N := ["value", "sign"]) (sc := defScope (top 23)) (by decide +kernel)) (fun _ _ _ _ _ => (pg_name (i := 1) nd rfl (Or.inl rfl))) (fun _ _ _ _ _ => pts_nil) (fun _ _ _ _ _ => (pe_has H_is_run_sign (hr.mono (by decide)) rfl passL (pa_cons (pv 1) pa_nil)))) pa_nil)))))))) (pss_one (ps_ret pe_bl)) pss_nil)
      (pss_one (ps_ret (pe_cmpR (op_eqK (K := K) rfl hu64) (pe_has H_kind_of (hr.mono (by decide)) rfl passX (pa_cons (pv 0) pa_nil)) pe_str (by rfl))))), ?_⟩
  rintro ds μ Qd Ed ⟨d, rfl, hd, q⟩
  have s16 := size16
  walk_at "walk"
  refine se_c rfl ?_
  walk_at "walk"
  by_cases hs : ∃ z, d = .str z
  · obtain ⟨z, rfl⟩ := hs
    refine sc_isi (n := "str") (b := true) rfl (by decide +kernel) ?_
    walk_at "walk"
    obtain ⟨l, rfl⟩ : ∃ l, z = TX l := ⟨_, (TX_tl z).symm⟩
    have hl : l.length < 16000000 := by have h : (TX l).cps.toList.length < 16000000 := hd; rw [tl_TX] at h; exact h
    have q : Qd (.bl (nameL (TX l).cps.toList)) μ := q
    rw [tl_TX] at q
    cases l with
    | nil =>
      rw [empty_TX, decide_eq_true rfl]
      walk_at "walk"
      exact q
    | cons c t =>
      rw [empty_TX, decide_eq_false (fun y => by have := TX_inj y; simp at this)]
      walk_at "walk"
      refine se_lcM (xs := c :: t) (gd := fun c => .str ⟨#[c]⟩) (f := fun c => .bl (runSign c)) (js := [1]) (by decide) (si_any (se_var rfl ?_))
      refine .inr (.inr ⟨_, rfl, ?_, by omega, fun x hx => sg_name ⟨rfl, ?_⟩, ?_⟩)
      · unfold signsD; rw [tl_TX]
      · refine se_call ?_
        walk_at "walk"
        exact ⟨[], _, rfl, x, rfl, rfl, rfl⟩
      refine sa_nil (sc_allM ?_)
      walk_at "walk"
      cases h1 : (c :: t).all runSign with
      | false =>
        walk_at "walk"
        have e : nameL (c :: t) = false := by show ((c :: t).all runSign && _) = false; rw [h1]; rfl
        rw [e] at q
        exact q
      | true =>
        walk_at "walk"
        refine se_call ?_
        walk_at "walk"
        refine ⟨[], μ, rfl, c, t, rfl, by simp at hl; omega, ?_⟩
        walk_at "walk"
        have e : nameL (c :: t) = decide (kindS c t = some ("name" : Str)) := by show ((c :: t).all runSign && _) = _; rw [h1]; rfl
        rw [e] at q
        cases hk : kindS c t with
        | none =>
          rw [hk] at q
          refine sr_eqD rfl rfl (by decide) (by decide +kernel) ?_
          exact q
        | some z =>
          rw [hk] at q
          refine sr_eqS (b := decide (z = "name")) rfl ?_
          simpa using q
  · have hn : ∃ n, kindD d = some n ∧ kitB n "str" = some false := by
      cases d with
      | str z => exact absurd ⟨z, rfl⟩ hs
      | _ => exact hd
    obtain ⟨n, hn1, hn2⟩ := hn
    refine sc_isi hn1 hn2 ?_
    walk_at "walk"
    have e : nameD d = false := by
      cases d with
      | str z => exact absurd ⟨z, rfl⟩ hs
      | _ => rfl
    rw [e] at q
    exact q
end
end KT
set_option Elab.async false
set_option linter.all false
set_option maxRecDepth 100000
set_option maxHeartbeats 1000000
namespace KT
open PySem L2 DD
local macro_rules | `(tactic| walk_at "go") => `(tactic| first
  | with_reducible refine ss_seq ?_ | with_reducible refine ss_ret ?_ | with_reducible refine ss_if ?_ | with_reducible refine ss_set ?_ | with_reducible refine ss_drop ?_ | with_reducible refine ss_next ?_
  | with_reducible refine se_op ?_ | ((with_reducible refine' se_var ?h ?_); (case h => exact rfl)) | with_reducible refine se_int ?_ | with_reducible refine se_str ?_ | with_reducible refine se_bl ?_ | with_reducible refine se_non ?_ | with_reducible refine se_tup ?_ | with_reducible refine se_cb ?_ | with_reducible refine se_if ?_
  | with_reducible refine se_or ?_ | with_reducible refine se_and ?_ | with_reducible refine se_not ?_ | with_reducible refine se_sl ?_ | with_reducible refine so_none ?_ | with_reducible refine so_some ?_
  | with_reducible refine sa_cons ?_ | with_reducible refine sa_nil ?_ | with_reducible refine st_test ?_ | with_reducible refine st_B ?_ | with_reducible refine st_and ?_ | with_reducible refine st_or ?_ | with_reducible refine st_not ?_ | with_reducible refine st_yes ?_
  | with_reducible refine sg_name ?_ | with_reducible refine sg_tup rfl ?_ | with_reducible refine sgs_cons ?_ | with_reducible refine sgs_nil ?_
  | with_reducible refine sr_addI ?_ | with_reducible refine sr_sub ?_ | with_reducible refine sr_cmp ?_ | with_reducible refine sr_inS ?_ | with_reducible refine sr_ninS ?_
  | ((with_reducible refine' sr_eqS ?h ?_); (case h => exact rfl)) | ((with_reducible refine' sr_neS ?h ?_); (case h => exact rfl)) | ((with_reducible refine' sr_is ?h ?_); (case h => exact rfl)) | ((with_reducible refine' sr_isNot ?h ?_); (case h => exact rfl))
  | with_reducible refine sc_lenL ?_ | with_reducible refine sc_lenT ?_ | with_reducible refine sc_max2 ?_ | with_reducible refine sc_int ?_
  | with_reducible refine ⟨_, rfl, ?_⟩
  | with_reducible refine iteT ?_ | with_reducible refine iteF ?_ | with_reducible refine iteN1 ?_ | with_reducible refine iteN2 ?_)
local macro_rules | `(tactic| walk_at "walk") => `(tactic| repeat walk_at "go")
/-! ### the Scanner -/
def scF : List Str := ["text", "at", "line", "column"]
theorem ix_text : List.idxOf ("text" : Str) scF = 0 := by decide +kernel
theorem ix_at : List.idxOf ("at" : Str) scF = 1 := by decide +kernel
theorem ix_line : List.idxOf ("line" : Str) scF = 2 := by decide +kernel
theorem ix_column : List.idxOf ("column" : Str) scF = 3 := by decide +kernel
def scD (C : Addr) (z : Str) (a l c : Int) : D := .ins C scF [.str z, .int a, .int l, .int c]
structure ClsS (K : PySem.W.Frag) (C : Addr) : Prop where
  cl : Cls K C
  nT : NoAttr K C "text"
  nA : NoAttr K C "at"
  nL : NoAttr K C "line"
  nC : NoAttr K C "column"
section
variable {P : Program} {w : World} {K : PySem.W.Frag} {mg : Str → Option Value} {base : Heap} {C : Addr} {E : XK} {Ed : XD} {ρ : DD.Env} {μ : Store} {ta te : TE} {Q : D → Store → Prop} {PD : DE}
theorem se_sText (T : ClsS K C) {z : Str} {a l c : Int} {p : Addr} {μ' : Store} {i : Nat} (h : ρ[i]? = some (some (.ref p))) (q : Q (.str z) ((p, scD C z a l c) :: μ')) : SE K E Ed (tFld K (tVar i) "text") ρ ((p, scD C z a l c) :: μ') Q := se_fldJ T.cl T.nT (se_var h ⟨p, _, _, 0, _, rfl, List.mem_cons_self, ix_text, rfl, q⟩)
theorem se_sAt (T : ClsS K C) {z : Str} {a l c : Int} {p : Addr} {μ' : Store} {i : Nat} (h : ρ[i]? = some (some (.ref p))) (q : Q (.int a) ((p, scD C z a l c) :: μ')) : SE K E Ed (tFld K (tVar i) "at") ρ ((p, scD C z a l c) :: μ') Q := se_fldJ T.cl T.nA (se_var h ⟨p, _, _, 1, _, rfl, List.mem_cons_self, ix_at, rfl, q⟩)
theorem se_sLine (T : ClsS K C) {z : Str} {a l c : Int} {p : Addr} {μ' : Store} {i : Nat} (h : ρ[i]? = some (some (.ref p))) (q : Q (.int l) ((p, scD C z a l c) :: μ')) : SE K E Ed (tFld K (tVar i) "line") ρ ((p, scD C z a l c) :: μ') Q := se_fldJ T.cl T.nL (se_var h ⟨p, _, _, 2, _, rfl, List.mem_cons_self, ix_line, rfl, q⟩)
theorem se_sCol (T : ClsS K C) {z : Str} {a l c : Int} {p : Addr} {μ' : Store} {i : Nat} (h : ρ[i]? = some (some (.ref p))) (q : Q (.int c) ((p, scD C z a l c) :: μ')) : SE K E Ed (tFld K (tVar i) "column") ρ ((p, scD C z a l c) :: μ') Q := se_fldJ T.cl T.nC (se_var h ⟨p, _, _, 3, _, rfl, List.mem_cons_self, ix_column, rfl, q⟩)
theorem f_text0 : ("text" : Str) ∉ ([] : List Str) := by simp
theorem f_at0 : ("at" : Str) ∉ (["text"] : List Str) := by decide +kernel
theorem f_line0 : ("line" : Str) ∉ (["text", "at"] : List Str) := by decide +kernel
theorem f_col0 : ("column" : Str) ∉ (["text", "at", "line"] : List Str) := by decide +kernel
def F_sc_init (C : Addr) : FD := fun ds μ Q Ed => ∃ a z, ds = [.ref a, .str z] ∧ μ = [(a, .ins C [] [])] ∧ Q .non [(a, scD C z 0 1 1)]
theorem sc_Scanner___init__ : FnScope ["self", "text"] ["self", "text"] (defScope (inClass (top 24) 0)) := ⟨rfl, rfl, rfl, by decide +kernel, rfl, by decide +kernel, by decide +kernel⟩
theorem ok_sc_init {f : Addr} {fd : FuncData} (FU : Fun K "__init__" "Scanner.__init__" (inClass (top 24) 0) f fd) (T : ClsS K C) : FnOk P w K mg base (L2.CX P w) 1 f fd ["self", "text"] (spD K (F_sc_init C)) := by
  refine fn_D FU sc_Scanner___init__ (fun ds μ Q Ed ⟨a, z, e, _⟩ => by rw [e]; rfl) fun cdv A outer s H E hr => ?_
  refine ⟨_, (pss_cons (ps_fld (pv 0) (pv 1) rfl)
      (pss_cons (ps_fld (pv 0) pe_int rfl)
      (pss_cons (ps_fld (pv 0) pe_int rfl)
      (pss_one (ps_fld (pv 0) pe_int rfl))))), ?_⟩
  rintro ds μ Qd Ed ⟨a, z, rfl, rfl, q⟩
  refine ss_seq (ss_fldN T.cl T.nT (se_var rfl (se_var rfl ⟨a, _, _, _, rfl, f_text0, .here, by decide, ?_⟩)))
  refine ss_seq (ss_fldN T.cl T.nA (se_int (se_var rfl ⟨a, _, _, _, rfl, f_at0, .here, by decide, ?_⟩)))
  refine ss_seq (ss_fldN T.cl T.nL (se_int (se_var rfl ⟨a, _, _, _, rfl, f_line0, .here, by decide, ?_⟩)))
  refine ss_fldN T.cl T.nC (se_int (se_var rfl ⟨a, _, _, _, rfl, f_col0, .here, by decide, ?_⟩))
  exact q
/-! ### is_over -/
def F_is_over (C : Addr) : FD := fun ds μ Q Ed => ∃ p z a l c, ds = [.ref p] ∧ μ = [(p, scD C z a l c)] ∧ z.length ≤ sizeLine ∧ Q (.bl (decide (a = (z.length : Int)))) μ
theorem sc_Scanner_is_over : FnScope ["self"] ["self"] (defScope (inClass (top 24) 1)) := ⟨rfl, rfl, rfl, by decide +kernel, rfl, by decide +kernel, by decide +kernel⟩
theorem ok_is_over {f : Addr} {fd : FuncData} (FU : Fun K "is_over" "Scanner.is_over" (inClass (top 24) 1) f fd) (G : Glob K mg) (T : ClsS K C) : FnOk P w K mg base (L2.CX P w) 1 f fd ["self"] (spD K (F_is_over C)) := by
  have N_len := G.len
  refine fn_D FU sc_Scanner_is_over (fun ds μ Q Ed ⟨p, z, a, l, c, e, _⟩ => by rw [e]; rfl) fun cdv A outer s H E hr => ?_
  have nd := sc_Scanner_is_over.nd
  have hu65 : (A.deeper (PyProof.Rows.envOfC "Scanner.is_over" (defScope (inClass (top 24) 1)) s.heap.objs.size f cdv)).units + 65 < cLine := by have := hr.un; omega
  have hu64 : (A.deeper (PyProof.Rows.envOfC "Scanner.is_over" (defScope (inClass (top 24) 1)) s.heap.objs.size f cdv)).units + 64 < cLine := by have := hr.un; omega
  have hu1 : (A.deeper (PyProof.Rows.envOfC "Scanner.is_over" (defScope (inClass (top 24) 1)) s.heap.objs.size f cdv)).units + 1 < cLine := by have := hr.un; omega
  refine ⟨_, (pss_one (ps_ret (pe_cmpR (op_eqK (K := K) rfl hu64) (pe_fldK (K := K) rfl (pv 0)) (pe_callB (call_lenK (K := K) rfl) (by rfl) N_len b_len (pa_cons (pe_fldK (K := K) rfl (pv 0)) pa_nil)) (by rfl)))), ?_⟩
  rintro ds μ Qd Ed ⟨p, z, a, l, c, rfl, rfl, hz, q⟩
  walk_at "walk"
  refine se_sAt T rfl ?_
  walk_at "walk"
  refine se_sText T rfl ?_
  walk_at "walk"
  refine sc_lenS hz ?_
  walk_at "walk"
  exact q
/-! ### skip -/
def F_skip (C : Addr) : FD := fun ds μ Q Ed => ∃ p z a l c m, ds = [.ref p, .int m] ∧ μ = [(p, scD C z a l c)] ∧ Q .non [(p, scD C z (a + m) l (c + m))]
theorem sc_Scanner_skip : FnScope ["self", "many"] ["self", "many"] (defScope (inClass (top 24) 2)) := ⟨rfl, rfl, rfl, by decide +kernel, rfl, by decide +kernel, by decide +kernel⟩
theorem ok_skip {f : Addr} {fd : FuncData} (FU : Fun K "skip" "Scanner.skip" (inClass (top 24) 2) f fd) (T : ClsS K C) : FnOk P w K mg base (L2.CX P w) 1 f fd ["self", "many"] (spD K (F_skip C)) := by
  refine fn_D FU sc_Scanner_skip (fun ds μ Q Ed ⟨p, z, a, l, c, m, e, _⟩ => by rw [e]; rfl) fun cdv A outer s H E hr => ?_
  refine ⟨_, (pss_cons (ps_fldaug (pv 0) (pv 1) in_add)
      (pss_one (ps_fldaug (pv 0) (pv 1) in_add))), ?_⟩
  rintro ds μ Qd Ed ⟨p, z, a, l, c, m, rfl, rfl, q⟩
  refine ss_seq (ss_fldaugJ rd_add T.cl T.nA (se_var rfl ⟨p, _, _, 1, a, rfl, List.mem_cons_self, ix_at, by decide, rfl, se_var rfl ⟨m, _, _, rfl, .here, by decide, ?_⟩⟩))
  refine ss_fldaugJ rd_add T.cl T.nC (se_var rfl ⟨p, _, _, 3, c, rfl, List.mem_cons_self, ix_column, by decide, rfl, se_var rfl ⟨m, _, _, rfl, .here, by decide, ?_⟩⟩)
  exact q
/-! ### pass_gap -/
/-- signs up to the line's end -/
def lineL (l : List Nat) : List Nat := l.takeWhile fun c => !decide (c = 10)
theorem tl_lf : TL.tl ("\n" : Str) = [10] := by decide +kernel
theorem spl_line : ∀ (l acc : List Nat), ∃ r, TL.spl [10] 0 acc l = (acc ++ lineL l) :: r
  | [], acc => ⟨[], by simp [TL.spl_nil, lineL]⟩
  | c :: t, acc => by
    by_cases h : c = 10
    · subst h
      refine ⟨_, by rw [TL.spl_hit (by rfl)]; simp [lineL]; rfl⟩
    · obtain ⟨r, hr⟩ := spl_line t (acc ++ [c])
      refine ⟨r, ?_⟩
      rw [TL.spl_miss (TL.pre_of_head [] t h), hr]
      simp [lineL, h]
theorem split_line (l : List Nat) : ∃ r, Txt.split (TX l) "\n" = TX (lineL l) :: r := by
  have h := TL.split_spl (TX l) "\n" (by rw [tl_lf]; simp) (TL.kind_ok (by decide +kernel))
  rw [tl_lf] at h
  obtain ⟨r, hr⟩ := spl_line (TL.tl (TX l)) []
  rw [hr] at h
  cases hs : Txt.split (TX l) "\n" with
  | nil => rw [hs] at h; cases h
  | cons a b =>
    rw [hs] at h
    simp only [List.map_cons, List.nil_append] at h
    injection h with h1 h2
    refine ⟨b, ?_⟩
    congr 1
    apply TL.ext_tl
    rw [h1]
    show lineL (TX l).cps.toList = (TX (lineL l)).cps.toList
    rw [tl_TX, tl_TX]
theorem lf_one : ("\n" : Str) = TX [10] := by decide +kernel
theorem sp_one : (" " : Str) = TX [32] := by decide +kernel
theorem num_one : ("#" : Str) = TX [35] := by decide +kernel
theorem gap_in (c : Nat) : decide (c ∈ ("\n #" : Str).cps.toList) = decide (c = 10 ∨ c = 32 ∨ c = 35) := by
  have e : ("\n #" : Str).cps.toList = [10, 32, 35] := by decide +kernel
  rw [e]
  simp
theorem one_eq (c k : Nat) : decide ((⟨#[c]⟩ : Str) = TX [k]) = decide (c = k) := by
  by_cases z : c = k
  · subst z; simp [TX]
  · rw [decide_eq_false z, decide_eq_false fun y => z (by have := TX_inj (a := [c]) (b := [k]) y; simpa using this)]
def F_pass_gap (C : Addr) : FD := fun ds μ Q Ed => ∃ p L i l c ch, ds = [.ref p] ∧ μ = [(p, scD C (TX L) (i : Nat) l c)] ∧ L.length ≤ 16000000 ∧ L[i]? = some ch ∧
  (if ch = 10 then Q (.bl true) [(p, scD C (TX L) (i + 1 : Nat) (l + 1) 1)] else if ch = 32 then Q (.bl true) [(p, scD C (TX L) (i + 1 : Nat) l (c + 1))] else
    if ch = 35 then Q (.bl true) [(p, scD C (TX L) (i + (lineL (L.drop i)).length : Nat) l (c + (lineL (L.drop i)).length))] else Q (.bl false) μ)
theorem sc_Scanner_pass_gap : FnScope ["self", "sign"] ["self"] (defScope (inClass (top 24) 3)) := ⟨rfl, rfl, rfl, by decide +kernel, rfl, by decide +kernel, by decide +kernel⟩
theorem ok_pass_gap {f : Addr} {fd : FuncData} (FU : Fun K "pass_gap" "Scanner.pass_gap" (inClass (top 24) 3) f fd) (G : Glob K mg) (T : ClsS K C) (H_skip : HasM P w K mg base 1 C "skip" ["self", "many"] (spD K (F_skip C))) : FnOk P w K mg base (L2.CX P w) 2 f fd ["self"] (spD K (F_pass_gap C)) := by
  have N_len := G.len
  obtain ⟨f_skip, fd_skip, F_skip, Mt_skip, B_skip⟩ := H_skip.ex
  refine fn_D FU sc_Scanner_pass_gap (fun ds μ Q Ed ⟨p, L, i, l, c, ch, e, _⟩ => by rw [e]; rfl) fun cdv A outer s H E hr => ?_
  have nd := sc_Scanner_pass_gap.nd
  have hu65 : (A.deeper (PyProof.Rows.envOfC "Scanner.pass_gap" (defScope (inClass (top 24) 3)) s.heap.objs.size f cdv)).units + 65 < cLine := by have := hr.un; omega
  have hu64 : (A.deeper (PyProof.Rows.envOfC "Scanner.pass_gap" (defScope (inClass (top 24) 3)) s.heap.objs.size f cdv)).units + 64 < cLine := by have := hr.un; omega
  have hu1 : (A.deeper (PyProof.Rows.envOfC "Scanner.pass_gap" (defScope (inClass (top 24) 3)) s.heap.objs.size f cdv)).units + 1 < cLine := by have := hr.un; omega
  refine ⟨_, (pss_cons (ps_set (i := 1) nd rfl (Or.inl rfl) (pe_ix (ix_K (K := K) rfl) (pe_fldK (K := K) rfl (pv 0)) (pe_fldK (K := K) rfl (pv 0)) (fun _ _ => rfl)))
      (pss_cons (ps_if (pt_cmpR (op_eqK (K := K) rfl hu64) (pv 1) pe_str (by rfl)) (pss_one (ps_asg (pe_tup (pa_cons (pe_op (op_addK (K := K) rfl) (pe_fldK (K := K) rfl (pv 0)) pe_int) (pa_cons (pe_op (op_addK (K := K) rfl) (pe_fldK (K := K) rfl (pv 0)) pe_int) (pa_cons pe_int pa_nil)))) (pg_tupK (K := K) rfl rfl (pgs_cons (pg_fldK (K := K) rfl (pv 0)) (pgs_cons (pg_fldK (K := K) rfl (pv 0)) (pgs_cons (pg_fldK (K := K) rfl (pv 0)) pgs_nil)))))) (pss_one (ps_if (pt_cmpR (op_eqK (K := K) rfl hu64) (pv 1) pe_str (by rfl)) (pss_one (ps_expr (pe_meth (pv 0) T.cl Mt_skip F_skip (hr.mono (by decide)) B_skip .nil passX (pa_cons pe_int pa_nil)))) (pss_one (ps_if (pt_cmpR (op_eqK (K := K) rfl hu64) (pv 1) pe_str (by rfl)) (pss_one (ps_expr (pe_meth (pv 0) T.cl Mt_skip F_skip (hr.mono (by decide)) B_skip .nil passX (pa_cons (pe_callB (call_lenK (K := K) rfl) (by rfl) N_len b_len (pa_cons (pe_ix (ix_K (K := K) rfl) (pe_split (pe_slice (sl_K (K := K) rfl) (pe_fldK (K := K) rfl (pv 0)) (po_some (pe_fldK (K := K) rfl (pv 0))) po_none) pe_str) pe_int (fun _ _ => rfl)) pa_nil)) pa_nil)))) pss_nil)))))
      (pss_one (ps_ret (pe_cmpR (op_inK (K := K) rfl hu65) (pv 1) pe_str (by rfl)))))), ?_⟩
  rintro ds μ Qd Ed ⟨p, L, i, l, c, ch, rfl, rfl, hz, hch, q⟩
  have s16 := size16
  have hL : (TX L).length ≤ sizeLine := by rw [len_TX]; omega
  have hi : i < L.length := (List.getElem?_eq_some_iff.mp hch).1
  walk_at "walk"
  refine se_sText T rfl ?_
  refine se_sAt T rfl ?_
  refine sr_ixS (c := ch) hL (by rw [tl_TX]; exact atI_nat hch) ?_
  walk_at "walk"
  rw [lf_one, one_eq]
  by_cases h1 : ch = 10
  · rw [if_pos h1] at q
    subst h1
    rw [decide_eq_true rfl]
    walk_at "walk"
    refine ss_asg (js := [] ++ ([] ++ ([] ++ []))) ?_
    walk_at "walk"
    refine se_sAt T rfl ?_
    walk_at "walk"
    refine se_sLine T rfl ?_
    walk_at "walk"
    refine ⟨by show 3 ≤ sizeLine; decide, ?_⟩
    refine sg_tup rfl ?_
    refine sgs_cons (sg_fldJ T.cl T.nA (se_var rfl ⟨p, _, _, 1, _, rfl, ix_at, by decide, .here, by decide, ?_⟩))
    refine sgs_cons (sg_fldJ T.cl T.nL (se_var rfl ⟨p, _, _, 2, _, rfl, ix_line, by decide, .here, by decide, ?_⟩))
    refine sgs_cons (sg_fldJ T.cl T.nC (se_var rfl ⟨p, _, _, 3, _, rfl, ix_column, by decide, .here, by decide, ?_⟩))
    refine sgs_nil ?_
    walk_at "walk"
    rw [gap_in, decide_eq_true (.inl rfl)]
    have e : ((i : Int) + 1) = ((i + 1 : Nat) : Int) := by omega
    rw [e]
    exact q
  rw [if_neg h1] at q
  rw [decide_eq_false h1]
  walk_at "walk"
  rw [sp_one, one_eq]
  by_cases h2 : ch = 32
  · rw [if_pos h2] at q
    subst h2
    rw [decide_eq_true rfl]
    walk_at "walk"
    refine se_meth (se_var rfl ⟨p, _, _, rfl, List.mem_cons_self, by decide +kernel, ?_⟩)
    walk_at "walk"
    refine ⟨_, [], (List.append_nil _).symm, p, _, _, _, _, _, rfl, rfl, ?_⟩
    walk_at "walk"
    rw [gap_in, decide_eq_true (.inr (.inl rfl))]
    have e : ((i : Int) + 1) = ((i + 1 : Nat) : Int) := by omega
    rw [e]
    exact q
  rw [if_neg h2] at q
  rw [decide_eq_false h2]
  walk_at "walk"
  rw [num_one, one_eq]
  by_cases h3 : ch = 35
  · rw [if_pos h3] at q
    subst h3
    rw [decide_eq_true rfl]
    walk_at "walk"
    refine se_meth (se_var rfl ⟨p, _, _, rfl, List.mem_cons_self, by decide +kernel, ?_⟩)
    walk_at "walk"
    refine se_m1 ?_
    walk_at "walk"
    refine se_sText T rfl ?_
    walk_at "walk"
    refine se_sAt T rfl ?_
    walk_at "walk"
    refine sl_S hL ?_
    refine ⟨_, rfl, ?_⟩
    walk_at "walk"
    have e1 : cutS (TX L) (some (i : Int)) none = TX (L.drop i) := by
      rw [cutS_TX, HT.sIx_nat, HT.sIx_none, Nat.min_eq_left (Nat.le_of_lt hi)]
      congr 1
      exact List.take_of_length_le (by rw [List.length_drop]; exact Nat.le_refl _)
    rw [e1]
    obtain ⟨r, hr⟩ := split_line (L.drop i)
    refine sm_split (by decide +kernel) (by rw [len_TX, List.length_drop]; omega) ?_
    rw [← lf_one, hr]
    walk_at "walk"
    refine sr_ixL (d := .str (TX (lineL (L.drop i)))) (atI_nat (j := 0) rfl) ?_
    walk_at "walk"
    have hll : (lineL (L.drop i)).length ≤ L.length := Nat.le_trans (List.takeWhile_sublist _).length_le (by rw [List.length_drop]; omega)
    refine sc_lenS (by rw [len_TX]; omega) ?_
    walk_at "walk"
    refine ⟨_, [], (List.append_nil _).symm, p, _, _, _, _, _, rfl, rfl, ?_⟩
    walk_at "walk"
    rw [gap_in, decide_eq_true (.inr (.inr rfl)), len_TX]
    have e : ((i : Int) + ((lineL (L.drop i)).length : Int)) = ((i + (lineL (L.drop i)).length : Nat) : Int) := by omega
    rw [e]
    exact q
  rw [if_neg h3] at q
  rw [decide_eq_false h3]
  walk_at "walk"
  rw [gap_in, decide_eq_false (fun z => z.elim h1 fun z => z.elim h2 h3)]
  exact q
/-! ### token -/
def runLen (R : List Nat) : Nat := (R.takeWhile runSign).length
def wordN (R : List Nat) : Nat := max 1 (runLen R)
def kindW : List Nat → Option Str
  | [] => none
  | c :: t => kindS c t
def kindAt (R : List Nat) : Option Str := if 0 < runLen R then kindW (R.take (runLen R)) else if TX (R.take 1) ∈ signsS then some ("sign" : Str) else none
theorem runLen_le (R : List Nat) : runLen R ≤ R.length := (List.takeWhile_sublist _).length_le
theorem run_at {R : List Nat} {j : Nat} (h : j < runLen R) : ∃ c, R[j]? = some c ∧ runSign c = true := by
  have hl := runLen_le R
  have hj : j < R.length := by omega
  refine ⟨R[j], by simp [hj], ?_⟩
  have h2 : (R.takeWhile runSign)[j]? = R[j]? := by
    have e : R = R.takeWhile runSign ++ R.dropWhile runSign := List.takeWhile_append_dropWhile.symm
    conv => rhs; rw [e]
    rw [List.getElem?_append_left h]
  have h3 : R[j]? = some R[j] := by simp [hj]
  rw [h3] at h2
  exact (List.all_eq_true.mp (List.all_takeWhile (l := R) (p := runSign))) _ (List.mem_of_getElem? h2)
theorem run_end {R : List Nat} {c : Nat} (h : R[runLen R]? = some c) : runSign c = false := by
  have e : R = R.takeWhile runSign ++ R.dropWhile runSign := List.takeWhile_append_dropWhile.symm
  have h2 : (R.dropWhile runSign)[0]? = some c := by
    rw [e] at h
    rw [List.getElem?_append_right (by unfold runLen; rw [← e]; exact Nat.le_refl _)] at h
    have z : runLen (R.takeWhile runSign ++ R.dropWhile runSign) - (R.takeWhile runSign).length = 0 := by rw [← e]; unfold runLen; omega
    rw [z] at h
    exact h
  cases hd : R.dropWhile runSign with
  | nil => rw [hd] at h2; cases h2
  | cons a b =>
    rw [hd] at h2
    cases h2
    have := List.head?_dropWhile_not (p := runSign) (l := R)
    rw [hd] at this
    simpa using this
def F_token (C CM : Addr) : FD := fun ds μ Q Ed => ∃ p L i l c, ds = [.ref p] ∧ μ = [(p, scD C (TX L) (i : Nat) l c)] ∧ L.length ≤ 8000000 ∧ i < L.length ∧
  (match kindAt (L.drop i) with
    | none => Ed CM ["column", "line"] [.int c, .int l] μ
    | some k => Q (.tup [.str k, .str (TX ((L.drop i).take (wordN (L.drop i)))), .tup [.int l, .int c]]) [(p, scD C (TX L) (i + wordN (L.drop i) : Nat) l (c + wordN (L.drop i)))])
theorem sc_Scanner_token : FnScope ["self", "place", "many", "word", "kind"] ["self"] (defScope (inClass (top 24) 4)) := ⟨rfl, rfl, rfl, by decide +kernel, rfl, by decide +kernel, by decide +kernel⟩
theorem ok_token {f CM : Addr} {fd : FuncData} (FU : Fun K "token" "Scanner.token" (inClass (top 24) 4) f fd) (G : Glob K mg) (T : ClsS K C) (H_skip : HasM P w K mg base 1 C "skip" ["self", "many"] (spD K (F_skip C)))
    (H_is_run_sign : Has P w K mg base 1 "is_run_sign" ["sign"] (spD K F_is_run_sign)) (H_kind_of : Has P w K mg base 2 "kind_of" ["run"] (spD K F_kind_of)) (X_Misread : HasX P w K mg base 1 "Misread" CM ["self", "line", "column"] (spXI CM ["line", "column"])) : FnOk P w K mg base (L2.CX P w) 3 f fd ["self"] (spD K (F_token C CM)) := by
  have N_len := G.len
  have N_max := G.max
  obtain ⟨A_SIGNS, C_SIGNS, S_SIGNS⟩ := G.SIGNS
  obtain ⟨f_skip, fd_skip, F_skip, Mt_skip, B_skip⟩ := H_skip.ex
  refine fn_D FU sc_Scanner_token (fun ds μ Q Ed ⟨p, L, i, l, c, e, _⟩ => by rw [e]; rfl) fun cdv A outer s H E hr => ?_
  have nd := sc_Scanner_token.nd
  have hu65 : (A.deeper (PyProof.Rows.envOfC "Scanner.token" (defScope (inClass (top 24) 4)) s.heap.objs.size f cdv)).units + 65 < cLine := by have := hr.un; omega
  have hu64 : (A.deeper (PyProof.Rows.envOfC "Scanner.token" (defScope (inClass (top 24) 4)) s.heap.objs.size f cdv)).units + 64 < cLine := by have := hr.un; omega
  have hu1 : (A.deeper (PyProof.Rows.envOfC "Scanner.token" (defScope (inClass (top 24) 4)) s.heap.objs.size f cdv)).units + 1 < cLine := by have := hr.un; omega
  refine ⟨_, (pss_cons (ps_par (i := 1) (j := 2) rfl nd rfl rfl (by decide) rfl rfl (pa_cons (pe_tup (pa_cons (pe_fldK (K := K) rfl (pv 0)) (pa_cons (pe_fldK (K := K) rfl (pv 0)) pa_nil))) (pa_cons pe_int pa_nil)) (by rfl))
      (pss_cons (ps_while ownX (PW.pt (pw_and (pt_cmpR op_lt (pe_op (op_addK (K := K) rfl) (pe_fldK (K := K) rfl (pv 0)) (pv 2)) (pe_callB (call_lenK (K := K) rfl) (by rfl) N_len b_len (pa_cons (pe_fldK (K := K) rfl (pv 0)) pa_nil)) (by rfl)) (pw_and1 (pt_val (pe_has H_is_run_sign (hr.mono (by decide)) rfl passX (pa_cons (pe_ix (ix_K (K := K) rfl) (pe_fldK (K := K) rfl (pv 0)) (pe_op (op_addK (K := K) rfl) (pe_fldK (K := K) rfl (pv 0)) (pv 2)) (fun _ _ => rfl)) pa_nil)))))) (pss_one (ps_aug (i := 2) nd rfl (Or.inl rfl) pe_int ip_add)))
      (pss_cons (ps_set (i := 3) nd rfl (Or.inl rfl) (pe_slice (sl_K (K := K) rfl) (pe_fldK (K := K) rfl (pv 0)) (po_some (pe_fldK (K := K) rfl (pv 0))) (po_some (pe_op (op_addK (K := K) rfl) (pe_fldK (K := K) rfl (pv 0)) (pe_callB (call_max2X rfl) (by rfl) N_max b_max (pa_cons pe_int (pa_cons (pv 2) pa_nil)))))))
      (pss_cons (ps_set (i := 4) nd rfl (Or.inl rfl) (pe_ifExp (pt_cmpR op_gt (pv 2) pe_int (by rfl)) (pe_has H_kind_of (hr.mono (by decide)) rfl passX (pa_cons (pv 3) pa_nil)) (pe_ifExp (pt_cmpR (op_inK (K := K) rfl hu65) (pv 3) (pe_glob (v := .ref A_SIGNS) rfl C_SIGNS rfl) (by rfl)) pe_str pe_non)))
      (pss_cons (ps_if (pt_cmpR op_isX (pv 4) pe_non (by rfl)) (pss_one (ps_raise rfl takesX (pmk_hasX X_Misread (hr.mono (by decide)) rfl (pa_cons (pe_fldK (K := K) rfl (pv 0)) (pa_cons (pe_fldK (K := K) rfl (pv 0)) pa_nil))))) pss_nil)
      (pss_cons (ps_expr (pe_meth (pv 0) T.cl Mt_skip F_skip (hr.mono (by decide)) B_skip .nil passX (pa_cons (pe_callB (call_lenK (K := K) rfl) (by rfl) N_len b_len (pa_cons (pv 3) pa_nil)) pa_nil)))
      (pss_one (ps_ret (pe_tup (pa_cons (pv 4) (pa_cons (pv 3) (pa_cons (pv 1) pa_nil)))))))))))), ?_⟩
  rintro ds μ Qd Ed ⟨p, L, i, l, c, rfl, rfl, hz, hi, q⟩
  have s16 := size16
  have hL : (TX L).length ≤ sizeLine := by rw [len_TX]; omega
  obtain ⟨R, hR⟩ : ∃ R, L.drop i = R := ⟨_, rfl⟩
  rw [hR] at q
  have lenR : R.length = L.length - i := by rw [← hR, List.length_drop]
  have getR : ∀ j : Nat, R[j]? = L[i + j]? := fun j => by rw [← hR, List.getElem?_drop]
  have hn := runLen_le R
  refine ss_seq (ss_par ?_)
  walk_at "walk"
  refine se_sLine T rfl ?_
  walk_at "walk"
  refine se_sCol T rfl ?_
  walk_at "walk"
  refine ⟨by show 2 ≤ sizeLine; decide, ?_⟩
  walk_at "walk"
  refine ⟨_, _, rfl, ?_⟩
  refine ss_seq (ss_while (fun m ρ' μ' => ∃ j : Nat, j ≤ runLen R ∧ m = runLen R - j ∧ ρ' = [some (.ref p), some (.tup [.int l, .int c]), some (.int (j : Int)), none, none] ∧ μ' = [(p, scD C (TX L) (i : Nat) l c)]) (m0 := runLen R) ⟨0, Nat.zero_le _, rfl, rfl, rfl⟩ ?_)
  rintro m ρ' μ' ⟨j, hj, rfl, rfl, rfl⟩
  have step : ∀ (b : Bool), (b = decide (j < runLen R)) → (decide ((i : Int) + (j : Int) < ((TX L).length : Int)) = true → ∃ ch, L[i + j]? = some ch ∧ runSign ch = b) ∧ (decide ((i : Int) + (j : Int) < ((TX L).length : Int)) = false → b = false) := by
    intro b hb
    rw [len_TX]
    refine ⟨fun h => ?_, fun h => ?_⟩
    · have h2 : i + j < L.length := by have := of_decide_eq_true h; omega
      by_cases hlt : j < runLen R
      · obtain ⟨ch, h3, h4⟩ := run_at hlt
        exact ⟨ch, by rw [← getR]; exact h3, by rw [h4, hb, decide_eq_true hlt]⟩
      · have e : j = runLen R := by omega
        have h5 : L[i + j]? = some L[i + j] := by simp [h2]
        exact ⟨_, h5, by rw [hb, decide_eq_false hlt]; exact run_end (R := R) (by rw [← e, getR]; exact h5)⟩
    · have h2 : ¬ ((i : Int) + (j : Int) < (L.length : Int)) := of_decide_eq_false h
      rw [hb]
      exact decide_eq_false (by omega)
  refine STT.imp (Q := fun b μ1 => b = decide (j < runLen R) ∧ μ1 = [(p, scD C (TX L) (i : Nat) l c)]) ?_ ?_
  · refine st_and ?_
    walk_at "walk"
    refine se_sAt T rfl ?_
    walk_at "walk"
    refine se_sText T rfl ?_
    walk_at "walk"
    refine sc_lenS hL ?_
    walk_at "walk"
    obtain ⟨st1, st2⟩ := step _ rfl
    cases hb : decide ((i : Int) + (j : Int) < ((TX L).length : Int)) with
    | false =>
      walk_at "walk"
      exact ⟨(st2 hb).symm, rfl⟩
    | true =>
      walk_at "walk"
      obtain ⟨ch, h1, h2⟩ := st1 hb
      refine se_call ?_
      walk_at "walk"
      refine se_sText T rfl ?_
      walk_at "walk"
      refine se_sAt T rfl ?_
      walk_at "walk"
      have e1 : (i : Int) + (j : Int) = ((i + j : Nat) : Int) := by omega
      rw [e1]
      refine sr_ixS (c := ch) hL (by rw [tl_TX]; exact atI_nat h1) ?_
      walk_at "walk"
      refine ⟨[], _, rfl, ch, rfl, ?_⟩
      refine ⟨_, rfl, h2, rfl⟩
  rintro b μ1 ⟨rfl, rfl⟩
  by_cases hlt : j < runLen R
  · rw [if_pos (decide_eq_true hlt)]
    refine ss_aug rfl ?_
    walk_at "walk"
    exact ⟨runLen R - (j + 1), by omega, j + 1, hlt, rfl, rfl, rfl⟩
  rw [if_neg (by simpa using hlt)]
  have hjr : j = runLen R := by omega
  subst hjr
  have hw : wordN R = max 1 (runLen R) := rfl
  have hRpos : 0 < R.length := by rw [lenR]; omega
  walk_at "walk"
  refine se_sText T rfl ?_
  walk_at "walk"
  refine se_sAt T rfl ?_
  walk_at "walk"
  refine se_sAt T rfl ?_
  walk_at "walk"
  refine sl_S hL ?_
  have ew : cutS (TX L) (some (i : Int)) (some ((i : Int) + (if (1 : Int) < (runLen R : Int) then (runLen R : Int) else 1))) = TX (R.take (wordN R)) := by
    have e2 : (i : Int) + (if (1 : Int) < (runLen R : Int) then (runLen R : Int) else 1) = ((i + wordN R : Nat) : Int) := by
      rw [hw]
      by_cases z : 1 < runLen R
      · rw [if_pos (by omega), Nat.max_eq_right (Nat.le_of_lt z)]; omega
      · rw [if_neg (by omega), Nat.max_eq_left (by omega)]; omega
    rw [e2, cutS_TX, HT.sIx_nat, HT.sIx_nat, Nat.min_eq_left (Nat.le_of_lt hi), hR]
    congr 1
    have hle : wordN R ≤ R.length := by rw [hw]; omega
    rw [Nat.min_eq_left (by omega)]
    congr 1
    omega
  rw [ew]
  have fin : ∀ (o : Option Str), o = kindAt R → SS K E Ed (tSeq (tIfS (tTest (tOp rIsX (tVar 4) (tC .non))) (fun _ σ H => tMkO CM (spXI CM ["line", "column"]) [] (tCons (tFld K (tVar 0) "line") (tCons (tFld K (tVar 0) "column") tNil)) σ H fun cls d H' => E cls d H') tNext)
      (tSeq (tDrop (tMeth C "skip" (spD K (KT.F_skip C)) [] E (tVar 0) (tCons (tCB (rLenX K) (tCons (tVar 3) tNil)) tNil))) (tRet (tTup (tCons (tVar 4) (tCons (tVar 3) (tCons (tVar 1) tNil)))))))
      [some (.ref p), some (.tup [.int l, .int c]), some (.int (runLen R)), some (.str (TX (R.take (wordN R)))), some (optS o)] [(p, scD C (TX L) (i : Nat) l c)] ⟨fun _ μ' => Qd .non μ', Qd, fun _ _ => False, fun _ _ => False⟩ := by
    intro o ho
    rw [← ho] at q
    walk_at "walk"
    cases o with
    | none =>
      refine sr_is (b := true) rfl ?_
      walk_at "walk"
      refine ss_raise ?_
      walk_at "walk"
      refine se_sLine T rfl ?_
      walk_at "walk"
      refine se_sCol T rfl ?_
      walk_at "walk"
      exact ⟨rfl, by show 2 ≤ 1000; decide, q⟩
    | some kd =>
      refine sr_is (b := false) rfl ?_
      walk_at "walk"
      have lw : (R.take (wordN R)).length = wordN R := by rw [List.length_take]; exact Nat.min_eq_left (by rw [hw]; omega)
      refine se_meth (se_var rfl ⟨p, _, _, rfl, List.mem_cons_self, by decide +kernel, ?_⟩)
      walk_at "walk"
      refine sc_lenS (by rw [len_TX, lw, hw]; omega) ?_
      walk_at "walk"
      refine ⟨_, [], (List.append_nil _).symm, p, _, _, _, _, _, rfl, rfl, ?_⟩
      walk_at "walk"
      refine ⟨by show 3 ≤ sizeLine; decide, ?_⟩
      rw [len_TX, lw]
      have e : (i : Int) + (wordN R : Int) = ((i + wordN R : Nat) : Int) := by omega
      rw [e]
      exact q
  refine ss_seq (ss_set (se_if ?_))
  walk_at "walk"
  by_cases hpos : 0 < runLen R
  · rw [if_pos (decide_eq_true (by omega))]
    refine se_call ?_
    walk_at "walk"
    have e1 : wordN R = runLen R := by rw [hw]; omega
    obtain ⟨ch, t, ht⟩ : ∃ ch t, R.take (wordN R) = ch :: t := by
      cases hx : R.take (wordN R) with
      | nil =>
        have lw : (R.take (wordN R)).length = wordN R := by rw [List.length_take]; exact Nat.min_eq_left (by rw [hw]; omega)
        rw [hx] at lw
        have lw : 0 = wordN R := lw
        omega
      | cons a b => exact ⟨a, b, rfl⟩
    refine ⟨[], _, rfl, ch, t, by rw [ht], ?_, ?_⟩
    · have := congrArg List.length ht
      rw [List.length_take, List.length_cons] at this
      omega
    · refine fin (kindS ch t) ?_
      unfold kindAt
      rw [if_pos hpos, ← e1, ht]
      rfl
  · rw [if_neg (by simpa using hpos)]
    refine se_if ?_
    walk_at "walk"
    refine se_signs S_SIGNS ?_
    refine sr_inL (.inr rfl) ?_
    walk_at "walk"
    have e1 : wordN R = 1 := by rw [hw]; omega
    by_cases hs : TX (R.take 1) ∈ signsS
    · rw [decide_eq_true (show TX (R.take (wordN R)) ∈ signsS by rw [e1]; exact hs)]
      refine iteT (se_str ?_)
      exact fin (some ("sign" : Str)) (by unfold kindAt; rw [if_neg hpos, if_pos hs])
    · rw [decide_eq_false (show ¬ TX (R.take (wordN R)) ∈ signsS by rw [e1]; exact hs)]
      refine iteF (se_non ?_)
      exact fin none (by unfold kindAt; rw [if_neg hpos, if_neg hs])
end
end KT
set_option Elab.async false
set_option linter.all false
set_option maxRecDepth 100000
set_option maxHeartbeats 1000000
namespace KT
open PySem L2 DD
local macro_rules | `(tactic| walk_at "go") => `(tactic| first
  | with_reducible refine ss_seq ?_ | with_reducible refine ss_ret ?_ | with_reducible refine ss_if ?_ | with_reducible refine ss_set ?_ | with_reducible refine ss_drop ?_ | with_reducible refine ss_next ?_
  | with_reducible refine se_op ?_ | ((with_reducible refine' se_var ?h ?_); (case h => exact rfl)) | with_reducible refine se_int ?_ | with_reducible refine se_str ?_ | with_reducible refine se_bl ?_ | with_reducible refine se_non ?_ | with_reducible refine se_tup ?_ | with_reducible refine se_cb ?_ | with_reducible refine se_if ?_
  | with_reducible refine se_or ?_ | with_reducible refine se_and ?_ | with_reducible refine se_not ?_ | with_reducible refine se_sl ?_ | with_reducible refine so_none ?_ | with_reducible refine so_some ?_
  | with_reducible refine sa_cons ?_ | with_reducible refine sa_nil ?_ | with_reducible refine st_test ?_ | with_reducible refine st_B ?_ | with_reducible refine st_and ?_ | with_reducible refine st_or ?_ | with_reducible refine st_not ?_ | with_reducible refine st_yes ?_
  | with_reducible refine sg_name ?_ | with_reducible refine sg_tup rfl ?_ | with_reducible refine sgs_cons ?_ | with_reducible refine sgs_nil ?_
  | with_reducible refine sr_addI ?_ | with_reducible refine sr_sub ?_ | with_reducible refine sr_cmp ?_ | with_reducible refine sr_inS ?_ | with_reducible refine sr_ninS ?_
  | ((with_reducible refine' sr_eqS ?h ?_); (case h => exact rfl)) | ((with_reducible refine' sr_neS ?h ?_); (case h => exact rfl)) | ((with_reducible refine' sr_is ?h ?_); (case h => exact rfl)) | ((with_reducible refine' sr_isNot ?h ?_); (case h => exact rfl))
  | with_reducible refine sc_lenL ?_ | with_reducible refine sc_lenT ?_ | with_reducible refine sc_max2 ?_ | with_reducible refine sc_int ?_
  | with_reducible refine ⟨_, rfl, ?_⟩
  | with_reducible refine iteT ?_ | with_reducible refine iteF ?_ | with_reducible refine iteN1 ?_ | with_reducible refine iteN2 ?_)
local macro_rules | `(tactic| walk_at "walk") => `(tactic| repeat walk_at "go")
def rowD (k w : Str) (l c : Int) : D := .tup [.str k, .str w, .tup [.int l, .int c]]
inductive Scan : List Nat → Int → Int → Except (Int × Int) (List D) → Prop
  | done {l c : Int} : Scan [] l c (.ok [rowD "end" "" l c])
  | nl {t : List Nat} {l c : Int} {r : Except (Int × Int) (List D)} : Scan t (l + 1) 1 r → Scan (10 :: t) l c r
  | sp {t : List Nat} {l c : Int} {r : Except (Int × Int) (List D)} : Scan t l (c + 1) r → Scan (32 :: t) l c r
  | rem {t : List Nat} {l c : Int} {r : Except (Int × Int) (List D)} : Scan ((35 :: t).drop (lineL (35 :: t)).length) l (c + (lineL (35 :: t)).length) r → Scan (35 :: t) l c r
  | tok {ch : Nat} {t : List Nat} {l c : Int} {k : Str} {rs : List D} : ch ≠ 10 → ch ≠ 32 → ch ≠ 35 → kindAt (ch :: t) = some k → Scan ((ch :: t).drop (wordN (ch :: t))) l (c + wordN (ch :: t)) (.ok rs) →
      Scan (ch :: t) l c (.ok (rowD k (TX ((ch :: t).take (wordN (ch :: t)))) l c :: rs))
  | tokE {ch : Nat} {t : List Nat} {l c : Int} {k : Str} {e : Int × Int} : ch ≠ 10 → ch ≠ 32 → ch ≠ 35 → kindAt (ch :: t) = some k → Scan ((ch :: t).drop (wordN (ch :: t))) l (c + wordN (ch :: t)) (.error e) → Scan (ch :: t) l c (.error e)
  | bad {ch : Nat} {t : List Nat} {l c : Int} : ch ≠ 10 → ch ≠ 32 → ch ≠ 35 → kindAt (ch :: t) = none → Scan (ch :: t) l c (.error (l, c))
/-- rows ahead of a result -/
def ahead (rs : List D) : Except (Int × Int) (List D) → Except (Int × Int) (List D)
  | .ok r => .ok (rs ++ r)
  | .error e => .error e
def F_tokens (CM : Addr) : FD := fun ds μ Q Ed => ∃ d, ds = [d] ∧
  ((∃ L r, d = .str (TX L) ∧ L.length ≤ 8000000 ∧ Scan L 1 1 r ∧ (match r with | .ok rs => Q (.tup rs) μ | .error (l, c) => Ed CM ["column", "line"] [.int c, .int l] μ)) ∨
    (∃ n, kindD d = some n ∧ kitB n "str" = some false) ∧ Ed CM ["column", "line"] [.int 0, .int 0] μ)
section
variable {P : Program} {w : World} {K : PySem.W.Frag} {mg : Str → Option Value} {base : Heap} {C CM : Addr}
theorem sc_tokens : FnScope ["text", "scanner", "found"] ["text"] (defScope (top 25)) := ⟨rfl, rfl, rfl, by decide +kernel, rfl, by decide +kernel, by decide +kernel⟩
theorem ok_tokens {f fI : Addr} {fd fdI : FuncData} (FU : Fun K "tokens" "tokens" (top 25) f fd) (G : Glob K mg) (T : ClsS K C)
    (F_Scanner : FnOk P w K mg base (L2.CX P w) 1 fI fdI ["self", "text"] (spD K (F_sc_init C))) (M_Scanner : Mk K C fI) (C_Scanner : mg "Scanner" = some (.ref C)) (B_Scanner : Binds K fdI ["self", "text"] [])
    (H_is_over : HasM P w K mg base 1 C "is_over" ["self"] (spD K (F_is_over C))) (H_pass_gap : HasM P w K mg base 2 C "pass_gap" ["self"] (spD K (F_pass_gap C)))
    (H_token : HasM P w K mg base 3 C "token" ["self"] (spD K (F_token C CM))) (X_Misread : HasX P w K mg base 1 "Misread" CM ["self", "line", "column"] (spXI CM ["line", "column"])) : FnOk P w K mg base (L2.CX P w) 4 f fd ["text"] (spD K (F_tokens CM)) := by
  have N_isinstance := G.isinstance
  have N_str := G.str
  have N_tuple := G.tuple
  obtain ⟨f_is_over, fd_is_over, F_is_over, Mt_is_over, B_is_over⟩ := H_is_over.ex
  obtain ⟨f_pass_gap, fd_pass_gap, F_pass_gap, Mt_pass_gap, B_pass_gap⟩ := H_pass_gap.ex
  obtain ⟨f_token, fd_token, F_token, Mt_token, B_token⟩ := H_token.ex
  refine fn_D FU sc_tokens (fun ds μ Q Ed ⟨d, e, _⟩ => by rw [e]; rfl) fun cdv A outer s H E hr => ?_
  have nd := sc_tokens.nd
  have hu65 : (A.deeper (PyProof.Rows.envOfC "tokens" (defScope (top 25)) s.heap.objs.size f cdv)).units + 65 < cLine := by have := hr.un; omega
  have hu64 : (A.deeper (PyProof.Rows.envOfC "tokens" (defScope (top 25)) s.heap.objs.size f cdv)).units + 64 < cLine := by have := hr.un; omega
  have hu1 : (A.deeper (PyProof.Rows.envOfC "tokens" (defScope (top 25)) s.heap.objs.size f cdv)).units + 1 < cLine := by have := hr.un; omega
  refine ⟨_, (pss_cons (ps_if (pt_not (pt_val (pe_callB (call_isiK' (K := K) rfl) (by rfl) N_isinstance b_isinstance (pa_cons (pv 0) (pa_cons (pe_bltn (v := .ty "str") rfl N_str b_str rfl) pa_nil))))) (pss_one (ps_raise rfl takesX (pmk_hasX X_Misread (hr.mono (by decide)) rfl (pa_cons pe_int (pa_cons pe_int pa_nil))))) pss_nil)
      (pss_cons (ps_par (i := 1) (j := 2) rfl nd rfl rfl (by decide) rfl rfl (pa_cons (pe_make M_Scanner F_Scanner (hr.mono (by decide)) rfl C_Scanner B_Scanner .nil passX (pa_cons (pv 0) pa_nil)) (pa_cons (pe_lst pa_nil) pa_nil)) (by rfl))
      (pss_cons (ps_while ownX (pt_not (pt_val (pe_meth0 (pv 1) T.cl Mt_is_over F_is_over (hr.mono (by decide)) B_is_over .nil passX))) (pss_one (ps_if (pt_not (pt_val (pe_meth0 (pv 1) T.cl Mt_pass_gap F_pass_gap (hr.mono (by decide)) B_pass_gap .nil passX))) (pss_one (ps_expr (pe_bmK (K := K) rfl (pe_bm PySem.F.plainAttrs_list PySem.F.slot_list_append PySem.F.type_list_append mt_append (pv 2) (pa_cons (pe_meth0 (pv 1) T.cl Mt_token F_token (hr.mono (by decide)) B_token .nil passX) pa_nil))))) pss_nil)))
      (pss_cons (ps_expr (pe_bmK (K := K) rfl (pe_bm PySem.F.plainAttrs_list PySem.F.slot_list_append PySem.F.type_list_append mt_append (pv 2) (pa_cons (pe_tup (pa_cons pe_str (pa_cons pe_str (pa_cons (pe_tup (pa_cons (pe_fldK (K := K) rfl (pv 1)) (pa_cons (pe_fldK (K := K) rfl (pv 1)) pa_nil))) pa_nil)))) pa_nil))))
      (pss_one (ps_ret (pe_callTy (call_tupleK (K := K) rfl) (by rfl) N_tuple b_tuple (pa_cons (pv 2) pa_nil)))))))), ?_⟩
  rintro ds μ Qd Ed ⟨d, rfl, q⟩
  refine ss_gone ?_
  walk_at "walk"
  refine se_c rfl ?_
  walk_at "walk"
  rcases q with ⟨L, r0, rfl, hz, hS, q⟩ | ⟨⟨n, hn1, hn2⟩, q⟩
  rotate_left
  · refine sc_isi hn1 hn2 ?_
    walk_at "walk"
    refine ss_raise ?_
    walk_at "walk"
    exact ⟨rfl, by show 2 ≤ 1000; decide, [], μ, .refl _, q⟩
  refine sc_isi (n := "str") (b := true) rfl (by decide +kernel) ?_
  walk_at "walk"
  refine ss_par ?_
  walk_at "walk"
  refine se_make ?_
  walk_at "walk"
  intro a
  refine ⟨a, TX L, rfl, rfl, rfl, ?_⟩
  walk_at "walk"
  refine se_lstM ?_
  walk_at "walk"
  refine ⟨Nat.zero_le _, fun p => ?_⟩
  walk_at "walk"
  refine ⟨_, _, rfl, ?_⟩
  have s16 := size16
  have hL : (TX L).length ≤ sizeLine := by rw [len_TX]; omega
  refine ss_perm (List.Perm.swap _ _ _) ?_
  refine ss_seq (ss_while (fun m ρ' μ' => ∃ (i : Nat) (l c : Int) (rs : List D) (r : Except (Int × Int) (List D)), i ≤ L.length ∧ m = L.length - i ∧ rs.length ≤ i ∧ Scan (L.drop i) l c r ∧ r0 = ahead rs r ∧ ρ' = [some (.str (TX L)), some (.ref a), some (.ref p)] ∧ μ' = (a, scD C (TX L) (i : Nat) l c) :: (p, .lst rs) :: μ) (m0 := L.length)
    ⟨0, 1, 1, [], r0, Nat.zero_le _, rfl, Nat.zero_le _, hS, by cases r0 <;> rfl, rfl, rfl⟩ ?_)
  rintro m ρ' μ' ⟨i, l, c, rs, r, hi, rfl, hrs, hS, hr, rfl, rfl⟩
  refine st_not (st_B (se_meth (se_var rfl ⟨a, _, _, rfl, List.mem_cons_self, by decide +kernel, ?_⟩)))
  walk_at "walk"
  refine ⟨[(a, scD C (TX L) (i : Nat) l c)], _, rfl, a, _, _, _, _, rfl, rfl, hL, ?_⟩
  walk_at "walk"
  have e0 : decide ((i : Int) = ((TX L).length : Int)) = decide (i = L.length) := by
    rw [len_TX]
    by_cases z : i = L.length
    · rw [decide_eq_true z, decide_eq_true (by omega)]
    · rw [decide_eq_false z, decide_eq_false (by omega)]
  rw [e0]
  by_cases hend : i = L.length
  · rw [decide_eq_true hend]
    walk_at "walk"
    have hd : L.drop i = [] := by rw [hend]; exact List.drop_length
    rw [hd] at hS
    cases hS
    refine se_bm (se_var rfl ⟨.inr (.inl ⟨p, rs, rfl, by simp, rfl⟩), ?_⟩)
    walk_at "walk"
    refine se_sLine T rfl ?_
    walk_at "walk"
    refine se_sCol T rfl ?_
    walk_at "walk"
    refine ⟨by show 2 ≤ sizeLine; decide, ?_⟩
    walk_at "walk"
    refine ⟨by show 3 ≤ sizeLine; decide, ?_⟩
    walk_at "walk"
    refine sm_append (.there .here) (by omega) ?_
    refine ss_ret ?_
    refine se_freeze (i := 2) rfl (.there .here) ?_
    walk_at "walk"
    refine sc_tuple (.inl rfl) ?_
    subst hr
    exact ⟨[(a, _)], μ, .refl _, q⟩
  rw [decide_eq_false hend]
  walk_at "walk"
  have hlt : i < L.length := by omega
  obtain ⟨ch, hch⟩ : ∃ ch, L[i]? = some ch := ⟨L[i], by simp [hlt]⟩
  have hdr : L.drop i = ch :: L.drop (i + 1) := by
    rw [List.drop_eq_getElem_cons hlt]
    congr 1
    rw [List.getElem?_eq_getElem hlt] at hch
    exact Option.some.inj hch
  have turn : ∀ (n : Nat) (l' c' : Int) (rs' : List D) (r' : Except (Int × Int) (List D)), 0 < n → i + n ≤ L.length → rs'.length ≤ i + n → Scan (L.drop (i + n)) l' c' r' → r0 = ahead rs' r' →
      ∃ m', m' < L.length - i ∧ ∃ (i' : Nat) (l c : Int) (rs : List D) (r : Except (Int × Int) (List D)), i' ≤ L.length ∧ m' = L.length - i' ∧ rs.length ≤ i' ∧ Scan (L.drop i') l c r ∧ r0 = ahead rs r ∧ ([some (.str (TX L)), some (.ref a), some (.ref p)] : DD.Env) = [some (.str (TX L)), some (.ref a), some (.ref p)] ∧
        ((a, scD C (TX L) (i + n : Nat) l' c') :: (p, .lst rs') :: μ : Store) = (a, scD C (TX L) (i' : Nat) l c) :: (p, .lst rs) :: μ :=
    fun n l' c' rs' r' h1 h2 h3 h4 h5 => ⟨L.length - (i + n), by omega, i + n, l', c', rs', r', h2, rfl, h3, h4, h5, rfl, rfl⟩
  refine se_meth (se_var rfl ⟨a, _, _, rfl, List.mem_cons_self, by decide +kernel, ?_⟩)
  walk_at "walk"
  refine ⟨[(a, scD C (TX L) (i : Nat) l c)], (p, .lst rs) :: μ, rfl, a, L, i, l, c, ch, rfl, rfl, by omega, hch, ?_⟩
  rw [hdr] at hS
  by_cases h1 : ch = 10
  · rw [if_pos h1]
    subst h1
    walk_at "walk"
    cases hS with
    | nl h => exact turn 1 _ _ rs _ (by omega) (by omega) (by omega) h hr
    | tok g => exact absurd rfl g
    | tokE g => exact absurd rfl g
    | bad g => exact absurd rfl g
  rw [if_neg h1]
  by_cases h2 : ch = 32
  · rw [if_pos h2]
    subst h2
    walk_at "walk"
    cases hS with
    | sp h => exact turn 1 _ _ rs _ (by omega) (by omega) (by omega) h hr
    | tok _ g => exact absurd rfl g
    | tokE _ g => exact absurd rfl g
    | bad _ g => exact absurd rfl g
  rw [if_neg h2]
  by_cases h3 : ch = 35
  · rw [if_pos h3]
    subst h3
    walk_at "walk"
    have hpos : 0 < (lineL (L.drop i)).length := by rw [hdr]; simp [lineL]
    have hle : (lineL (L.drop i)).length ≤ L.length - i := Nat.le_trans (List.takeWhile_sublist _).length_le (by rw [List.length_drop]; exact Nat.le_refl _)
    cases hS with
    | rem h =>
      rw [← hdr, List.drop_drop] at h
      exact turn _ _ _ rs _ hpos (by omega) (by omega) h hr
    | tok _ _ g => exact absurd rfl g
    | tokE _ _ g => exact absurd rfl g
    | bad _ _ g => exact absurd rfl g
  rw [if_neg h3]
  walk_at "walk"
  refine se_bm (se_var rfl ⟨.inr (.inl ⟨p, rs, rfl, by simp, rfl⟩), ?_⟩)
  walk_at "walk"
  refine se_meth (se_var rfl ⟨a, _, _, rfl, List.mem_cons_self, by decide +kernel, ?_⟩)
  walk_at "walk"
  refine ⟨[(a, scD C (TX L) (i : Nat) l c)], (p, .lst rs) :: μ, rfl, a, L, i, l, c, rfl, rfl, by omega, hlt, ?_⟩
  have hwl : wordN (L.drop i) ≤ L.length - i := by
    have := runLen_le (L.drop i)
    rw [List.length_drop] at this
    unfold wordN
    omega
  have hwp : 0 < wordN (L.drop i) := by unfold wordN; omega
  rw [← hdr] at hS
  cases hk : kindAt (L.drop i) with
  | none =>
    refine ⟨[(a, _), (p, _)], μ, .refl _, ?_⟩
    rw [hdr] at hS hk
    cases hS with
    | nl h => exact absurd rfl h1
    | sp h => exact absurd rfl h2
    | rem h => exact absurd rfl h3
    | tok _ _ _ g => rw [hk] at g; cases g
    | tokE _ _ _ g => rw [hk] at g; cases g
    | bad =>
      subst hr
      exact q
  | some k =>
    walk_at "walk"
    refine sm_append (.there .here) (by omega) ?_
    have hS2 := hS
    rw [hdr] at hS2 hk
    cases hS2 with
    | nl h => exact absurd rfl h1
    | sp h => exact absurd rfl h2
    | rem h => exact absurd rfl h3
    | bad _ _ _ g => rw [hk] at g; cases g
    | tok _ _ _ g h =>
      rw [hk] at g
      cases g
      rw [← hdr] at h
      rw [List.drop_drop] at h
      refine turn _ _ _ _ _ hwp (by omega) (by rw [List.length_append]; simp; omega) h ?_
      rw [hr, ← hdr]
      simp [ahead, rowD]
    | tokE _ _ _ g h =>
      rw [← hdr] at h
      rw [List.drop_drop] at h
      refine turn _ _ _ _ _ hwp (by omega) (by rw [List.length_append]; simp; omega) h ?_
      rw [hr]
      rfl
end
end KT
set_option Elab.async false
set_option linter.all false
set_option maxRecDepth 100000
set_option maxHeartbeats 1000000
namespace KT
open PySem L2 DD
local macro_rules | `(tactic| walk_at "go") => `(tactic| first
  | with_reducible refine ss_seq ?_ | with_reducible refine ss_ret ?_ | with_reducible refine ss_if ?_ | with_reducible refine ss_set ?_ | with_reducible refine ss_drop ?_ | with_reducible refine ss_next ?_
  | with_reducible refine se_op ?_ | ((with_reducible refine' se_var ?h ?_); (case h => exact rfl)) | with_reducible refine se_int ?_ | with_reducible refine se_str ?_ | with_reducible refine se_bl ?_ | with_reducible refine se_non ?_ | with_reducible refine se_tup ?_ | with_reducible refine se_cb ?_ | with_reducible refine se_if ?_
  | with_reducible refine se_or ?_ | with_reducible refine se_and ?_ | with_reducible refine se_not ?_ | with_reducible refine se_sl ?_ | with_reducible refine so_none ?_ | with_reducible refine so_some ?_
  | with_reducible refine sa_cons ?_ | with_reducible refine sa_nil ?_ | with_reducible refine st_test ?_ | with_reducible refine st_B ?_ | with_reducible refine st_and ?_ | with_reducible refine st_or ?_ | with_reducible refine st_not ?_ | with_reducible refine st_yes ?_
  | with_reducible refine sg_name ?_ | with_reducible refine sg_tup rfl ?_ | with_reducible refine sgs_cons ?_ | with_reducible refine sgs_nil ?_
  | with_reducible refine sr_addI ?_ | with_reducible refine sr_sub ?_ | with_reducible refine sr_cmp ?_ | with_reducible refine sr_inS ?_ | with_reducible refine sr_ninS ?_
  | ((with_reducible refine' sr_eqS ?h ?_); (case h => exact rfl)) | ((with_reducible refine' sr_neS ?h ?_); (case h => exact rfl)) | ((with_reducible refine' sr_is ?h ?_); (case h => exact rfl)) | ((with_reducible refine' sr_isNot ?h ?_); (case h => exact rfl))
  | with_reducible refine sc_lenL ?_ | with_reducible refine sc_lenT ?_ | with_reducible refine sc_max2 ?_ | with_reducible refine sc_int ?_
  | with_reducible refine ⟨_, rfl, ?_⟩
  | with_reducible refine iteT ?_ | with_reducible refine iteF ?_ | with_reducible refine iteN1 ?_ | with_reducible refine iteN2 ?_)
local macro_rules | `(tactic| walk_at "walk") => `(tactic| repeat walk_at "go")
/-! ### the pen -/
def penK : List Key := [.inr "cells", .inr "at", .inr "digits", .inr "count", .inr "fold"]
theorem penK_nd : penK.Nodup := by decide +kernel
theorem pk_cells : penK.findIdx (fun q => decide (q = Sum.inr ("cells" : Str))) = 0 := by decide +kernel
theorem pk_at : penK.findIdx (fun q => decide (q = Sum.inr ("at" : Str))) = 1 := by decide +kernel
theorem pk_digits : penK.findIdx (fun q => decide (q = Sum.inr ("digits" : Str))) = 2 := by decide +kernel
theorem pk_count : penK.findIdx (fun q => decide (q = Sum.inr ("count" : Str))) = 3 := by decide +kernel
theorem pk_fold : penK.findIdx (fun q => decide (q = Sum.inr ("fold" : Str))) = 4 := by decide +kernel
def penD (cells : List Int) (a d c f : Int) : D := .dict penK [.lst (cells.map .int), .int a, .int d, .int c, .int f]
/-- a pen of which at most n draws were made -/
def PenOk (n : Nat) (d : D) : Prop := ∃ (cells : List Int) (a : Nat) (g c f : Int), d = penD cells a g c f ∧ cells.length ≤ 63 ∧ 0 ≤ g ∧ 0 ≤ c ∧ c ≤ n ∧ 0 ≤ f ∧ f < 2147483059
theorem PenOk.mono {n m : Nat} {d : D} (h : PenOk n d) (l : n ≤ m) : PenOk m d := by
  obtain ⟨cells, a, g, c, f, h1, h2, h3, h4, h5, h6, h7⟩ := h
  exact ⟨cells, a, g, c, f, h1, h2, h3, h4, by omega, h6, h7⟩
def BIG : Nat := 1000000000000
structure LGlob (mg : Str → Option Value) : Prop where
  int : mg "int" = none
  len : mg "len" = none
  list : mg "list" = none
  str : mg "str" = none
  range : mg "range" = none
  isinstance : mg "isinstance" = none
  tuple : mg "tuple" = none
  all : mg "all" = none
  zip : mg "zip" = none
  enumerate : mg "enumerate" = none
  bool : mg "bool" = none
  repr : mg "repr" = none
section
variable {P : Program} {w : World} {K : PySem.W.Frag} {mg : Str → Option Value} {base : Heap} {E : XK} {Ed : XD} {ρ : DD.Env} {μ : Store} {ta te : TE} {Q : D → Store → Prop} {PD : DE}
theorem se_pget {cells : List Int} {a d c f : Int} {p : Addr} {μ' : Store} {i j : Nat} {k : Str} {e : D} (h : ρ[i]? = some (some (.ref p))) (hj : penK.findIdx (fun q => decide (q = Sum.inr k)) = j) (he : ([.lst (cells.map .int), .int a, .int d, .int c, .int f] : List D)[j]? = some e) (q : Q e ((p, penD cells a d c f) :: μ')) :
    SE K E Ed (tDGet (tVar i) (tC (.str k))) ρ ((p, penD cells a d c f) :: μ') Q := se_dget (k := Sum.inr k) (se_var h (se_str ⟨p, penK, _, e, rfl, rfl, List.mem_cons_self, hj, he, q⟩))
theorem ss_pput {cells : List Int} {a d c f : Int} {p : Addr} {μ' : Store} {i j : Nat} {k : Str} (h : ρ[i]? = some (some (.ref p))) (hj : penK.findIdx (fun q => decide (q = Sum.inr k)) = j) (hlt : j < 5)
    (hs : SE K E Ed te ρ ((p, penD cells a d c f) :: μ') fun e μ1 => μ1 = (p, penD cells a d c f) :: μ' ∧ PD.nx ρ ((p, .dict penK (([.lst (cells.map .int), .int a, .int d, .int c, .int f] : List D).set j e)) :: μ')) : SS K E Ed (sDPut (tVar i) (tC (.str k)) te) ρ ((p, penD cells a d c f) :: μ') PD :=
  ss_dput (k := Sum.inr k) (j := j) (hs.imp fun e μ1 ⟨e1, q⟩ => by subst e1; exact se_var h (se_str ⟨p, penK, _, _, rfl, rfl, .here, penK_nd, hj, hlt, by decide, q⟩))
def F_draw : FD := fun ds μ Q Ed => ∃ p d n m, ds = [.ref p, .int m] ∧ μ = [(p, d)] ∧ PenOk n d ∧ n < BIG ∧ 0 < m ∧ m < 1073741824 ∧ ∀ (r : Nat) d', (r : Int) < m → PenOk (n + 1) d' → Q (.int r) [(p, d')]
theorem sc__law_draw : FnScope ["pen", "many", "blend", "cell", "digit"] ["pen", "many"] (defScope (top 28)) := ⟨rfl, rfl, rfl, by decide +kernel, rfl, by decide +kernel, by decide +kernel⟩
theorem ok_draw {f : Addr} {fd : FuncData} (FU : Fun K "_law_draw" "_law_draw" (top 28) f fd) (G : LGlob mg) : FnOk P w K mg base (L2.CX P w) 1 f fd ["pen", "many"] (spD K F_draw) := by
  have N_len := G.len
  have N_int := G.int
  refine fn_D FU sc__law_draw (fun ds μ Q Ed ⟨p, d, n, m, e, _⟩ => by rw [e]; rfl) fun cdv A outer s H E hr => ?_
  have nd := sc__law_draw.nd
  have hu65 : (A.deeper (PyProof.Rows.envOfC "_law_draw" (defScope (top 28)) s.heap.objs.size f cdv)).units + 65 < cLine := by have := hr.un; omega
  have hu64 : (A.deeper (PyProof.Rows.envOfC "_law_draw" (defScope (top 28)) s.heap.objs.size f cdv)).units + 64 < cLine := by have := hr.un; omega
  have hu1 : (A.deeper (PyProof.Rows.envOfC "_law_draw" (defScope (top 28)) s.heap.objs.size f cdv)).units + 1 < cLine := by have := hr.un; omega
  refine ⟨_, (pss_cons (ps_dput hu1 (pv 0) pe_str (pe_op (op_addK (K := K) rfl) (pe_dget hu1 (pv 0) pe_str (fun _ _ => rfl)) pe_int) rfl)
      (pss_cons (ps_if (PW.pt (pw_and (pt_cmpR (op_eqK (K := K) rfl hu64) (pe_dget hu1 (pv 0) pe_str (fun _ _ => rfl)) pe_int (by rfl)) (pw_and1 (pt_cmpR op_lt (pe_dget hu1 (pv 0) pe_str (fun _ _ => rfl)) (pe_callB (call_lenK (K := K) rfl) (by rfl) N_len b_len (pa_cons (pe_dget hu1 (pv 0) pe_str (fun _ _ => rfl)) pa_nil)) (by rfl))))) (pss_cons (ps_set (i := 3) nd rfl (Or.inl rfl) (pe_ix (ix_K (K := K) rfl) (pe_dget hu1 (pv 0) pe_str (fun _ _ => rfl)) (pe_dget hu1 (pv 0) pe_str (fun _ _ => rfl)) (fun _ _ => rfl)))
      (pss_cons (ps_dput hu1 (pv 0) pe_str (pe_op (op_addK (K := K) rfl) (pe_dget hu1 (pv 0) pe_str (fun _ _ => rfl)) pe_int) rfl)
      (pss_one (ps_if (pt_cmpR op_ge (pv 3) (pe_op op_pow pe_int pe_int) (by rfl)) (pss_one (ps_dput hu1 (pv 0) pe_str (pe_op op_sub (pv 3) (pe_op op_pow pe_int pe_int)) rfl)) (pss_one (ps_dput hu1 (pv 0) pe_str (pe_op op_mod (pe_callTy call_intX (by rfl) N_int b_int (pa_cons (pe_op (op_addK (K := K) rfl) (pe_op op_mulX (pe_dget hu1 (pv 0) pe_str (fun _ _ => rfl)) pe_int) (pv 3)) pa_nil)) pe_int) rfl)))))) pss_nil)
      (pss_cons (ps_if (pt_cmpR op_gt (pe_dget hu1 (pv 0) pe_str (fun _ _ => rfl)) pe_int (by rfl)) (pss_cons (ps_set (i := 4) nd rfl (Or.inl rfl) (pe_op op_mod (pe_callTy call_intX (by rfl) N_int b_int (pa_cons (pe_dget hu1 (pv 0) pe_str (fun _ _ => rfl)) pa_nil)) (pv 1)))
      (pss_cons (ps_dput hu1 (pv 0) pe_str (pe_op op_fdiv (pe_dget hu1 (pv 0) pe_str (fun _ _ => rfl)) (pv 1)) rfl)
      (pss_one (ps_ret (pv 4))))) pss_nil)
      (pss_cons (ps_set (i := 2) nd rfl (Or.inl rfl) (pe_op (op_addK (K := K) rfl) (pe_op (op_addK (K := K) rfl) (pe_dget hu1 (pv 0) pe_str (fun _ _ => rfl)) (pe_op op_mulX (pe_dget hu1 (pv 0) pe_str (fun _ _ => rfl)) pe_int)) pe_int))
      (pss_one (ps_ret (pe_op op_mod (pe_op op_fdiv (pe_callTy call_intX (by rfl) N_int b_int (pa_cons (pe_op op_mod (pe_op op_pow (pv 2) pe_int) pe_int) pa_nil)) pe_int) (pv 1)))))))), ?_⟩
  rintro ds μ Qd Ed ⟨p, d0, n, m, rfl, rfl, ⟨cells, a, g, c, f0, rfl, h1, h2, h3, h4, h5, h6⟩, hn, hm, hm2, q⟩
  have hB : (n : Int) < 1000000000000 := by have : n < 1000000000000 := hn; omega
  refine ss_seq (ss_pput rfl pk_count (by decide) ?_)
  walk_at "walk"
  refine se_pget rfl pk_count rfl ?_
  walk_at "walk"
  refine ⟨rfl, ?_⟩
  refine ss_mid (fun ρ' μ' => ∃ (a' : Nat) (g' f' : Int) (o : Option D), ρ' = [some (.ref p), some (.int m), none, o, none] ∧ μ' = [(p, penD cells a' g' (c + 1) f')] ∧ 0 ≤ g' ∧ 0 ≤ f' ∧ f' < 2147483059) ?_ ?_
  · show SS _ _ _ _ _ [(p, penD cells a g (c + 1) f0)] _
    have keep : ∃ (a' : Nat) (g' f' : Int) (o : Option D), ([some (.ref p), some (.int m), none, none, none] : DD.Env) = [some (.ref p), some (.int m), none, o, none] ∧ ([(p, penD cells a g (c + 1) f0)] : Store) = [(p, penD cells a' g' (c + 1) f')] ∧ 0 ≤ g' ∧ 0 ≤ f' ∧ f' < 2147483059 := ⟨a, g, f0, none, rfl, rfl, h2, h5, h6⟩
    walk_at "walk"
    refine se_pget rfl pk_digits rfl ?_
    walk_at "walk"
    by_cases hg : g = 0
    · rw [decide_eq_true hg]
      walk_at "walk"
      refine se_pget rfl pk_at rfl ?_
      walk_at "walk"
      refine se_pget rfl pk_cells rfl ?_
      walk_at "walk"
      rw [List.length_map]
      by_cases ha : a < cells.length
      · rw [decide_eq_true (by omega)]
        walk_at "walk"
        refine se_pget rfl pk_cells rfl ?_
        refine se_pget rfl pk_at rfl ?_
        obtain ⟨cell, hcell⟩ : ∃ cell, cells[a]? = some cell := ⟨cells[a], by simp [ha]⟩
        refine sr_ixL (d := .int cell) (atI_nat (by rw [List.getElem?_map, hcell]; rfl)) ?_
        refine ss_seq (ss_pput rfl pk_at (by decide) ?_)
        walk_at "walk"
        refine se_pget rfl pk_at rfl ?_
        walk_at "walk"
        refine ⟨rfl, ?_⟩
        have ea : (a : Int) + 1 = ((a + 1 : Nat) : Int) := by omega
        show SS _ _ _ _ _ [(p, penD cells ((a : Int) + 1) g (c + 1) f0)] _
        rw [ea]
        walk_at "walk"
        refine sr_I (C := CPow) (g := fun i j => i ^ j.toNat) ⟨by decide, by decide, by decide⟩ ?_
        walk_at "walk"
        by_cases hc : (10 : Int) ^ (18 : Int).toNat ≤ cell
        · rw [decide_eq_true hc]
          refine iteT ?_
          refine ss_pput rfl pk_digits (by decide) ?_
          walk_at "walk"
          refine sr_I (C := CPow) (g := fun i j => i ^ j.toNat) ⟨by decide, by decide, by decide⟩ ?_
          walk_at "walk"
          exact ⟨rfl, a + 1, _, f0, some (.int cell), rfl, rfl, by omega, h5, h6⟩
        · rw [decide_eq_false hc]
          refine iteF ?_
          refine ss_pput rfl pk_fold (by decide) ?_
          walk_at "walk"
          refine se_pget rfl pk_fold rfl ?_
          walk_at "walk"
          refine sr_mulI (.inr ⟨by decide, by decide⟩) ?_
          walk_at "walk"
          refine sr_I (C := fun _ j => 0 < j) (g := fun i j => i % j) (by decide) ?_
          exact ⟨rfl, a + 1, g, _, some (.int cell), rfl, rfl, h2, Int.emod_nonneg _ (by decide), Int.emod_lt_of_pos _ (by decide)⟩
      · rw [decide_eq_false (by omega)]
        walk_at "walk"
        exact keep
    · rw [decide_eq_false hg]
      walk_at "walk"
      exact keep
  rintro ρ' μ' ⟨a', g', f', o, rfl, rfl, b1, b2, b3⟩
  walk_at "walk"
  refine se_pget rfl pk_digits rfl ?_
  walk_at "walk"
  by_cases hg : 0 < g'
  · rw [decide_eq_true hg]
    walk_at "walk"
    refine se_pget rfl pk_digits rfl ?_
    walk_at "walk"
    refine sr_I (C := fun _ j => 0 < j) (g := fun i j => i % j) hm ?_
    refine ss_seq (ss_pput rfl pk_digits (by decide) ?_)
    walk_at "walk"
    refine se_pget rfl pk_digits rfl ?_
    walk_at "walk"
    refine sr_I (C := CDiv) (g := fun i j => i / j) ⟨hm, hm2⟩ ?_
    refine ⟨rfl, ?_⟩
    walk_at "walk"
    have e1 : (g' % m) = ((g' % m).toNat : Int) := (Int.toNat_of_nonneg (Int.emod_nonneg _ (by omega))).symm
    rw [e1]
    exact q _ _ (by rw [← e1]; exact Int.emod_lt_of_pos _ hm) ⟨cells, a', _, c + 1, f', rfl, h1, Int.ediv_nonneg b1 (by omega), by omega, by omega, b2, b3⟩
  · rw [decide_eq_false hg]
    walk_at "walk"
    refine se_pget rfl pk_fold rfl ?_
    walk_at "walk"
    refine se_pget rfl pk_count rfl ?_
    walk_at "walk"
    refine sr_mulI (.inr ⟨by decide, by decide⟩) ?_
    walk_at "walk"
    refine sr_I (C := CPow) (g := fun i j => i ^ j.toNat) ⟨by decide, by decide, by omega⟩ ?_
    walk_at "walk"
    refine sr_I (C := fun _ j => 0 < j) (g := fun i j => i % j) (by decide) ?_
    walk_at "walk"
    refine sr_I (C := CDiv) (g := fun i j => i / j) ⟨by decide, by decide⟩ ?_
    walk_at "walk"
    refine sr_I (C := fun _ j => 0 < j) (g := fun i j => i % j) hm ?_
    generalize (f' + (c + 1) * 8087 + 167) ^ (17 : Int).toNat % 2305843009213693951 / 128 = z
    have e1 : (z % m) = ((z % m).toNat : Int) := (Int.toNat_of_nonneg (Int.emod_nonneg _ (by omega))).symm
    rw [e1]
    exact q _ _ (by rw [← e1]; exact Int.emod_lt_of_pos _ hm) ⟨cells, a', g', c + 1, f', rfl, h1, b1, by omega, by omega, b2, b3⟩
/-! ### _law_pen -/
def F_pen : FD := fun ds μ Q Ed => ∃ ns : List Int, ds = [.scr ns] ∧ ns.length ≤ 63 ∧ ∀ p d, PenOk 0 d → Q (.ref p) ((p, d) :: μ)
theorem sc__law_pen : FnScope ["script", "fold", "cell"] ["script"] (defScope (top 27)) := ⟨rfl, rfl, rfl, by decide +kernel, rfl, by decide +kernel, by decide +kernel⟩
theorem ok_pen {f : Addr} {fd : FuncData} (FU : Fun K "_law_pen" "_law_pen" (top 27) f fd) (G : LGlob mg) : FnOk P w K mg base (L2.CX P w) 1 f fd ["script"] (spD K F_pen) := by
  have N_int := G.int
  have N_list := G.list
  refine fn_D FU sc__law_pen (fun ds μ Q Ed ⟨ns, e, _⟩ => by rw [e]; rfl) fun cdv A outer s H E hr => ?_
  have nd := sc__law_pen.nd
  have hu65 : (A.deeper (PyProof.Rows.envOfC "_law_pen" (defScope (top 27)) s.heap.objs.size f cdv)).units + 65 < cLine := by have := hr.un; omega
  have hu64 : (A.deeper (PyProof.Rows.envOfC "_law_pen" (defScope (top 27)) s.heap.objs.size f cdv)).units + 64 < cLine := by have := hr.un; omega
  have hu1 : (A.deeper (PyProof.Rows.envOfC "_law_pen" (defScope (top 27)) s.heap.objs.size f cdv)).units + 1 < cLine := by have := hr.un; omega
  refine ⟨_, (pss_cons (ps_set (i := 1) nd rfl (Or.inl rfl) pe_int)
      (pss_cons (ps_for ownX rfl (pi_anyK (K := K) rfl (pv 0)) (pg_name (i := 2) nd rfl (Or.inl rfl)) (pss_one (ps_set (i := 1) nd rfl (Or.inl rfl) (pe_op op_mod (pe_callTy call_intX (by rfl) N_int b_int (pa_cons (pe_op (op_addK (K := K) rfl) (pe_op op_mulX (pv 1) pe_int) (pv 2)) pa_nil)) pe_int))))
      (pss_one (ps_ret (pe_disp (pps_cons pe_str (pe_callTy (call_listK (K := K) rfl) (by rfl) N_list b_list (pa_cons (pv 0) pa_nil)) (pps_cons pe_str pe_int (pps_cons pe_str pe_int (pps_cons pe_str pe_int (pps_cons pe_str (pv 1) pps_nil))))) rfl rfl (by intro h; cases h) (by decide)))))), ?_⟩
  rintro ds μ Qd Ed ⟨ns, rfl, hl, q⟩
  walk_at "walk"
  refine ss_via (fun ρ' μ' => ∃ (f : Int) (o : Option D), ρ' = [some (.scr ns), some (.int f), o] ∧ μ' = μ ∧ 0 ≤ f ∧ f < 1000000919) ?_ ?_
  · refine ss_for (js := [2]) (si_scr (se_var rfl ⟨ns, rfl, fun _ ρ' μ' => ∃ (f : Int) (o : Option D), ρ' = [some (.scr ns), some (.int f), o] ∧ μ' = μ ∧ 0 ≤ f ∧ f < 1000000919, ⟨97, none, rfl, rfl, by decide, by decide⟩, ?_, fun _ _ h => h⟩))
    rintro i d ρ' μ' hd ⟨f, o, rfl, rfl, b1, b2⟩
    rw [List.getElem?_map] at hd
    cases hc : ns[i]? with
    | none => rw [hc] at hd; cases hd
    | some cell =>
      rw [hc] at hd
      cases hd
      walk_at "walk"
      refine sr_mulI (.inr ⟨by decide, by decide⟩) ?_
      walk_at "walk"
      refine sr_I (C := fun _ j => 0 < j) (g := fun i j => i % j) (by decide) ?_
      exact ⟨_, _, rfl, rfl, Int.emod_nonneg _ (by decide), Int.emod_lt_of_pos _ (by decide)⟩
  rintro ρ' μ' ⟨f, o, rfl, rfl, b1, b2⟩
  refine ss_ret (se_dispM ?_)
  refine se_str ⟨.inr "cells", rfl, ?_⟩
  walk_at "walk"
  refine sc_listScr ?_
  refine se_str ⟨.inr "at", rfl, se_int ?_⟩
  refine se_str ⟨.inr "digits", rfl, se_int ?_⟩
  refine se_str ⟨.inr "count", rfl, se_int ?_⟩
  refine se_str ⟨.inr "fold", rfl, se_var rfl ?_⟩
  exact ⟨penK_nd, by decide, fun p => q p _ ⟨ns, 0, 0, 0, f, rfl, hl, by decide, by decide, by decide, b1, by omega⟩⟩
/-! ### _law_pick -/
def F_pick : FD := fun ds μ Q Ed => ∃ p d n xs, ds = [.ref p, .lst xs] ∧ μ = [(p, d)] ∧ PenOk n d ∧ n < BIG ∧ xs ≠ [] ∧ xs.length < 1000000 ∧ ∀ x d', x ∈ xs → PenOk (n + 1) d' → Q x [(p, d')]
theorem sc__law_pick : FnScope ["pen", "some"] ["pen", "some"] (defScope (top 29)) := ⟨rfl, rfl, rfl, by decide +kernel, rfl, by decide +kernel, by decide +kernel⟩
theorem ok_pick {f : Addr} {fd : FuncData} (FU : Fun K "_law_pick" "_law_pick" (top 29) f fd) (G : LGlob mg) (H__law_draw : Has P w K mg base 1 "_law_draw" ["pen", "many"] (spD K F_draw)) : FnOk P w K mg base (L2.CX P w) 2 f fd ["pen", "some"] (spD K F_pick) := by
  have N_len := G.len
  refine fn_D FU sc__law_pick (fun ds μ Q Ed ⟨p, d, n, xs, e, _⟩ => by rw [e]; rfl) fun cdv A outer s H E hr => ?_
  have nd := sc__law_pick.nd
  have hu65 : (A.deeper (PyProof.Rows.envOfC "_law_pick" (defScope (top 29)) s.heap.objs.size f cdv)).units + 65 < cLine := by have := hr.un; omega
  have hu64 : (A.deeper (PyProof.Rows.envOfC "_law_pick" (defScope (top 29)) s.heap.objs.size f cdv)).units + 64 < cLine := by have := hr.un; omega
  have hu1 : (A.deeper (PyProof.Rows.envOfC "_law_pick" (defScope (top 29)) s.heap.objs.size f cdv)).units + 1 < cLine := by have := hr.un; omega
  refine ⟨_, (pss_one (ps_ret (pe_ix (ix_K (K := K) rfl) (pv 1) (pe_has H__law_draw (hr.mono (by first | decide | omega)) rfl passX (pa_cons (pv 0) (pa_cons (pe_callB (call_lenK (K := K) rfl) (by rfl) N_len b_len (pa_cons (pv 1) pa_nil)) pa_nil))) (fun _ _ => rfl)))), ?_⟩
  rintro ds μ Qd Ed ⟨p, d, n, xs, rfl, rfl, hp, hn, hx, hl, q⟩
  walk_at "walk"
  refine se_call ?_
  walk_at "walk"
  have hpos : 0 < xs.length := List.length_pos_iff.mpr hx
  refine ⟨[(p, d)], [], rfl, p, d, n, _, rfl, rfl, hp, hn, by omega, by omega, fun r d' hr hp' => ?_⟩
  have hr2 : r < xs.length := by omega
  have hg : xs[r]? = some xs[r] := by simp [hr2]
  exact sr_ixL (atI_nat hg) (q _ _ (List.mem_of_getElem? hg) hp')
/-! ### _law_name -/
def letS : Str := "abcdefghijklmnopqrstuvwxyz"
def digS (k : Nat) : List Nat := (toString (k : Int) : Str).cps.toList
def F_name : FD := fun ds μ Q Ed => ∃ p d n, ∃ k : Nat, ds = [.ref p, .int k] ∧ μ = [(p, d)] ∧ PenOk n d ∧ n + 10 < BIG ∧ k < 1000000 ∧ ∀ a b d', a ≠ [] → a.length + b.length ≤ 8 → (∀ c ∈ a, isLetter c = true) → (∀ c ∈ b, isLetter c = true) → PenOk (n + 10) d' → Q (.str (TX (a ++ digS k ++ b))) [(p, d')]
theorem sc__law_name : FnScope ["pen", "index", "word", "spot", "place"] ["pen", "index"] (defScope (top 30)) := ⟨rfl, rfl, rfl, by decide +kernel, rfl, by decide +kernel, by decide +kernel⟩
theorem let_len : letS.length = 26 := by decide +kernel
theorem ok_name {f : Addr} {fd : FuncData} (FU : Fun K "_law_name" "_law_name" (top 30) f fd) (G : LGlob mg) (H__law_draw : Has P w K mg base 1 "_law_draw" ["pen", "many"] (spD K F_draw)) : FnOk P w K mg base (L2.CX P w) 2 f fd ["pen", "index"] (spD K F_name) := by
  have N_len := G.len
  have N_range := G.range
  have N_str := G.str
  refine fn_D FU sc__law_name (fun ds μ Q Ed ⟨p, d, n, k, e, _⟩ => by rw [e]; rfl) fun cdv A outer s H E hr => ?_
  have nd := sc__law_name.nd
  have hu65 : (A.deeper (PyProof.Rows.envOfC "_law_name" (defScope (top 30)) s.heap.objs.size f cdv)).units + 65 < cLine := by have := hr.un; omega
  have hu64 : (A.deeper (PyProof.Rows.envOfC "_law_name" (defScope (top 30)) s.heap.objs.size f cdv)).units + 64 < cLine := by have := hr.un; omega
  have hu1 : (A.deeper (PyProof.Rows.envOfC "_law_name" (defScope (top 30)) s.heap.objs.size f cdv)).units + 1 < cLine := by have := hr.un; omega
  refine ⟨_, (pss_cons (ps_set (i := 2) nd rfl (Or.inl rfl) pe_str)
      (pss_cons (ps_for ownX rfl (pi_range1 rfl N_range (pa_cons (pe_op (op_addK (K := K) rfl) pe_int (pe_has H__law_draw (hr.mono (by first | decide | omega)) rfl passX (pa_cons (pv 0) (pa_cons pe_int pa_nil)))) pa_nil)) (pg_name (i := 3) nd rfl (Or.inl rfl)) (pss_one (ps_set (i := 2) nd rfl (Or.inl rfl) (pe_op (op_addK (K := K) rfl) (pv 2) (pe_ix (ix_K (K := K) rfl) pe_str (pe_has H__law_draw (hr.mono (by first | decide | omega)) rfl passX (pa_cons (pv 0) (pa_cons pe_int pa_nil))) (fun _ _ => rfl))))))
      (pss_cons (ps_set (i := 4) nd rfl (Or.inl rfl) (pe_op (op_addK (K := K) rfl) pe_int (pe_has H__law_draw (hr.mono (by first | decide | omega)) rfl passX (pa_cons (pv 0) (pa_cons (pe_callB (call_lenK (K := K) rfl) (by rfl) N_len b_len (pa_cons (pv 2) pa_nil)) pa_nil)))))
      (pss_one (ps_ret (pe_op (op_addK (K := K) rfl) (pe_op (op_addK (K := K) rfl) (pe_slice (sl_K (K := K) rfl) (pv 2) po_none (po_some (pv 4))) (pe_callTy call_strX (by rfl) N_str b_str (pa_cons (pv 1) pa_nil))) (pe_slice (sl_K (K := K) rfl) (pv 2) (po_some (pv 4)) po_none))))))), ?_⟩
  rintro ds μ Qd Ed ⟨p, d, n, k, rfl, rfl, hp, hn, hk, q⟩
  have s16 := size16
  walk_at "walk"
  refine ss_via (fun ρ' μ' => ∃ (l : List Nat) (o : Option D) (d' : D), ρ' = [some (.ref p), some (.int k), some (.str (TX l)), o, none] ∧ μ' = [(p, d')] ∧ PenOk (n + 9) d' ∧ 1 ≤ l.length ∧ l.length ≤ 8 ∧ ∀ c ∈ l, isLetter c = true) ?_ ?_
  · refine ss_for (js := [3]) (si_rng1 ?_)
    walk_at "walk"
    refine se_call ?_
    walk_at "walk"
    refine ⟨[(p, d)], [], rfl, p, d, n, _, rfl, rfl, hp, by omega, by decide, by decide, fun r d1 hr hp1 => ?_⟩
    walk_at "walk"
    refine ⟨by omega, by omega, fun i ρ' μ' => ∃ (l : List Nat) (o : Option D) (d' : D), ρ' = [some (.ref p), some (.int k), some (.str (TX l)), o, none] ∧ μ' = [(p, d')] ∧ PenOk (n + 1 + i) d' ∧ l.length = i ∧ ∀ c ∈ l, isLetter c = true, ?_, ?_, ?_⟩
    · exact ⟨[], none, d1, by rw [← empty_TX]; rfl, rfl, hp1, rfl, fun _ h => nomatch h⟩
    · rintro i e ρ' μ' he ⟨l, o, d', rfl, rfl, hp', hl, hc⟩
      have hi : i < 1 + r := by
        have := (List.getElem?_eq_some_iff.mp he).1
        simp [rangeD] at this
        omega
      walk_at "walk"
      refine se_call ?_
      walk_at "walk"
      refine ⟨[(p, d')], [], rfl, p, d', n + 1 + i, _, rfl, rfl, hp', by omega, by decide, by decide, fun r2 d2 hr2 hp2 => ?_⟩
      have hr3 : r2 < letS.cps.toList.length := by have := let_len; simp [Str.length] at this; rw [Array.length_toList]; omega
      have hg : letS.cps.toList[r2]? = some letS.cps.toList[r2] := by simp [hr3]
      refine sr_ixS (c := letS.cps.toList[r2]) (by rw [show (("abcdefghijklmnopqrstuvwxyz" : Str)).length = 26 from let_len]; omega) (atI_nat hg) ?_
      refine sr_addS (by rw [len_TX]; show l.length + 1 ≤ _; omega) ?_
      walk_at "walk"
      refine ⟨l ++ [letS.cps.toList[r2]], some e, d2, ?_, rfl, hp2, by simp [hl], ?_⟩
      · rw [← TX_app]
        rfl
      · intro c hcm
        rcases List.mem_append.mp hcm with h | h
        · exact hc c h
        · have e2 : c = letS.cps.toList[r2] := by simpa using h
          rw [e2]
          exact decide_eq_true (List.getElem_mem hr3)
    · rintro ρ' μ' ⟨l, o, d', rfl, rfl, hp', hl, hc⟩
      have hl2 : l.length = 1 + r := by rw [hl]; simp [rangeD]; omega
      exact ⟨l, o, d', rfl, rfl, hp'.mono (by rw [← hl, hl2]; omega), by omega, by omega, hc⟩
  rintro ρ' μ' ⟨l, o, d', rfl, rfl, hp', hl1, hl2, hc⟩
  walk_at "walk"
  refine se_call ?_
  walk_at "walk"
  have hL : (TX l).length ≤ sizeLine := by rw [len_TX]; omega
  refine sc_lenS hL ?_
  walk_at "walk"
  rw [len_TX]
  refine ⟨[(p, d')], [], rfl, p, d', n + 9, _, rfl, rfl, hp', by omega, by omega, by omega, fun r d2 hr hp2 => ?_⟩
  walk_at "walk"
  have e1 : (1 : Int) + (r : Int) = ((1 + r : Nat) : Int) := by omega
  rw [e1]
  refine sl_S hL ?_
  walk_at "walk"
  have hlog : (k : Int).natAbs.log2 < 1920 := by
    rw [Int.natAbs_natCast]
    by_cases z : k = 0
    · subst z; decide
    · have h1 := Nat.log2_lt z (k := 20)
      have h2 : k.log2 < 20 := h1.mpr (by omega)
      omega
  refine sc_str hlog ?_
  have hr1 : 1 + r ≤ l.length := by omega
  have ec1 : cutS (TX l) none (some ((1 + r : Nat) : Int)) = TX (l.take (1 + r)) := by
    rw [cutS_TX, HT.sIx_none, HT.sIx_nat, Nat.min_eq_left hr1]
    rfl
  have ec2 : cutS (TX l) (some ((1 + r : Nat) : Int)) none = TX (l.drop (1 + r)) := by
    rw [cutS_TX, HT.sIx_none, HT.sIx_nat, Nat.min_eq_left hr1, List.take_of_length_le (by rw [List.length_drop]; exact Nat.le_refl _)]
  have ed : (toString (k : Int) : Str) = TX (digS k) := (TX_tl _).symm
  have ld : (digS k).length ≤ 100 := by
    have h := PySem.W.KT.len_num (n := (k : Int)) (by omega) (by omega)
    unfold digS
    have h2 : ((toString (k : Int) : Str)).cps.toList.length = ((toString (k : Int) : Str)).length := by simp [Str.length]
    rw [h2]
    omega
  rw [ec1, ed]
  refine sr_addS (by rw [len_TX, len_TX, List.length_take]; omega) ?_
  walk_at "walk"
  refine sl_S hL ?_
  rw [ec2, TX_app]
  refine sr_addS (by rw [len_TX, len_TX, List.length_append, List.length_take, List.length_drop]; omega) ?_
  rw [TX_app]
  refine q (l.take (1 + r)) (l.drop (1 + r)) d2 ?_ (by rw [List.length_take, List.length_drop]; omega) (fun c h => hc c (List.mem_of_mem_take h)) (fun c h => hc c (List.mem_of_mem_drop h)) (hp2.mono (by omega))
  intro z
  have := congrArg List.length z
  rw [List.length_take, List.length_nil] at this
  omega
end
end KT
set_option Elab.async false
set_option linter.all false
set_option maxRecDepth 100000
set_option maxHeartbeats 1000000
namespace KT
open PySem L2 DD
local macro_rules | `(tactic| walk_at "go") => `(tactic| first
  | with_reducible refine ss_seq ?_ | with_reducible refine ss_ret ?_ | with_reducible refine ss_if ?_ | with_reducible refine ss_set ?_ | with_reducible refine ss_drop ?_ | with_reducible refine ss_next ?_
  | with_reducible refine se_op ?_ | ((with_reducible refine' se_var ?h ?_); (case h => exact rfl)) | with_reducible refine se_int ?_ | with_reducible refine se_str ?_ | with_reducible refine se_bl ?_ | with_reducible refine se_non ?_ | with_reducible refine se_tup ?_ | with_reducible refine se_cb ?_ | with_reducible refine se_if ?_
  | with_reducible refine se_or ?_ | with_reducible refine se_and ?_ | with_reducible refine se_not ?_ | with_reducible refine se_sl ?_ | with_reducible refine so_none ?_ | with_reducible refine so_some ?_
  | with_reducible refine sa_cons ?_ | with_reducible refine sa_nil ?_ | with_reducible refine st_test ?_ | with_reducible refine st_B ?_ | with_reducible refine st_and ?_ | with_reducible refine st_or ?_ | with_reducible refine st_not ?_ | with_reducible refine st_yes ?_
  | with_reducible refine sg_name ?_ | with_reducible refine sg_tup rfl ?_ | with_reducible refine sgs_cons ?_ | with_reducible refine sgs_nil ?_
  | with_reducible refine sr_addI ?_ | with_reducible refine sr_sub ?_ | with_reducible refine sr_cmp ?_ | with_reducible refine sr_inS ?_ | with_reducible refine sr_ninS ?_
  | ((with_reducible refine' sr_eqS ?h ?_); (case h => exact rfl)) | ((with_reducible refine' sr_neS ?h ?_); (case h => exact rfl)) | ((with_reducible refine' sr_is ?h ?_); (case h => exact rfl)) | ((with_reducible refine' sr_isNot ?h ?_); (case h => exact rfl))
  | with_reducible refine sc_lenL ?_ | with_reducible refine sc_lenT ?_ | with_reducible refine sc_max2 ?_ | with_reducible refine sc_int ?_
  | with_reducible refine ⟨_, rfl, ?_⟩
  | with_reducible refine iteT ?_ | with_reducible refine iteF ?_ | with_reducible refine iteN1 ?_ | with_reducible refine iteN2 ?_)
local macro_rules | `(tactic| walk_at "walk") => `(tactic| repeat walk_at "go")
section
variable {P : Program} {w : World} {K : PySem.W.Frag} {mg : Str → Option Value} {base : Heap} {E : XK} {Ed : XD} {ρ : DD.Env} {μ : Store} {ta te : TE} {Q : D → Store → Prop} {PD : DE}
/-! ### _law_same, asked of the same data twice -/
def scalB : D → Bool
  | .non => true
  | .bl _ => true
  | .int _ => true
  | .str _ => true
  | _ => false
def okS : Nat → D → Prop
  | 0, d => scalB d = true
  | n + 1, d => scalB d = true ∨ ∃ es, d = .tup es ∧ es.length < 16000000 ∧ ∀ e ∈ es, okS n e
def F_same : Nat → FD
  | 0 => fun _ _ _ _ => False
  | n + 1 => fun ds μ Q Ed => ∃ d, ds = [d, d] ∧ okS n d ∧ Q (.bl true) μ
theorem zipD_self (es : List D) : zipD es es = es.map fun e => .tup [e, e] := by
  unfold zipD
  induction es with
  | nil => rfl
  | cons e es ih => rw [List.zip_cons_cons, List.map_cons, ih]; rfl
theorem scal_kind {d : D} (h : scalB d = true) : ∃ n, kindD d = some n ∧ kitB n "tuple" = some false := by
  cases d with
  | non => exact ⟨_, rfl, by decide +kernel⟩
  | bl b => exact ⟨_, rfl, by decide +kernel⟩
  | int b => exact ⟨_, rfl, by decide +kernel⟩
  | str b => exact ⟨_, rfl, by decide +kernel⟩
  | _ => cases h
theorem sc__law_same : FnScope ["told", "due", "one", "two"] ["told", "due"] (defScope (top 31)) := ⟨rfl, rfl, rfl, by decide +kernel, rfl, by decide +kernel, by decide +kernel⟩
theorem ok_same {f : Addr} {fd : FuncData} (FU : Fun K "_law_same" "_law_same" (top 31) f fd) (G : LGlob mg) (hm : mg "_law_same" = some (.ref f)) (hk : PySem.W.keepIn K (.ref f) = true) (hb : Binds K fd ["told", "due"] []) :
    ∀ n, FnOk P w K mg base (L2.CX P w) (n + 1) f fd ["told", "due"] (spD K (F_same n)) := by
  have N_isinstance := G.isinstance
  have N_tuple := G.tuple
  have N_len := G.len
  have N_all := G.all
  have N_zip := G.zip
  have N_int := G.int
  have N_bool := G.bool
  have N_str := G.str
  intro n
  induction n with
  | zero => exact ⟨fun vs H Q E ⟨_, _, _, _, _, _, _, h, _⟩ => h.elim, fun _ _ _ _ _ _ _ _ _ _ _ _ _ ⟨_, _, _, _, _, _, _, h, _⟩ => h.elim⟩
  | succ n ih =>
    have H__law_same : Has P w K mg base (n + 1) "_law_same" ["told", "due"] (spD K (F_same n)) := ⟨f, fd, ih, hm, hk, hb⟩
    refine fn_D FU sc__law_same (fun ds μ Q Ed ⟨d, e, _⟩ => by rw [e]; rfl) fun cdv A outer s H E hr => ?_
    have nd := sc__law_same.nd
    have hu65 : (A.deeper (PyProof.Rows.envOfC "_law_same" (defScope (top 31)) s.heap.objs.size f cdv)).units + 65 < cLine := by have := hr.un; omega
    have hu64 : (A.deeper (PyProof.Rows.envOfC "_law_same" (defScope (top 31)) s.heap.objs.size f cdv)).units + 64 < cLine := by have := hr.un; omega
    have hu1 : (A.deeper (PyProof.Rows.envOfC "_law_same" (defScope (top 31)) s.heap.objs.size f cdv)).units + 1 < cLine := by have := hr.un; omega
    refine ⟨_, (pss_cons (ps_if (pt_val (pe_callB (call_isiK' (K := K) rfl) (by rfl) N_isinstance b_isinstance (pa_cons (pv 1) (pa_cons (pe_bltn (v := .ty "tuple") rfl N_tuple b_tuple rfl) pa_nil)))) (pss_one (ps_ret (pe_and (pe_callB (call_isiK' (K := K) rfl) (by rfl) N_isinstance b_isinstance (pa_cons (pv 0) (pa_cons (pe_bltn (v := .ty "tuple") rfl N_tuple b_tuple rfl) pa_nil))) (pe_and (pe_cmpR (op_eqK (K := K) rfl hu64) (pe_callB (call_lenK (K := K) rfl) (by rfl) N_len b_len (pa_cons (pv 0) pa_nil)) (pe_callB (call_lenK (K := K) rfl) (by rfl) N_len b_len (pa_cons (pv 1) pa_nil)) (by rfl)) (pe_one (pe_callB (cr_allK (K := K) rfl rfl) (by rfl) N_all b_all (pa_cons (pe_lc (own := [("one", 2), ("two", 3)]) rfl nd (pi_zipK (K := K) rfl rfl N_zip (pa_cons (pv 0) (pa_cons (pv 1) pa_nil))) (blkOk_by (N := ["told", "due", "one", "two"]) (sc := defScope (top 31)) (by decide +kernel)) (fun _ _ _ _ _ => (pg_tupK (K := K) (n := 2) rfl rfl (pgs_cons (pg_name (i := 2) nd rfl (Or.inl rfl)) (pgs_cons (pg_name (i := 3) nd rfl (Or.inl rfl)) pgs_nil)))) (fun _ _ _ _ _ => pts_nil) (fun _ _ _ _ _ => (pe_has H__law_same (hr.mono (by first | decide | omega)) rfl passL (pa_cons (pv 2) (pa_cons (pv 3) pa_nil))))) pa_nil))))))) pss_nil)
      (pss_cons (ps_if (pt_cmpR op_isX (pv 1) pe_non (by rfl)) (pss_one (ps_ret (pe_cmpR op_isX (pv 0) pe_non (by rfl)))) pss_nil)
      (pss_cons (ps_if (pt_cmpR op_isX (pv 1) pe_bl (by rfl)) (pss_one (ps_ret (pe_cmpR op_isX (pv 0) pe_bl (by rfl)))) pss_nil)
      (pss_cons (ps_if (pt_cmpR op_isX (pv 1) pe_bl (by rfl)) (pss_one (ps_ret (pe_cmpR op_isX (pv 0) pe_bl (by rfl)))) pss_nil)
      (pss_cons (ps_if (pt_val (pe_callB (call_isiK' (K := K) rfl) (by rfl) N_isinstance b_isinstance (pa_cons (pv 1) (pa_cons (pe_bltn (v := .ty "int") rfl N_int b_int rfl) pa_nil)))) (pss_one (ps_ret (pe_and (pe_callB (call_isiK' (K := K) rfl) (by rfl) N_isinstance b_isinstance (pa_cons (pv 0) (pa_cons (pe_bltn (v := .ty "int") rfl N_int b_int rfl) pa_nil))) (pe_and (pe_not (pe_callB (call_isiK' (K := K) rfl) (by rfl) N_isinstance b_isinstance (pa_cons (pv 0) (pa_cons (pe_bltn (v := .ty "bool") rfl N_bool b_bool rfl) pa_nil)))) (pe_one (pe_cmpR (op_eqK (K := K) rfl hu64) (pv 0) (pv 1) (by rfl))))))) pss_nil)
      (pss_one (ps_ret (pe_and (pe_callB (call_isiK' (K := K) rfl) (by rfl) N_isinstance b_isinstance (pa_cons (pv 0) (pa_cons (pe_bltn (v := .ty "str") rfl N_str b_str rfl) pa_nil))) (pe_one (pe_cmpR (op_eqK (K := K) rfl hu64) (pv 0) (pv 1) (by rfl))))))))))), ?_⟩
    rintro ds μ Qd Ed ⟨d, rfl, ho, q⟩
    walk_at "walk"
    refine se_c rfl ?_
    walk_at "walk"
    by_cases hs : scalB d = true
    · obtain ⟨nm, hn1, hn2⟩ := scal_kind hs
      refine sc_isi hn1 hn2 ?_
      walk_at "walk"
      cases d with
      | non =>
        walk_at "walk"
        walk_at "walk"
        walk_at "walk"
        exact q
      | bl b =>
        walk_at "walk"
        walk_at "walk"
        walk_at "walk"
        walk_at "walk"
        cases b with
        | true =>
          rw [decide_eq_true rfl]
          walk_at "walk"
          walk_at "walk"
          exact q
        | false =>
          rw [decide_eq_false (by decide)]
          walk_at "walk"
          rw [decide_eq_true rfl]
          walk_at "walk"
          exact q
      | int i =>
        walk_at "walk"
        walk_at "walk"
        walk_at "walk"
        walk_at "walk"
        walk_at "walk"
        walk_at "walk"
        refine se_c rfl ?_
        walk_at "walk"
        refine sc_isi (n := "int") (b := true) rfl (by decide +kernel) ?_
        walk_at "walk"
        refine se_c rfl ?_
        walk_at "walk"
        refine sc_isi (n := "int") (b := true) rfl (by decide +kernel) ?_
        walk_at "walk"
        refine se_c rfl ?_
        walk_at "walk"
        refine sc_isi (n := "int") (b := false) rfl (by decide +kernel) ?_
        walk_at "walk"
        rw [decide_eq_true rfl]
        exact q
      | str z =>
        walk_at "walk"
        walk_at "walk"
        walk_at "walk"
        walk_at "walk"
        walk_at "walk"
        walk_at "walk"
        refine se_c rfl ?_
        walk_at "walk"
        refine sc_isi (n := "str") (b := false) rfl (by decide +kernel) ?_
        walk_at "walk"
        refine se_c rfl ?_
        walk_at "walk"
        refine sc_isi (n := "str") (b := true) rfl (by decide +kernel) ?_
        walk_at "walk"
        rw [decide_eq_true rfl]
        exact q
      | _ => cases hs
    · have h2 : ∃ m es, n = m + 1 ∧ d = .tup es ∧ es.length < 16000000 ∧ ∀ e ∈ es, okS m e := by
        cases n with
        | zero => exact absurd ho hs
        | succ m =>
          rcases ho with h | ⟨es, h1, h2, h3⟩
          · exact absurd h hs
          · exact ⟨m, es, rfl, h1, h2, h3⟩
      obtain ⟨m, es, rfl, rfl, hl, hes⟩ := h2
      have s16 := size16
      refine sc_isi (n := "tuple") (b := true) rfl (by decide +kernel) ?_
      walk_at "walk"
      refine se_c rfl ?_
      walk_at "walk"
      refine sc_isi (n := "tuple") (b := true) rfl (by decide +kernel) ?_
      walk_at "walk"
      rw [decide_eq_true rfl]
      walk_at "walk"
      refine se_lcM (xs := es) (gd := fun e => .tup [e, e]) (f := fun _ => .bl true) (js := [2] ++ ([3] ++ [])) (by decide) (si_zip ?_)
      walk_at "walk"
      refine ⟨es, es, .inr rfl, ⟨_, rfl⟩, zipD_self es, by omega, fun e he => ?_, ?_⟩
      · walk_at "walk"
        refine ⟨rfl, se_call ?_⟩
        walk_at "walk"
        exact ⟨[], _, rfl, e, rfl, hes e he, rfl, rfl⟩
      · refine sa_nil (sc_allM ?_)
        have e1 : es.all (fun _ => true) = true := List.all_eq_true.mpr fun _ _ => rfl
        rw [e1]
        exact q
/-! ### small ones -/
def F_keys : FD := fun ds μ Q Ed => ds = [] ∧ Q (.lst (keysS.map .str)) μ
theorem sc__law_keys : FnScope [] [] (defScope (top 33)) := ⟨rfl, rfl, rfl, by decide +kernel, rfl, by decide +kernel, by decide +kernel⟩
theorem ok_keys {f : Addr} {fd : FuncData} (FU : Fun K "_law_keys" "_law_keys" (top 33) f fd) : FnOk P w K mg base (L2.CX P w) 1 f fd [] (spD K F_keys) := by
  refine fn_D FU sc__law_keys (fun ds μ Q Ed ⟨e, _⟩ => by rw [e]; rfl) fun cdv A outer s H E hr => ?_
  refine ⟨_, (pss_one (ps_ret (pe_lst (pa_cons pe_str (pa_cons pe_str (pa_cons pe_str (pa_cons pe_str (pa_cons pe_str (pa_cons pe_str (pa_cons pe_str (pa_cons pe_str (pa_cons pe_str pa_nil)))))))))))), ?_⟩
  rintro ds μ Qd Ed ⟨rfl, q⟩
  refine ss_ret (se_lst ?_)
  walk_at "walk"
  exact ⟨by show 9 ≤ sizeLine; decide, q⟩
def F_is_sign : FD := fun ds μ Q Ed => ∃ z, ds = [.str z] ∧ Q (.bl (decide (z ∈ signsS))) μ
theorem sc__law_is_sign : FnScope ["word"] ["word"] (defScope (top 34)) := ⟨rfl, rfl, rfl, by decide +kernel, rfl, by decide +kernel, by decide +kernel⟩
theorem ok_is_sign {f : Addr} {fd : FuncData} (FU : Fun K "_law_is_sign" "_law_is_sign" (top 34) f fd) : FnOk P w K mg base (L2.CX P w) 1 f fd ["word"] (spD K F_is_sign) := by
  refine fn_D FU sc__law_is_sign (fun ds μ Q Ed ⟨z, e, _⟩ => by rw [e]; rfl) fun cdv A outer s H E hr => ?_
  have nd := sc__law_is_sign.nd
  have hu65 : (A.deeper (PyProof.Rows.envOfC "_law_is_sign" (defScope (top 34)) s.heap.objs.size f cdv)).units + 65 < cLine := by have := hr.un; omega
  have hu64 : (A.deeper (PyProof.Rows.envOfC "_law_is_sign" (defScope (top 34)) s.heap.objs.size f cdv)).units + 64 < cLine := by have := hr.un; omega
  have hu1 : (A.deeper (PyProof.Rows.envOfC "_law_is_sign" (defScope (top 34)) s.heap.objs.size f cdv)).units + 1 < cLine := by have := hr.un; omega
  refine ⟨_, (pss_one (ps_ret (pe_cmpR (op_inK (K := K) rfl hu65) (pv 0) (pe_lst (pa_cons pe_str (pa_cons pe_str (pa_cons pe_str (pa_cons pe_str (pa_cons pe_str pa_nil)))))) (by rfl)))), ?_⟩
  rintro ds μ Qd Ed ⟨z, rfl, q⟩
  walk_at "walk"
  refine se_lst ?_
  walk_at "walk"
  refine ⟨by show 5 ≤ sizeLine; decide, ?_⟩
  exact sr_inL (ys := signsS) (.inl rfl) q
/-! ### _law_behind_text -/
def behind (p : Int × Int) (l : List Nat) : Int × Int := l.foldl (fun p c => if c = 10 then (p.1 + 1, 1) else (p.1, p.2 + 1)) p
def placeD (p : Int × Int) : D := .tup [.int p.1, .int p.2]
def F_behind : FD := fun ds μ Q Ed => ∃ p l, ds = [placeD p, .str (TX l)] ∧ Q (placeD (behind p l)) μ
theorem sc__law_behind_text : FnScope ["place", "text", "line", "column", "sign"] ["place", "text"] (defScope (top 35)) := ⟨rfl, rfl, rfl, by decide +kernel, rfl, by decide +kernel, by decide +kernel⟩
theorem ok_behind {f : Addr} {fd : FuncData} (FU : Fun K "_law_behind_text" "_law_behind_text" (top 35) f fd) : FnOk P w K mg base (L2.CX P w) 1 f fd ["place", "text"] (spD K F_behind) := by
  refine fn_D FU sc__law_behind_text (fun ds μ Q Ed ⟨p, l, e, _⟩ => by rw [e]; rfl) fun cdv A outer s H E hr => ?_
  have nd := sc__law_behind_text.nd
  have hu65 : (A.deeper (PyProof.Rows.envOfC "_law_behind_text" (defScope (top 35)) s.heap.objs.size f cdv)).units + 65 < cLine := by have := hr.un; omega
  have hu64 : (A.deeper (PyProof.Rows.envOfC "_law_behind_text" (defScope (top 35)) s.heap.objs.size f cdv)).units + 64 < cLine := by have := hr.un; omega
  have hu1 : (A.deeper (PyProof.Rows.envOfC "_law_behind_text" (defScope (top 35)) s.heap.objs.size f cdv)).units + 1 < cLine := by have := hr.un; omega
  refine ⟨_, (pss_cons (ps_asg (pv 0) (pg_tupK (K := K) (n := 2) rfl rfl (pgs_cons (pg_name (i := 2) nd rfl (Or.inl rfl)) (pgs_cons (pg_name (i := 3) nd rfl (Or.inl rfl)) pgs_nil))))
      (pss_cons (ps_for ownX rfl (pi_anyK (K := K) rfl (pv 1)) (pg_name (i := 4) nd rfl (Or.inl rfl)) (pss_one (ps_asg (pe_ifExp (pt_cmpR (op_eqK (K := K) rfl hu64) (pv 4) pe_str (by rfl)) (pe_tup (pa_cons (pe_op (op_addK (K := K) rfl) (pv 2) pe_int) (pa_cons pe_int pa_nil))) (pe_tup (pa_cons (pv 2) (pa_cons (pe_op (op_addK (K := K) rfl) (pv 3) pe_int) pa_nil)))) (pg_tupK (K := K) (n := 2) rfl rfl (pgs_cons (pg_name (i := 2) nd rfl (Or.inl rfl)) (pgs_cons (pg_name (i := 3) nd rfl (Or.inl rfl)) pgs_nil))))))
      (pss_one (ps_ret (pe_tup (pa_cons (pv 2) (pa_cons (pv 3) pa_nil))))))), ?_⟩
  rintro ds μ Qd Ed ⟨p, l, rfl, q⟩
  refine ss_seq (ss_asg (js := [2] ++ ([3] ++ [])) (se_var rfl ?_))
  unfold placeD
  walk_at "walk"
  refine ss_via (fun ρ' μ' => ∃ (o : Option D), ρ' = [some (placeD p), some (.str (TX l)), some (.int (behind p l).1), some (.int (behind p l).2), o] ∧ μ' = μ) ?_ ?_
  · refine ss_for (js := [4]) (si_any (se_var rfl (.inr (.inr ⟨_, rfl, ?_⟩))))
    refine ⟨fun i ρ' μ' => ∃ (o : Option D), ρ' = [some (placeD p), some (.str (TX l)), some (.int (behind p (l.take i)).1), some (.int (behind p (l.take i)).2), o] ∧ μ' = μ, ⟨none, rfl, rfl⟩, ?_, ?_⟩
    · rintro i d ρ' μ' hd ⟨o, rfl, rfl⟩
      unfold signsD at hd
      rw [tl_TX, List.getElem?_map] at hd
      cases hc : l[i]? with
      | none => rw [hc] at hd; cases hd
      | some ch =>
        rw [hc] at hd
        cases hd
        have e1 : behind p (l.take (i + 1)) = if ch = 10 then ((behind p (l.take i)).1 + 1, 1) else ((behind p (l.take i)).1, (behind p (l.take i)).2 + 1) := by
          rw [List.take_add_one, hc]
          show behind p (l.take i ++ [ch]) = _
          unfold behind
          rw [List.foldl_append]
          rfl
        walk_at "walk"
        refine ss_asg (js := [2] ++ ([3] ++ [])) ?_
        walk_at "walk"
        rw [lf_one, one_eq]
        by_cases hh : ch = 10
        · rw [decide_eq_true hh]
          walk_at "walk"
          refine ⟨by show 2 ≤ sizeLine; decide, ?_⟩
          walk_at "walk"
          rw [if_pos hh] at e1
          exact ⟨_, by rw [e1]; rfl, rfl⟩
        · rw [decide_eq_false hh]
          walk_at "walk"
          refine ⟨by show 2 ≤ sizeLine; decide, ?_⟩
          walk_at "walk"
          rw [if_neg hh] at e1
          exact ⟨_, by rw [e1]; rfl, rfl⟩
    · rintro ρ' μ' ⟨o, rfl, rfl⟩
      have e1 : l.take (signsD (TX l)).length = l := by
        unfold signsD
        rw [tl_TX, List.length_map, List.take_length]
      rw [e1]
      exact ⟨o, rfl, rfl⟩
  rintro ρ' μ' ⟨o, rfl, rfl⟩
  walk_at "walk"
  exact ⟨by show 2 ≤ sizeLine; decide, q⟩
end
end KT
set_option Elab.async false
set_option linter.all false
set_option maxRecDepth 100000
set_option maxHeartbeats 1000000
namespace KT
open PySem L2 DD LamX
local macro_rules | `(tactic| walk_at "go") => `(tactic| first
  | with_reducible refine ss_seq ?_ | with_reducible refine ss_ret ?_ | with_reducible refine ss_if ?_ | with_reducible refine ss_set ?_ | with_reducible refine ss_drop ?_ | with_reducible refine ss_next ?_
  | with_reducible refine se_op ?_ | ((with_reducible refine' se_var ?h ?_); (case h => exact rfl)) | with_reducible refine se_int ?_ | with_reducible refine se_str ?_ | with_reducible refine se_bl ?_ | with_reducible refine se_non ?_ | with_reducible refine se_tup ?_ | with_reducible refine se_cb ?_ | with_reducible refine se_if ?_
  | with_reducible refine se_or ?_ | with_reducible refine se_and ?_ | with_reducible refine se_not ?_ | with_reducible refine se_sl ?_ | with_reducible refine so_none ?_ | with_reducible refine so_some ?_
  | with_reducible refine sa_cons ?_ | with_reducible refine sa_nil ?_ | with_reducible refine st_test ?_ | with_reducible refine st_B ?_ | with_reducible refine st_and ?_ | with_reducible refine st_or ?_ | with_reducible refine st_not ?_ | with_reducible refine st_yes ?_
  | with_reducible refine sg_name ?_ | with_reducible refine sg_tup rfl ?_ | with_reducible refine sgs_cons ?_ | with_reducible refine sgs_nil ?_
  | with_reducible refine sr_addI ?_ | with_reducible refine sr_sub ?_ | with_reducible refine sr_cmp ?_ | with_reducible refine sr_inS ?_ | with_reducible refine sr_ninS ?_
  | ((with_reducible refine' sr_eqS ?h ?_); (case h => exact rfl)) | ((with_reducible refine' sr_neS ?h ?_); (case h => exact rfl)) | ((with_reducible refine' sr_is ?h ?_); (case h => exact rfl)) | ((with_reducible refine' sr_isNot ?h ?_); (case h => exact rfl))
  | with_reducible refine sc_lenL ?_ | with_reducible refine sc_lenT ?_ | with_reducible refine sc_max2 ?_ | with_reducible refine sc_int ?_
  | with_reducible refine ⟨_, rfl, ?_⟩
  | with_reducible refine iteT ?_ | with_reducible refine iteF ?_ | with_reducible refine iteN1 ?_ | with_reducible refine iteN2 ?_)
local macro_rules | `(tactic| walk_at "walk") => `(tactic| repeat walk_at "go")
/-! ### _law_why(lambda: ..): None, or what was read -/
/-- the classes that its clauses name, as the written part has them; M is Misread -/
structure WhyT (K : PySem.W.Frag) (mg : Str → Option Value) (M : Addr) : Prop where
  c1 : ∃ c, mg "BadText" = some (.ref c) ∧ PySem.W.exmOne K (.ref M) (.ref c) = some false
  c2 : ∃ c, mg "BadName" = some (.ref c) ∧ PySem.W.exmOne K (.ref M) (.ref c) = some false
  c3 : ∃ c, mg "BadNumber" = some (.ref c) ∧ PySem.W.exmOne K (.ref M) (.ref c) = some false
  c4 : ∃ c, mg "BadRow" = some (.ref c) ∧ PySem.W.exmOne K (.ref M) (.ref c) = some false
  c5 : mg "Misread" = some (.ref M) ∧ PySem.W.exmOne K (.ref M) (.ref M) = some true
  c6 : ∃ c, mg "Misplaced" = some (.ref c)
  c7 : ∃ c, mg "NoName" = some (.ref c)
  c8 : ∃ c, mg "TakenName" = some (.ref c)
  c9 : ∃ c, mg "Unlike" = some (.ref c)
  c10 : ∃ c, mg "NotThere" = some (.ref c)
  c11 : ∃ c, mg "TooMany" = some (.ref c)
  xf : XfC K M
  nl : PySem.W.findIn K (.ref M) "line" = some none
  nc : PySem.W.findIn K (.ref M) "column" = some none
/-- what _law_why makes of an exception -/
def eWhy (M : Addr) (Q : VK) : XK := fun k d H => k = .ref M ∧ ∃ (dd : Addr) (fs : List (Str × V)) (l c : V), d = some dd ∧ H dd = some (.xd fs) ∧ fs.lookup ("line" : Str) = some l ∧ fs.lookup ("column" : Str) = some c ∧ ∀ p, H p = none → Q (.ref p) (upd H p (.tup [.str "read", l, c]))
def TTwhy (M : Addr) : (XK → Hp → VK → Prop) → Hp → VK → Prop := fun tl H Q => tl (eWhy M Q) H fun _ H' => Q .non H'
theorem takes_len {X : Cx} {W : WX} {n : Nat} (hn : X.N.length = n) (t : Takes X W) : Takes X (fun k d σ H => σ.length = n → W k d σ H) := by
  intro u s' x
  obtain ⟨a, B, sI, pins, σ, H, k, d, e, I, nb, up, sky, na, os, ag, w⟩ := x
  exact t u s' ⟨a, B, sI, pins, σ, H, k, d, e, I, nb, up, sky, na, os, ag, w (I.len.trans hn)⟩
theorem sc__law_why : FnScope ["call", "found", "error"] ["call"] (defScope (top 32)) := ⟨rfl, rfl, rfl, by decide +kernel, rfl, by decide +kernel, by decide +kernel⟩
theorem why_gives {X : Cx} {g M : Addr} {cdg : Value} {q : Str} (T : WhyT X.K X.mg M) : GivesTo X ["call", "found", "error"] "_law_why" (defScope (top 32)) g cdg (defBody (top 32)) "call" q (TTwhy M) := by
  intro f c' s H Q tl act hc h
  obtain ⟨c1, m1, e1⟩ := T.c1
  obtain ⟨c2, m2, e2⟩ := T.c2
  obtain ⟨c3, m3, e3⟩ := T.c3
  obtain ⟨c4, m4, e4⟩ := T.c4
  obtain ⟨m5, e5⟩ := T.c5
  obtain ⟨c6, m6⟩ := T.c6
  obtain ⟨c7, m7⟩ := T.c7
  obtain ⟨c8, m8⟩ := T.c8
  obtain ⟨c9, m9⟩ := T.c9
  obtain ⟨c10, m10⟩ := T.c10
  obtain ⟨c11, m11⟩ := T.c11
  have nd := sc__law_why.nd
  refine ⟨_, pss_cons (ps_set (i := 1) nd rfl (Or.inl rfl) pe_non) (pss_cons (ps_tryAs (i := 2) (n := "error") rfl rfl nd rfl rfl LamX.takes0
      (tb := fun W D σ H => ∃ Ech : XK, (∀ k d σ' H', σ'.length = 3 → Ech k d H' → W k d σ' H') ∧ σ[0]? = some (some (.ref f)) ∧ H c' = some (CodeO c' q) ∧ tl Ech H fun _ H' => D.nx σ H') (fun W pn xe tk _ => ?_)
      (.more ⟨rfl, by decide, .inl m1⟩ (fun e oe k d pn hz hf => pss_never) (.more ⟨rfl, by decide, .inl m2⟩ (fun e oe k d pn hz hf => pss_never) (.more ⟨rfl, by decide, .inl m3⟩ (fun e oe k d pn hz hf => pss_never) (.more ⟨rfl, by decide, .inl m4⟩ (fun e oe k d pn hz hf => pss_never)
      (.more ⟨rfl, by decide, .inl m5⟩ (fun e oe k d pn hz hf => pss_one (ps_set (i := 1) nd rfl (Or.inl rfl) (pe_tup (pa_cons pe_str (pa_cons (pe_xf T.xf T.nl hz hf (pv 2)) (pa_cons (pe_xf T.xf T.nc hz hf (pv 2)) pa_nil))))))
      (.more ⟨rfl, by decide, .inl m6⟩ (fun e oe k d pn hz hf => pss_never) (.more ⟨rfl, by decide, .inl m7⟩ (fun e oe k d pn hz hf => pss_never) (.more ⟨rfl, by decide, .inl m8⟩ (fun e oe k d pn hz hf => pss_never) (.more ⟨rfl, by decide, .inl m9⟩ (fun e oe k d pn hz hf => pss_never)
      (.more ⟨rfl, by decide, .inl m10⟩ (fun e oe k d pn hz hf => pss_never) (.more ⟨rfl, by decide, .inl m11⟩ (fun e oe k d pn hz hf => pss_never) .none))))))))))))
    (pss_one (ps_ret (pv 1)))), ?_⟩
  · refine ⟨fun pins s' σ H D I h' => ?_⟩
    obtain ⟨Ech, hW, h1, h2, h3⟩ := h'
    exact (pss_one (ps_expr (act _ pn xe Ech _ _ (takes_len (n := 3) rfl tk) (fun k d σ' H' e hl => hW k d σ' H' hl e)))).run pins s' σ H D I ⟨h1, h2, h3⟩
  · refine ⟨eWhy M Q, ?_, rfl, hc, ?_⟩
    · rintro k d σ' H' hl ⟨rfl, dd, fs, l, c, rfl, hdd, hl1, hl2, hk⟩
      refine wTry_no e1 (wTry_no e2 (wTry_no e3 (wTry_no e4 (wTry_yes e5 fun e he => ?_))))
      have g2 : (σ'.set 2 (some (V.ref e)))[2]? = some (some (.ref e)) := by
        rw [List.getElem?_set_self (by omega)]
      refine ⟨_, g2, rfl, rfl, dd, fs, l, rfl, hdd, hl1, _, g2, rfl, rfl, dd, fs, c, rfl, hdd, hl2, by show 3 ≤ sizeLine; decide, fun p hp => ?_⟩
      refine ⟨_, ?_, hk p hp⟩
      show (((σ'.set 2 (some (V.ref e))).set 1 (some (V.ref p))).set 2 none)[1]? = _
      rw [List.getElem?_set_ne (by decide), List.getElem?_set_self (by rw [List.length_set]; omega)]
    · have e : (fun (_ : V) (H' : Hp) => (∃ v, (([some (V.ref f), some V.non, none] : L2.St))[1]? = some (some v) ∧ Q v H')) = fun _ H' => Q .non H' := by
        funext _ H'
        refine propext ⟨?_, fun q => ⟨_, rfl, q⟩⟩
        rintro ⟨v, hv, q⟩
        cases hv
        exact q
      have h : tl (eWhy M Q) H fun _ H' => Q .non H' := h
      rw [← e] at h
      exact h
theorem nd_eq {a : Addr} {d e : D} : ∀ {μ : Store}, (dom μ).Nodup → (a, d) ∈ μ → (a, e) ∈ μ → d = e
  | [], _, h, _ => by cases h
  | p :: μ, nd, h1, h2 => by
    obtain ⟨n1, n2⟩ := List.nodup_cons.mp nd
    rcases List.mem_cons.mp h1 with z1 | z1
    · rcases List.mem_cons.mp h2 with z2 | z2
      · rw [← z1] at z2
        exact (congrArg Prod.snd z2).symm
      · exact absurd (List.mem_map.mpr ⟨_, z2, by rw [← z1]⟩) n1
    · rcases List.mem_cons.mp h2 with z2 | z2
      · exact absurd (List.mem_map.mpr ⟨_, z1, by rw [← z2]⟩) n1
      · exact nd_eq n2 z1 z2
section
variable {K : PySem.W.Frag} {E : XK} {Ed : XD} {ρ : DD.Env} {μ : Store} {Q : D → Store → Prop}
theorem se_why {Pt M : Addr} {q : Str} {t : XK → TE} (hm : (Pt, D.str q) ∈ μ)
    (h : ∀ E', SE K E' (fun C fs ds μ' => C = M ∧ ∃ l c, fs = (["column", "line"] : List Str) ∧ ds = [c, l] ∧ Q (.tup [.str "read", l, c]) μ') (t E') ρ μ fun _ μ' => Q .non μ') : SE K E Ed (tLam1 Pt q (TTwhy M) t) ρ μ Q := by
  intro w σ e ok lo x k hk
  obtain ⟨hs, ps, tab, trip, told⟩ := ok.own _ (e ▸ hm)
  have hs : w.S Pt = none := hs
  have hPm : Pt ∈ dom w.μ := List.mem_map.mpr ⟨_, e ▸ hm, rfl⟩
  refine ⟨ps, tab, trip, fun p cv hc => ?_, fun H1 k1 om hk1 => ?_⟩
  · obtain ⟨k1, h1, h2⟩ := told p cv hc
    exact ⟨k1, h1, ok.sub _ _ h2⟩
  have next : ∃ w1 : Wd, w1.H = H1 ∧ w1.μ = w.μ ∧ w1.Ok K ∧ w.le w1 := by
    rcases om with rfl | ⟨more, free, rfl, trip2, among⟩
    · exact ⟨w, rfl, rfl, ok, Wd.le.refl w⟩
    · obtain ⟨fs, fm⟩ := ok.fresh free
      have nPk : Pt ≠ k1 := fun z => fm (z ▸ hPm)
      have ex1 : Ex w.S (upd w.S k1 (CodeO k1 q)) := Ex.new fs
      have stays : ∀ b o, b ≠ Pt → w.H b = some o → (upd (upd w.H Pt (.tbl (ps ++ more))) k1 (CodeO k1 q)) b = some o := fun b o nb hb => by
        rw [upd_ne (ne_of_none hb free), upd_ne nb]
        exact hb
      refine ⟨⟨upd w.S k1 (CodeO k1 q), upd (upd w.H Pt (.tbl (ps ++ more))) k1 (CodeO k1 q), w.μ⟩, rfl, rfl, ⟨fun b o hb => ?_, fun y hy => ?_, ok.nd⟩, ⟨ex1, fun b o hb hb2 hb3 => ⟨?_, ?_⟩, fun b hb => .inl hb⟩⟩
      · have hb : upd w.S k1 (CodeO k1 q) b = some o := hb
        show upd (upd w.H Pt (.tbl (ps ++ more))) k1 (CodeO k1 q) b = some o
        by_cases z : b = k1
        · subst z
          rw [upd_same] at hb ⊢
          exact hb
        · rw [upd_ne z] at hb
          exact stays b o (ne_of_none hb hs) (ok.sub _ _ hb)
      · have hy : y ∈ w.μ := hy
        obtain ⟨y1, y2⟩ := ok.own y hy
        have nk : y.1 ≠ k1 := fun z => fm (z ▸ List.mem_map.mpr ⟨y, hy, rfl⟩)
        refine ⟨by show upd w.S k1 (CodeO k1 q) y.1 = none; rw [upd_ne nk]; exact y1, ?_⟩
        by_cases z : y.1 = Pt
        · have ey : y = (Pt, D.str q) := by
            obtain ⟨ya, yd⟩ := y
            cases (show ya = Pt from z)
            rw [nd_eq ok.nd hy (e ▸ hm)]
          subst ey
          refine ⟨ps ++ more, ?_, trip2, fun p cv hc => ?_⟩
          · show upd (upd w.H Pt (.tbl (ps ++ more))) k1 (CodeO k1 q) Pt = _
            rw [upd_ne nPk, upd_same]
          · rcases among p cv hc with hh | hh
            · obtain ⟨k2, g1, g2⟩ := told p cv hh
              exact ⟨k2, g1, ex1 _ _ g2⟩
            · exact ⟨k1, hh, upd_same⟩
        · exact y2.mono ex1 fun o ho => stays _ _ z ho
      · exact stays b o (fun z => hb3 (z ▸ hPm)) hb
      · show upd w.S k1 (CodeO k1 q) b = none
        rw [upd_ne (ne_of_none hb free)]
        exact hb2
  obtain ⟨w1, rfl, em, ok1, l1⟩ := next
  refine h _ w1 σ (em.trans e) ok1 (lo.mono l1.ex) ?_ _ fun v d w2 q2 i2 ok2 l2 => hk .non .non w2 q2 .non ok2 (l1.trans ok ok1 l2)
  rintro C fs vs ds w2 dd ⟨rfl, l, c, rfl, rfl, q2⟩ hdd hlen ia ok2 l2
  cases ia with
  | @cons vc _ _ _ ic ia =>
  cases ia with
  | @cons vl _ _ _ il ia =>
  cases ia
  refine ⟨rfl, dd, _, vl, vc, rfl, hdd, ?_, ?_, fun p hp => ?_⟩
  · exact look_zip (f := ("line" : Str)) (j := 1) (by decide +kernel) rfl rfl
  · exact look_zip (f := ("column" : Str)) (j := 0) (by decide +kernel) rfl rfl
  · have le := Wd.le_lay ok2 hp (.tup [.str "read", vl, vc])
    exact hk _ _ (w2.lay p (.tup [.str "read", vl, vc])) q2 (.tup (SqT.of upd_same) (.cons (.str _) (.cons (il.mono le.ex) (.cons (ic.mono le.ex) .nil)))) (ok2.lay hp _) (l1.trans ok ok1 (l2.trans ok1 ok2 le))
end
end KT
set_option Elab.async false
set_option linter.all false
set_option maxRecDepth 100000
set_option maxHeartbeats 1000000
namespace KT
open PySem L2 DD
/-! ### what stands in a text, and what may stand behind it -/
def lastLine (L : List Nat) : List Nat := L.reverse.takeWhile fun c => !decide (c = 10)
/-- v may follow L: an open remark is ended, a run is not gone on with -/
def Fit (L v : List Nat) : Prop := ∀ c, v.head? = some c → (35 ∈ lastLine L → c = 10) ∧ (35 ∉ lastLine L → ∀ x, L.getLast? = some x → runSign x = true → runSign c = false)
def Lex (L : List Nat) (p : Int × Int) (rs : List D) : Prop := ∀ v r, Fit L v → Scan v (behind p L).1 (behind p L).2 r → Scan (L ++ v) p.1 p.2 (ahead rs r)
theorem behind_app (p : Int × Int) (a b : List Nat) : behind p (a ++ b) = behind (behind p a) b := by unfold behind; rw [List.foldl_append]
theorem behind_plain : ∀ (l : List Nat) (p : Int × Int), 10 ∉ l → behind p l = (p.1, p.2 + l.length)
  | [], p, _ => by simp [behind]
  | c :: t, p, h => by
    have h1 : c ≠ 10 := fun z => h (by rw [z]; exact List.mem_cons_self)
    have ih := behind_plain t (p.1, p.2 + 1) (fun z => h (List.mem_cons_of_mem _ z))
    show behind (if c = 10 then (p.1 + 1, 1) else (p.1, p.2 + 1)) t = _
    rw [if_neg h1, ih, List.length_cons]
    simp
    omega
theorem tw_all {α : Type} {p : α → Bool} : ∀ {l : List α}, (∀ c ∈ l, p c = true) → l.takeWhile p = l
  | [], _ => rfl
  | c :: t, h => by rw [List.takeWhile_cons_of_pos (h c List.mem_cons_self), tw_all fun x hx => h x (List.mem_cons_of_mem _ hx)]
theorem ahead_nil (r : Except (Int × Int) (List D)) : ahead [] r = r := by cases r <;> rfl
theorem ahead_app (a b : List D) (r : Except (Int × Int) (List D)) : ahead a (ahead b r) = ahead (a ++ b) r := by cases r <;> simp [ahead]
theorem lastLine_app (a b : List Nat) : lastLine (a ++ b) = if 10 ∈ b then lastLine b else lastLine b ++ lastLine a := by
  unfold lastLine
  rw [List.reverse_append, List.takeWhile_append]
  by_cases h : 10 ∈ b
  · rw [if_pos h, if_neg]
    intro z
    have h2 : ∀ c ∈ b.reverse, (!decide (c = 10)) = true := by
      have e : b.reverse.takeWhile (fun c => !decide (c = 10)) = b.reverse := by
        have := List.takeWhile_sublist (l := b.reverse) (fun c => !decide (c = 10))
        exact this.eq_of_length z
      intro c hc
      rw [← e] at hc
      exact (List.all_eq_true.mp (List.all_takeWhile (l := b.reverse) (p := fun c => !decide (c = 10)))) c hc
    have := h2 10 (List.mem_reverse.mpr h)
    simp at this
  · have e : b.reverse.takeWhile (fun c => !decide (c = 10)) = b.reverse := by
      apply tw_all
      intro c hc
      have : c ≠ 10 := fun z => h (z ▸ List.mem_reverse.mp hc)
      simpa using this
    rw [if_neg h, if_pos (by rw [e]), e]
theorem Lex.nil (p : Int × Int) : Lex [] p [] := fun v r _ h => by rw [ahead_nil]; exact h
/-- two texts, the first one with no open remark -/
theorem Lex.app {A B : List Nat} {p : Int × Int} {r1 r2 : List D} (h1 : Lex A p r1) (h2 : Lex B (behind p A) r2) (cl : 35 ∉ lastLine A) (j : ∀ x c, A.getLast? = some x → runSign x = true → B.head? = some c → runSign c = false) : Lex (A ++ B) p (r1 ++ r2) := by
  intro v r hf hs
  rw [List.append_assoc, ← ahead_app]
  cases B with
  | nil =>
    have e0 := h2 v r (fun c hc => ⟨fun z => by simp [lastLine] at z, fun _ x hx => by simp at hx⟩) (by rw [behind_app] at hs; exact hs)
    rw [List.append_nil] at hf
    refine h1 _ _ (by simpa using hf) ?_
    simpa using e0
  | cons b B =>
    refine h1 _ _ (fun c hc => ⟨fun z => absurd z cl, fun _ x hx hr => ?_⟩) (h2 v r (fun c hc => ?_) (by rw [behind_app] at hs; exact hs))
    · have hc : b = c := by simpa using hc
      exact j x c hx hr (by simp [hc])
    · obtain ⟨f1, f2⟩ := hf c hc
      rw [lastLine_app] at f1 f2
      have hl : (A ++ b :: B).getLast? = (b :: B).getLast? := by rw [List.getLast?_append]; simp [List.getLast?_cons]
      refine ⟨fun z => f1 ?_, fun z x hx hr => f2 ?_ x (by rw [hl]; exact hx) hr⟩
      · split
        · exact z
        · exact List.mem_append_left _ z
      · split
        · exact z
        · intro y
          rcases List.mem_append.mp y with y | y
          · exact z y
          · exact cl y
/-! ### the pieces of texts -/
theorem lex_lf (p : Int × Int) : Lex [10] p [] := fun v r _ h => by rw [ahead_nil]; exact .nl h
theorem lex_sp (p : Int × Int) : Lex [32] p [] := fun v r _ h => by rw [ahead_nil]; exact .sp h
/-- a remark -/
theorem lex_rem {t : List Nat} (p : Int × Int) (h : 10 ∉ t) : Lex (35 :: t) p [] := by
  intro v r hf hs
  rw [ahead_nil]
  have h2 : 10 ∉ 35 :: t := by
    intro z
    rcases List.mem_cons.mp z with z | z
    · cases z
    · exact h z
  have ell : lineL ((35 :: t) ++ v) = 35 :: t := by
    unfold lineL
    rw [List.takeWhile_append]
    have e1 : (35 :: t).takeWhile (fun c => !decide (c = 10)) = 35 :: t := tw_all (fun c hc => by have : c ≠ 10 := fun z => h2 (z ▸ hc); simpa using this)
    rw [if_pos (by rw [e1])]
    cases v with
    | nil => simp
    | cons c v =>
      have hc := (hf c rfl).1 (by
        unfold lastLine
        rw [tw_all (fun c hc => by have : c ≠ 10 := fun z => h2 (z ▸ List.mem_reverse.mp hc); simpa using this)]
        exact List.mem_reverse.mpr List.mem_cons_self)
      subst hc
      simp
  rw [behind_plain _ p h2] at hs
  refine .rem (t := t ++ v) ?_
  show Scan (((35 :: t) ++ v).drop (lineL ((35 :: t) ++ v)).length) p.1 (p.2 + ((lineL ((35 :: t) ++ v)).length : Int)) r
  rw [ell, List.drop_left]
  exact hs
theorem not_gap {c : Nat} (h : runSign c = true) : c ≠ 10 ∧ c ≠ 32 ∧ c ≠ 35 := by
  refine ⟨fun z => ?_, fun z => ?_, fun z => ?_⟩ <;> subst z <;> revert h <;> decide +kernel
theorem sign_not {s : Nat} (h : TX [s] ∈ signsS) : runSign s = false ∧ s ≠ 10 ∧ s ≠ 32 ∧ s ≠ 35 := by
  have e : signsS = [TX [123], TX [125], TX [44], TX [59], TX [58]] := by decide +kernel
  rw [e] at h
  have h2 : s = 123 ∨ s = 125 ∨ s = 44 ∨ s = 59 ∨ s = 58 := by
    simp only [List.mem_cons, List.not_mem_nil, or_false] at h
    rcases h with h | h | h | h | h <;> have := TX_inj h <;> simp at this <;> simp [this]
  rcases h2 with rfl | rfl | rfl | rfl | rfl <;> exact ⟨by decide +kernel, by decide, by decide, by decide⟩
/-- a run, or a sign: its kind -/
def kindR (w : List Nat) : Option Str := if TX w ∈ signsS then some ("sign" : Str) else kindW w
/-- w is a sign, or a run of letters and figures -/
def IsRun (w : List Nat) : Prop := w ≠ [] ∧ (w.all runSign = true ∨ ∃ s, w = [s] ∧ TX [s] ∈ signsS)
theorem run_not_sign {w : List Nat} (h : w.all runSign = true) (hw : w ≠ []) : TX w ∉ signsS := by
  intro z
  have e : signsS = [TX [123], TX [125], TX [44], TX [59], TX [58]] := by decide +kernel
  rw [e] at z
  simp only [List.mem_cons, List.not_mem_nil, or_false] at z
  rcases z with z | z | z | z | z <;> (have y := TX_inj z; subst y; revert h; decide +kernel)
/-- what stands at the head of a text that begins so -/
theorem kindAt_run {w v : List Nat} (h : w.all runSign = true) (hw : w ≠ []) (hv : ∀ c, v.head? = some c → runSign c = false) : runLen (w ++ v) = w.length ∧ wordN (w ++ v) = w.length ∧ kindAt (w ++ v) = kindW w := by
  have hl : runLen (w ++ v) = w.length := by
    unfold runLen
    rw [List.takeWhile_append]
    have e1 : w.takeWhile runSign = w := tw_all (fun c hc => (List.all_eq_true.mp h) c hc)
    rw [if_pos (by rw [e1])]
    cases v with
    | nil => simp
    | cons c v => simp [hv c rfl]
  have hp : 0 < w.length := List.length_pos_iff.mpr hw
  refine ⟨hl, by unfold wordN; rw [hl]; omega, ?_⟩
  unfold kindAt
  rw [hl, if_pos hp, List.take_left]
theorem kindAt_sign {s : Nat} {v : List Nat} (h : TX [s] ∈ signsS) : wordN (s :: v) = 1 ∧ kindAt (s :: v) = some ("sign" : Str) := by
  have hr : runLen (s :: v) = 0 := by unfold runLen; simp [(sign_not h).1]
  refine ⟨by unfold wordN; rw [hr]; rfl, ?_⟩
  unfold kindAt
  rw [hr, if_neg (by decide)]
  show (if TX [s] ∈ signsS then _ else _) = _
  rw [if_pos h]
theorem run_no_lf {w : List Nat} (h : IsRun w) : 10 ∉ w ∧ 35 ∉ w := by
  obtain ⟨_, h | ⟨s, rfl, hs⟩⟩ := h
  · exact ⟨fun z => (not_gap ((List.all_eq_true.mp h) _ z)).1 rfl, fun z => (not_gap ((List.all_eq_true.mp h) _ z)).2.2 rfl⟩
  · obtain ⟨_, h1, _, h3⟩ := sign_not hs
    exact ⟨fun z => h1 (List.mem_singleton.mp z).symm, fun z => h3 (List.mem_singleton.mp z).symm⟩
theorem lex_run {w : List Nat} {k : Str} (p : Int × Int) (h : IsRun w) (hk : kindR w = some k) : Lex w p [rowD k (TX w) p.1 p.2] := by
  intro v r hf hs
  obtain ⟨n1, n2⟩ := run_no_lf h
  rw [behind_plain w p n1] at hs
  have ell : 35 ∉ lastLine w := fun z => n2 (List.mem_reverse.mp ((List.takeWhile_sublist _).subset z))
  obtain ⟨hne, hw | ⟨s, rfl, hs'⟩⟩ := h
  · have hv : ∀ c, v.head? = some c → runSign c = false := fun c hc => by
      obtain ⟨x, hx⟩ : ∃ x, w.getLast? = some x := ⟨w.getLast hne, List.getLast?_eq_some_getLast hne⟩
      exact (hf c hc).2 ell x hx ((List.all_eq_true.mp hw) x (List.mem_of_getLast? hx))
    obtain ⟨h1, h2, h3⟩ := kindAt_run hw hne hv
    unfold kindR at hk
    rw [if_neg (run_not_sign hw hne)] at hk
    rw [hk] at h3
    cases w with
    | nil => exact absurd rfl hne
    | cons c t =>
      obtain ⟨g1, g2, g3⟩ := not_gap ((List.all_eq_true.mp hw) c List.mem_cons_self)
      have hdrop : ((c :: t) ++ v).drop (wordN ((c :: t) ++ v)) = v := by rw [h2, List.drop_left]
      have htake : ((c :: t) ++ v).take (wordN ((c :: t) ++ v)) = c :: t := by rw [h2, List.take_left]
      have hs2 : Scan (((c :: t) ++ v).drop (wordN ((c :: t) ++ v))) p.1 (p.2 + (wordN ((c :: t) ++ v) : Nat)) r := by rw [hdrop, h2]; exact hs
      cases r with
      | ok rs =>
        have := Scan.tok (ch := c) (t := t ++ v) g1 g2 g3 h3 hs2
        rw [show c :: (t ++ v) = (c :: t) ++ v from rfl, htake] at this
        exact this
      | error e => exact Scan.tokE (ch := c) (t := t ++ v) g1 g2 g3 h3 hs2
  · obtain ⟨g0, g1, g2, g3⟩ := sign_not hs'
    obtain ⟨h2, h3⟩ := kindAt_sign (v := v) hs'
    unfold kindR at hk
    rw [if_pos hs'] at hk
    cases hk
    have hs2 : Scan ((s :: v).drop (wordN (s :: v))) p.1 (p.2 + (wordN (s :: v) : Nat)) r := by rw [h2]; exact hs
    cases r with
    | ok rs =>
      have := Scan.tok (ch := s) (t := v) g1 g2 g3 h3 hs2
      rw [h2] at this
      exact this
    | error e => exact Scan.tokE (ch := s) (t := v) g1 g2 g3 h3 hs2
end KT
set_option Elab.async false
set_option linter.all false
set_option maxRecDepth 100000
set_option maxHeartbeats 1000000
namespace KT
open PySem L2 DD
local macro_rules | `(tactic| walk_at "go") => `(tactic| first
  | with_reducible refine ss_seq ?_ | with_reducible refine ss_ret ?_ | with_reducible refine ss_if ?_ | with_reducible refine ss_set ?_ | with_reducible refine ss_drop ?_ | with_reducible refine ss_next ?_
  | with_reducible refine se_op ?_ | ((with_reducible refine' se_var ?h ?_); (case h => exact rfl)) | with_reducible refine se_int ?_ | with_reducible refine se_str ?_ | with_reducible refine se_bl ?_ | with_reducible refine se_non ?_ | with_reducible refine se_tup ?_ | with_reducible refine se_cb ?_ | with_reducible refine se_if ?_
  | with_reducible refine se_or ?_ | with_reducible refine se_and ?_ | with_reducible refine se_not ?_ | with_reducible refine se_sl ?_ | with_reducible refine so_none ?_ | with_reducible refine so_some ?_
  | with_reducible refine sa_cons ?_ | with_reducible refine sa_nil ?_ | with_reducible refine st_test ?_ | with_reducible refine st_B ?_ | with_reducible refine st_and ?_ | with_reducible refine st_or ?_ | with_reducible refine st_not ?_ | with_reducible refine st_yes ?_
  | with_reducible refine sg_name ?_ | with_reducible refine sg_tup rfl ?_ | with_reducible refine sgs_cons ?_ | with_reducible refine sgs_nil ?_
  | with_reducible refine sr_addI ?_ | with_reducible refine sr_sub ?_ | with_reducible refine sr_cmp ?_ | with_reducible refine sr_inS ?_ | with_reducible refine sr_ninS ?_
  | ((with_reducible refine' sr_eqS ?h ?_); (case h => exact rfl)) | ((with_reducible refine' sr_neS ?h ?_); (case h => exact rfl)) | ((with_reducible refine' sr_is ?h ?_); (case h => exact rfl)) | ((with_reducible refine' sr_isNot ?h ?_); (case h => exact rfl))
  | with_reducible refine sc_lenL ?_ | with_reducible refine sc_lenT ?_ | with_reducible refine sc_max2 ?_ | with_reducible refine sc_int ?_
  | with_reducible refine ⟨_, rfl, ?_⟩
  | with_reducible refine iteT ?_ | with_reducible refine iteF ?_ | with_reducible refine iteN1 ?_ | with_reducible refine iteN2 ?_)
local macro_rules | `(tactic| walk_at "walk") => `(tactic| repeat walk_at "go")
/-! ### _law_kind_of -/
def lawK (c : Nat) (t : List Nat) : Option Str := if TX (c :: t) ∈ keysS then some ("key" : Str) else if TX (c :: t) ∈ signsS then some ("sign" : Str) else
  if (c :: t).all isFigure = true then (if (decide ((c :: t).length < 4) && (decide ((c :: t).length = 1) || !decide (c = 48))) = true then some ("number" : Str) else none)
  else if (decide ((c :: t).length < 13) && !isFigure c) = true then some ("name" : Str) else none
theorem letter_figure {c : Nat} (h : runSign c = true) : isLetter c = !isFigure c := by
  have e1 : ∀ x ∈ ("abcdefghijklmnopqrstuvwxyz" : Str).cps.toList, isFigure x = false := by decide +kernel
  unfold runSign at h
  cases hl : isLetter c with
  | false => rw [hl] at h; rw [show isFigure c = true from h]; rfl
  | true => rw [e1 c (of_decide_eq_true hl)]; rfl
theorem keys_sign : ∀ s ∈ signsS, s ∉ keysS := by decide +kernel
theorem lawK_eq {c : Nat} {t : List Nat} (h : IsRun (c :: t)) : lawK c t = kindR (c :: t) := by
  obtain ⟨_, h | ⟨s, e, hs⟩⟩ := h
  · have ns := run_not_sign h (by simp)
    have hc : runSign c = true := (List.all_eq_true.mp h) c List.mem_cons_self
    have hlf := letter_figure hc
    have ek : kindR (c :: t) = kindS c t := by
      unfold kindR
      rw [if_neg ns]
      rfl
    rw [ek]
    unfold lawK kindS
    by_cases h1 : TX (c :: t) ∈ keysS
    · rw [if_pos h1, if_pos h1]
    rw [if_neg h1, if_neg h1, if_neg ns]
    by_cases h2 : (c :: t).all isFigure = true
    · have hf : isFigure c = true := (List.all_eq_true.mp h2) c List.mem_cons_self
      rw [if_pos h2, hlf, hf, if_neg (show ¬ ((!true) = true) by decide)]
      have e : (decide ((c :: t).length < 4) && (decide ((c :: t).length = 1) || !decide (c = 48))) = isNum (c :: t) := by
        unfold isNum
        rw [h2, Bool.true_and]
        have e1 : decide ((c :: t).length < 4) = decide ((c :: t).length ≤ 3) := decide_eq_decide.mpr (by omega)
        rw [e1]
        congr 1
        cases t with
        | nil => by_cases z : c = 48 <;> simp [z]
        | cons x y => simp
      rw [e]
    · rw [if_neg h2]
      have hn : isNum (c :: t) = false := by unfold isNum; rw [Bool.not_eq_true] at h2; rw [h2]; rfl
      rw [hlf, hn]
      cases hf : isFigure c with
      | true => rw [if_neg (by simp), if_neg (by simp), if_neg (by simp)]
      | false =>
        rw [if_pos (by decide : (!false) = true)]
        by_cases h3 : (c :: t).length ≤ 12
        · rw [if_pos h3, if_pos (by simp at h3 ⊢; omega)]
        · rw [if_neg h3, if_neg (by simp at h3 ⊢; omega)]
  · cases e
    unfold lawK kindR
    rw [if_pos hs, if_neg (keys_sign _ hs), if_pos hs]
section
variable {P : Program} {w : World} {K : PySem.W.Frag} {mg : Str → Option Value} {base : Heap}
def F_lkind : FD := fun ds μ Q Ed => ∃ c t, ds = [.str (TX (c :: t))] ∧ t.length < 16000000 ∧ Q (optS (lawK c t)) μ
theorem sc__law_kind_of : FnScope ["run", "figures", "sign"] ["run"] (defScope (top 37)) := ⟨rfl, rfl, rfl, by decide +kernel, rfl, by decide +kernel, by decide +kernel⟩
theorem ok_lkind {f : Addr} {fd : FuncData} (FU : Fun K "_law_kind_of" "_law_kind_of" (top 37) f fd) (G : LGlob mg) (H__law_keys : Has P w K mg base 1 "_law_keys" [] (spD K F_keys)) (H__law_is_sign : Has P w K mg base 1 "_law_is_sign" ["word"] (spD K F_is_sign)) :
    FnOk P w K mg base (L2.CX P w) 2 f fd ["run"] (spD K F_lkind) := by
  have N_len := G.len
  refine fn_D FU sc__law_kind_of (fun ds μ Q Ed ⟨c, t, e, _⟩ => by rw [e]; rfl) fun cdv A outer s H E hr => ?_
  have nd := sc__law_kind_of.nd
  have hu65 : (A.deeper (PyProof.Rows.envOfC "_law_kind_of" (defScope (top 37)) s.heap.objs.size f cdv)).units + 65 < cLine := by have := hr.un; omega
  have hu64 : (A.deeper (PyProof.Rows.envOfC "_law_kind_of" (defScope (top 37)) s.heap.objs.size f cdv)).units + 64 < cLine := by have := hr.un; omega
  have hu1 : (A.deeper (PyProof.Rows.envOfC "_law_kind_of" (defScope (top 37)) s.heap.objs.size f cdv)).units + 1 < cLine := by have := hr.un; omega
  refine ⟨_, (pss_cons (ps_if (pt_cmpR (op_inK (K := K) rfl hu65) (pv 0) (pe_has0 H__law_keys (hr.mono (by first | decide | omega)) rfl passX) (by rfl)) (pss_one (ps_ret pe_str)) pss_nil)
      (pss_cons (ps_if (pt_val (pe_has H__law_is_sign (hr.mono (by first | decide | omega)) rfl passX (pa_cons (pv 0) pa_nil))) (pss_one (ps_ret pe_str)) pss_nil)
      (pss_cons (ps_setLc (i := 1) (own := [("sign", 2)]) rfl nd rfl rfl (sw_true rfl rfl rfl (by decide +kernel)) (pi_anyK (K := K) rfl (pv 0)) (blkOk_by (N := ["run", "figures", "sign"]) (sc := defScope (top 37)) (by decide +kernel)) (fun _ _ _ _ _ => (pg_name (i := 2) nd rfl (Or.inl rfl))) (fun _ _ _ _ _ => (pts_one (pt_cmpR (op_inK (K := K) rfl hu65) (pv 2) pe_str (by rfl)))) (fun _ _ _ _ _ => (pv 2)))
      (pss_cons (ps_if (pt_cmpR (op_eqK (K := K) rfl hu64) (pe_callB (call_lenK (K := K) rfl) (by rfl) N_len b_len (pa_cons (pv 1) pa_nil)) (pe_callB (call_lenK (K := K) rfl) (by rfl) N_len b_len (pa_cons (pv 0) pa_nil)) (by rfl)) (pss_one (ps_ret (pe_ifExp (PW.pt (pw_and (pt_cmpR op_lt (pe_callB (call_lenK (K := K) rfl) (by rfl) N_len b_len (pa_cons (pv 0) pa_nil)) pe_int (by rfl)) (pw_and1 (PW.pt (pw_or (pt_cmpR (op_eqK (K := K) rfl hu64) (pe_callB (call_lenK (K := K) rfl) (by rfl) N_len b_len (pa_cons (pv 0) pa_nil)) pe_int (by rfl)) (pw_or1 (pt_cmpR (op_neK (K := K) rfl hu64) (pe_ix (ix_K (K := K) rfl) (pv 0) pe_int (fun _ _ => rfl)) pe_str (by rfl)))))))) pe_str pe_non))) pss_nil)
      (pss_one (ps_ret (pe_ifExp (PW.pt (pw_and (pt_cmpR op_lt (pe_callB (call_lenK (K := K) rfl) (by rfl) N_len b_len (pa_cons (pv 0) pa_nil)) pe_int (by rfl)) (pw_and1 (pt_cmpR (op_notInK (K := K) rfl hu65) (pe_ix (ix_K (K := K) rfl) (pv 0) pe_int (fun _ _ => rfl)) pe_str (by rfl))))) pe_str pe_non))))))), ?_⟩
  rintro ds μ Qd Ed ⟨c, t, rfl, hl, q⟩
  have s16 := size16
  have hL : (TX (c :: t)).length ≤ sizeLine := by rw [len_TX, List.length_cons]; omega
  unfold lawK at q
  walk_at "walk"
  refine se_call (sa_nil ⟨[], μ, rfl, rfl, ?_⟩)
  refine sr_inL (.inl rfl) ⟨_, rfl, ?_⟩
  by_cases h1 : TX (c :: t) ∈ keysS
  · rw [if_pos h1] at q
    rw [if_pos (decide_eq_true h1)]
    walk_at "walk"
    exact q
  rw [if_neg h1] at q
  rw [if_neg (by simpa using h1)]
  walk_at "walk"
  refine se_call ?_
  walk_at "walk"
  refine ⟨[], μ, rfl, _, rfl, ?_⟩
  refine ⟨_, rfl, ?_⟩
  by_cases h2 : TX (c :: t) ∈ signsS
  · rw [if_pos h2] at q
    rw [if_pos (decide_eq_true h2)]
    walk_at "walk"
    exact q
  rw [if_neg h2] at q
  rw [if_neg (by simpa using h2)]
  refine ss_next ?_
  refine ss_seq (ss_set (se_lcP (xs := c :: t) (gd := fun c => .str ⟨#[c]⟩) (p := isFigure) (f := fun c => .str ⟨#[c]⟩) (js := [2]) (by decide) (si_any (se_var rfl ?_))))
  refine .inr (.inr ⟨_, rfl, by unfold signsD; rw [tl_TX], by rw [List.length_cons]; omega, fun x hx => sg_name ⟨rfl, ?_⟩, ?_⟩)
  · refine st_test ?_
    walk_at "walk"
    exact ⟨rfl, rfl, fun _ => se_var rfl ⟨rfl, rfl⟩⟩
  walk_at "walk"
  refine sc_lenS hL ?_
  have e1 : decide (((((c :: t).filter isFigure).map fun c => D.str ⟨#[c]⟩).length : Int) = ((TX (c :: t)).length : Int)) = (c :: t).all isFigure := by
    rw [List.length_map, len_TX]
    by_cases z : (c :: t).all isFigure = true
    · rw [z, List.filter_eq_self.mpr (fun x hx => (List.all_eq_true.mp z) x hx)]; simp
    · rw [Bool.not_eq_true] at z
      rw [z]
      refine decide_eq_false fun y => ?_
      have y2 : ((c :: t).filter isFigure).length = (c :: t).length := by omega
      have y3 := List.filter_sublist (p := isFigure) (l := c :: t) |>.eq_of_length y2
      have : (c :: t).all isFigure = true := List.all_eq_true.mpr (List.filter_eq_self.mp y3)
      rw [z] at this; cases this
  refine sr_eqS rfl ?_
  rw [e1]
  refine ⟨_, rfl, ?_⟩
  by_cases h3 : (c :: t).all isFigure = true
  · rw [if_pos h3] at q
    rw [if_pos h3]
    refine ss_ret (se_if (st_and (st_test ?_)))
    walk_at "walk"
    refine sc_lenS hL ?_
    walk_at "walk"
    rw [len_TX]
    have e4 : decide (((c :: t).length : Int) < 4) = decide ((c :: t).length < 4) := decide_eq_decide.mpr (by omega)
    rw [e4]
    cases h4 : decide ((c :: t).length < 4) with
    | false =>
      rw [h4] at q
      walk_at "walk"
      exact q
    | true =>
      rw [h4] at q
      refine iteT (st_or (st_test ?_))
      walk_at "walk"
      refine sc_lenS hL ?_
      walk_at "walk"
      rw [len_TX]
      have e5 : decide (((c :: t).length : Int) = 1) = decide ((c :: t).length = 1) := decide_eq_decide.mpr (by omega)
      rw [e5]
      cases h5 : decide ((c :: t).length = 1) with
      | true =>
        rw [h5] at q
        walk_at "walk"
        exact q
      | false =>
        rw [h5] at q
        refine iteF (st_test ?_)
        walk_at "walk"
        refine sr_ixS (c := c) hL (by rw [tl_TX]; exact atI_nat (j := 0) rfl) ?_
        rw [zero_TX]
        walk_at "walk"
        rw [one_eq]
        cases h6 : decide (c = 48) with
        | true =>
          rw [h6] at q
          walk_at "walk"
          exact q
        | false =>
          rw [h6] at q
          walk_at "walk"
          exact q
  · rw [if_neg h3] at q
    rw [if_neg h3]
    refine ss_next ?_
    refine ss_ret (se_if (st_and (st_test ?_)))
    walk_at "walk"
    refine sc_lenS hL ?_
    walk_at "walk"
    rw [len_TX]
    have e4 : decide (((c :: t).length : Int) < 13) = decide ((c :: t).length < 13) := decide_eq_decide.mpr (by omega)
    rw [e4]
    cases h4 : decide ((c :: t).length < 13) with
    | false =>
      rw [h4] at q
      walk_at "walk"
      exact q
    | true =>
      rw [h4] at q
      refine iteT (st_test ?_)
      walk_at "walk"
      refine sr_ixS (c := c) hL (by rw [tl_TX]; exact atI_nat (j := 0) rfl) ?_
      walk_at "walk"
      have e5 : decide (c ∈ ("0123456789" : Str).cps.toList) = isFigure c := rfl
      rw [e5]
      cases h6 : isFigure c with
      | true =>
        rw [h6] at q
        walk_at "walk"
        exact q
      | false =>
        rw [h6] at q
        walk_at "walk"
        exact q
/-! ### _law_run -/
def RunOk (l : List Nat) : Prop := IsRun l ∧ l.length ≤ 200
theorem runOk_of {l : List Nat} (h : l.all runSign = true) (h0 : l ≠ []) (h1 : l.length ≤ 200) : RunOk l := ⟨⟨h0, .inl h⟩, h1⟩
theorem keys_run : ∀ k ∈ keysS, k.cps.toList.all runSign = true ∧ k.cps.toList ≠ [] ∧ k.cps.toList.length ≤ 5 := by decide +kernel
theorem signs_run : ∀ k ∈ signsS, k.cps.toList.length = 1 := by decide +kernel
theorem runOk_sign {k : Str} (h : k ∈ signsS) : RunOk k.cps.toList := by
  have h1 := signs_run k h
  obtain ⟨s, hs⟩ := List.length_eq_one_iff.mp h1
  refine ⟨⟨by rw [hs]; simp, .inr ⟨s, hs, ?_⟩⟩, by rw [hs]; simp⟩
  rw [← hs, TX_tl]
  exact h
theorem dig_run : ∀ k : Nat, k < 1000 → (digS k).all runSign = true ∧ digS k ≠ [] ∧ (digS k).length ≤ 3 := by
  have h : ∀ k ∈ List.range 1000, (digS k).all runSign = true ∧ digS k ≠ [] ∧ (digS k).length ≤ 3 := by decide +kernel
  exact fun k hk => h k (List.mem_range.mpr hk)
theorem letters_run {l : List Nat} (h : ∀ c ∈ l, isLetter c = true) : l.all runSign = true := List.all_eq_true.mpr fun c hc => by unfold runSign; rw [h c hc]; rfl
theorem name_run {a b : List Nat} {k : Nat} (hk : k < 1000) (ha : a ≠ []) (hl : a.length + b.length ≤ 8) (h1 : ∀ c ∈ a, isLetter c = true) (h2 : ∀ c ∈ b, isLetter c = true) : (a ++ digS k ++ b).all runSign = true ∧ a ++ digS k ++ b ≠ [] ∧ (a ++ digS k ++ b).length ≤ 11 := by
  obtain ⟨d1, d2, d3⟩ := dig_run k hk
  refine ⟨by rw [List.all_append, List.all_append, letters_run h1, letters_run h2, d1]; rfl, by simp [ha], by rw [List.length_append, List.length_append]; omega⟩
def F_run : FD := fun ds μ Q Ed => ∃ p d n, ds = [.ref p] ∧ μ = [(p, d)] ∧ PenOk n d ∧ n + 15 < BIG ∧ ∀ l d', RunOk l → PenOk (n + 15) d' → Q (.str (TX l)) [(p, d')]
theorem sc__law_run : FnScope ["pen", "kind"] ["pen"] (defScope (top 38)) := ⟨rfl, rfl, rfl, by decide +kernel, rfl, by decide +kernel, by decide +kernel⟩
theorem ok_run {f : Addr} {fd : FuncData} (FU : Fun K "_law_run" "_law_run" (top 38) f fd) (G : LGlob mg) (H__law_keys : Has P w K mg base 1 "_law_keys" [] (spD K F_keys)) (H__law_draw : Has P w K mg base 1 "_law_draw" ["pen", "many"] (spD K F_draw))
    (H__law_pick : Has P w K mg base 2 "_law_pick" ["pen", "some"] (spD K F_pick)) (H__law_name : Has P w K mg base 2 "_law_name" ["pen", "index"] (spD K F_name)) :
    FnOk P w K mg base (L2.CX P w) 3 f fd ["pen"] (spD K F_run) := by
  have N_str := G.str
  refine fn_D FU sc__law_run (fun ds μ Q Ed ⟨p, d, n, e, _⟩ => by rw [e]; rfl) fun cdv A outer s H E hr => ?_
  have nd := sc__law_run.nd
  have hu65 : (A.deeper (PyProof.Rows.envOfC "_law_run" (defScope (top 38)) s.heap.objs.size f cdv)).units + 65 < cLine := by have := hr.un; omega
  have hu64 : (A.deeper (PyProof.Rows.envOfC "_law_run" (defScope (top 38)) s.heap.objs.size f cdv)).units + 64 < cLine := by have := hr.un; omega
  have hu1 : (A.deeper (PyProof.Rows.envOfC "_law_run" (defScope (top 38)) s.heap.objs.size f cdv)).units + 1 < cLine := by have := hr.un; omega
  refine ⟨_, (pss_cons (ps_set (i := 1) nd rfl (Or.inl rfl) (pe_has H__law_draw (hr.mono (by first | decide | omega)) rfl passX (pa_cons (pv 0) (pa_cons pe_int pa_nil))))
      (pss_cons (ps_if (pt_cmpR (op_eqK (K := K) rfl hu64) (pv 1) pe_int (by rfl)) (pss_one (ps_ret (pe_has H__law_pick (hr.mono (by first | decide | omega)) rfl passX (pa_cons (pv 0) (pa_cons (pe_has0 H__law_keys (hr.mono (by first | decide | omega)) rfl passX) pa_nil))))) pss_nil)
      (pss_cons (ps_if (pt_cmpR (op_eqK (K := K) rfl hu64) (pv 1) pe_int (by rfl)) (pss_one (ps_ret (pe_has H__law_pick (hr.mono (by first | decide | omega)) rfl passX (pa_cons (pv 0) (pa_cons (pe_lst (pa_cons pe_str (pa_cons pe_str (pa_cons pe_str (pa_cons pe_str (pa_cons pe_str pa_nil)))))) pa_nil))))) pss_nil)
      (pss_cons (ps_if (pt_cmpR (op_eqK (K := K) rfl hu64) (pv 1) pe_int (by rfl)) (pss_one (ps_ret (pe_callTy call_strX (by rfl) N_str b_str (pa_cons (pe_has H__law_draw (hr.mono (by first | decide | omega)) rfl passX (pa_cons (pv 0) (pa_cons pe_int pa_nil))) pa_nil)))) pss_nil)
      (pss_cons (ps_if (pt_cmpR (op_eqK (K := K) rfl hu64) (pv 1) pe_int (by rfl)) (pss_one (ps_ret (pe_op (op_addK (K := K) rfl) (pe_has H__law_pick (hr.mono (by first | decide | omega)) rfl passX (pa_cons (pv 0) (pa_cons (pe_has0 H__law_keys (hr.mono (by first | decide | omega)) rfl passX) pa_nil))) (pe_has H__law_pick (hr.mono (by first | decide | omega)) rfl passX (pa_cons (pv 0) (pa_cons (pe_lst (pa_cons pe_str (pa_cons pe_str (pa_cons pe_str pa_nil)))) pa_nil)))))) pss_nil)
      (pss_one (ps_ret (pe_has H__law_name (hr.mono (by first | decide | omega)) rfl passX (pa_cons (pv 0) (pa_cons (pe_has H__law_draw (hr.mono (by first | decide | omega)) rfl passX (pa_cons (pv 0) (pa_cons pe_int pa_nil))) pa_nil)))))))))), ?_⟩
  rintro ds μ Qd Ed ⟨p, d, n, rfl, rfl, hp, hn, q⟩
  have s16 := size16
  walk_at "walk"
  refine se_call ?_
  walk_at "walk"
  refine ⟨[(p, d)], [], rfl, p, d, n, _, rfl, rfl, hp, by omega, by decide, by decide, fun r d1 hr1 hp1 => ?_⟩
  have keyOk : ∀ k ∈ keysS, ∀ d', PenOk (n + 15) d' → Qd (.str k) [(p, d')] := fun k hk d' hd => by
    obtain ⟨k1, k2, k3⟩ := keys_run k hk
    have := q _ d' (runOk_of k1 k2 (by omega)) hd
    rw [TX_tl] at this
    exact this
  walk_at "walk"
  by_cases z : (r : Int) = 0
  · rw [decide_eq_true z]
    walk_at "walk"
    refine se_call ?_
    walk_at "walk"
    refine se_call (sa_nil ⟨[], _, rfl, rfl, ?_⟩)
    walk_at "walk"
    refine ⟨[(p, d1)], [], rfl, p, d1, n + 1, _, rfl, rfl, hp1, by omega, by simp [keysS], by simp [keysS], fun x d2 hx hp2 => ?_⟩
    obtain ⟨k, hk, rfl⟩ := List.mem_map.mp hx
    exact keyOk k hk d2 (hp2.mono (by omega))
  rw [decide_eq_false z]
  walk_at "walk"
  by_cases z : (r : Int) = 1
  · rw [decide_eq_true z]
    walk_at "walk"
    refine se_call ?_
    walk_at "walk"
    refine se_lst ?_
    walk_at "walk"
    refine ⟨by show 5 ≤ sizeLine; decide, ?_⟩
    walk_at "walk"
    refine ⟨[(p, d1)], [], rfl, p, d1, n + 1, _, rfl, rfl, hp1, by omega, by simp, by simp, fun x d2 hx hp2 => ?_⟩
    have hx : x ∈ signsS.map D.str := hx
    obtain ⟨k, hk, rfl⟩ := List.mem_map.mp hx
    have := q _ d2 (runOk_sign hk) (hp2.mono (by omega))
    rw [TX_tl] at this
    exact this
  rw [decide_eq_false z]
  walk_at "walk"
  by_cases z : (r : Int) = 2
  · rw [decide_eq_true z]
    walk_at "walk"
    refine se_call ?_
    walk_at "walk"
    refine ⟨[(p, d1)], [], rfl, p, d1, n + 1, _, rfl, rfl, hp1, by omega, by decide, by decide, fun r2 d2 hr2 hp2 => ?_⟩
    walk_at "walk"
    have hr3 : r2 < 1000 := by omega
    have hlog : (r2 : Int).natAbs.log2 < 1920 := by
      rw [Int.natAbs_natCast]
      by_cases z : r2 = 0
      · subst z; decide
      · have h1 := Nat.log2_lt z (k := 20)
        have h2 : r2.log2 < 20 := h1.mpr (by omega)
        omega
    refine sc_str hlog ?_
    obtain ⟨g1, g2, g3⟩ := dig_run r2 hr3
    have := q _ d2 (runOk_of g1 g2 (by omega)) (hp2.mono (by omega))
    have ed : (toString (r2 : Int) : Str) = TX (digS r2) := (TX_tl _).symm
    rw [ed]
    exact this
  rw [decide_eq_false z]
  walk_at "walk"
  by_cases z : (r : Int) = 3
  · rw [decide_eq_true z]
    walk_at "walk"
    refine se_call ?_
    walk_at "walk"
    refine se_call (sa_nil ⟨[], _, rfl, rfl, ?_⟩)
    walk_at "walk"
    refine ⟨[(p, d1)], [], rfl, p, d1, n + 1, _, rfl, rfl, hp1, by omega, by simp [keysS], by simp [keysS], fun x d2 hx hp2 => ?_⟩
    obtain ⟨k, hk, rfl⟩ := List.mem_map.mp hx
    refine se_call ?_
    walk_at "walk"
    refine se_lst ?_
    walk_at "walk"
    refine ⟨by show 3 ≤ sizeLine; decide, ?_⟩
    walk_at "walk"
    refine ⟨[(p, d2)], [], rfl, p, d2, n + 2, _, rfl, rfl, hp2, by omega, by simp, by simp, fun x d3 hx hp3 => ?_⟩
    have hx : x ∈ (["s", "0", "x1"] : List Str).map D.str := hx
    obtain ⟨m, hm, rfl⟩ := List.mem_map.mp hx
    have hsuf : ∀ m ∈ (["s", "0", "x1"] : List Str), m.cps.toList.all runSign = true ∧ m.cps.toList.length ≤ 2 := by decide +kernel
    obtain ⟨m1, m2⟩ := hsuf m hm
    obtain ⟨k1, k2, k3⟩ := keys_run k hk
    have := q (k.cps.toList ++ m.cps.toList) d3 (runOk_of (by rw [List.all_append, k1, m1]; rfl) (by simp [k2]) (by rw [List.length_append]; omega)) (hp3.mono (by omega))
    rw [← TX_app, TX_tl, TX_tl] at this
    refine sr_addS ?_ this
    rw [← TX_tl k, ← TX_tl m, len_TX, len_TX]
    omega
  rw [decide_eq_false z]
  walk_at "walk"
  refine se_call ?_
  walk_at "walk"
  refine se_call ?_
  walk_at "walk"
  refine ⟨[(p, d1)], [], rfl, p, d1, n + 1, _, rfl, rfl, hp1, by omega, by decide, by decide, fun r2 d2 hr2 hp2 => ?_⟩
  walk_at "walk"
  refine ⟨[(p, d2)], [], rfl, p, d2, n + 2, r2, rfl, rfl, hp2, by omega, by omega, fun a b d3 ha hl h1 h2 hp3 => ?_⟩
  obtain ⟨g1, g2, g3⟩ := name_run (k := r2) (by omega) ha hl h1 h2
  exact q _ d3 (runOk_of g1 g2 (by omega)) (hp3.mono (by omega))
end
end KT
set_option Elab.async false
set_option linter.all false
set_option maxRecDepth 100000
set_option maxHeartbeats 1000000
namespace KT
open PySem L2 DD
theorem Fit.nil {v : List Nat} : Fit [] v := fun c _ => ⟨fun z => by simp [lastLine] at z, fun _ x hx => by simp at hx⟩
/-- two texts that fit -/
theorem Lex.join {A B : List Nat} {p : Int × Int} {r1 r2 : List D} (h1 : Lex A p r1) (h2 : Lex B (behind p A) r2) (cl : 35 ∉ lastLine A ∨ 10 ∈ B) (j : Fit A B) : Lex (A ++ B) p (r1 ++ r2) := by
  intro v r hf hs
  rw [List.append_assoc, ← ahead_app]
  cases B with
  | nil =>
    have e0 := h2 v r Fit.nil (by rw [behind_app] at hs; exact hs)
    rw [List.append_nil] at hf
    refine h1 _ _ (by simpa using hf) ?_
    simpa using e0
  | cons b B =>
    refine h1 _ _ (fun c hc => j c (by simpa using hc)) (h2 v r (fun c hc => ?_) (by rw [behind_app] at hs; exact hs))
    obtain ⟨f1, f2⟩ := hf c hc
    rw [lastLine_app] at f1 f2
    have hl : (A ++ b :: B).getLast? = (b :: B).getLast? := by rw [List.getLast?_append]; simp [List.getLast?_cons]
    refine ⟨fun z => f1 ?_, fun z x hx hr => f2 ?_ x (by rw [hl]; exact hx) hr⟩
    · split
      · exact z
      · exact List.mem_append_left _ z
    · split
      · exact z
      · rename_i hn
        intro y
        rcases List.mem_append.mp y with y | y
        · exact z y
        · exact cl.elim (fun g => g y) (fun g => hn g)
/-- gaps: blanks, line ends and remarks; at the end a remark may be open -/
def isGap : Bool → List Nat → Bool
  | _, [] => true
  | false, c :: t => if c = 10 then isGap false t else if c = 32 then isGap false t else if c = 35 then isGap true t else false
  | true, c :: t => if c = 10 then isGap false t else isGap true t
theorem gap_true : ∀ (u t : List Nat), 10 ∉ u → isGap true (u ++ 10 :: t) = isGap false t
  | [], t, _ => by simp [isGap]
  | c :: u, t, h => by
    have h1 : c ≠ 10 := fun z => h (by rw [z]; exact List.mem_cons_self)
    show (if c = 10 then isGap false (u ++ 10 :: t) else isGap true (u ++ 10 :: t)) = _
    rw [if_neg h1, gap_true u t (fun z => h (List.mem_cons_of_mem _ z))]
theorem split_lf : ∀ (t : List Nat), 10 ∈ t → ∃ u v, t = u ++ 10 :: v ∧ 10 ∉ u
  | [], h => by cases h
  | c :: t, h => by
    by_cases z : c = 10
    · exact ⟨[], t, by rw [z]; rfl, by simp⟩
    · rcases List.mem_cons.mp h with y | y
      · exact absurd y.symm z
      · obtain ⟨u, v, e, hn⟩ := split_lf t y
        refine ⟨c :: u, v, by rw [e]; rfl, fun y => ?_⟩
        rcases List.mem_cons.mp y with y | y
        · exact z y.symm
        · exact hn y
theorem lex_remlf {u : List Nat} (p : Int × Int) (h : 10 ∉ u) : Lex ((35 :: u) ++ [10]) p [] := by
  have h1 := Lex.join (p := p) (lex_rem p h) (lex_lf _) (.inr (by simp)) (fun c hc => ⟨fun _ => by simpa using hc.symm, fun z => by
    refine absurd ?_ z
    unfold lastLine
    rw [tw_all]
    · simp
    · intro c hc
      have : c ≠ 10 := by
        intro z
        subst z
        rcases List.mem_cons.mp (List.mem_reverse.mp hc) with y | y
        · cases y
        · exact h y
      simpa using this⟩)
  exact h1
theorem lex_gap : ∀ (n : Nat) (g : List Nat), g.length ≤ n → isGap false g = true → ∀ p, Lex g p []
  | 0, g, h, _, p => by
    have : g = [] := List.length_eq_zero_iff.mp (by omega)
    rw [this]
    exact Lex.nil p
  | n + 1, [], _, _, p => Lex.nil p
  | n + 1, c :: t, h, hg, p => by
    have ht : t.length ≤ n := by simp at h; omega
    have hg : (if c = 10 then isGap false t else if c = 32 then isGap false t else if c = 35 then isGap true t else false) = true := hg
    by_cases z : c = 10
    · subst z
      rw [if_pos rfl] at hg
      exact Lex.join (A := [10]) (lex_lf p) (lex_gap n t ht hg _) (.inl (by decide)) (fun c hc => ⟨fun z => absurd z (by decide), fun _ x hx hr => by
        have hx : x = 10 := by simpa using hx.symm
        subst hx
        exact absurd hr (by decide +kernel)⟩)
    rw [if_neg z] at hg
    by_cases z : c = 32
    · subst z
      rw [if_pos rfl] at hg
      exact Lex.join (A := [32]) (lex_sp p) (lex_gap n t ht hg _) (.inl (by decide)) (fun c hc => ⟨fun z => absurd z (by decide), fun _ x hx hr => by
        have hx : x = 32 := by simpa using hx.symm
        subst hx
        exact absurd hr (by decide +kernel)⟩)
    rw [if_neg z] at hg
    by_cases z : c = 35
    · subst z
      rw [if_pos rfl] at hg
      by_cases hn : 10 ∈ t
      · obtain ⟨u, v, rfl, hu⟩ := split_lf t hn
        rw [gap_true u v hu] at hg
        have e : 35 :: (u ++ 10 :: v) = ((35 :: u) ++ [10]) ++ v := by simp
        rw [e]
        refine Lex.join (lex_remlf p hu) (lex_gap n v (by simp at ht; omega) hg _) (.inl ?_) (fun c hc => ⟨fun z => absurd z ?_, fun _ x hx hr => ?_⟩)
        · rw [lastLine_app, if_pos (by simp)]; decide
        · rw [lastLine_app, if_pos (by simp)]; decide
        · have hx : x = 10 := by rw [List.getLast?_append] at hx; simpa using hx.symm
          subst hx
          exact absurd hr (by decide +kernel)
      · exact lex_rem p hn
    · rw [if_neg z] at hg; cases hg
/-! ### words laid out -/
def kR (w : List Nat) : Str := (kindR w).getD ""
def rowAt (p : Int × Int) (w x : List Nat) : D := rowD (kR w) (TX w) (behind p x).1 (behind p x).2
def rowsP (p : Int × Int) (ws xs : List (List Nat)) : List D := (ws.zip xs).map fun y => rowAt p y.1 y.2
structure Lay (ws xs : List (List Nat)) (L : List Nat) : Prop where
  len : xs.length = ws.length
  lex : ∀ p, Lex L p (rowsP p ws xs)
/-- before the tail -/
structure Lay0 (ws xs : List (List Nat)) (L : List Nat) : Prop extends Lay ws xs L where
  cl : 35 ∉ lastLine L
  lst : ∀ x, L.getLast? = some x → ∃ w, ws.getLast? = some w ∧ w.getLast? = some x
theorem Lay0.nil : Lay0 [] [] [] where
  len := rfl
  lex p := Lex.nil p
  cl := by simp [lastLine]
  lst x h := by simp at h
theorem last_no {w : List Nat} (h : 35 ∉ w) : 35 ∉ lastLine w := fun z => h (List.mem_reverse.mp ((List.takeWhile_sublist _).subset z))
/-- a gap that may stand before a word -/
def gapOk (g : List Nat) : Bool := isGap false g && !decide (35 ∈ lastLine g) && (match g.head? with | none => true | some c => !runSign c) && decide ((match g.getLast? with | none => false | some c => runSign c) = false)
theorem Lay0.word {ws xs : List (List Nat)} {L g w : List Nat} (h : Lay0 ws xs L) (hg : gapOk g = true) (hw : IsRun w) (hk : kindR w ≠ none)
    (hj : g = [] → ws = [] ∨ TX w ∈ signsS ∨ ∃ u, ws.getLast? = some u ∧ TX u ∈ signsS) : Lay0 (ws ++ [w]) (xs ++ [L ++ g]) (L ++ g ++ w) := by
  unfold gapOk at hg
  simp only [Bool.and_eq_true, Bool.not_eq_true', decide_eq_false_iff_not] at hg
  obtain ⟨⟨⟨g1, g2⟩, g3⟩, g4⟩ := hg
  have g4 := of_decide_eq_true g4
  obtain ⟨kw, hkw⟩ := Option.ne_none_iff_exists'.mp hk
  have ekw : kR w = kw := by unfold kR; rw [hkw]; rfl
  obtain ⟨n1, n2⟩ := run_no_lf hw
  have hz : (ws ++ [w]).zip (xs ++ [L ++ g]) = ws.zip xs ++ [(w, L ++ g)] := by rw [List.zip_append h.len.symm]; rfl
  have hgw : ∀ p, Lex (g ++ w) p [rowD kw (TX w) (behind p g).1 (behind p g).2] := fun p => by
    refine Lex.join (r1 := []) (lex_gap _ g (Nat.le_refl _) g1 p) (lex_run _ hw hkw) (.inl g2) (fun c hc => ⟨fun z => absurd z g2, fun _ x hx hr => ?_⟩)
    rw [hx] at g4
    rw [show runSign x = false from g4] at hr
    cases hr
  have wl : ∃ x, w.getLast? = some x := ⟨w.getLast hw.1, List.getLast?_eq_some_getLast hw.1⟩
  refine { len := by rw [List.length_append, List.length_append, h.len]; rfl, lex := fun p => ?_, cl := ?_, lst := fun x hx => ?_ }
  · have hr : rowsP p (ws ++ [w]) (xs ++ [L ++ g]) = rowsP p ws xs ++ [rowD kw (TX w) (behind (behind p L) g).1 (behind (behind p L) g).2] := by
      unfold rowsP
      rw [hz, List.map_append]
      show _ ++ [rowAt p w (L ++ g)] = _
      unfold rowAt
      rw [ekw, behind_app]
    rw [hr, List.append_assoc]
    refine Lex.join (h.lex p) (hgw _) (.inl h.cl) (fun c hc => ⟨fun z => absurd z h.cl, fun _ x hx hr => ?_⟩)
    cases g with
    | cons y ys =>
      have hc : y = c := by simpa using hc
      subst hc
      simpa using g3
    | nil =>
      rcases hj rfl with z | z | ⟨u, z1, z2⟩
      · obtain ⟨w', hw', _⟩ := h.lst x hx
        rw [z] at hw'
        cases hw'
      · obtain ⟨hne, hw | ⟨s, rfl, hs⟩⟩ := hw
        · exact absurd z (run_not_sign hw hne)
        · have hc : s = c := by simpa using hc
          subst hc
          exact (sign_not hs).1
      · obtain ⟨w', hw', hx'⟩ := h.lst x hx
        rw [z1] at hw'
        cases hw'
        have e : signsS = [TX [123], TX [125], TX [44], TX [59], TX [58]] := by decide +kernel
        have hu : ∃ s, u = [s] ∧ TX [s] ∈ signsS := by
          rw [e] at z2
          simp only [List.mem_cons, List.not_mem_nil, or_false] at z2
          rcases z2 with z2 | z2 | z2 | z2 | z2 <;> (have y := TX_inj z2; exact ⟨_, y, by rw [e]; simp⟩)
        obtain ⟨s, rfl, hs⟩ := hu
        have hx' : s = x := by simpa using hx'
        subst hx'
        rw [(sign_not hs).1] at hr
        cases hr
  · rw [lastLine_app, if_neg n1]
    intro z
    rcases List.mem_append.mp z with z | z
    · exact last_no n2 z
    · rw [lastLine_app] at z
      split at z
      · exact g2 z
      · rcases List.mem_append.mp z with z | z
        · exact g2 z
        · exact h.cl z
  · obtain ⟨y, hy⟩ := wl
    rw [List.getLast?_append, hy] at hx
    refine ⟨w, by rw [List.getLast?_append]; rfl, ?_⟩
    rw [hy]
    exact hx
def tailOk (g : List Nat) : Bool := isGap false g && (match g.head? with | none => true | some c => !runSign c)
theorem Lay0.tail {ws xs : List (List Nat)} {L g : List Nat} (h : Lay0 ws xs L) (hg : tailOk g = true) : Lay ws xs (L ++ g) := by
  unfold tailOk at hg
  simp only [Bool.and_eq_true] at hg
  obtain ⟨g1, g3⟩ := hg
  refine ⟨h.len, fun p => ?_⟩
  have := Lex.join (h.lex p) (lex_gap _ g (Nat.le_refl _) g1 _) (.inl h.cl) (fun c hc => ⟨fun z => absurd z h.cl, fun _ x hx hr => by rw [hc] at g3; simpa using g3⟩)
  rw [List.append_nil] at this
  exact this
/-- moved places -/
theorem behind_moved (l c : Int) (x : List Nat) : 1 ≤ (behind (1, 1) x).1 ∧ behind (l, c) x = ((behind (1, 1) x).1 + l - 1, (behind (1, 1) x).2 + (if (behind (1, 1) x).1 = 1 then c - 1 else 0)) := by
  have key : ∀ y : List Nat, 1 ≤ (behind (1, 1) y.reverse).1 ∧ behind (l, c) y.reverse = ((behind (1, 1) y.reverse).1 + l - 1, (behind (1, 1) y.reverse).2 + (if (behind (1, 1) y.reverse).1 = 1 then c - 1 else 0)) := by
    intro y
    induction y with
    | nil => exact ⟨by decide, by simp [behind]; omega⟩
    | cons a y ih =>
      obtain ⟨i1, i2⟩ := ih
      rw [List.reverse_cons, behind_app, behind_app, i2]
      generalize behind (1, 1) y.reverse = b at i1
      show 1 ≤ (if a = 10 then (b.1 + 1, (1 : Int)) else (b.1, b.2 + 1)).1 ∧ (if a = 10 then (b.1 + l - 1 + 1, (1 : Int)) else (b.1 + l - 1, b.2 + (if b.1 = 1 then c - 1 else 0) + 1)) = ((if a = 10 then (b.1 + 1, (1 : Int)) else (b.1, b.2 + 1)).1 + l - 1, (if a = 10 then (b.1 + 1, (1 : Int)) else (b.1, b.2 + 1)).2 + if (if a = 10 then (b.1 + 1, (1 : Int)) else (b.1, b.2 + 1)).1 = 1 then c - 1 else 0)
      by_cases z : a = 10
      · rw [if_pos z, if_pos z]
        refine ⟨by show 1 ≤ b.1 + 1; omega, ?_⟩
        rw [if_neg (by show ¬ b.1 + 1 = 1; omega)]
        simp
        omega
      · rw [if_neg z, if_neg z]
        refine ⟨i1, ?_⟩
        simp
        omega
  have := key x.reverse
  rw [List.reverse_reverse] at this
  exact this
/-- the scan of a text that ends there -/
theorem Lex.scan {L : List Nat} {p : Int × Int} {rs : List D} (h : Lex L p rs) : Scan L p.1 p.2 (.ok (rs ++ [rowD "end" "" (behind p L).1 (behind p L).2])) := by
  have := h [] (.ok [rowD "end" "" (behind p L).1 (behind p L).2]) (fun c hc => by cases hc) .done
  rw [List.append_nil] at this
  exact this
end KT
set_option Elab.async false
set_option linter.all false
set_option maxRecDepth 100000
set_option maxHeartbeats 1000000
namespace KT
open PySem L2 DD
local macro_rules | `(tactic| walk_at "go") => `(tactic| first
  | with_reducible refine ss_seq ?_ | with_reducible refine ss_ret ?_ | with_reducible refine ss_if ?_ | with_reducible refine ss_set ?_ | with_reducible refine ss_drop ?_ | with_reducible refine ss_next ?_
  | with_reducible refine se_op ?_ | ((with_reducible refine' se_var ?h ?_); (case h => exact rfl)) | with_reducible refine se_int ?_ | with_reducible refine se_str ?_ | with_reducible refine se_bl ?_ | with_reducible refine se_non ?_ | with_reducible refine se_tup ?_ | with_reducible refine se_cb ?_ | with_reducible refine se_if ?_
  | with_reducible refine se_or ?_ | with_reducible refine se_and ?_ | with_reducible refine se_not ?_ | with_reducible refine se_sl ?_ | with_reducible refine so_none ?_ | with_reducible refine so_some ?_
  | with_reducible refine sa_cons ?_ | with_reducible refine sa_nil ?_ | with_reducible refine st_test ?_ | with_reducible refine st_B ?_ | with_reducible refine st_and ?_ | with_reducible refine st_or ?_ | with_reducible refine st_not ?_ | with_reducible refine st_yes ?_
  | with_reducible refine sg_name ?_ | with_reducible refine sg_tup rfl ?_ | with_reducible refine sgs_cons ?_ | with_reducible refine sgs_nil ?_
  | with_reducible refine sr_addI ?_ | with_reducible refine sr_sub ?_ | with_reducible refine sr_cmp ?_ | with_reducible refine sr_inS ?_ | with_reducible refine sr_ninS ?_
  | ((with_reducible refine' sr_eqS ?h ?_); (case h => exact rfl)) | ((with_reducible refine' sr_neS ?h ?_); (case h => exact rfl)) | ((with_reducible refine' sr_is ?h ?_); (case h => exact rfl)) | ((with_reducible refine' sr_isNot ?h ?_); (case h => exact rfl))
  | with_reducible refine sc_lenL ?_ | with_reducible refine sc_lenT ?_ | with_reducible refine sc_max2 ?_ | with_reducible refine sc_int ?_
  | with_reducible refine ⟨_, rfl, ?_⟩
  | with_reducible refine iteT ?_ | with_reducible refine iteF ?_ | with_reducible refine iteN1 ?_ | with_reducible refine iteN2 ?_)
local macro_rules | `(tactic| walk_at "walk") => `(tactic| repeat walk_at "go")
def gapsS : List Str := ["", " ", " ", "\n", "  \n ", " # laid q: a to b;\n", "#}\n", "\n\n"]
def tailsS : List Str := ["", "", "\n", " ", " # crew a rest 2;", "\n#\n"]
theorem gaps_ok : ∀ z ∈ gapsS, gapOk z.cps.toList = true ∧ z.cps.toList.length ≤ 30 := by decide +kernel
theorem tails_ok : ∀ z ∈ tailsS, tailOk z.cps.toList = true ∧ z.cps.toList.length ≤ 30 := by decide +kernel
section
variable {P : Program} {w : World} {K : PySem.W.Frag} {mg : Str → Option Value} {base : Heap}
def wordsD (ws : List (List Nat)) : D := .lst (ws.map fun w => .str (TX w))
def placesD (xs : List (List Nat)) : D := .lst (xs.map fun x => placeD (behind (1, 1) x))
def F_laid : FD := fun ds μ Q Ed => ∃ p d n ws, ds = [.ref p, wordsD ws] ∧ μ = [(p, d)] ∧ PenOk n d ∧ n + 20 < BIG ∧ ws.length ≤ 10 ∧ (∀ w ∈ ws, RunOk w ∧ kindR w ≠ none) ∧
  ∀ xs L d', Lay ws xs L → L.length ≤ 10000 → PenOk (n + 20) d' → Q (.tup [.str (TX L), placesD xs, placeD (behind (1, 1) L)]) [(p, d')]
theorem sc__law_laid_out : FnScope ["pen", "words", "text", "here", "places", "at", "word", "tail", "gap"] ["pen", "words"] (defScope (top 36)) := ⟨rfl, rfl, rfl, by decide +kernel, rfl, by decide +kernel, by decide +kernel⟩
theorem ok_laid {f : Addr} {fd : FuncData} (FU : Fun K "_law_laid_out" "_law_laid_out" (top 36) f fd) (G : LGlob mg) (H__law_pick : Has P w K mg base 2 "_law_pick" ["pen", "some"] (spD K F_pick))
    (H__law_is_sign : Has P w K mg base 1 "_law_is_sign" ["word"] (spD K F_is_sign)) (H__law_behind_text : Has P w K mg base 1 "_law_behind_text" ["place", "text"] (spD K F_behind)) :
    FnOk P w K mg base (L2.CX P w) 3 f fd ["pen", "words"] (spD K F_laid) := by
  have N_enumerate := G.enumerate
  refine fn_D FU sc__law_laid_out (fun ds μ Q Ed ⟨p, d, n, ws, e, _⟩ => by rw [e]; rfl) fun cdv A outer s H E hr => ?_
  have nd := sc__law_laid_out.nd
  have hu65 : (A.deeper (PyProof.Rows.envOfC "_law_laid_out" (defScope (top 36)) s.heap.objs.size f cdv)).units + 65 < cLine := by have := hr.un; omega
  have hu64 : (A.deeper (PyProof.Rows.envOfC "_law_laid_out" (defScope (top 36)) s.heap.objs.size f cdv)).units + 64 < cLine := by have := hr.un; omega
  have hu1 : (A.deeper (PyProof.Rows.envOfC "_law_laid_out" (defScope (top 36)) s.heap.objs.size f cdv)).units + 1 < cLine := by have := hr.un; omega
  refine ⟨_, (pss_cons (ps_par3 (i := 2) (j := 3) (l := 4) rfl nd rfl rfl rfl (by decide) (by decide) (by decide) rfl rfl rfl (pa_cons pe_str (pa_cons (pe_tup (pa_cons pe_int (pa_cons pe_int pa_nil))) (pa_cons (pe_lst pa_nil) pa_nil))) (by rfl))
      (pss_cons (ps_for ownX rfl (pi_enumK (K := K) rfl rfl N_enumerate (pa_cons (pv 1) pa_nil)) (pg_tupK (K := K) (n := 2) rfl rfl (pgs_cons (pg_name (i := 5) nd rfl (Or.inl rfl)) (pgs_cons (pg_name (i := 6) nd rfl (Or.inl rfl)) pgs_nil))) (pss_cons (ps_set (i := 8) nd rfl (Or.inl rfl) (pe_has H__law_pick (hr.mono (by first | decide | omega)) rfl passX (pa_cons (pv 0) (pa_cons (pe_lst (pa_cons pe_str (pa_cons pe_str (pa_cons pe_str (pa_cons pe_str (pa_cons pe_str (pa_cons pe_str (pa_cons pe_str (pa_cons pe_str pa_nil))))))))) pa_nil))))
      (pss_cons (ps_if (PW.pt (pw_and (pt_cmpR (op_eqK (K := K) rfl hu64) (pv 8) pe_str (by rfl)) (pw_and (pt_cmpR op_gt (pv 5) pe_int (by rfl)) (pw_and (pt_not (pt_val (pe_has H__law_is_sign (hr.mono (by first | decide | omega)) rfl passX (pa_cons (pv 6) pa_nil)))) (pw_and1 (pt_not (pt_val (pe_has H__law_is_sign (hr.mono (by first | decide | omega)) rfl passX (pa_cons (pe_ix (ix_K (K := K) rfl) (pv 1) (pe_op op_sub (pv 5) pe_int) (fun _ _ => rfl)) pa_nil))))))))) (pss_one (ps_set (i := 8) nd rfl (Or.inl rfl) pe_str)) pss_nil)
      (pss_cons (ps_set (i := 3) nd rfl (Or.inl rfl) (pe_has H__law_behind_text (hr.mono (by first | decide | omega)) rfl passX (pa_cons (pv 3) (pa_cons (pv 8) pa_nil))))
      (pss_cons (ps_expr (pe_bmK (K := K) rfl (pe_bm PySem.F.plainAttrs_list PySem.F.slot_list_append PySem.F.type_list_append mt_append (pv 4) (pa_cons (pv 3) pa_nil))))
      (pss_one (ps_par (i := 2) (j := 3) rfl nd rfl rfl (by decide) rfl rfl (pa_cons (pe_op (op_addK (K := K) rfl) (pe_op (op_addK (K := K) rfl) (pv 2) (pv 8)) (pv 6)) (pa_cons (pe_has H__law_behind_text (hr.mono (by first | decide | omega)) rfl passX (pa_cons (pv 3) (pa_cons (pv 6) pa_nil))) pa_nil)) (by rfl))))))))
      (pss_cons (ps_set (i := 7) nd rfl (Or.inl rfl) (pe_has H__law_pick (hr.mono (by first | decide | omega)) rfl passX (pa_cons (pv 0) (pa_cons (pe_lst (pa_cons pe_str (pa_cons pe_str (pa_cons pe_str (pa_cons pe_str (pa_cons pe_str (pa_cons pe_str pa_nil))))))) pa_nil))))
      (pss_one (ps_ret (pe_tup (pa_cons (pe_op (op_addK (K := K) rfl) (pv 2) (pv 7)) (pa_cons (pv 4) (pa_cons (pe_has H__law_behind_text (hr.mono (by first | decide | omega)) rfl passX (pa_cons (pv 3) (pa_cons (pv 7) pa_nil))) pa_nil))))))))), ?_⟩
  rintro ds μ Qd Ed ⟨p, d, n, ws, rfl, rfl, hp, hn, hwl, hws, q⟩
  have s16 := size16
  refine ss_seq (ss_par3 ?_)
  walk_at "walk"
  refine ⟨by show 2 ≤ sizeLine; decide, ?_⟩
  walk_at "walk"
  refine se_lstM (sa_nil ⟨by show 0 ≤ sizeLine; omega, fun a => ?_⟩)
  refine sa_nil ⟨_, _, _, rfl, ?_⟩
  refine ss_perm (List.Perm.swap _ _ _) ?_
  refine ss_mid (fun ρ' μ' => ∃ T xs d' o5 o6 o8, ρ' = [some (.ref p), some (wordsD ws), some (.str (TX T)), some (placeD (behind (1, 1) T)), some (.ref a), o5, o6, none, o8] ∧ μ' = [(p, d'), (a, placesD xs)] ∧ PenOk (n + 10) d' ∧ Lay0 ws xs T ∧ T.length ≤ 3000) ?_ ?_
  · refine ss_for (js := [5] ++ ([6] ++ [])) (si_enum ?_)
    walk_at "walk"
    refine ⟨fun i ρ' μ' => ∃ T xs d' o5 o6 o8, ρ' = [some (.ref p), some (wordsD ws), some (.str (TX T)), some (placeD (behind (1, 1) T)), some (.ref a), o5, o6, none, o8] ∧ μ' = [(p, d'), (a, placesD xs)] ∧ PenOk (n + i) d' ∧ Lay0 (ws.take i) xs T ∧ T.length ≤ i * 300, ?_, ?_, ?_⟩
    · exact ⟨[], [], d, none, none, none, by rw [← empty_TX]; rfl, rfl, hp, Lay0.nil, by simp⟩
    · rintro i e ρ' μ' he ⟨T, xs, d', o5, o6, o8, rfl, rfl, hp', lay, hT⟩
      have hi : i < ws.length := by
        have := (List.getElem?_eq_some_iff.mp he).1
        simpa [enumD] using this
      obtain ⟨wd, hw⟩ : ∃ wd, ws[i]? = some wd := ⟨ws[i], by simp [hi]⟩
      have ee : e = .tup [.int i, .str (TX wd)] := by
        unfold enumD at he
        rw [List.length_map, List.getElem?_map, List.getElem?_range hi] at he
        have he : D.tup [.int (i : Int), (ws.map fun w => D.str (TX w)).getD i .non] = e := by simpa using he
        rw [← he, List.getD_eq_getElem?_getD, List.getElem?_map, hw]
        rfl
      subst ee
      have hmem : wd ∈ ws := List.mem_of_getElem? hw
      obtain ⟨⟨hrun, hlen⟩, hkind⟩ := hws wd hmem
      refine sg_tup rfl (sgs_cons (sg_name (sgs_cons (sg_name (sgs_nil ?_)))))
      refine ss_seq (ss_set (se_call ?_))
      walk_at "walk"
      refine se_lst ?_
      walk_at "walk"
      refine ⟨by show 8 ≤ sizeLine; decide, ?_⟩
      walk_at "walk"
      refine ⟨[(p, d')], [(a, placesD xs)], rfl, p, d', n + i, _, rfl, rfl, hp', by omega, by simp, by simp, fun x d2 hx hp2 => ?_⟩
      have hx : x ∈ gapsS.map D.str := hx
      obtain ⟨z, hz, rfl⟩ := List.mem_map.mp hx
      obtain ⟨z1, z2⟩ := gaps_ok z hz
      refine ss_mid (fun ρ' μ' => ∃ g : List Nat, ρ' = [some (.ref p), some (wordsD ws), some (.str (TX T)), some (placeD (behind (1, 1) T)), some (.ref a), some (.int i), some (.str (TX wd)), none, some (.str (TX g))] ∧ μ' = [(p, d2), (a, placesD xs)] ∧ gapOk g = true ∧ g.length ≤ 30 ∧
        (g = [] → ws.take i = [] ∨ TX wd ∈ signsS ∨ ∃ u, (ws.take i).getLast? = some u ∧ TX u ∈ signsS)) ?_ ?_
      · have sp : gapOk [32] = true := by decide +kernel
        have keep : (z.cps.toList = [] → ws.take i = [] ∨ TX wd ∈ signsS ∨ ∃ u, (ws.take i).getLast? = some u ∧ TX u ∈ signsS) → ∃ g : List Nat, ([some (.ref p), some (wordsD ws), some (.str (TX T)), some (placeD (behind (1, 1) T)), some (.ref a), some (.int i), some (.str (TX wd)), none, some (.str z)] : DD.Env) = [some (.ref p), some (wordsD ws), some (.str (TX T)), some (placeD (behind (1, 1) T)), some (.ref a), some (.int i), some (.str (TX wd)), none, some (.str (TX g))] ∧ ([(p, d2), (a, placesD xs)] : Store) = [(p, d2), (a, placesD xs)] ∧ gapOk g = true ∧ g.length ≤ 30 ∧
          (g = [] → ws.take i = [] ∨ TX wd ∈ signsS ∨ ∃ u, (ws.take i).getLast? = some u ∧ TX u ∈ signsS) := fun h => ⟨z.cps.toList, by rw [TX_tl], rfl, z1, z2, h⟩
        have zz : (z.cps.toList = []) → z = "" := fun h => by rw [← TX_tl z, h, empty_TX]
        refine ss_if (st_and (st_test ?_))
        walk_at "walk"
        by_cases c1 : z = ""
        · rw [decide_eq_true c1]
          refine iteT (st_and (st_test ?_))
          walk_at "walk"
          by_cases c2 : (0 : Int) < (i : Int)
          · rw [decide_eq_true c2]
            refine iteT (st_and (st_not (st_B (se_call ?_))))
            walk_at "walk"
            refine ⟨[], _, rfl, _, rfl, ?_⟩
            refine ⟨_, rfl, ?_⟩
            by_cases c3 : TX wd ∈ signsS
            · rw [decide_eq_true c3]
              refine iteN2 ?_
              refine iteF (ss_next ?_)
              exact keep fun _ => .inr (.inl c3)
            · rw [decide_eq_false c3]
              refine iteN1 ?_
              refine st_not (st_B (se_call ?_))
              obtain ⟨j, rfl⟩ : ∃ j, i = j + 1 := ⟨i - 1, by omega⟩
              obtain ⟨u, hu⟩ : ∃ u, ws[j]? = some u := ⟨ws[j]'(by omega), by simp [show j < ws.length by omega]⟩
              walk_at "walk"
              have ej : ((j + 1 : Nat) : Int) - 1 = (j : Nat) := by omega
              rw [ej]
              refine sr_ixL (d := .str (TX u)) (atI_nat (by rw [List.getElem?_map, hu]; rfl)) ?_
              walk_at "walk"
              refine ⟨[], _, rfl, _, rfl, ?_⟩
              refine ⟨_, rfl, ?_⟩
              by_cases c4 : TX u ∈ signsS
              · rw [decide_eq_true c4]
                refine iteF (ss_next ?_)
                refine keep fun _ => .inr (.inr ⟨u, ?_, c4⟩)
                rw [List.take_add_one, hu, List.getLast?_append]
                rfl
              · rw [decide_eq_false c4]
                refine iteT (ss_set (se_str ?_))
                exact ⟨[32], by rw [← sp_one]; rfl, rfl, sp, by decide, fun h => by cases h⟩
          · rw [decide_eq_false c2]
            refine iteF (iteF (ss_next ?_))
            refine keep fun _ => .inl ?_
            rw [show i = 0 by omega]
            rfl
        · rw [decide_eq_false c1]
          refine iteF (iteF (ss_next ?_))
          exact keep fun h => absurd (zz h) c1
      rintro ρ' μ' ⟨g, rfl, rfl, g1, g2, g3⟩
      refine ss_seq (ss_set (se_call ?_))
      walk_at "walk"
      refine ⟨[], _, rfl, _, _, rfl, ?_⟩
      refine ss_seq (ss_drop (se_bm ?_))
      walk_at "walk"
      refine ⟨.inr (.inl ⟨a, _, rfl, List.mem_cons_of_mem _ List.mem_cons_self, rfl⟩), ?_⟩
      walk_at "walk"
      have xl : xs.length ≤ 10 := by rw [lay.len, List.length_take]; omega
      refine sm_append (.there .here) (by rw [List.length_map]; omega) ?_
      refine ss_par ?_
      walk_at "walk"
      refine sr_addS (by rw [len_TX, len_TX]; omega) ?_
      walk_at "walk"
      rw [TX_app]
      refine sr_addS (by rw [len_TX, len_TX, List.length_append]; omega) ?_
      rw [TX_app]
      walk_at "walk"
      refine se_call ?_
      walk_at "walk"
      refine ⟨[], _, rfl, _, _, rfl, ?_⟩
      refine sa_nil ⟨_, _, rfl, ?_⟩
      refine ⟨T ++ g ++ wd, xs ++ [T ++ g], d2, some (.int i), some (.str (TX wd)), some (.str (TX g)), ?_, ?_, hp2, ?_, ?_⟩
      · rw [behind_app, behind_app]
        rfl
      · unfold placesD
        rw [List.map_append]
        show _ = _
        simp only [List.map_cons, List.map_nil]
        rw [behind_app]
        rfl
      · have := lay.word g1 hrun hkind g3
        rw [show ws.take (i + 1) = ws.take i ++ [wd] by rw [List.take_add_one, hw]; rfl]
        exact this
      · rw [List.length_append, List.length_append, Nat.add_mul]
        omega
    · rintro ρ' μ' ⟨T, xs, d', o5, o6, o8, rfl, rfl, hp', lay, hT⟩
      have e1 : (enumD (ws.map fun w => D.str (TX w))).length = ws.length := by simp [enumD]
      rw [e1] at hp' lay hT
      rw [List.take_length] at lay
      exact ⟨T, xs, d', o5, o6, o8, rfl, rfl, hp'.mono (by omega), lay, by omega⟩
  rintro ρ' μ' ⟨T, xs, d', o5, o6, o8, rfl, rfl, hp', lay, hT⟩
  refine ss_seq (ss_set (se_call ?_))
  walk_at "walk"
  refine se_lst ?_
  walk_at "walk"
  refine ⟨by show 6 ≤ sizeLine; decide, ?_⟩
  walk_at "walk"
  refine ⟨[(p, d')], [(a, placesD xs)], rfl, p, d', n + 10, _, rfl, rfl, hp', by omega, by simp, by simp, fun x d2 hx hp2 => ?_⟩
  have hx : x ∈ tailsS.map D.str := hx
  obtain ⟨z, hz, rfl⟩ := List.mem_map.mp hx
  obtain ⟨z1, z2⟩ := tails_ok z hz
  refine ss_freeze (i := 4) (a := a) (d := placesD xs) (μ' := [(p, d2)]) rfl (.there .here) ?_
  walk_at "walk"
  rw [← TX_tl z]
  refine sr_addS (by rw [len_TX, len_TX]; omega) ?_
  walk_at "walk"
  refine se_call ?_
  walk_at "walk"
  refine ⟨[], _, rfl, _, _, rfl, ?_⟩
  walk_at "walk"
  refine ⟨by show 3 ≤ sizeLine; decide, ?_⟩
  have := q xs (T ++ z.cps.toList) d2 (lay.tail z1) (by rw [List.length_append]; omega) (hp2.mono (by omega))
  rw [← TX_app, behind_app] at this
  exact this
end
end KT
set_option Elab.async false
set_option linter.all false
set_option maxRecDepth 100000
set_option maxHeartbeats 1000000
namespace KT
open PySem L2 DD
local macro_rules | `(tactic| walk_at "go") => `(tactic| first
  | with_reducible refine ss_seq ?_ | with_reducible refine ss_ret ?_ | with_reducible refine ss_if ?_ | with_reducible refine ss_set ?_ | with_reducible refine ss_drop ?_ | with_reducible refine ss_next ?_
  | with_reducible refine se_op ?_ | ((with_reducible refine' se_var ?h ?_); (case h => exact rfl)) | with_reducible refine se_int ?_ | with_reducible refine se_str ?_ | with_reducible refine se_bl ?_ | with_reducible refine se_non ?_ | with_reducible refine se_tup ?_ | with_reducible refine se_cb ?_ | with_reducible refine se_if ?_
  | with_reducible refine se_or ?_ | with_reducible refine se_and ?_ | with_reducible refine se_not ?_ | with_reducible refine se_sl ?_ | with_reducible refine so_none ?_ | with_reducible refine so_some ?_
  | with_reducible refine sa_cons ?_ | with_reducible refine sa_nil ?_ | with_reducible refine st_test ?_ | with_reducible refine st_B ?_ | with_reducible refine st_and ?_ | with_reducible refine st_or ?_ | with_reducible refine st_not ?_ | with_reducible refine st_yes ?_
  | with_reducible refine sg_name ?_ | with_reducible refine sg_tup rfl ?_ | with_reducible refine sgs_cons ?_ | with_reducible refine sgs_nil ?_
  | with_reducible refine sr_addI ?_ | with_reducible refine sr_sub ?_ | with_reducible refine sr_cmp ?_ | with_reducible refine sr_inS ?_ | with_reducible refine sr_ninS ?_
  | ((with_reducible refine' sr_eqS ?h ?_); (case h => exact rfl)) | ((with_reducible refine' sr_neS ?h ?_); (case h => exact rfl)) | ((with_reducible refine' sr_is ?h ?_); (case h => exact rfl)) | ((with_reducible refine' sr_isNot ?h ?_); (case h => exact rfl))
  | with_reducible refine sc_lenL ?_ | with_reducible refine sc_lenT ?_ | with_reducible refine sc_max2 ?_ | with_reducible refine sc_int ?_
  | with_reducible refine ⟨_, rfl, ?_⟩
  | with_reducible refine iteT ?_ | with_reducible refine iteF ?_ | with_reducible refine iteN1 ?_ | with_reducible refine iteN2 ?_)
local macro_rules | `(tactic| walk_at "walk") => `(tactic| repeat walk_at "go")
theorem kind_row {c : Nat} {t : List Nat} (h : IsRun (c :: t)) (hk : kindR (c :: t) ≠ none) : optS (lawK c t) = .str (kR (c :: t)) := by
  rw [lawK_eq h]
  unfold kR
  cases e : kindR (c :: t) with
  | none => exact absurd e hk
  | some k => rfl
theorem isD_opt (o : Option Str) : isD (optS o) .non = some (decide (o = none)) := by
  cases o with
  | none => rfl
  | some k => rfl
def WordsOk (ws : List (List Nat)) : Prop := ws.length ≤ 10 ∧ ∀ w ∈ ws, RunOk w ∧ kindR w ≠ none
section
variable {P : Program} {w : World} {K : PySem.W.Frag} {mg : Str → Option Value} {base : Heap}
def textD (ws xs : List (List Nat)) (L : List Nat) : D := .tup [.str (TX L), .lst (rowsP (1, 1) ws xs), placeD (behind (1, 1) L)]
def F_text : FD := fun ds μ Q Ed => ∃ p d n m, ds = [.ref p, .int m] ∧ μ = [(p, d)] ∧ PenOk n d ∧ n + 200 < BIG ∧ m ≤ 6 ∧ 0 ≤ m ∧
  ∀ ws xs L d', WordsOk ws → Lay ws xs L → L.length ≤ 10000 → PenOk (n + 200) d' → Q (textD ws xs L) [(p, d')]
theorem sc__law_text_of : FnScope ["pen", "many", "runs", "text", "places", "end", "turn", "run", "place"] ["pen", "many"] (defScope (top 39)) := ⟨rfl, rfl, rfl, by decide +kernel, rfl, by decide +kernel, by decide +kernel⟩
theorem ok_text {f : Addr} {fd : FuncData} (FU : Fun K "_law_text_of" "_law_text_of" (top 39) f fd) (G : LGlob mg) (H__law_run : Has P w K mg base 3 "_law_run" ["pen"] (spD K F_run))
    (H__law_kind_of : Has P w K mg base 2 "_law_kind_of" ["run"] (spD K F_lkind)) (H__law_laid_out : Has P w K mg base 3 "_law_laid_out" ["pen", "words"] (spD K F_laid)) :
    FnOk P w K mg base (L2.CX P w) 4 f fd ["pen", "many"] (spD K F_text) := by
  have N_range := G.range
  have N_zip := G.zip
  refine fn_D FU sc__law_text_of (fun ds μ Q Ed ⟨p, d, n, m, e, _⟩ => by rw [e]; rfl) fun cdv A outer s H E hr => ?_
  have nd := sc__law_text_of.nd
  have hu65 : (A.deeper (PyProof.Rows.envOfC "_law_text_of" (defScope (top 39)) s.heap.objs.size f cdv)).units + 65 < cLine := by have := hr.un; omega
  have hu64 : (A.deeper (PyProof.Rows.envOfC "_law_text_of" (defScope (top 39)) s.heap.objs.size f cdv)).units + 64 < cLine := by have := hr.un; omega
  have hu1 : (A.deeper (PyProof.Rows.envOfC "_law_text_of" (defScope (top 39)) s.heap.objs.size f cdv)).units + 1 < cLine := by have := hr.un; omega
  refine ⟨_, (pss_cons (ps_setLc (i := 2) (own := [("turn", 6)]) rfl nd rfl rfl (sw_true rfl rfl rfl (by decide +kernel)) (pi_range1 rfl N_range (pa_cons (pv 1) pa_nil)) (blkOk_by (N := ["pen", "many", "runs", "text", "places", "end", "turn", "run", "place"]) (sc := defScope (top 39)) (by decide +kernel)) (fun _ _ _ _ _ => (pg_name (i := 6) nd rfl (Or.inl rfl))) (fun _ _ _ _ _ => pts_nil) (fun _ _ _ _ _ => (pe_has H__law_run (hr.mono (by first | decide | omega)) rfl passL (pa_cons (pv 0) pa_nil))))
      (pss_cons (ps_setLc (i := 2) (own := [("run", 7)]) rfl nd rfl rfl (sw_true rfl rfl rfl (by decide +kernel)) (pi_anyK (K := K) rfl (pv 2)) (blkOk_by (N := ["pen", "many", "runs", "text", "places", "end", "turn", "run", "place"]) (sc := defScope (top 39)) (by decide +kernel)) (fun _ _ _ _ _ => (pg_name (i := 7) nd rfl (Or.inl rfl))) (fun _ _ _ _ _ => (pts_one (pt_cmpR op_isNotX (pe_has H__law_kind_of (hr.mono (by first | decide | omega)) rfl passL (pa_cons (pv 7) pa_nil)) pe_non (by rfl)))) (fun _ _ _ _ _ => (pv 7)))
      (pss_cons (ps_asg (pe_has H__law_laid_out (hr.mono (by first | decide | omega)) rfl passX (pa_cons (pv 0) (pa_cons (pv 2) pa_nil))) (pg_tupK (K := K) (n := 3) rfl rfl (pgs_cons (pg_name (i := 3) nd rfl (Or.inl rfl)) (pgs_cons (pg_name (i := 4) nd rfl (Or.inl rfl)) (pgs_cons (pg_name (i := 5) nd rfl (Or.inl rfl)) pgs_nil)))))
      (pss_one (ps_ret (pe_tup (pa_cons (pv 3) (pa_cons (pe_lc (own := [("run", 7), ("place", 8)]) rfl nd (pi_zipK (K := K) rfl rfl N_zip (pa_cons (pv 2) (pa_cons (pv 4) pa_nil))) (blkOk_by (N := ["pen", "many", "runs", "text", "places", "end", "turn", "run", "place"]) (sc := defScope (top 39)) (by decide +kernel)) (fun _ _ _ _ _ => (pg_tupK (K := K) (n := 2) rfl rfl (pgs_cons (pg_name (i := 7) nd rfl (Or.inl rfl)) (pgs_cons (pg_name (i := 8) nd rfl (Or.inl rfl)) pgs_nil)))) (fun _ _ _ _ _ => pts_nil) (fun _ _ _ _ _ => (pe_tup (pa_cons (pe_has H__law_kind_of (hr.mono (by first | decide | omega)) rfl passL (pa_cons (pv 7) pa_nil)) (pa_cons (pv 7) (pa_cons (pv 8) pa_nil)))))) (pa_cons (pv 5) pa_nil))))))))), ?_⟩
  rintro ds μ Qd Ed ⟨p, d, n, m, rfl, rfl, hp, hn, hm, hm0, q⟩
  have s16 := size16
  refine ss_seq (ss_set (se_lc (js := [6]) (by decide) (si_rng1 ?_)))
  walk_at "walk"
  refine ⟨by omega, by omega, fun i acc μ' => ∃ (rs : List (List Nat)) (d' : D), acc = rs.map (fun w => .str (TX w)) ∧ rs.length = i ∧ (∀ w ∈ rs, RunOk w) ∧ μ' = [(p, d')] ∧ PenOk (n + 15 * i) d', ⟨[], d, rfl, rfl, (by intro w h; cases h), rfl, hp⟩, ?_, ?_⟩
  · rintro i e acc μ' he ⟨rs, d', rfl, hl, hrs, rfl, hp'⟩
    have hi : i < m.toNat := by
      have := (List.getElem?_eq_some_iff.mp he).1
      simpa [rangeD] using this
    refine sg_name (st_yes (iteT (se_call ?_)))
    walk_at "walk"
    refine ⟨[(p, d')], [], rfl, p, d', _, rfl, rfl, hp', by omega, fun l d2 hl2 hp2 => ⟨by rw [List.length_map]; omega, rs ++ [l], d2, by rw [List.map_append]; rfl, by rw [List.length_append]; simp [hl], fun w hw => ?_, rfl, hp2.mono (by omega)⟩⟩
    rcases List.mem_append.mp hw with h | h
    · exact hrs w h
    · rw [List.mem_singleton.mp h]
      exact hl2
  rintro acc μ' ⟨rs, d', rfl, hl, hrs, rfl, hp'⟩
  have hl6 : rs.length ≤ 6 := by rw [hl]; simp [rangeD]; omega
  have hp2 : PenOk (n + 100) d' := hp'.mono (by have : (rangeD m.toNat).length ≤ 6 := by (simp [rangeD]; omega)
                                                omega)
  refine ss_seq (ss_set (se_lcP (xs := rs) (gd := fun w => .str (TX w)) (p := fun w => !decide (kindR w = none)) (f := fun w => .str (TX w)) (js := [7]) (by decide) (si_any (se_var rfl ?_))))
  refine .inl ⟨_, rfl, rfl, by omega, fun x hx => sg_name ⟨rfl, ?_⟩, ?_⟩
  · obtain ⟨hr, hlx⟩ := hrs x hx
    obtain ⟨c, t, rfl⟩ : ∃ c t, x = c :: t := by
      cases x with
      | nil => exact absurd rfl hr.1
      | cons c t => exact ⟨c, t, rfl⟩
    refine st_test (se_op (se_call ?_))
    walk_at "walk"
    refine ⟨[], _, rfl, c, t, rfl, by rw [List.length_cons] at hlx; omega, ?_⟩
    walk_at "walk"
    refine sr_isNot (isD_opt _) ?_
    refine ⟨_, rfl, ?_, rfl, fun _ => se_var rfl ⟨rfl, rfl⟩⟩
    rw [lawK_eq hr]
  have hws : WordsOk (rs.filter fun w => !decide (kindR w = none)) := ⟨by have := List.length_filter_le (fun w => !decide (kindR w = none)) rs; omega, fun w hw => by
    obtain ⟨h1, h2⟩ := List.mem_filter.mp hw
    exact ⟨hrs w h1, by simpa using h2⟩⟩
  generalize (rs.filter fun w => !decide (kindR w = none)) = ws at hws
  refine ss_seq (ss_asg (js := [3] ++ ([4] ++ ([5] ++ []))) (se_call ?_))
  walk_at "walk"
  refine ⟨[(p, d')], [], rfl, p, d', n + 100, ws, rfl, rfl, hp2, by omega, hws.1, hws.2, fun xs L d2 lay hL hp3 => ?_⟩
  refine sg_tup rfl (sgs_cons (sg_name (sgs_cons (sg_name (sgs_cons (sg_name (sgs_nil ?_)))))))
  refine ss_ret (se_tup (sa_cons (se_var rfl (sa_cons (se_lcM (xs := ws.zip xs) (gd := fun y => .tup [.str (TX y.1), placeD (behind (1, 1) y.2)]) (f := fun y => rowAt (1, 1) y.1 y.2) (js := [7] ++ ([8] ++ [])) (by decide) (si_zip ?_))))))
  walk_at "walk"
  have hz : (ws.zip xs).length ≤ 10 := by rw [List.length_zip]; have := hws.1; omega
  refine ⟨_, _, .inl rfl, ⟨_, rfl⟩, ?_, by omega, fun y hy => ?_, ?_⟩
  · unfold zipD
    rw [List.zip_map, List.map_map]
    rfl
  · obtain ⟨wd, x⟩ := y
    have hwm : wd ∈ ws := (List.of_mem_zip hy).1
    obtain ⟨⟨hr, hlx⟩, hk⟩ := hws.2 wd hwm
    refine sg_tup rfl (sgs_cons (sg_name (sgs_cons (sg_name (sgs_nil ⟨rfl, ?_⟩)))))
    obtain ⟨c, t, rfl⟩ : ∃ c t, wd = c :: t := by
      cases wd with
      | nil => exact absurd rfl hr.1
      | cons c t => exact ⟨c, t, rfl⟩
    refine se_tup (sa_cons (se_call ?_))
    walk_at "walk"
    refine ⟨[], _, rfl, c, t, rfl, by rw [List.length_cons] at hlx; omega, ?_⟩
    walk_at "walk"
    refine ⟨by show 3 ≤ sizeLine; decide, ?_, rfl⟩
    rw [kind_row hr hk]
    rfl
  · walk_at "walk"
    refine ⟨by show 3 ≤ sizeLine; decide, ?_⟩
    exact q ws xs L d2 hws lay hL (hp3.mono (by omega))
/-! ### _law_moved -/
def F_moved : FD := fun ds μ Q Ed => ∃ ws xs l c, ds = [.lst (rowsP (1, 1) ws xs), .int l, .int c] ∧ ws.length ≤ 10 ∧ Q (.lst (rowsP (l, c) ws xs)) μ
theorem sc__law_moved : FnScope ["rows", "line", "column", "kind", "word", "place"] ["rows", "line", "column"] (defScope (top 40)) := ⟨rfl, rfl, rfl, by decide +kernel, rfl, by decide +kernel, by decide +kernel⟩
theorem ok_moved {f : Addr} {fd : FuncData} (FU : Fun K "_law_moved" "_law_moved" (top 40) f fd) : FnOk P w K mg base (L2.CX P w) 1 f fd ["rows", "line", "column"] (spD K F_moved) := by
  refine fn_D FU sc__law_moved (fun ds μ Q Ed ⟨ws, xs, l, c, e, _⟩ => by rw [e]; rfl) fun cdv A outer s H E hr => ?_
  have nd := sc__law_moved.nd
  have hu65 : (A.deeper (PyProof.Rows.envOfC "_law_moved" (defScope (top 40)) s.heap.objs.size f cdv)).units + 65 < cLine := by have := hr.un; omega
  have hu64 : (A.deeper (PyProof.Rows.envOfC "_law_moved" (defScope (top 40)) s.heap.objs.size f cdv)).units + 64 < cLine := by have := hr.un; omega
  have hu1 : (A.deeper (PyProof.Rows.envOfC "_law_moved" (defScope (top 40)) s.heap.objs.size f cdv)).units + 1 < cLine := by have := hr.un; omega
  refine ⟨_, (pss_one (ps_ret (pe_lc (own := [("kind", 3), ("word", 4), ("place", 5)]) rfl nd (pi_anyK (K := K) rfl (pv 0)) (blkOk_by (N := ["rows", "line", "column", "kind", "word", "place"]) (sc := defScope (top 40)) (by decide +kernel)) (fun _ _ _ _ _ => (pg_tupK (K := K) (n := 3) rfl rfl (pgs_cons (pg_name (i := 3) nd rfl (Or.inl rfl)) (pgs_cons (pg_name (i := 4) nd rfl (Or.inl rfl)) (pgs_cons (pg_name (i := 5) nd rfl (Or.inl rfl)) pgs_nil))))) (fun _ _ _ _ _ => pts_nil) (fun _ _ _ _ _ => (pe_tup (pa_cons (pv 3) (pa_cons (pv 4) (pa_cons (pe_tup (pa_cons (pe_op op_sub (pe_op (op_addK (K := K) rfl) (pe_ix (ix_K (K := K) rfl) (pv 5) pe_int (fun _ _ => rfl)) (pv 1)) pe_int) (pa_cons (pe_op (op_addK (K := K) rfl) (pe_ix (ix_K (K := K) rfl) (pv 5) pe_int (fun _ _ => rfl)) (pe_ifExp (pt_cmpR (op_eqK (K := K) rfl hu64) (pe_ix (ix_K (K := K) rfl) (pv 5) pe_int (fun _ _ => rfl)) pe_int (by rfl)) (pe_op op_sub (pv 2) pe_int) pe_int)) pa_nil))) pa_nil)))))))), ?_⟩
  rintro ds μ Qd Ed ⟨ws, xs, l, c, rfl, hl, q⟩
  have s16 := size16
  have hz : (ws.zip xs).length ≤ 10 := by rw [List.length_zip]; omega
  refine ss_ret (se_lcM (xs := ws.zip xs) (gd := fun y => rowAt (1, 1) y.1 y.2) (f := fun y => rowAt (l, c) y.1 y.2) (js := [3] ++ ([4] ++ ([5] ++ []))) (by decide) (si_any (se_var rfl ?_)))
  refine .inl ⟨_, rfl, rfl, by omega, fun y hy => ?_, q⟩
  refine sg_tup rfl (sgs_cons (sg_name (sgs_cons (sg_name (sgs_cons (sg_name (sgs_nil ⟨rfl, ?_⟩)))))))
  obtain ⟨b1, b2⟩ := behind_moved l c y.2
  have e : rowAt (l, c) y.1 y.2 = .tup [.str (kR y.1), .str (TX y.1), .tup [.int ((behind (1, 1) y.2).1 + l - 1), .int ((behind (1, 1) y.2).2 + (if (behind (1, 1) y.2).1 = 1 then c - 1 else 0))]] := by
    unfold rowAt rowD
    rw [b2]
  rw [e]
  walk_at "walk"
  refine sr_ixT (atI_nat (j := 0) rfl) ?_
  walk_at "walk"
  refine sr_ixT (atI_nat (j := 1) rfl) ?_
  walk_at "walk"
  refine sr_ixT (atI_nat (j := 0) rfl) ?_
  walk_at "walk"
  by_cases z : (behind (1, 1) y.2).1 = 1
  · rw [decide_eq_true z]
    walk_at "walk"
    refine ⟨by show 2 ≤ sizeLine; decide, ?_⟩
    walk_at "walk"
    refine ⟨by show 3 ≤ sizeLine; decide, ?_⟩
    rw [if_pos z]
    exact ⟨rfl, rfl⟩
  · rw [decide_eq_false z]
    walk_at "walk"
    refine ⟨by show 2 ≤ sizeLine; decide, ?_⟩
    walk_at "walk"
    refine ⟨by show 3 ≤ sizeLine; decide, ?_⟩
    rw [if_neg z]
    exact ⟨rfl, rfl⟩
end
end KT
set_option Elab.async false
set_option linter.all false
set_option maxRecDepth 100000
set_option maxHeartbeats 1000000
namespace KT
open PySem L2 DD
/-! ### plain facts of the law -/
theorem spl_last : ∀ (l acc : List Nat), 10 ∉ acc → ∃ r, TL.spl [10] 0 acc l = r ++ [(lastLine (acc ++ l)).reverse]
  | [], acc, h => ⟨[], by
      rw [TL.spl_nil, List.append_nil]
      unfold lastLine
      rw [tw_all (fun c hc => by have : c ≠ 10 := fun z => h (z ▸ List.mem_reverse.mp hc)
                                 simpa using this), List.reverse_reverse]
      rfl⟩
  | c :: t, acc, h => by
    by_cases z : c = 10
    · subst z
      obtain ⟨r, hr⟩ := spl_last t [] (by simp)
      refine ⟨acc :: r, ?_⟩
      rw [TL.spl_hit (by rfl)]
      show acc :: TL.spl [10] 0 [] t = _
      rw [hr, List.nil_append, lastLine_app, if_pos List.mem_cons_self]
      have e : lastLine (10 :: t) = lastLine t := by
        rw [show 10 :: t = [10] ++ t from rfl, lastLine_app]
        split
        · rfl
        · rw [show lastLine [10] = [] by decide, List.append_nil]
      rw [e]
      rfl
    · obtain ⟨r, hr⟩ := spl_last t (acc ++ [c]) (by simp [h]; exact fun y => z y.symm)
      refine ⟨r, ?_⟩
      rw [TL.spl_miss (TL.pre_of_head [] t z), hr]
      simp
theorem split_last (l : List Nat) : ∃ r, Txt.split (TX l) "\n" = r ++ [TX (lastLine l).reverse] := by
  have h := TL.split_spl (TX l) "\n" (by rw [tl_lf]; simp) (TL.kind_ok (by decide +kernel))
  rw [tl_lf] at h
  obtain ⟨r, hr⟩ := spl_last (TL.tl (TX l)) [] (by simp)
  rw [hr, List.nil_append] at h
  have e1 : TL.tl (TX l) = l := tl_TX l
  rw [e1] at h
  obtain ⟨l1, l2, e2, e3, e4⟩ := List.map_eq_append_iff.mp h
  obtain ⟨x, l3, e5, e6, e7⟩ := List.map_eq_cons_iff.mp e4
  have e8 := List.map_eq_nil_iff.mp e7
  refine ⟨l1, ?_⟩
  rw [e2, e5, e8]
  congr 2
  apply TL.ext_tl
  rw [e6]
  show _ = (TX _).cps.toList
  rw [tl_TX]
/-- what may stand between two texts -/
structure GapL (L g : List Nat) : Prop where
  gap : isGap false g = true
  cl : 35 ∉ lastLine g
  nr : ∃ x, g.getLast? = some x ∧ runSign x = false
  fit : Fit L g
  op : 35 ∉ lastLine L ∨ 10 ∈ g
  len : g.length ≤ 30
def gapB (g : List Nat) : Bool := isGap false g && decide (35 ∉ lastLine g) && (match g.getLast? with | none => false | some x => !runSign x) && (match g.head? with | none => false | some x => !runSign x) && decide (g.length ≤ 30)
theorem GapL.of {L g : List Nat} (h : gapB g = true) (hL : 35 ∈ lastLine L → g.head? = some 10) : GapL L g := by
  unfold gapB at h
  simp only [Bool.and_eq_true, decide_eq_true_eq] at h
  obtain ⟨⟨⟨⟨h1, h2⟩, h3⟩, h4⟩, h5⟩ := h
  refine ⟨h1, h2, ?_, fun c hc => ⟨fun z => ?_, fun _ x hx hr => ?_⟩, ?_, h5⟩
  · cases e : g.getLast? with
    | none => rw [e] at h3; cases h3
    | some x =>
      rw [e] at h3
      exact ⟨x, rfl, by simpa using h3⟩
  · rw [hL z] at hc
    cases hc
    rfl
  · rw [hc] at h4
    simpa using h4
  · by_cases z : 35 ∈ lastLine L
    · exact .inr (List.mem_of_mem_head? (hL z))
    · exact .inl z
theorem GapL.lex {ws xs : List (List Nat)} {L g : List Nat} (G : GapL L g) (h : Lay ws xs L) (p : Int × Int) : Lex (L ++ g) p (rowsP p ws xs) := by
  have := Lex.join (h.lex p) (lex_gap _ g (Nat.le_refl _) G.gap _) G.op G.fit
  rw [List.append_nil] at this
  exact this
theorem GapL.shut {L g : List Nat} (G : GapL L g) : 35 ∉ lastLine (L ++ g) := by
  rw [lastLine_app]
  split
  · exact G.cl
  · rename_i z
    intro y
    rcases List.mem_append.mp y with y | y
    · exact G.cl y
    · exact G.op.elim (fun k => k y) (fun k => z k)
theorem GapL.any {L g v : List Nat} (G : GapL L g) : Fit (L ++ g) v := fun c _ => ⟨fun z => absurd z G.shut, fun _ x hx hr => by
  obtain ⟨y, hy, hn⟩ := G.nr
  rw [List.getLast?_append, hy] at hx
  cases hx
  rw [hn] at hr
  cases hr⟩
theorem GapL.scan {ws xs : List (List Nat)} {L g v : List Nat} {r : Except (Int × Int) (List D)} (G : GapL L g) (h : Lay ws xs L) (hs : Scan v (behind (1, 1) (L ++ g)).1 (behind (1, 1) (L ++ g)).2 r) : Scan (L ++ g ++ v) 1 1 (ahead (rowsP (1, 1) ws xs) r) := G.lex h (1, 1) v r G.any hs
theorem GapL.two {ws xs ws2 xs2 : List (List Nat)} {L g L2 : List Nat} (G : GapL L g) (h : Lay ws xs L) (h2 : Lay ws2 xs2 L2) :
    Scan (L ++ g ++ L2) 1 1 (.ok ((rowsP (1, 1) ws xs ++ rowsP (behind (1, 1) (L ++ g)) ws2 xs2) ++ [rowD "end" "" (behind (1, 1) (L ++ g ++ L2)).1 (behind (1, 1) (L ++ g ++ L2)).2])) := by
  have := G.scan h (h2.lex _).scan
  rw [← behind_app] at this
  rw [List.append_assoc (rowsP (1, 1) ws xs)]
  exact this
theorem Lay.scan {ws xs : List (List Nat)} {L : List Nat} (h : Lay ws xs L) : Scan L 1 1 (.ok (rowsP (1, 1) ws xs ++ [rowD "end" "" (behind (1, 1) L).1 (behind (1, 1) L).2])) := (h.lex (1, 1)).scan
/-- a run at the end -/
theorem scan_run {w : List Nat} {k : Str} (h : IsRun w) (hk : kindR w = some k) (p : Int × Int) : ∃ e, Scan w p.1 p.2 (.ok [rowD k (TX w) p.1 p.2, e]) := ⟨_, (lex_run p h hk).scan⟩
theorem scan_none {w : List Nat} (h : w.all runSign = true) (h0 : w ≠ []) (hk : kindR w = none) (p : Int × Int) : Scan w p.1 p.2 (.error p) := by
  have ns := run_not_sign h h0
  unfold kindR at hk
  rw [if_neg ns] at hk
  obtain ⟨h1, h2, h3⟩ := kindAt_run (v := []) h h0 (fun c hc => by cases hc)
  rw [List.append_nil, hk] at h3
  cases w with
  | nil => exact absurd rfl h0
  | cons c t =>
    obtain ⟨g1, g2, g3⟩ := not_gap ((List.all_eq_true.mp h) c List.mem_cons_self)
    exact .bad g1 g2 g3 h3
def badsS : List Str := ["A", "007", "1000", "7a", "abcdefghijklm", "-", "=", "_", "01", "'"]
def behsS : List Str := ["", " ", "\n", " B", " 000"]
def moreS : List Str := ["7", "x", "road", "by9", "abcdefgh"]
def betwS : List Str := [" ", "\n", "  \n\n ", "# laid a\n", "\n#{\n"]
def badB (l : List Nat) : Bool := match l with
  | [] => false
  | c :: t => !decide (c = 10) && !decide (c = 32) && !decide (c = 35) && decide (kindAt (c :: t) = none)
theorem bad_scan {l : List Nat} (h : badB l = true) (p : Int × Int) : Scan l p.1 p.2 (.error p) := by
  cases l with
  | nil => cases h
  | cons c t =>
    unfold badB at h
    simp only [Bool.and_eq_true, Bool.not_eq_true', decide_eq_false_iff_not, decide_eq_true_eq] at h
    exact .bad h.1.1.1 h.1.1.2 h.1.2 h.2
theorem bads_ok : ∀ a ∈ badsS, ∀ b ∈ behsS, badB (a.cps.toList ++ b.cps.toList) = true ∧ (a.cps.toList ++ b.cps.toList).length ≤ 20 := by decide +kernel
theorem betw_ok : ∀ g ∈ betwS, gapB g.cps.toList = true := by decide +kernel
theorem lf_ok : gapB [10] = true := by decide +kernel
theorem badgap_ok : ∀ a ∈ badsS, gapB ([10, 35, 32] ++ a.cps.toList ++ [10]) = true := by decide +kernel
theorem more_ok : ∀ m ∈ moreS, m.cps.toList.all runSign = true ∧ m.cps.toList.length ≤ 8 := by decide +kernel
theorem keys_not : ∀ k ∈ keysS, nameD (.str k) = false ∧ nameD (.str (k ++ "q")) = true ∧ k.cps.toList.length ≤ 5 ∧ kindR k.cps.toList = some ("key" : Str) := by decide +kernel
/-- is_name against the kind -/
theorem name_kind {l : List Nat} (h : IsRun l) : nameL l = decide (kindR l = some ("name" : Str)) := by
  obtain ⟨hne, h | ⟨s, rfl, hs⟩⟩ := h
  · have ns := run_not_sign h hne
    unfold kindR
    rw [if_neg ns]
    cases l with
    | nil => exact absurd rfl hne
    | cons c t =>
      show ((c :: t).all runSign && decide (kindS c t = some ("name" : Str))) = _
      rw [h]
      rfl
  · unfold kindR
    rw [if_pos hs]
    show (([s] : List Nat).all runSign && _) = _
    rw [show ([s] : List Nat).all runSign = false by simp [(sign_not hs).1]]
    rfl
/-! data against themselves -/
section
variable {K : PySem.W.Frag} {E : XK} {Ed : XD} {μ : Store} {Q : D → Store → Prop}
theorem sr_eqSelf {d : D} (p1 : plain d = true) (z1 : SeqAt.shaped (pyOf d) = true) (q : Q (.bl true) μ) : SR K E Ed (rEqX K) d d μ Q := sr_eqD p1 p1 z1 z1 (by rw [SeqAt.eqv_refl _ (SeqAt.canLay_of_shaped z1)]; exact q)
theorem sr_neSelf {d : D} (p1 : plain d = true) (z1 : SeqAt.shaped (pyOf d) = true) (q : Q (.bl false) μ) : SR K E Ed (rNeX K) d d μ Q := sr_neD p1 p1 z1 z1 (by rw [SeqAt.eqv_refl _ (SeqAt.canLay_of_shaped z1)]; exact q)
end
theorem shaped_read (l c : Int) : SeqAt.shaped (pyOf (.tup [.str "read", .int l, .int c])) = true := by simp [show PyData.strOk ("read" : Str) = true by decide +kernel, SeqAt.shaped, pyOf, pyOfs, PyData.canLay0, PyData.canLayAll0, PyData.depth, PyData.depthAll]
theorem shaped_row {k w : Str} (l c : Int) (hk : PyData.strOk k = true) (hw : PyData.strOk w = true) : SeqAt.shaped (pyOf (rowD k w l c)) = true := by simp [hk, hw, rowD, SeqAt.shaped, pyOf, pyOfs, PyData.canLay0, PyData.canLayAll0, PyData.depth, PyData.depthAll]
theorem okS_row {k w : Str} {l c : Int} : okS 2 (rowD k w l c) := by
  refine .inr ⟨_, rfl, by show 3 < 16000000; decide, fun e he => ?_⟩
  simp only [List.mem_cons, List.not_mem_nil, or_false] at he
  rcases he with rfl | rfl | rfl
  · exact .inl rfl
  · exact .inl rfl
  · refine .inr ⟨_, rfl, by show 2 < 16000000; decide, fun e he => ?_⟩
    simp only [List.mem_cons, List.not_mem_nil, or_false] at he
    rcases he with rfl | rfl <;> rfl
theorem okS_rows {ws xs : List (List Nat)} {p : Int × Int} : ∀ e ∈ rowsP p ws xs, okS 2 e := fun e he => by
  obtain ⟨y, _, rfl⟩ := List.mem_map.mp he
  exact okS_row
theorem rowsP_len {ws xs : List (List Nat)} {p : Int × Int} (h : ws.length ≤ 10) : (rowsP p ws xs).length ≤ 10 := by
  unfold rowsP
  rw [List.length_map, List.length_zip]
  omega
end KT
namespace KT
open PySem L2 DD
theorem run_small {c : Nat} (h : runSign c = true) : c < 1114112 := by
  have e1 : ∀ x ∈ ("abcdefghijklmnopqrstuvwxyz" : Str).cps.toList, x < 1114112 := by decide +kernel
  have e2 : ∀ x ∈ ("0123456789" : Str).cps.toList, x < 1114112 := by decide +kernel
  unfold runSign at h
  rcases Bool.or_eq_true_iff.mp h with h | h
  · exact e1 c (of_decide_eq_true h)
  · exact e2 c (of_decide_eq_true h)
theorem strOk_run {l : List Nat} (h : l.all runSign = true) : PyData.strOk (TX l) = true := by
  unfold PyData.strOk TX
  rw [List.all_toArray]
  exact List.all_eq_true.mpr fun c hc => decide_eq_true (run_small ((List.all_eq_true.mp h) c hc))
theorem strOk_kind {w : List Nat} {k : Str} (h : kindR w = some k) : PyData.strOk k = true := by
  unfold kindR kindW at h
  split at h
  · cases h; decide +kernel
  · split at h
    · cases h
    · unfold kindS at h
      split at h
      · cases h; decide +kernel
      · split at h
        · split at h
          · cases h; decide +kernel
          · cases h
        · split at h
          · cases h; decide +kernel
          · cases h
end KT
set_option Elab.async false
set_option linter.all false
set_option maxRecDepth 100000
set_option maxHeartbeats 4000000
namespace KT
open PySem L2 DD LamX
local macro_rules | `(tactic| walk_at "go") => `(tactic| first
  | with_reducible refine ss_seq ?_ | with_reducible refine ss_ret ?_ | with_reducible refine ss_if ?_ | with_reducible refine ss_set ?_ | with_reducible refine ss_drop ?_ | with_reducible refine ss_next ?_
  | with_reducible refine se_op ?_ | ((with_reducible refine' se_var ?h ?_); (case h => exact rfl)) | with_reducible refine se_int ?_ | with_reducible refine se_str ?_ | with_reducible refine se_bl ?_ | with_reducible refine se_non ?_ | with_reducible refine se_tup ?_ | with_reducible refine se_cb ?_ | with_reducible refine se_if ?_
  | with_reducible refine se_or ?_ | with_reducible refine se_and ?_ | with_reducible refine se_not ?_ | with_reducible refine se_sl ?_ | with_reducible refine so_none ?_ | with_reducible refine so_some ?_
  | with_reducible refine sa_cons ?_ | with_reducible refine sa_nil ?_ | with_reducible refine st_test ?_ | with_reducible refine st_B ?_ | with_reducible refine st_and ?_ | with_reducible refine st_or ?_ | with_reducible refine st_not ?_ | with_reducible refine st_yes ?_
  | with_reducible refine sg_name ?_ | with_reducible refine sg_tup rfl ?_ | with_reducible refine sgs_cons ?_ | with_reducible refine sgs_nil ?_
  | with_reducible refine sr_addI ?_ | with_reducible refine sr_sub ?_ | with_reducible refine sr_cmp ?_ | with_reducible refine sr_inS ?_ | with_reducible refine sr_ninS ?_
  | ((with_reducible refine' sr_eqS ?h ?_); (case h => exact rfl)) | ((with_reducible refine' sr_neS ?h ?_); (case h => exact rfl)) | ((with_reducible refine' sr_is ?h ?_); (case h => exact rfl)) | ((with_reducible refine' sr_isNot ?h ?_); (case h => exact rfl))
  | with_reducible refine sc_lenL ?_ | with_reducible refine sc_lenT ?_ | with_reducible refine sc_max2 ?_ | with_reducible refine sc_int ?_
  | with_reducible refine ⟨_, rfl, ?_⟩
  | with_reducible refine iteT ?_ | with_reducible refine iteF ?_ | with_reducible refine iteN1 ?_ | with_reducible refine iteN2 ?_)
local macro_rules | `(tactic| walk_at "walk") => `(tactic| repeat walk_at "go")
/-- the law's names: the script, the pen, the others -/
def envL (ns : List Int) (p : Addr) (os : Nat → Option D) : DD.Env := [some (.scr ns), some (.ref p), os 2, os 3, os 4, os 5, os 6, os 7, os 8, os 9, os 10, os 11, os 12, os 13, os 14, os 15, os 16, os 17, os 18, os 19, os 20, os 21, os 22]
theorem envL_of {ns : List Int} {p : Addr} : ∀ (ρ : DD.Env), ρ.length = 23 → ρ[0]? = some (some (.scr ns)) → ρ[1]? = some (some (.ref p)) → ∃ os, ρ = envL ns p os
  | [a0, a1, a2, a3, a4, a5, a6, a7, a8, a9, a10, a11, a12, a13, a14, a15, a16, a17, a18, a19, a20, a21, a22], _, h0, h1 => ⟨fun i => ([a0, a1, a2, a3, a4, a5, a6, a7, a8, a9, a10, a11, a12, a13, a14, a15, a16, a17, a18, a19, a20, a21, a22] : DD.Env).getD i none, by
      cases h0
      cases h1
      rfl⟩
theorem envL_ex {ns : List Int} {p : Addr} {ρ : DD.Env} {R : D → Prop} {d : D} (r : R d) (hl : ρ.length = 23) (h0 : ρ[0]? = some (some (.scr ns))) (h1 : ρ[1]? = some (some (.ref p))) : ∃ os d', ρ = envL ns p os ∧ R d' :=
  (envL_of ρ hl h0 h1).elim fun os e => ⟨os, d, e, r⟩
theorem gs_hit {ρ : DD.Env} {i : Nat} {v : Option D} (hi : Nat.blt i 23 = true) (hl : ρ.length = 23) : (ρ.set i v)[i]? = some v := List.getElem?_set_self (by rw [hl]; exact Nat.blt_eq.mp hi)
theorem gs_miss {ρ : DD.Env} {i j : Nat} {v : Option D} {x : Option (Option D)} (n : Nat.beq i j = false) (h : ρ[j]? = x) : (ρ.set i v)[j]? = x := by rw [List.getElem?_set_ne (Nat.ne_of_beq_eq_false n)]; exact h
theorem ln_set {ρ : DD.Env} {i : Nat} {v : Option D} (h : ρ.length = 23) : (ρ.set i v).length = 23 := by rw [List.length_set]; exact h
theorem envL_len {ns : List Int} {p : Addr} {os : Nat → Option D} : (envL ns p os).length = 23 := rfl
theorem envL_0 {ns : List Int} {p : Addr} {os : Nat → Option D} : (envL ns p os)[0]? = some (some (.scr ns)) := rfl
theorem envL_1 {ns : List Int} {p : Addr} {os : Nat → Option D} : (envL ns p os)[1]? = some (some (.ref p)) := rfl
local macro_rules | `(tactic| walk_at "get") => `(tactic| ((repeat (with_reducible refine gs_miss rfl ?_)); first | (with_reducible refine gs_hit rfl ?_; (repeat (with_reducible refine ln_set ?_)); with_reducible exact envL_len) | with_reducible exact envL_0 | with_reducible exact envL_1 | fail "get"))
local macro_rules | `(tactic| walk_at "go") => `(tactic| first
  | with_reducible refine ss_seq ?_ | with_reducible refine ss_ret ?_ | with_reducible refine ss_if ?_ | with_reducible refine ss_set ?_ | with_reducible refine ss_drop ?_ | with_reducible refine ss_next ?_
  | with_reducible refine se_op ?_ | ((with_reducible refine' se_var ?h ?_); (case h => walk_at "get")) | with_reducible refine se_int ?_ | with_reducible refine se_str ?_ | with_reducible refine se_bl ?_ | with_reducible refine se_non ?_ | with_reducible refine se_tup ?_ | with_reducible refine se_cb ?_ | with_reducible refine se_if ?_
  | with_reducible refine se_or ?_ | with_reducible refine se_and ?_ | with_reducible refine se_not ?_ | with_reducible refine se_sl ?_ | with_reducible refine so_none ?_ | with_reducible refine so_some ?_
  | with_reducible refine sa_cons ?_ | with_reducible refine sa_nil ?_ | with_reducible refine st_test ?_ | with_reducible refine st_B ?_ | with_reducible refine st_and ?_ | with_reducible refine st_or ?_ | with_reducible refine st_not ?_ | with_reducible refine st_yes ?_
  | with_reducible refine sg_name ?_ | with_reducible refine sg_tup rfl ?_ | with_reducible refine sgs_cons ?_ | with_reducible refine sgs_nil ?_
  | with_reducible refine sr_addI ?_ | with_reducible refine sr_sub ?_ | with_reducible refine sr_cmp ?_ | with_reducible refine sr_inS ?_ | with_reducible refine sr_ninS ?_
  | ((with_reducible refine' sr_eqS ?h ?_); (case h => exact rfl)) | ((with_reducible refine' sr_neS ?h ?_); (case h => exact rfl)) | ((with_reducible refine' sr_is ?h ?_); (case h => exact rfl)) | ((with_reducible refine' sr_isNot ?h ?_); (case h => exact rfl))
  | with_reducible refine sc_lenL ?_ | with_reducible refine sc_lenT ?_ | with_reducible refine sc_max2 ?_ | with_reducible refine sc_int ?_
  | with_reducible refine ⟨_, rfl, ?_⟩
  | with_reducible refine iteT ?_ | with_reducible refine iteF ?_ | with_reducible refine iteN1 ?_ | with_reducible refine iteN2 ?_)
local macro_rules | `(tactic| walk_at "get1") => `(tactic| ((with_reducible refine' se_var ?h ?_); (case h => walk_at "get")))
theorem sr_eqOpt {K : PySem.W.Frag} {E : XK} {Ed : XD} {μ : Store} {Q : D → Store → Prop} {o : Option Str} {z : Str} (q : Q (.bl (decide (o = some z))) μ) : SR K E Ed (rEqX K) (optS o) (.str z) μ Q := by
  refine sr_of (fun w v1 v2 ok e i1 i2 => ⟨_, .bl _, fun k h => .inl ?_⟩) q
  cases i2
  cases o with
  | none =>
    cases i1
    exact ⟨rfl, by rw [show decide (V.non = V.str z) = decide ((none : Option Str) = some z) by simp]; exact h⟩
  | some y =>
    cases i1
    exact ⟨rfl, by rw [show decide (V.str y = V.str z) = decide (some y = some z) by simp]; exact h⟩
theorem su_neg {K : PySem.W.Frag} {E : XK} {Ed : XD} {μ : Store} {Q : D → Store → Prop} {i : Int} (q : Q (.int (-i)) μ) : SU K E Ed (rU fun i => .int (-i)) (.int i) μ Q := by
  intro w v e ok h x k hk
  cases h
  exact ⟨i, rfl, hk _ _ w (e ▸ q) (.int _) ok (Wd.le.refl w)⟩
theorem passLam {X : Cx} {A : Around} {outer : List PySem.Env} {s : Shared} {H : Hp} {E : XK} {scope : Scope} {f c' : Addr} : Passes (L2.CX X.prog X.w) (lamCx X A outer s H E scope f c') E := passes_call (takes_of rfl rfl rfl rfl) fun _ _ _ _ h => h
def lamQ : Str := "law.<locals>.<lambda>"
section
variable {P : Program} {w : World} {K : PySem.W.Frag} {mg : Str → Option Value} {base : Heap}
theorem pe_hasL {X : Cx} {A : Around} {outer : List PySem.Env} {s : Shared} {H : Hp} {E : XK} {scope : Scope} {f c' : Addr} {k : Nat} {x : Str} {ps : List Str} {sp : Sp} {e : Expr} {es : List Expr} {t : TA} {p pos : Pos} (h : Has X.prog X.w X.K X.mg X.base k x ps sp)
    (hr : Room k (A.deeper (lamEnv X scope s.heap.objs.size f c'))) (hg : Gl (lamCx X A outer s H E scope f c') x) (ha : PA (lamCx X A outer s H E scope f c') (e :: es) t)
    (hdb : (x == ("__debug__" : Str)) = false := by decide) (he : starEach (e :: es) (lamEnv X scope s.heap.objs.size f c') = (false, eval e (lamEnv X scope s.heap.objs.size f c')) :: starEach es (lamEnv X scope s.heap.objs.size f c') := by rfl) (hpl : (backTo pos (starEach es (lamEnv X scope s.heap.objs.size f c'))).any (·.1) = false := by rfl) :
    PE (lamCx X A outer s H E scope f c') (.Call (.Name x p) (e :: es) [] pos) (tCall sp [] E t) := pe_has (X := lamCx X A outer s H E scope f c') h hr hg (passLam (X := X)) ha hdb he hpl
theorem pe_lam1q {X : Cx} {TT : (XK → Hp → VK → Prop) → Hp → VK → Prop} {x a : Str} {g c P : Addr} {k : Nat} {pg : Arguments} {bg : List Stmt} {sg : Scope} {dV kV doc pm cdv ct oc : Value} {an od : Option Addr} {osl : Array (Option Value)} {Ng : List Str} {q : Str}
    {params : Arguments} {body : Expr} {scope : Scope} {t : XK → TE} {p lpos pos : Pos} (hq : X.env.qual ++ "<lambda>" = q) (gl : Gl X x) (hm : X.mg x = some (.ref g)) (kp : PySem.W.keepIn X.K (.ref g) = true)
    (lk : X.K.lookup g = some ⟨oc, od, .func (PySem.W.fnOf x x pg bg sg dV kV doc pm an cdv ct), osl⟩) (cg : PySem.W.codeIn X.K cdv x = true) (bi : L2.Binds X.K (PySem.W.fnOf x x pg bg sg dV kV doc pm an cdv ct) [a] []) (Sg : FnScope Ng [a] sg) (na : Ng[0]? = some a) (va : Vis sg a)
    (gives : GivesTo X Ng x sg g cdv bg a q TT) (TB : TabB X.base X.mg c P) (code : X.env.code = .ref c) (hr : Room (k + 2) X.A) (L : LamS X.env.scope scope) (nodef : defaultsOf params X.env = ([], []))
    (bind : ∀ (q : Str) (cl : List (Str × Addr)) (pm cv ctv : Value), bindArgs (PySem.W.kla_fn "<lambda>" q params body scope cl pm cv ctv) ⟨[], []⟩ = pure [])
    (inner : ∀ (A : Around) (outer : List PySem.Env) (s : Shared) (H : Hp) (E : XK) (f c' : Addr), Room k (A.deeper (lamEnv X scope s.heap.objs.size f c')) → PE (lamCx X A outer s H E scope f c') body (t E))
    (hdb : (x == ("__debug__" : Str)) = false := by decide) (hd : (a == ("__debug__" : Str)) = false := by decide) (hcd : (a == ("__classdict__" : Str)) = false := by decide) :
    PE X (.Call (.Name x p) [.Lambda params body scope lpos] [] pos) (tLam1 P q TT t) := by
  subst hq
  exact pe_lam1 gl hm kp lk cg bi Sg na va gives TB code hr L nodef bind inner hdb hd hcd
def relS (scope sc : Scope) : Scope := { scope with names := scope.names.map fun (n, k) => if (k == NameKind.free && sc.kind == .function && sc.names.lookup n == some .cell) then (n, NameKind.cell) else (n, k) }
theorem lamS_rel {X : Cx} {s : Shared} {H : Hp} {fp : List Addr} {cl : List (Str × Addr)} {C : Addr} {scopeC sc l : Scope} (hs : X.env.scope = sc) (h : lamSB (relS scopeC sc) l = true) : LamS (X.blk s H scopeC (compEnvC scopeC cl C X.env) fp).env.scope l := by
  subst hs
  exact lamS_by h
theorem fn_DL {x qual : Str} {st : Stmt} {f c : Addr} {N ps : List Str} {k : Nat} {F : FD} {oc kV doc pm ct : Value} {od an : Option Addr} {osl : Array (Option Value)}
    (lk : K.lookup f = some ⟨oc, od, .func (PySem.W.fnOf x qual (defArgs st) (defBody st) (defScope st) .none kV doc pm an (.ref c) ct), osl⟩) (hcd : PySem.W.codeIn K (.ref c) qual = true) (Sc : FnScope N ps (defScope st)) (len : ∀ ds μ Q Ed, F ds μ Q Ed → ds.length = ps.length)
    (hbody : ∀ (A : Around) (outer : List PySem.Env) (s : Shared) (H : Hp) (E : XK), Room k (A.deeper (PyProof.Rows.envOfC qual (defScope st) s.heap.objs.size f (.ref c))) →
      ∃ t, PSs (cxOf (L2.CX P w) P w K mg base N qual (defScope st) f (.ref c) A outer s H E) (defBody st) t ∧ ∀ ds μ Qd Ed, F ds μ Qd Ed → SS K E Ed t (startE N ds) μ ⟨fun _ μ' => Qd .non μ', Qd, fun _ _ => False, fun _ _ => False⟩) :
    FnOk P w K mg base (L2.CX P w) (k + 1) f (PySem.W.fnOf x qual (defArgs st) (defBody st) (defScope st) .none kV doc pm an (.ref c) ct) ps (spD K F) := by
  refine fn_of lk hcd Sc (fun vs H Q E h => ?_) fun A outer s H vs Q E hr h => ?_
  · obtain ⟨w', ds, Qd, Ed, _, _, ia, hF, _⟩ := h
    rw [ia.length]
    exact len _ _ _ _ hF
  · obtain ⟨t, ht, hs⟩ := hbody A outer s H E hr
    refine ⟨t, ht, ?_⟩
    obtain ⟨w', ds, Qd, Ed, rfl, ok, ia, hF, hk, hx⟩ := h
    exact hs ds w'.μ Qd Ed hF w' _ rfl ok (startE_loc ia) hx _ ⟨fun σ ρ w2 q lo ok2 l2 => hk .non .non w2 q .non ok2 l2, fun v d w2 q i ok2 l2 => hk v d w2 q i ok2 l2, fun _ _ _ q => q.elim, fun _ _ _ q => q.elim⟩
def F_law (Pt : Addr) : FD := fun ds μ Q Ed => ∃ ns : List Int, ds = [.scr ns] ∧ ns.length ≤ 63 ∧ μ = [(Pt, .str lamQ)] ∧ ∀ μ', Q (.bl true) μ'
theorem sc_law : FnScope ["script", "pen", "lap", "word", "value", "told", "one", "first", "end", "other", "second", "last", "gap", "line", "column", "due", "here", "run", "more", "kind", "bad", "behind", "turn"] ["script"] (defScope (top 41)) := ⟨rfl, rfl, rfl, by decide +kernel, rfl, by decide +kernel, by decide +kernel⟩
theorem ok_law {f c Pt M gW : Addr} {oc kV doc pm ct ocW kVW docW pmW cdW ctW : Value} {od an odW anW : Option Addr} {osl oslW : Array (Option Value)}
    (lk : K.lookup f = some ⟨oc, od, .func (PySem.W.fnOf "law" "law" (defArgs (top 41)) (defBody (top 41)) (defScope (top 41)) .none kV doc pm an (.ref c) ct), osl⟩) (hcd : PySem.W.codeIn K (.ref c) "law" = true)
    (G : LGlob mg) (WT : WhyT K mg M) (TB : TabB base mg c Pt)
    (Wm : mg "_law_why" = some (.ref gW)) (Wk : PySem.W.keepIn K (.ref gW) = true) (Wl : K.lookup gW = some ⟨ocW, odW, .func (PySem.W.fnOf "_law_why" "_law_why" (defArgs (top 32)) (defBody (top 32)) (defScope (top 32)) .none kVW docW pmW anW cdW ctW), oslW⟩) (Wc : PySem.W.codeIn K cdW "_law_why" = true)
    (Wb : Binds K (PySem.W.fnOf "_law_why" "_law_why" (defArgs (top 32)) (defBody (top 32)) (defScope (top 32)) .none kVW docW pmW anW cdW ctW) ["call"] [])
    (H_tokens : Has P w K mg base 4 "tokens" ["text"] (spD K (F_tokens M))) (H_is_name : Has P w K mg base 3 "is_name" ["value"] (spD K F_is_name))
    (H__law_pen : Has P w K mg base 1 "_law_pen" ["script"] (spD K F_pen)) (H__law_draw : Has P w K mg base 1 "_law_draw" ["pen", "many"] (spD K F_draw)) (H__law_pick : Has P w K mg base 2 "_law_pick" ["pen", "some"] (spD K F_pick)) (H__law_name : Has P w K mg base 2 "_law_name" ["pen", "index"] (spD K F_name))
    (H__law_same : Has P w K mg base 5 "_law_same" ["told", "due"] (spD K (F_same 4))) (H__law_keys : Has P w K mg base 1 "_law_keys" [] (spD K F_keys))
    (H__law_behind_text : Has P w K mg base 1 "_law_behind_text" ["place", "text"] (spD K F_behind)) (H__law_kind_of : Has P w K mg base 2 "_law_kind_of" ["run"] (spD K F_lkind)) (H__law_run : Has P w K mg base 3 "_law_run" ["pen"] (spD K F_run))
    (H__law_text_of : Has P w K mg base 4 "_law_text_of" ["pen", "many"] (spD K F_text)) (H__law_moved : Has P w K mg base 1 "_law_moved" ["rows", "line", "column"] (spD K F_moved)) :
    FnOk P w K mg base (L2.CX P w) 7 f (PySem.W.fnOf "law" "law" (defArgs (top 41)) (defBody (top 41)) (defScope (top 41)) .none kV doc pm an (.ref c) ct) ["script"] (spD K (F_law Pt)) := by
  have N_len := G.len
  have N_range := G.range
  have N_tuple := G.tuple
  refine fn_DL lk hcd sc_law (fun ds μ Q Ed ⟨ns, e, _⟩ => by rw [e]; rfl) fun A outer s H E hr => ?_
  have nd := sc_law.nd
  have hu65 : (A.deeper (PyProof.Rows.envOfC "law" (defScope (top 41)) s.heap.objs.size f (.ref c))).units + 65 < cLine := by have := hr.un; omega
  have hu64 : (A.deeper (PyProof.Rows.envOfC "law" (defScope (top 41)) s.heap.objs.size f (.ref c))).units + 64 < cLine := by have := hr.un; omega
  have hu1 : (A.deeper (PyProof.Rows.envOfC "law" (defScope (top 41)) s.heap.objs.size f (.ref c))).units + 1 < cLine := by have := hr.un; omega
  refine ⟨_, (pss_cons (ps_set (i := 1) nd rfl (Or.inr rfl) (pe_has H__law_pen (hr.mono (by first | decide | omega)) rfl passX (pa_cons (pv 0) pa_nil)))
      (pss_cons (ps_for ownX rfl (pi_range1 rfl N_range (pa_cons pe_int pa_nil)) (pg_name (i := 2) nd rfl (Or.inl rfl)) (pss_cons (ps_asg (pe_has H__law_text_of (hr.mono (by first | decide | omega)) rfl passX (pa_cons (pv 1) (pa_cons (pe_op (op_addK (K := K) rfl) pe_int (pe_has H__law_draw (hr.mono (by first | decide | omega)) rfl passX (pa_cons (pv 1) (pa_cons pe_int pa_nil)))) pa_nil))) (pg_tupK (K := K) (n := 3) rfl rfl (pgs_cons (pg_name (i := 6) nd rfl (Or.inr rfl)) (pgs_cons (pg_name (i := 7) nd rfl (Or.inl rfl)) (pgs_cons (pg_name (i := 8) nd rfl (Or.inl rfl)) pgs_nil)))))
      (pss_cons (ps_asg (pe_has H__law_text_of (hr.mono (by first | decide | omega)) rfl passX (pa_cons (pv 1) (pa_cons (pe_op (op_addK (K := K) rfl) pe_int (pe_has H__law_draw (hr.mono (by first | decide | omega)) rfl passX (pa_cons (pv 1) (pa_cons pe_int pa_nil)))) pa_nil))) (pg_tupK (K := K) (n := 3) rfl rfl (pgs_cons (pg_name (i := 9) nd rfl (Or.inr rfl)) (pgs_cons (pg_name (i := 10) nd rfl (Or.inl rfl)) (pgs_cons (pg_name (i := 11) nd rfl (Or.inl rfl)) pgs_nil)))))
      (pss_cons (ps_if (pt_not (pt_val (pe_has H__law_same (hr.mono (by first | decide | omega)) rfl passX (pa_cons (pe_has H_tokens (hr.mono (by first | decide | omega)) rfl passX (pa_cons (pv 6) pa_nil)) (pa_cons (pe_callTy (call_tupleK (K := K) rfl) (by rfl) N_tuple b_tuple (pa_cons (pe_op (op_addK (K := K) rfl) (pv 7) (pe_lst (pa_cons (pe_tup (pa_cons pe_str (pa_cons pe_str (pa_cons (pv 8) pa_nil)))) pa_nil))) pa_nil)) pa_nil))))) (pss_one (ps_ret pe_bl)) pss_nil)
      (pss_cons (ps_set (i := 12) nd rfl (Or.inr rfl) (pe_has H__law_pick (hr.mono (by first | decide | omega)) rfl passX (pa_cons (pv 1) (pa_cons (pe_lst (pa_cons pe_str (pa_cons pe_str (pa_cons pe_str (pa_cons pe_str (pa_cons pe_str pa_nil)))))) pa_nil))))
      (pss_cons (ps_if (pt_cmpR (op_inK (K := K) rfl hu65) pe_str (pe_ix (ix_K (K := K) rfl) (pe_split (pv 6) pe_str) (pe_un un_neg pe_int) (fun _ _ => rfl)) (by rfl)) (pss_one (ps_set (i := 12) nd rfl (Or.inr rfl) pe_str)) pss_nil)
      (pss_cons (ps_asg (pe_has H__law_behind_text (hr.mono (by first | decide | omega)) rfl passX (pa_cons (pe_tup (pa_cons pe_int (pa_cons pe_int pa_nil))) (pa_cons (pe_op (op_addK (K := K) rfl) (pv 6) (pv 12)) pa_nil))) (pg_tupK (K := K) (n := 2) rfl rfl (pgs_cons (pg_name (i := 13) nd rfl (Or.inl rfl)) (pgs_cons (pg_name (i := 14) nd rfl (Or.inl rfl)) pgs_nil))))
      (pss_cons (ps_set (i := 15) nd rfl (Or.inl rfl) (pe_op (op_addK (K := K) rfl) (pv 7) (pe_has H__law_moved (hr.mono (by first | decide | omega)) rfl passX (pa_cons (pv 10) (pa_cons (pv 13) (pa_cons (pv 14) pa_nil))))))
      (pss_cons (ps_set (i := 16) nd rfl (Or.inl rfl) (pe_has H__law_behind_text (hr.mono (by first | decide | omega)) rfl passX (pa_cons (pe_tup (pa_cons pe_int (pa_cons pe_int pa_nil))) (pa_cons (pe_op (op_addK (K := K) rfl) (pe_op (op_addK (K := K) rfl) (pv 6) (pv 12)) (pv 9)) pa_nil))))
      (pss_cons (ps_if (pt_not (pt_val (pe_has H__law_same (hr.mono (by first | decide | omega)) rfl passX (pa_cons (pe_has H_tokens (hr.mono (by first | decide | omega)) rfl passX (pa_cons (pe_op (op_addK (K := K) rfl) (pe_op (op_addK (K := K) rfl) (pv 6) (pv 12)) (pv 9)) pa_nil)) (pa_cons (pe_callTy (call_tupleK (K := K) rfl) (by rfl) N_tuple b_tuple (pa_cons (pe_op (op_addK (K := K) rfl) (pv 15) (pe_lst (pa_cons (pe_tup (pa_cons pe_str (pa_cons pe_str (pa_cons (pv 16) pa_nil)))) pa_nil))) pa_nil)) pa_nil))))) (pss_one (ps_ret pe_bl)) pss_nil)
      (pss_cons (ps_asg (pe_tup (pa_cons (pe_has H__law_name (hr.mono (by first | decide | omega)) rfl passX (pa_cons (pv 1) (pa_cons pe_int pa_nil))) (pa_cons (pe_has H__law_pick (hr.mono (by first | decide | omega)) rfl passX (pa_cons (pv 1) (pa_cons (pe_lst (pa_cons pe_str (pa_cons pe_str (pa_cons pe_str (pa_cons pe_str (pa_cons pe_str pa_nil)))))) pa_nil))) pa_nil))) (pg_tupK (K := K) (n := 2) rfl rfl (pgs_cons (pg_name (i := 17) nd rfl (Or.inr rfl)) (pgs_cons (pg_name (i := 18) nd rfl (Or.inr rfl)) pgs_nil))))
      (pss_cons (ps_set (i := 19) nd rfl (Or.inl rfl) (pe_has H__law_kind_of (hr.mono (by first | decide | omega)) rfl passX (pa_cons (pe_op (op_addK (K := K) rfl) (pv 17) (pv 18)) pa_nil)))
      (pss_cons (ps_if (pt_cmpR op_isX (pv 19) pe_non (by rfl)) (pss_one (ps_if (pt_cmpR (op_neK (K := K) rfl hu64) (pe_lam1q (k := 4) (q := "law.<locals>.<lambda>") rfl rfl Wm Wk Wl Wc Wb sc__law_why rfl (by first | exact Or.inl rfl | exact Or.inr (Or.inl rfl)) (why_gives WT) TB rfl (hr.mono (by first | decide | omega)) (lamS_by (sc := defScope (top 41)) (by decide +kernel)) rfl (fun _ _ _ _ _ => rfl) (fun _ _ _ _ _ _ _ hr' => (pe_hasL H_tokens (hr'.mono (by first | decide | omega)) rfl (pa_cons (pe_op (op_addK (K := K) rfl) (pe_op (op_addK (K := K) rfl) (pe_op (op_addK (K := K) rfl) (pv 6) (pv 12)) (pv 17)) (pv 18)) pa_nil)))) (pe_tup (pa_cons pe_str (pa_cons (pv 13) (pa_cons (pv 14) pa_nil)))) (by rfl)) (pss_one (ps_ret pe_bl)) pss_nil)) (pss_one (ps_if (pt_cmpR (op_neK (K := K) rfl hu64) (pe_ix (ix_K (K := K) rfl) (pe_has H_tokens (hr.mono (by first | decide | omega)) rfl passX (pa_cons (pe_op (op_addK (K := K) rfl) (pe_op (op_addK (K := K) rfl) (pe_op (op_addK (K := K) rfl) (pv 6) (pv 12)) (pv 17)) (pv 18)) pa_nil)) (pe_callB (call_lenK (K := K) rfl) (by rfl) N_len b_len (pa_cons (pv 7) pa_nil)) (fun _ _ => rfl)) (pe_tup (pa_cons (pv 19) (pa_cons (pe_op (op_addK (K := K) rfl) (pv 17) (pv 18)) (pa_cons (pe_tup (pa_cons (pv 13) (pa_cons (pv 14) pa_nil))) pa_nil)))) (by rfl)) (pss_one (ps_ret pe_bl)) pss_nil)))
      (pss_cons (ps_set (i := 20) nd rfl (Or.inr rfl) (pe_has H__law_pick (hr.mono (by first | decide | omega)) rfl passX (pa_cons (pv 1) (pa_cons (pe_lst (pa_cons pe_str (pa_cons pe_str (pa_cons pe_str (pa_cons pe_str (pa_cons pe_str (pa_cons pe_str (pa_cons pe_str (pa_cons pe_str (pa_cons pe_str (pa_cons pe_str pa_nil))))))))))) pa_nil))))
      (pss_cons (ps_set (i := 21) nd rfl (Or.inr rfl) (pe_has H__law_pick (hr.mono (by first | decide | omega)) rfl passX (pa_cons (pv 1) (pa_cons (pe_lst (pa_cons pe_str (pa_cons pe_str (pa_cons pe_str (pa_cons pe_str (pa_cons pe_str pa_nil)))))) pa_nil))))
      (pss_cons (ps_if (pt_cmpR (op_neK (K := K) rfl hu64) (pe_lam1q (k := 4) (q := "law.<locals>.<lambda>") rfl rfl Wm Wk Wl Wc Wb sc__law_why rfl (by first | exact Or.inl rfl | exact Or.inr (Or.inl rfl)) (why_gives WT) TB rfl (hr.mono (by first | decide | omega)) (lamS_by (sc := defScope (top 41)) (by decide +kernel)) rfl (fun _ _ _ _ _ => rfl) (fun _ _ _ _ _ _ _ hr' => (pe_hasL H_tokens (hr'.mono (by first | decide | omega)) rfl (pa_cons (pe_op (op_addK (K := K) rfl) (pe_op (op_addK (K := K) rfl) (pe_op (op_addK (K := K) rfl) (pv 6) (pv 12)) (pv 20)) (pv 21)) pa_nil)))) (pe_tup (pa_cons pe_str (pa_cons (pv 13) (pa_cons (pv 14) pa_nil)))) (by rfl)) (pss_one (ps_ret pe_bl)) pss_nil)
      (pss_cons (ps_if (pt_cmpR op_isNotX (pe_lam1q (k := 4) (q := "law.<locals>.<lambda>") rfl rfl Wm Wk Wl Wc Wb sc__law_why rfl (by first | exact Or.inl rfl | exact Or.inr (Or.inl rfl)) (why_gives WT) TB rfl (hr.mono (by first | decide | omega)) (lamS_by (sc := defScope (top 41)) (by decide +kernel)) rfl (fun _ _ _ _ _ => rfl) (fun _ _ _ _ _ _ _ hr' => (pe_hasL H_tokens (hr'.mono (by first | decide | omega)) rfl (pa_cons (pe_op (op_addK (K := K) rfl) (pe_op (op_addK (K := K) rfl) (pe_op (op_addK (K := K) rfl) (pe_op (op_addK (K := K) rfl) (pv 6) pe_str) (pv 20)) pe_str) (pv 9)) pa_nil)))) pe_non (by rfl)) (pss_one (ps_ret pe_bl)) pss_nil)
      (pss_one (ps_for ownX rfl (pi_anyK (K := K) rfl (pe_lc (own := [("turn", 22)]) rfl nd (pi_range1 rfl N_range (pa_cons pe_int pa_nil)) (blkOk_by (N := ["script", "pen", "lap", "word", "value", "told", "one", "first", "end", "other", "second", "last", "gap", "line", "column", "due", "here", "run", "more", "kind", "bad", "behind", "turn"]) (sc := defScope (top 41)) (by decide +kernel)) (fun _ _ _ _ _ => (pg_name (i := 22) nd rfl (Or.inl rfl))) (fun _ _ _ _ _ => pts_nil) (fun _ _ _ _ _ => (pe_has H__law_run (hr.mono (by first | decide | omega)) rfl passL (pa_cons (pv 1) pa_nil))))) (pg_name (i := 17) nd rfl (Or.inr rfl)) (pss_one (ps_if (pt_not (pt_val (pe_has H__law_same (hr.mono (by first | decide | omega)) rfl passX (pa_cons (pe_has H_is_name (hr.mono (by first | decide | omega)) rfl passX (pa_cons (pv 17) pa_nil)) (pa_cons (pe_cmpR (op_eqK (K := K) rfl hu64) (pe_has H__law_kind_of (hr.mono (by first | decide | omega)) rfl passX (pa_cons (pv 17) pa_nil)) pe_str (by rfl)) pa_nil))))) (pss_one (ps_ret pe_bl)) pss_nil)))))))))))))))))))))
      (pss_cons (ps_for ownX rfl (pi_anyK (K := K) rfl (pe_has0 H__law_keys (hr.mono (by first | decide | omega)) rfl passX)) (pg_name (i := 3) nd rfl (Or.inl rfl)) (pss_one (ps_if (PW.pt (pw_or (pt_cmpR op_isNotX (pe_has H_is_name (hr.mono (by first | decide | omega)) rfl passX (pa_cons (pv 3) pa_nil)) pe_bl (by rfl)) (pw_or (pt_cmpR (op_neK (K := K) rfl hu64) (pe_ix (ix_K (K := K) rfl) (pe_ix (ix_K (K := K) rfl) (pe_has H_tokens (hr.mono (by first | decide | omega)) rfl passX (pa_cons (pv 3) pa_nil)) pe_int (fun _ _ => rfl)) pe_int (fun _ _ => rfl)) pe_str (by rfl)) (pw_or1 (pt_cmpR op_isNotX (pe_has H_is_name (hr.mono (by first | decide | omega)) rfl passX (pa_cons (pe_op (op_addK (K := K) rfl) (pv 3) pe_str) pa_nil)) pe_bl (by rfl)))))) (pss_one (ps_ret pe_bl)) pss_nil)))
      (pss_cons (ps_for ownX rfl (pi_anyK (K := K) rfl (pe_lst (pa_cons pe_non (pa_cons pe_int (pa_cons pe_str (pa_cons (pe_tup (pa_cons pe_str pa_nil)) (pa_cons (pe_lst (pa_cons pe_str pa_nil)) (pa_cons pe_str (pa_cons pe_str (pa_cons pe_str (pa_cons pe_str (pa_cons pe_str pa_nil)))))))))))) (pg_name (i := 4) nd rfl (Or.inl rfl)) (pss_one (ps_if (pt_cmpR op_isNotX (pe_has H_is_name (hr.mono (by first | decide | omega)) rfl passX (pa_cons (pv 4) pa_nil)) pe_bl (by rfl)) (pss_one (ps_ret pe_bl)) pss_nil)))
      (pss_cons (ps_setLc (i := 5) (own := [("value", 4)]) rfl nd rfl rfl (sw_true rfl rfl rfl (by decide +kernel)) (pi_anyK (K := K) rfl (pe_lst (pa_cons pe_non (pa_cons pe_int (pa_cons (pe_tup (pa_cons pe_str pa_nil)) pa_nil))))) (blkOk_by (N := ["script", "pen", "lap", "word", "value", "told", "one", "first", "end", "other", "second", "last", "gap", "line", "column", "due", "here", "run", "more", "kind", "bad", "behind", "turn"]) (sc := defScope (top 41)) (by decide +kernel)) (fun _ _ _ _ _ => (pg_name (i := 4) nd rfl (Or.inr rfl))) (fun _ _ _ _ _ => pts_nil) (fun _ _ _ _ _ => (pe_lam1q (k := 4) (q := "law.<locals>.<lambda>") rfl rfl Wm Wk Wl Wc Wb sc__law_why rfl (by first | exact Or.inl rfl | exact Or.inr (Or.inl rfl)) (why_gives WT) TB rfl (hr.mono (by first | decide | omega)) (lamS_rel (sc := defScope (top 41)) rfl (by decide +kernel)) rfl (fun _ _ _ _ _ => rfl) (fun _ _ _ _ _ _ _ hr' => (pe_hasL H_tokens (hr'.mono (by first | decide | omega)) rfl (pa_cons (pv 4) pa_nil))))))
      (pss_one (ps_ret (pe_and (pe_cmpR (op_eqK (K := K) rfl hu64) (pv 5) (pe_op op_mulX (pe_lst (pa_cons (pe_tup (pa_cons pe_str (pa_cons pe_int (pa_cons pe_int pa_nil)))) pa_nil)) pe_int) (by rfl)) (pe_and (pe_cmpR (op_eqK (K := K) rfl hu64) (pe_has H_tokens (hr.mono (by first | decide | omega)) rfl passX (pa_cons pe_str pa_nil)) (pe_tup (pa_cons (pe_tup (pa_cons pe_str (pa_cons pe_str (pa_cons (pe_tup (pa_cons pe_int (pa_cons pe_int pa_nil))) pa_nil)))) pa_nil)) (by rfl)) (pe_one (pe_cmpR (op_eqK (K := K) rfl hu64) (pe_ix (ix_K (K := K) rfl) (pe_has H_tokens (hr.mono (by first | decide | omega)) rfl passX (pa_cons pe_str pa_nil)) (pe_un un_neg pe_int) (fun _ _ => rfl)) (pe_tup (pa_cons pe_str (pa_cons pe_str (pa_cons (pe_tup (pa_cons pe_int (pa_cons pe_int pa_nil))) pa_nil)))) (by rfl)))))))))))), ?_⟩
  rintro ds μ Qd Ed ⟨ns, rfl, hns, rfl, q⟩
  have s16 := size16
  refine ss_seq (ss_set (se_call ?_))
  walk_at "walk"
  refine ⟨[], _, rfl, ns, rfl, hns, fun p d0 hp0 => ?_⟩
  refine ss_mid (fun ρ' μ' => ∃ os d', ρ' = envL ns p os ∧ μ' = [(p, d'), (Pt, .str lamQ)]) ?_ ?_
  · refine ss_for (js := [2]) (si_rng1 ?_)
    walk_at "walk"
    refine ⟨by decide, by decide, fun i ρ' μ' => ∃ os d', ρ' = envL ns p os ∧ μ' = [(p, d'), (Pt, .str lamQ)] ∧ PenOk (i * 1000) d', ?_, ?_, ?_⟩
    · exact envL_ex (d := d0) ⟨rfl, hp0⟩ rfl rfl rfl
    · rintro i e ρ' μ' he ⟨os, d', rfl, rfl, hp⟩
      have hi : i < 6 := by
        have := (List.getElem?_eq_some_iff.mp he).1
        simpa [rangeD] using this
      have hB : i * 1000 + 1000 < BIG := by have : BIG = 1000000000000 := rfl; omega
      generalize hin : i * 1000 = n at hp hB
      refine sg_name ?_
      generalize hos : ((envL ns p os).set 2 (some e)) = ρ0
      have e0 := envL_of (ns := ns) (p := p) _ (show ρ0.length = 23 by rw [← hos]; rfl) (by rw [← hos]; rfl) (by rw [← hos]; rfl)
      clear hos he
      obtain ⟨os, rfl⟩ := e0
      refine ss_seq (ss_asg (js := [6] ++ ([7] ++ ([8] ++ []))) (se_call ?_))
      walk_at "walk"
      refine se_call ?_
      walk_at "walk"
      refine ⟨[(p, d')], [(Pt, .str lamQ)], rfl, p, d', n, _, rfl, rfl, hp, by omega, by decide, by decide, fun r1 d1 hr1 hp1 => ?_⟩
      walk_at "walk"
      refine ⟨[(p, d1)], [(Pt, .str lamQ)], rfl, p, d1, n + 1, _, rfl, rfl, hp1, by omega, by omega, by omega, fun ws xs L d2 hws lay hL hp2 => ?_⟩
      refine sg_tup rfl (sgs_cons (sg_name (sgs_cons (sg_name (sgs_cons (sg_name (sgs_nil ?_)))))))
      refine ss_seq (ss_asg (js := [9] ++ ([10] ++ ([11] ++ []))) (se_call ?_))
      walk_at "walk"
      refine se_call ?_
      walk_at "walk"
      refine ⟨[(p, d2)], [(Pt, .str lamQ)], rfl, p, d2, n + 201, _, rfl, rfl, hp2.mono (by omega), by omega, by decide, by decide, fun r2 d3 hr2 hp3 => ?_⟩
      walk_at "walk"
      refine ⟨[(p, d3)], [(Pt, .str lamQ)], rfl, p, d3, n + 202, _, rfl, rfl, hp3.mono (by omega), by omega, by omega, by omega, fun ws2 xs2 L2 d4 hws2 lay2 hL2 hp4 => ?_⟩
      refine sg_tup rfl (sgs_cons (sg_name (sgs_cons (sg_name (sgs_cons (sg_name (sgs_nil ?_)))))))
      have rl := rowsP_len (xs := xs) (p := (1, 1)) hws.1
      have lTX : ∀ l : List Nat, l.length ≤ 100000 → (TX l).length ≤ 100000 := fun l h => by rw [len_TX]; exact h
      refine ss_seq (ss_if (st_not (st_B (se_call (sa_cons (se_call ?_))))))
      walk_at "walk"
      refine ⟨[], _, rfl, _, rfl, .inl ⟨L, _, rfl, by omega, lay.scan, ?_⟩⟩
      refine sa_cons (se_cb ?_)
      refine sa_cons (se_op ?_)
      walk_at "get1"
      refine se_lst ?_
      walk_at "walk"
      refine ⟨by show 3 ≤ sizeLine; decide, ?_⟩
      walk_at "walk"
      refine ⟨by show 1 ≤ sizeLine; decide, ?_⟩
      refine sr_addL (by show _ + 1 ≤ _; omega) ?_
      walk_at "walk"
      refine sc_tuple (.inl rfl) ?_
      refine sa_nil ⟨[], _, rfl, _, rfl, .inr ⟨_, rfl, by rw [List.length_append]; show _ + 1 < _; omega, fun e he => ?_⟩, ?_⟩
      · rcases List.mem_append.mp he with h | h
        · exact okS_rows _ h
        · rw [List.mem_singleton.mp h]
          exact okS_row
      refine ⟨_, rfl, ?_⟩
      refine iteN2 (ss_next ?_)
      refine ss_seq (ss_set (se_call ?_))
      walk_at "walk"
      refine se_lst ?_
      walk_at "walk"
      refine ⟨by show 5 ≤ sizeLine; decide, ?_⟩
      walk_at "walk"
      refine ⟨[(p, d4)], [(Pt, .str lamQ)], rfl, p, d4, n + 402, _, rfl, rfl, hp4.mono (by omega), by omega, by simp, by simp, fun x d5 hx hp5 => ?_⟩
      have hx : x ∈ betwS.map D.str := hx
      obtain ⟨z, hz, rfl⟩ := List.mem_map.mp hx
      have z1 := betw_ok z hz
      refine ss_mid (fun ρ' μ' => ∃ g : List Nat, ρ' = (((((((envL ns p os).set 6 (some (.str (TX L)))).set 7 (some (.lst (rowsP (1, 1) ws xs)))).set 8 (some (placeD (behind (1, 1) L)))).set 9 (some (.str (TX L2)))).set 10 (some (.lst (rowsP (1, 1) ws2 xs2)))).set 11 (some (placeD (behind (1, 1) L2)))).set 12 (some (.str (TX g))) ∧ μ' = [(p, d5), (Pt, .str lamQ)] ∧ GapL L g) ?_ ?_
      · refine ss_if (st_test (se_op (se_str (se_op (se_m1 ?_)))))
        walk_at "walk"
        refine sm_split (by decide +kernel) (by rw [len_TX]; omega) ?_
        refine se_un (se_int (su_neg ?_))
        obtain ⟨r, hr⟩ := split_last L
        rw [hr, List.map_append]
        refine sr_ixL (atI_last _ _) ?_
        rw [num_one]
        refine sr_inS ?_
        rw [tl_TX]
        refine ⟨_, rfl, ?_⟩
        by_cases c1 : 35 ∈ lastLine L
        · rw [decide_eq_true (List.mem_reverse.mpr c1)]
          refine iteT (ss_set (se_str ?_))
          exact ⟨[10], by rw [← lf_one]; rfl, rfl, GapL.of lf_ok fun _ => rfl⟩
        · rw [decide_eq_false (fun y => c1 (List.mem_reverse.mp y))]
          refine iteF (ss_next ?_)
          exact ⟨z.cps.toList, by rw [TX_tl], rfl, GapL.of z1 fun y => absurd y c1⟩
      rintro ρ' μ' ⟨g, rfl, rfl, G0⟩
      have gl := G0.len
      refine ss_seq (ss_asg (js := [13] ++ ([14] ++ [])) (se_call ?_))
      walk_at "walk"
      refine ⟨by show 2 ≤ sizeLine; decide, ?_⟩
      walk_at "walk"
      refine sr_addS (by rw [len_TX, len_TX]; omega) ?_
      rw [TX_app]
      walk_at "walk"
      refine ⟨[], _, rfl, (1, 1), L ++ g, rfl, ?_⟩
      have hlg : (L ++ g).length ≤ 11000 := by rw [List.length_append]; omega
      have lexs := fun v r => G0.scan (v := v) (r := r) lay
      have two := G0.two lay lay2
      generalize hpl : behind (1, 1) (L ++ g) = pl at lexs two
      obtain ⟨l0, c0⟩ := pl
      refine sg_tup rfl (sgs_cons (sg_name (sgs_cons (sg_name (sgs_nil ?_)))))
      refine ss_seq (ss_set (se_op ?_))
      walk_at "get1"
      refine se_call ?_
      walk_at "walk"
      refine ⟨[], _, rfl, ws2, xs2, l0, c0, rfl, hws2.1, ?_⟩
      have rl2 := rowsP_len (xs := xs2) (p := (l0, c0)) hws2.1
      refine sr_addL (by omega) ?_
      refine ss_seq (ss_set (se_call ?_))
      walk_at "walk"
      refine ⟨by show 2 ≤ sizeLine; decide, ?_⟩
      walk_at "walk"
      refine sr_addS (by rw [len_TX, len_TX]; omega) ?_
      rw [TX_app]
      walk_at "walk"
      refine sr_addS (by rw [len_TX, len_TX]; omega) ?_
      rw [TX_app]
      walk_at "walk"
      refine ⟨[], _, rfl, (1, 1), L ++ g ++ L2, rfl, ?_⟩
      refine ss_seq (ss_if (st_not (st_B (se_call (sa_cons (se_call ?_))))))
      walk_at "walk"
      refine sr_addS (by rw [len_TX, len_TX]; omega) ?_
      rw [TX_app]
      walk_at "walk"
      refine sr_addS (by rw [len_TX, len_TX]; omega) ?_
      rw [TX_app]
      walk_at "walk"
      refine ⟨[], _, rfl, _, rfl, .inl ⟨L ++ g ++ L2, _, rfl, by rw [List.length_append]; omega, two, ?_⟩⟩
      refine sa_cons (se_cb ?_)
      refine sa_cons (se_op ?_)
      walk_at "get1"
      refine se_lst ?_
      walk_at "walk"
      refine ⟨by show 3 ≤ sizeLine; decide, ?_⟩
      walk_at "walk"
      refine ⟨by show 1 ≤ sizeLine; decide, ?_⟩
      refine sr_addL (by rw [List.length_append]; show _ + 1 ≤ _; omega) ?_
      walk_at "walk"
      refine sc_tuple (.inl rfl) ?_
      refine sa_nil ⟨[], _, rfl, _, rfl, .inr ⟨_, rfl, by rw [List.length_append, List.length_append]; show _ + 1 < _; omega, fun e he => ?_⟩, ?_⟩
      · rcases List.mem_append.mp he with h | h
        · rcases List.mem_append.mp h with h | h
          · exact okS_rows _ h
          · exact okS_rows _ h
        · rw [List.mem_singleton.mp h]
          exact okS_row
      refine ⟨_, rfl, ?_⟩
      refine iteN2 (ss_next ?_)
      refine ss_seq (ss_asg (js := [17] ++ ([18] ++ [])) (se_tup (sa_cons (se_call ?_))))
      walk_at "walk"
      refine ⟨[(p, d5)], [(Pt, .str lamQ)], rfl, p, d5, n + 403, 0, rfl, rfl, hp5.mono (by omega), by omega, by omega, fun a b d6 ha hab h1 h2 hp6 => ?_⟩
      obtain ⟨w1, w2, w3⟩ := name_run (k := 0) (by omega) ha hab h1 h2
      generalize a ++ digS 0 ++ b = rn at w1 w2 w3
      clear h1 h2 hab ha
      walk_at "walk"
      refine se_call ?_
      walk_at "walk"
      refine se_lst ?_
      walk_at "walk"
      refine ⟨by show 5 ≤ sizeLine; decide, ?_⟩
      walk_at "walk"
      refine ⟨[(p, d6)], [(Pt, .str lamQ)], rfl, p, d6, n + 413, _, rfl, rfl, hp6.mono (by omega), by omega, by simp, by simp, fun x d7 hx hp7 => ?_⟩
      have hx : x ∈ moreS.map D.str := hx
      obtain ⟨m, hm, rfl⟩ := List.mem_map.mp hx
      obtain ⟨m1, m2⟩ := more_ok m hm
      rw [← TX_tl m]
      generalize m.cps.toList = mo at m1 m2
      refine sa_nil ⟨by show 2 ≤ sizeLine; decide, ?_⟩
      refine sg_tup rfl (sgs_cons (sg_name (sgs_cons (sg_name (sgs_nil ?_)))))
      have w4 : (rn ++ mo).all runSign = true := by rw [List.all_append, w1, m1]; rfl
      have w5 : (rn ++ mo).length ≤ 19 := by rw [List.length_append]; omega
      have w6 : rn ++ mo ≠ [] := by simp [w2]
      refine ss_seq (ss_set (se_call ?_))
      walk_at "walk"
      refine sr_addS (by rw [len_TX, len_TX]; omega) ?_
      rw [TX_app]
      walk_at "walk"
      obtain ⟨c1, t1, ect⟩ : ∃ c t, rn ++ mo = c :: t := by
        cases h : rn ++ mo with
        | nil => exact absurd h w6
        | cons c t => exact ⟨c, t, rfl⟩
      rw [ect]
      refine ⟨[], _, rfl, c1, t1, rfl, by rw [ect] at w5; simp at w5; omega, ?_⟩
      rw [lawK_eq (by rw [← ect]; exact ⟨w6, .inl w4⟩), ← ect]
      refine ss_mid (fun ρ' μ' => ρ' = (((((((((((((((envL ns p os).set 6 (some (.str (TX L)))).set 7 (some (.lst (rowsP (1, 1) ws xs)))).set 8 (some (placeD (behind (1, 1) L)))).set 9 (some (.str (TX L2)))).set 10 (some (.lst (rowsP (1, 1) ws2 xs2)))).set 11 (some (placeD (behind (1, 1) L2)))).set 12 (some (.str (TX g)))).set 13 (some (.int l0))).set 14 (some (.int c0))).set 15 (some (.lst (rowsP (1, 1) ws xs ++ rowsP (l0, c0) ws2 xs2)))).set 16 (some (placeD (behind (1, 1) (L ++ g ++ L2))))).set 17 (some (.str (TX rn)))).set 18 (some (.str (TX mo)))).set 19 (some (optS (kindR (rn ++ mo))))) ∧ μ' = [(p, d7), (Pt, .str lamQ)]) ?_ ?_
      · refine ss_if (st_test ?_)
        generalize hk : kindR (rn ++ mo) = kk
        walk_at "walk"
        refine sr_is (isD_opt _) ?_
        refine ⟨_, rfl, ?_⟩
        cases kk with
        | none =>
          refine iteT (ss_if (st_test (se_op (se_why (M := M) (q := lamQ) (List.mem_cons_of_mem _ List.mem_cons_self) fun E' => se_call ?_))))
          walk_at "walk"
          refine sr_addS (by rw [len_TX, len_TX]; omega) ?_
          rw [TX_app]
          walk_at "walk"
          refine sr_addS (by rw [len_TX, len_TX]; omega) ?_
          rw [TX_app]
          walk_at "walk"
          refine sr_addS (by rw [len_TX, len_TX]; simp only [List.length_append] at *; omega) ?_
          rw [TX_app]
          walk_at "walk"
          have sc : Scan (L ++ g ++ (rn ++ mo)) 1 1 (.error (l0, c0)) := lexs _ _ (scan_none w4 w6 hk (l0, c0))
          rw [← List.append_assoc] at sc
          refine ⟨[], _, rfl, _, rfl, .inl ⟨_, _, rfl, ?_, sc, ?_⟩⟩
          · simp only [List.length_append] at *; omega
          refine ⟨rfl, _, _, rfl, rfl, ?_⟩
          walk_at "walk"
          refine ⟨by show 3 ≤ sizeLine; decide, ?_⟩
          refine sr_neSelf rfl (shaped_read _ _) ⟨_, rfl, ?_⟩
          refine iteF (ss_next ?_)
          exact ⟨rfl, rfl⟩
        | some k =>
          refine iteF (ss_if (st_test (se_op (se_op (se_call ?_)))))
          walk_at "walk"
          refine sr_addS (by rw [len_TX, len_TX]; omega) ?_
          rw [TX_app]
          walk_at "walk"
          refine sr_addS (by rw [len_TX, len_TX]; omega) ?_
          rw [TX_app]
          walk_at "walk"
          refine sr_addS (by rw [len_TX, len_TX]; simp only [List.length_append] at *; omega) ?_
          rw [TX_app]
          walk_at "walk"
          obtain ⟨en, sc0⟩ := scan_run ⟨w6, .inl w4⟩ hk (l0, c0)
          have sc : Scan (L ++ g ++ (rn ++ mo)) 1 1 (.ok (rowsP (1, 1) ws xs ++ [rowD k (TX (rn ++ mo)) l0 c0, en])) := lexs _ _ sc0
          rw [← List.append_assoc] at sc
          refine ⟨[], _, rfl, _, rfl, .inl ⟨_, _, rfl, ?_, sc, ?_⟩⟩
          · simp only [List.length_append] at *; omega
          walk_at "walk"
          refine sr_ixT (d := rowD k (TX (rn ++ mo)) l0 c0) (atI_nat (by rw [List.getElem?_append_right (Nat.le_refl _), Nat.sub_self]; rfl)) ?_
          walk_at "walk"
          refine sr_addS (by rw [len_TX, len_TX]; omega) ?_
          rw [TX_app]
          walk_at "walk"
          refine ⟨by show 2 ≤ sizeLine; decide, ?_⟩
          walk_at "walk"
          refine ⟨by show 3 ≤ sizeLine; decide, ?_⟩
          refine sr_neSelf (d := rowD k (TX (rn ++ mo)) l0 c0) rfl (shaped_row _ _ (strOk_kind hk) (strOk_run w4)) ⟨_, rfl, ?_⟩
          refine iteF (ss_next ?_)
          exact ⟨rfl, rfl⟩
      rintro ρ' μ' ⟨rfl, rfl⟩
      refine ss_seq (ss_set (se_call ?_))
      walk_at "walk"
      refine se_lst ?_
      walk_at "walk"
      refine ⟨by show 10 ≤ sizeLine; decide, ?_⟩
      walk_at "walk"
      refine ⟨[(p, d7)], [(Pt, .str lamQ)], rfl, p, d7, n + 414, _, rfl, rfl, hp7.mono (by omega), by omega, by simp, by simp, fun x d8 hx hp8 => ?_⟩
      have hx : x ∈ badsS.map D.str := hx
      obtain ⟨ba, hba, rfl⟩ := List.mem_map.mp hx
      refine ss_seq (ss_set (se_call ?_))
      walk_at "walk"
      refine se_lst ?_
      walk_at "walk"
      refine ⟨by show 5 ≤ sizeLine; decide, ?_⟩
      walk_at "walk"
      refine ⟨[(p, d8)], [(Pt, .str lamQ)], rfl, p, d8, n + 415, _, rfl, rfl, hp8.mono (by omega), by omega, by simp, by simp, fun x d9 hx hp9 => ?_⟩
      have hx : x ∈ behsS.map D.str := hx
      obtain ⟨be, hbe, rfl⟩ := List.mem_map.mp hx
      obtain ⟨bb1, bb2⟩ := bads_ok ba hba be hbe
      have bg := badgap_ok ba hba
      rw [← TX_tl ba, ← TX_tl be]
      generalize ba.cps.toList = bad at bb1 bb2 bg
      generalize be.cps.toList = beh at bb1 bb2
      rw [List.length_append] at bb2
      refine ss_seq (ss_if (st_test (se_op (se_why (M := M) (q := lamQ) (List.mem_cons_of_mem _ List.mem_cons_self) fun E' => se_call ?_))))
      walk_at "walk"
      refine sr_addS (by rw [len_TX, len_TX]; omega) ?_
      rw [TX_app]
      walk_at "walk"
      refine sr_addS (by rw [len_TX, len_TX]; omega) ?_
      rw [TX_app]
      walk_at "walk"
      refine sr_addS (by rw [len_TX, len_TX]; simp only [List.length_append] at *; omega) ?_
      rw [TX_app]
      walk_at "walk"
      have sc : Scan (L ++ g ++ (bad ++ beh)) 1 1 (.error (l0, c0)) := lexs _ _ (bad_scan bb1 (l0, c0))
      rw [← List.append_assoc] at sc
      refine ⟨[], _, rfl, _, rfl, .inl ⟨_, _, rfl, ?_, sc, ?_⟩⟩
      · simp only [List.length_append] at *; omega
      refine ⟨rfl, _, _, rfl, rfl, ?_⟩
      walk_at "walk"
      refine ⟨by show 3 ≤ sizeLine; decide, ?_⟩
      refine sr_neSelf rfl (shaped_read _ _) ⟨_, rfl, ?_⟩
      refine iteF (ss_next ?_)
      refine ss_seq (ss_if (st_test (se_op (se_why (M := M) (q := lamQ) (List.mem_cons_of_mem _ List.mem_cons_self) fun E' => se_call ?_))))
      walk_at "walk"
      have e3 : ("\n# " : Str) = TX [10, 35, 32] := by decide +kernel
      rw [e3]
      refine sr_addS (by rw [len_TX, len_TX]; show _ + 3 ≤ _; omega) ?_
      rw [TX_app]
      walk_at "walk"
      refine sr_addS (by rw [len_TX, len_TX, List.length_append]; show _ + 3 + _ ≤ _; omega) ?_
      rw [TX_app]
      walk_at "walk"
      rw [lf_one]
      refine sr_addS (by rw [len_TX, len_TX, List.length_append, List.length_append]; show _ + 3 + _ + 1 ≤ _; omega) ?_
      rw [TX_app]
      walk_at "walk"
      refine sr_addS (by rw [len_TX, len_TX, List.length_append, List.length_append, List.length_append]; show _ + 3 + _ + 1 + _ ≤ _; omega) ?_
      rw [TX_app]
      walk_at "walk"
      have G1 : GapL L ([10, 35, 32] ++ bad ++ [10]) := GapL.of bg fun _ => rfl
      have sc2 := G1.two lay lay2
      have e4 : L ++ ([10, 35, 32] ++ bad ++ [10]) ++ L2 = L ++ [10, 35, 32] ++ bad ++ [10] ++ L2 := by simp
      rw [e4] at sc2
      refine ⟨[], _, rfl, _, rfl, .inl ⟨_, _, rfl, ?_, sc2, ?_⟩⟩
      · rw [List.length_append, List.length_append, List.length_append, List.length_append]; show _ + 3 + _ + 1 + _ ≤ _; omega
      walk_at "walk"
      refine ss_for (js := [17]) (si_any (se_lc (js := [22]) (by decide) (si_rng1 ?_)))
      walk_at "walk"
      refine ⟨by decide, by decide, fun i acc μ' => ∃ (rs : List (List Nat)) (d' : D), acc = rs.map (fun w => .str (TX w)) ∧ rs.length = i ∧ (∀ w ∈ rs, RunOk w) ∧ μ' = [(p, d'), (Pt, .str lamQ)] ∧ PenOk (n + 416 + 15 * i) d', ⟨[], d9, rfl, rfl, (by intro w h; cases h), rfl, hp9⟩, ?_, ?_⟩
      · rintro j e acc μ' he ⟨rs, d', rfl, hl, hrs, rfl, hp'⟩
        have hj : j < 6 := by
          have := (List.getElem?_eq_some_iff.mp he).1
          simpa [rangeD] using this
        refine sg_name (st_yes (iteT (se_call ?_)))
        walk_at "walk"
        refine ⟨[(p, d')], [(Pt, .str lamQ)], rfl, p, d', _, rfl, rfl, hp', by omega, fun l d2 hl2 hp2 => ⟨by rw [List.length_map]; omega, rs ++ [l], d2, by rw [List.map_append]; rfl, by rw [List.length_append]; simp [hl], fun w hw => ?_, rfl, hp2.mono (by omega)⟩⟩
        rcases List.mem_append.mp hw with h | h
        · exact hrs w h
        · rw [List.mem_singleton.mp h]
          exact hl2
      rintro acc μ' ⟨rs, d10, rfl, hl, hrs, rfl, hp10⟩
      have h6 : (rangeD (6 : Int).toNat).length = 6 := by simp [rangeD]
      have hp11 : PenOk (n + 1000) d10 := hp10.mono (by rw [h6]; omega)
      refine .inl ⟨_, rfl, fun _ ρ' μ' => ∃ os, ρ' = envL ns p os ∧ μ' = [(p, d10), (Pt, .str lamQ)], ?_, ?_, ?_⟩
      · obtain ⟨os2, e⟩ := envL_of (ns := ns) (p := p) (((((((((((((((((envL ns p os).set 6 (some (.str (TX L)))).set 7 (some (.lst (rowsP (1, 1) ws xs)))).set 8 (some (placeD (behind (1, 1) L)))).set 9 (some (.str (TX L2)))).set 10 (some (.lst (rowsP (1, 1) ws2 xs2)))).set 11 (some (placeD (behind (1, 1) L2)))).set 12 (some (.str (TX g)))).set 13 (some (.int l0))).set 14 (some (.int c0))).set 15 (some (.lst (rowsP (1, 1) ws xs ++ rowsP (l0, c0) ws2 xs2)))).set 16 (some (placeD (behind (1, 1) (L ++ g ++ L2))))).set 17 (some (.str (TX rn)))).set 18 (some (.str (TX mo)))).set 19 (some (optS (kindR (rn ++ mo))))).set 20 (some (.str (TX bad)))).set 21 (some (.str (TX beh)))) (by simp only [List.length_set]; rfl) (by walk_at "get") (by walk_at "get")
        exact ⟨os2, e, rfl⟩
      · rintro j e ρ' μ' he ⟨os2, rfl, rfl⟩
        obtain ⟨wd, hwd, rfl⟩ := List.mem_map.mp (List.mem_of_getElem? he)
        obtain ⟨hr1, hr2⟩ := hrs wd hwd
        refine sg_name (ss_if (st_not (st_B (se_call (sa_cons (se_call ?_))))))
        walk_at "walk"
        refine ⟨[], _, rfl, _, rfl, by show (TX wd).cps.toList.length < _; rw [tl_TX]; omega, ?_⟩
        have en : nameD (.str (TX wd)) = decide (kindR wd = some ("name" : Str)) := by
          show nameL (TX wd).cps.toList = _
          rw [tl_TX, name_kind hr1]
        rw [en]
        obtain ⟨c1, t1, rfl⟩ : ∃ c t, wd = c :: t := by
          cases wd with
          | nil => exact absurd rfl hr1.1
          | cons c t => exact ⟨c, t, rfl⟩
        refine sa_cons (se_op (se_call ?_))
        walk_at "walk"
        refine ⟨[], _, rfl, c1, t1, rfl, by simp at hr2; omega, ?_⟩
        rw [lawK_eq hr1]
        generalize kindR (c1 :: t1) = kk
        refine se_str (sr_eqOpt ?_)
        refine sa_nil ⟨[], _, rfl, .bl (decide (kk = some ("name" : Str))), rfl, .inl rfl, ?_⟩
        refine ⟨_, rfl, iteN2 (ss_next ?_)⟩
        obtain ⟨os3, e⟩ := envL_of (ns := ns) (p := p) ((envL ns p os2).set 17 (some (.str (TX (c1 :: t1))))) (by simp only [List.length_set]; rfl) (by walk_at "get") (by walk_at "get")
        exact ⟨os3, e, rfl⟩
      · rintro ρ' μ' ⟨os2, rfl, rfl⟩
        exact ⟨os2, d10, rfl, rfl, by rw [Nat.add_mul, hin]; exact hp11⟩
    · rintro ρ' μ' ⟨os, d', e1, e2, _⟩
      exact ⟨os, d', e1, e2⟩
  rintro ρ' μ' ⟨os, d', rfl, rfl⟩
  refine ss_mid (fun ρ' μ' => ∃ os, ρ' = envL ns p os ∧ μ' = [(p, d'), (Pt, .str lamQ)]) ?_ ?_
  · refine ss_for (js := [3]) (si_any (se_call (sa_nil ⟨[], _, rfl, rfl, .inl ⟨_, rfl, ?_⟩⟩)))
    refine ⟨fun _ ρ' μ' => ∃ os, ρ' = envL ns p os ∧ μ' = [(p, d'), (Pt, .str lamQ)], ⟨os, rfl, rfl⟩, ?_, fun _ _ h => h⟩
    rintro j e ρ' μ' he ⟨os2, rfl, rfl⟩
    obtain ⟨k, hk, rfl⟩ := List.mem_map.mp (List.mem_of_getElem? he)
    obtain ⟨k1, k2, k3, k4⟩ := keys_not k hk
    obtain ⟨r1, r2, r3⟩ := keys_run k hk
    refine sg_name (ss_if (st_or (st_test (se_op (se_call ?_)))))
    walk_at "walk"
    refine ⟨[], _, rfl, _, rfl, by show k.cps.toList.length < _; omega, ?_⟩
    rw [k1]
    refine se_bl (sr_isNot rfl ⟨_, rfl, ?_⟩)
    rw [decide_eq_true rfl]
    refine iteF (st_or (st_test (se_op (se_op (se_op (se_call ?_))))))
    walk_at "walk"
    obtain ⟨en, sc⟩ := scan_run ⟨r2, .inl r1⟩ k4 (1, 1)
    refine ⟨[], _, rfl, _, rfl, .inl ⟨k.cps.toList, _, (by rw [TX_tl]), by omega, sc, ?_⟩⟩
    walk_at "walk"
    refine sr_ixT (atI_nat (j := 0) rfl) ?_
    walk_at "walk"
    refine sr_ixT (atI_nat (j := 0) rfl) ?_
    refine se_str (sr_neS rfl ⟨_, rfl, ?_⟩)
    rw [decide_eq_true rfl]
    refine iteF (st_test (se_op (se_call ?_)))
    walk_at "walk"
    refine sr_addS (by rw [← TX_tl k, len_TX]; show _ + 1 ≤ _; omega) ?_
    walk_at "walk"
    refine ⟨[], _, rfl, _, rfl, ?_, ?_⟩
    · have : ("q" : Str) = TX [113] := by decide +kernel
      rw [← TX_tl k, this, TX_app]
      show (TX _).cps.toList.length < _
      rw [tl_TX, List.length_append]
      show _ + 1 < _
      omega
    rw [k2]
    refine se_bl (sr_isNot rfl ⟨_, rfl, ?_⟩)
    rw [decide_eq_true rfl]
    refine iteF (ss_next ?_)
    obtain ⟨os3, e⟩ := envL_of (ns := ns) (p := p) ((envL ns p os2).set 3 (some (.str k))) (by simp only [List.length_set]; rfl) (by walk_at "get") (by walk_at "get")
    exact ⟨os3, e, rfl⟩
  rintro ρ' μ' ⟨os, rfl, rfl⟩
  refine ss_mid (fun ρ' μ' => ∃ os, ρ' = envL ns p os ∧ μ' = [(p, d'), (Pt, .str lamQ)]) ?_ ?_
  · refine ss_for (js := [4]) (si_any ?_)
    refine se_lst ?_
    walk_at "walk"
    refine ⟨by show 1 ≤ sizeLine; decide, ?_⟩
    walk_at "walk"
    refine se_lst ?_
    walk_at "walk"
    refine ⟨by show 1 ≤ sizeLine; decide, ?_⟩
    walk_at "walk"
    refine ⟨by show 10 ≤ sizeLine; decide, ?_⟩
    refine .inl ⟨_, rfl, fun _ ρ' μ' => ∃ os, ρ' = envL ns p os ∧ μ' = [(p, d'), (Pt, .str lamQ)], ⟨os, rfl, rfl⟩, ?_, fun _ _ h => h⟩
    rintro j e ρ' μ' he ⟨os2, rfl, rfl⟩
    have hv : okD e ∧ nameD e = false := by
      have hm := List.mem_of_getElem? he
      simp only [List.mem_cons, List.not_mem_nil, or_false] at hm
      rcases hm with rfl | rfl | rfl | rfl | rfl | rfl | rfl | rfl | rfl | rfl
      · exact ⟨⟨_, rfl, by decide +kernel⟩, rfl⟩
      · exact ⟨⟨_, rfl, by decide +kernel⟩, rfl⟩
      · exact ⟨by show _ < 16000000; decide +kernel, by decide +kernel⟩
      · exact ⟨⟨_, rfl, by decide +kernel⟩, rfl⟩
      · exact ⟨⟨_, rfl, by decide +kernel⟩, rfl⟩
      · exact ⟨by show _ < 16000000; decide +kernel, by decide +kernel⟩
      · exact ⟨by show _ < 16000000; decide +kernel, by decide +kernel⟩
      · exact ⟨by show _ < 16000000; decide +kernel, by decide +kernel⟩
      · exact ⟨by show _ < 16000000; decide +kernel, by decide +kernel⟩
      · exact ⟨by show _ < 16000000; decide +kernel, by decide +kernel⟩
    refine sg_name (ss_if (st_test (se_op (se_call ?_))))
    walk_at "walk"
    refine ⟨[], _, rfl, _, rfl, hv.1, ?_⟩
    rw [hv.2]
    refine se_bl (sr_isNot rfl ⟨_, rfl, ?_⟩)
    rw [decide_eq_true rfl]
    refine iteF (ss_next ?_)
    obtain ⟨os3, e3⟩ := envL_of (ns := ns) (p := p) ((envL ns p os2).set 4 (some e)) (by simp only [List.length_set]; rfl) (by walk_at "get") (by walk_at "get")
    exact ⟨os3, e3, rfl⟩
  rintro ρ' μ' ⟨os, rfl, rfl⟩
  refine ss_seq (ss_set (se_lcM (xs := [D.non, .int 5, .tup [.str "a"]]) (gd := fun x => x) (f := fun _ => .tup [.str "read", .int 0, .int 0]) (js := [4]) (by decide) (si_any (se_lst ?_))))
  walk_at "walk"
  refine ⟨by show 1 ≤ sizeLine; decide, ?_⟩
  walk_at "walk"
  refine ⟨by show 3 ≤ sizeLine; decide, .inl ⟨_, rfl, rfl, by show 3 < sizeLine; decide, fun x hx => sg_name ⟨rfl, ?_⟩, ?_⟩⟩
  · refine se_why (M := M) (q := lamQ) (List.mem_cons_of_mem _ List.mem_cons_self) fun E' => se_call ?_
    refine sa_cons (se_var (d := x) ?_ (sa_nil ?_))
    · show (((envL ns p os).set 4 none).set 4 (some x))[4]? = _
      walk_at "get"
    refine ⟨[], _, rfl, x, rfl, .inr ⟨?_, rfl, _, _, rfl, rfl, rfl, rfl⟩⟩
    simp only [List.mem_cons, List.not_mem_nil, or_false] at hx
    rcases hx with rfl | rfl | rfl <;> exact ⟨_, rfl, by decide +kernel⟩
  refine ss_ret (se_and (se_op ?_))
  walk_at "walk"
  refine se_lst ?_
  walk_at "walk"
  refine ⟨by show 3 ≤ sizeLine; decide, ?_⟩
  walk_at "walk"
  refine ⟨by show 1 ≤ sizeLine; decide, ?_⟩
  walk_at "walk"
  refine sr_rep (n := 3) (by show 1 * 3 ≤ sizeLine; decide) (by decide) ?_
  refine sr_eqSelf (d := .lst [.tup [.str "read", .int 0, .int 0], .tup [.str "read", .int 0, .int 0], .tup [.str "read", .int 0, .int 0]]) rfl (by decide +kernel) ⟨_, rfl, ?_⟩
  refine iteT (se_and (se_op (se_call ?_)))
  walk_at "walk"
  refine ⟨[], _, rfl, _, rfl, .inl ⟨[], _, (by rw [← empty_TX]), by decide, .done, ?_⟩⟩
  refine se_tup ?_
  walk_at "walk"
  refine ⟨by show 2 ≤ sizeLine; decide, ?_⟩
  walk_at "walk"
  refine ⟨by show 3 ≤ sizeLine; decide, ?_⟩
  walk_at "walk"
  refine ⟨by show 1 ≤ sizeLine; decide, ?_⟩
  refine sr_eqSelf (d := .tup [rowD "end" "" 1 1]) rfl (by decide +kernel) ⟨_, rfl, ?_⟩
  refine iteT (se_op (se_op (se_call ?_)))
  walk_at "walk"
  have s35 : Scan [35] 1 1 (.ok [rowD "end" "" 1 2]) := .rem (t := []) .done
  refine ⟨[], _, rfl, _, rfl, .inl ⟨[35], _, (by rw [← num_one]), by decide, s35, ?_⟩⟩
  refine se_un (se_int (su_neg ?_))
  refine sr_ixT (atI_last [] _) ?_
  refine se_tup ?_
  walk_at "walk"
  refine ⟨by show 2 ≤ sizeLine; decide, ?_⟩
  walk_at "walk"
  refine ⟨by show 3 ≤ sizeLine; decide, ?_⟩
  exact sr_eqSelf (d := rowD "end" "" 1 2) rfl (by decide +kernel) (q _)
end
end KT
set_option Elab.async false
set_option linter.all false
set_option maxRecDepth 100000
set_option maxHeartbeats 4000000
namespace KT
open PySem L2 DD
theorem rel_of_abs {x : V} {u : Value} (h : absV u = some x) : RelV x u := by
  cases u <;> (cases h) <;> first | exact rfl | exact ⟨_, rfl⟩
theorem vals_strs : ∀ {xs : List Str} {us : List Value}, (us.map absV = xs.map fun x => some (V.str x)) → Vals (xs.map V.str) us
  | [], [], _ => .nil
  | [], _ :: _, h => by cases h
  | _ :: _, [], h => by cases h
  | x :: xs, u :: us, h => by
    have h1 := List.cons.inj h
    exact .cons (rel_of_abs h1.1) (vals_strs h1.2)
theorem sqT_strs {K : PySem.W.Frag} {a : Addr} {d : Option Addr} {its : Array Value} {n : Nat} {j : Array (Option Value)} {xs : List Str} (hk : K.lookup a = some ⟨.type "tuple", d, .seq its n, j⟩) (hv : its.toList.map absV = xs.map fun x => some (V.str x)) (hl : xs.length ≤ 1000) : SqT K (fun _ => none) a (xs.map V.str) := by
  refine .inr ⟨_, its, n, hk, rfl, rfl, ?_, vals_strs hv⟩
  have e := congrArg List.length hv
  rw [List.length_map, List.length_map] at e
  have s16 := size16
  have e2 : its.size = its.toList.length := rfl
  omega
theorem exm_of {K : PySem.W.Frag} {k : Value} {c : Addr} {cd : ClassData} {b : Bool} (h1 : PySem.W.subIn K (.ref c) (.type "BaseException") = some true) (h2 : PySem.W.clsIn K c = some cd) (h3 : PySem.W.typeIn K (.ref c) = some (.type "type")) (h4 : PySem.W.subIn K k (.ref c) = some b) : PySem.W.exmOne K k (.ref c) = some b := by
  unfold PySem.W.exmOne PySem.W.kitCls
  rw [h1]
  show (if ((PySem.W.clsIn K c).isSome && PySem.W.typeIn K (.ref c) == some (.type "type")) = true then PySem.W.subIn K k (.ref c) else none) = some b
  rw [h2, h3, h4]
  rfl
/-- what the law is asked: the script, and its own table of code objects -/
theorem law_in {K : PySem.W.Frag} {H : Hp} {a PL : Addr} {ns : List Int} (hT : H PL = some (.tbl #[])) (nP : K.lookup PL = none) (hS : SqL K H a (ns.map V.int)) (hl : ns.length ≤ 63) : spD K (F_law PL) [.ref a] H (fun v _ => v = .bl true) fun _ _ _ => False := by
  have hne : a ≠ PL := by
    rintro rfl
    rcases hS with (h | ⟨o, h⟩) | ⟨o, _, _, h, _⟩
    · rw [hT] at h; cases h
    · rw [hT] at h; cases h
    · rw [nP] at h; cases h
  have hS2 : SqL K (fun b => if b = PL then none else H b) a (ns.map V.int) := by
    rcases hS with (h | ⟨o, h⟩) | h
    · exact .inl (.inl (by show (if a = PL then none else H a) = _; rw [if_neg hne]; exact h))
    · exact .inl (.inr ⟨o, by show (if a = PL then none else H a) = _; rw [if_neg hne]; exact h⟩)
    · exact .inr h
  refine ⟨⟨fun b => if b = PL then none else H b, H, [(PL, .str lamQ)]⟩, [.scr ns], fun d _ => d = .bl true, XF, rfl, ⟨fun b o hb => ?_, fun y hy => ?_, ?_⟩, .cons (.scr hS2) .nil, ⟨ns, rfl, hl, rfl, fun _ => rfl⟩, ?_, XL.never⟩
  · have hb : (if b = PL then none else H b) = some o := hb
    split at hb
    · cases hb
    · exact hb
  · cases List.mem_singleton.mp hy
    exact ⟨if_pos rfl, #[], hT, True.intro, fun p cv hc => by cases hc⟩
  · exact List.nodup_cons.mpr ⟨by simp, List.nodup_nil⟩
  · rintro v d w' rfl i _ _
    cases i
    rfl
section
variable {P : Program} {w : World} {K : PySem.W.Frag} {mg : Str → Option Value} {base : Heap}
theorem sc_misread : FnScope ["self", "line", "column"] ["self", "line", "column"] (defScope (inClass (top 3) 0)) := ⟨rfl, rfl, rfl, by decide +kernel, rfl, by decide +kernel, by decide +kernel⟩
theorem ok_misread {f C : Addr} {fd : FuncData} (FU : Fun K "__init__" "Misread.__init__" (inClass (top 3) 0) f fd) (T : OexC K C) (nl : PySem.W.findIn K (.ref C) "line" = some none) (nc : PySem.W.findIn K (.ref C) "column" = some none) :
    FnOk P w K mg base (L2.CX P w) 1 f fd ["self", "line", "column"] (spXI C ["line", "column"]) := by
  refine FU.okX sc_misread (fun vs H Q E h => ?_) fun cdv A outer s H vs Q E hr h => ?_
  · obtain ⟨a, ys, rfl, hy, _⟩ := h
    show ys.length + 1 = 3
    rw [hy]
    rfl
  · obtain ⟨a, ys, rfl, hy, ha, hk⟩ := h
    match ys, hy with
    | [y1, y2], _ =>
    refine ⟨_, pss_cons (ps_ost (pv 0) (pv 1)) (pss_one (ps_ost (pv 0) (pv 2))), ?_⟩
    refine ⟨y1, rfl, .ref a, rfl, a, C, rfl, T, nl, .inl ⟨ha, fun d hd hda => ?_⟩⟩
    have n1 : a ≠ d := fun z => hda z.symm
    refine ⟨y2, rfl, .ref a, rfl, a, C, rfl, T, nc, .inr ⟨d, _, upd_same, by rw [upd_ne hda]; exact upd_same, by show 1 ≤ 900; decide, ?_⟩⟩
    refine hk d _ hd hda (by rw [upd_ne n1]; exact upd_same) upd_same fun b h1 h2 => ?_
    rw [upd_ne h2, upd_ne h1, upd_ne h2]
end
theorem all_mk {l : PySem.W.OpenLaw} {w : World} {K : PySem.W.Frag} {h : Heap} {mg : Str → Option Value} {fa : Addr} (X : K.In h) (G : h.Ns mainGlobals mg) (hfa : mg "law" = some (.ref fa)) (OW : LamX.OwnTab K fa h)
    {CScanner : Addr} {CTooMany : Addr} {CNotThere : Addr} {CUnlike : Addr} {CTakenName : Addr} {CNoName : Addr} {CMisplaced : Addr} {CMisread : Addr} {CBadRow : Addr} {CBadNumber : Addr} {CBadName : Addr} {CBadText : Addr} {fis_run_sign : Addr} {odis_run_sign anis_run_sign : Option Addr} {slis_run_sign : Array (Option Value)} {ocis_run_sign kVis_run_sign dcis_run_sign pmis_run_sign ctis_run_sign : Value} {cdis_run_sign : Value} {fis_numeral : Addr} {odis_numeral anis_numeral : Option Addr} {slis_numeral : Array (Option Value)} {ocis_numeral kVis_numeral dcis_numeral pmis_numeral ctis_numeral : Value} {cdis_numeral : Value} {fkind_of : Addr} {odkind_of ankind_of : Option Addr} {slkind_of : Array (Option Value)} {ockind_of kVkind_of dckind_of pmkind_of ctkind_of : Value} {cdkind_of : Value} {fis_name : Addr} {odis_name anis_name : Option Addr} {slis_name : Array (Option Value)} {ocis_name kVis_name dcis_name pmis_name ctis_name : Value} {cdis_name : Value} {ftokens : Addr} {odtokens antokens : Option Addr} {sltokens : Array (Option Value)} {octokens kVtokens dctokens pmtokens cttokens : Value} {cdtokens : Value} {f_law_pen : Addr} {od_law_pen an_law_pen : Option Addr} {sl_law_pen : Array (Option Value)} {oc_law_pen kV_law_pen dc_law_pen pm_law_pen ct_law_pen : Value} {cd_law_pen : Value} {f_law_draw : Addr} {od_law_draw an_law_draw : Option Addr} {sl_law_draw : Array (Option Value)} {oc_law_draw kV_law_draw dc_law_draw pm_law_draw ct_law_draw : Value} {cd_law_draw : Value} {f_law_pick : Addr} {od_law_pick an_law_pick : Option Addr} {sl_law_pick : Array (Option Value)} {oc_law_pick kV_law_pick dc_law_pick pm_law_pick ct_law_pick : Value} {cd_law_pick : Value} {f_law_name : Addr} {od_law_name an_law_name : Option Addr} {sl_law_name : Array (Option Value)} {oc_law_name kV_law_name dc_law_name pm_law_name ct_law_name : Value} {cd_law_name : Value} {f_law_same : Addr} {od_law_same an_law_same : Option Addr} {sl_law_same : Array (Option Value)} {oc_law_same kV_law_same dc_law_same pm_law_same ct_law_same : Value} {cd_law_same : Value} {f_law_why : Addr} {od_law_why an_law_why : Option Addr} {sl_law_why : Array (Option Value)} {oc_law_why kV_law_why dc_law_why pm_law_why ct_law_why : Value} {cd_law_why : Value} {f_law_keys : Addr} {od_law_keys an_law_keys : Option Addr} {sl_law_keys : Array (Option Value)} {oc_law_keys kV_law_keys dc_law_keys pm_law_keys ct_law_keys : Value} {cd_law_keys : Value} {f_law_is_sign : Addr} {od_law_is_sign an_law_is_sign : Option Addr} {sl_law_is_sign : Array (Option Value)} {oc_law_is_sign kV_law_is_sign dc_law_is_sign pm_law_is_sign ct_law_is_sign : Value} {cd_law_is_sign : Value} {f_law_behind_text : Addr} {od_law_behind_text an_law_behind_text : Option Addr} {sl_law_behind_text : Array (Option Value)} {oc_law_behind_text kV_law_behind_text dc_law_behind_text pm_law_behind_text ct_law_behind_text : Value} {cd_law_behind_text : Value} {f_law_laid_out : Addr} {od_law_laid_out an_law_laid_out : Option Addr} {sl_law_laid_out : Array (Option Value)} {oc_law_laid_out kV_law_laid_out dc_law_laid_out pm_law_laid_out ct_law_laid_out : Value} {cd_law_laid_out : Value} {f_law_kind_of : Addr} {od_law_kind_of an_law_kind_of : Option Addr} {sl_law_kind_of : Array (Option Value)} {oc_law_kind_of kV_law_kind_of dc_law_kind_of pm_law_kind_of ct_law_kind_of : Value} {cd_law_kind_of : Value} {f_law_run : Addr} {od_law_run an_law_run : Option Addr} {sl_law_run : Array (Option Value)} {oc_law_run kV_law_run dc_law_run pm_law_run ct_law_run : Value} {cd_law_run : Value} {f_law_text_of : Addr} {od_law_text_of an_law_text_of : Option Addr} {sl_law_text_of : Array (Option Value)} {oc_law_text_of kV_law_text_of dc_law_text_of pm_law_text_of ct_law_text_of : Value} {cd_law_text_of : Value} {f_law_moved : Addr} {od_law_moved an_law_moved : Option Addr} {sl_law_moved : Array (Option Value)} {oc_law_moved kV_law_moved dc_law_moved pm_law_moved ct_law_moved : Value} {cd_law_moved : Value} {flaw : Addr} {odlaw anlaw : Option Addr} {sllaw : Array (Option Value)} {oclaw kVlaw dclaw pmlaw ctlaw : Value} {fScanner___init__ : Addr} {odScanner___init__ anScanner___init__ : Option Addr} {slScanner___init__ : Array (Option Value)} {ocScanner___init__ kVScanner___init__ dcScanner___init__ pmScanner___init__ ctScanner___init__ : Value} {cdScanner___init__ : Value} {fScanner_is_over : Addr} {odScanner_is_over anScanner_is_over : Option Addr} {slScanner_is_over : Array (Option Value)} {ocScanner_is_over kVScanner_is_over dcScanner_is_over pmScanner_is_over ctScanner_is_over : Value} {cdScanner_is_over : Value} {fScanner_skip : Addr} {odScanner_skip anScanner_skip : Option Addr} {slScanner_skip : Array (Option Value)} {ocScanner_skip kVScanner_skip dcScanner_skip pmScanner_skip ctScanner_skip : Value} {cdScanner_skip : Value} {fScanner_pass_gap : Addr} {odScanner_pass_gap anScanner_pass_gap : Option Addr} {slScanner_pass_gap : Array (Option Value)} {ocScanner_pass_gap kVScanner_pass_gap dcScanner_pass_gap pmScanner_pass_gap ctScanner_pass_gap : Value} {cdScanner_pass_gap : Value} {fScanner_token : Addr} {odScanner_token anScanner_token : Option Addr} {slScanner_token : Array (Option Value)} {ocScanner_token kVScanner_token dcScanner_token pmScanner_token ctScanner_token : Value} {cdScanner_token : Value} {fMisread___init__ : Addr} {odMisread___init__ anMisread___init__ : Option Addr} {slMisread___init__ : Array (Option Value)} {ocMisread___init__ kVMisread___init__ dcMisread___init__ pmMisread___init__ ctMisread___init__ : Value} {cdMisread___init__ : Value} {qBadText : ClassData} {qBadName : ClassData} {qBadNumber : ClassData} {qBadRow : ClassData} {qMisread : ClassData} {mnm mq : Str} {mN : Addr} {mbs mbm : List Value} {msn : List Str} {msub : List Value} {mab : Bool} {mcol : Option Bool} {mdd : Option Addr} {m0 m1 m2 m3 m5 : Option Value} {tL tF tN tM : Tok} {aK aS : Addr} {dK dS : Option Addr} {iK iS : Array Value} {nK nS : Nat} {jK jS : Array (Option Value)} {cL PL : Addr} {eL : Value} {ddL : Option Addr} {vL : Array Value} {sL : Array (Option Value)}
    (nBadText : PySem.W.nsIn K mainGlobals "BadText" = some (some (.ref CBadText))) (nBadName : PySem.W.nsIn K mainGlobals "BadName" = some (some (.ref CBadName))) (nBadNumber : PySem.W.nsIn K mainGlobals "BadNumber" = some (some (.ref CBadNumber))) (nBadRow : PySem.W.nsIn K mainGlobals "BadRow" = some (some (.ref CBadRow))) (nMisread : PySem.W.nsIn K mainGlobals "Misread" = some (some (.ref CMisread))) (nMisplaced : PySem.W.nsIn K mainGlobals "Misplaced" = some (some (.ref CMisplaced))) (nNoName : PySem.W.nsIn K mainGlobals "NoName" = some (some (.ref CNoName))) (nTakenName : PySem.W.nsIn K mainGlobals "TakenName" = some (some (.ref CTakenName))) (nUnlike : PySem.W.nsIn K mainGlobals "Unlike" = some (some (.ref CUnlike))) (nNotThere : PySem.W.nsIn K mainGlobals "NotThere" = some (some (.ref CNotThere))) (nTooMany : PySem.W.nsIn K mainGlobals "TooMany" = some (some (.ref CTooMany))) (nScanner : PySem.W.nsIn K mainGlobals "Scanner" = some (some (.ref CScanner))) (xBadText : PySem.W.subIn K (.ref CBadText) (.type "BaseException") = some true) (yBadText : PySem.W.clsIn K CBadText = some qBadText) (zBadText : PySem.W.typeIn K (.ref CBadText) = some (.type "type")) (wBadText : PySem.W.subIn K (.ref CMisread) (.ref CBadText) = some false) (xBadName : PySem.W.subIn K (.ref CBadName) (.type "BaseException") = some true) (yBadName : PySem.W.clsIn K CBadName = some qBadName) (zBadName : PySem.W.typeIn K (.ref CBadName) = some (.type "type")) (wBadName : PySem.W.subIn K (.ref CMisread) (.ref CBadName) = some false) (xBadNumber : PySem.W.subIn K (.ref CBadNumber) (.type "BaseException") = some true) (yBadNumber : PySem.W.clsIn K CBadNumber = some qBadNumber) (zBadNumber : PySem.W.typeIn K (.ref CBadNumber) = some (.type "type")) (wBadNumber : PySem.W.subIn K (.ref CMisread) (.ref CBadNumber) = some false) (xBadRow : PySem.W.subIn K (.ref CBadRow) (.type "BaseException") = some true) (yBadRow : PySem.W.clsIn K CBadRow = some qBadRow) (zBadRow : PySem.W.typeIn K (.ref CBadRow) = some (.type "type")) (wBadRow : PySem.W.subIn K (.ref CMisread) (.ref CBadRow) = some false) (xMisread : PySem.W.subIn K (.ref CMisread) (.type "BaseException") = some true) (yMisread : PySem.W.clsIn K CMisread = some qMisread) (zMisread : PySem.W.typeIn K (.ref CMisread) = some (.type "type")) (wMisread : PySem.W.subIn K (.ref CMisread) (.ref CMisread) = some true) (oM : K.lookup CMisread = some (excClassObj mnm mq CMisread mN mbs mbm true msn msub mab mcol mdd m0 m1 m2 m3 m5 "ValueError.__new__")) (vM : PySem.HandSPX.refsVE mbm = true) (sM : PySem.W.findIn K (.ref CMisread) "__setattr__" = some (some (.builtin "object.__setattr__"))) (kM : PySem.W.keepIn K (.ref CMisread) = true) (gM : PySem.W.findIn K (.ref CMisread) "__getattribute__" = some (some (.builtin "BaseException.__getattribute__"))) (hM : PySem.W.findIn K (.ref CMisread) "__getattr__" = some none) (dM : PySem.W.hasDictIn K CMisread = true) (lM : PySem.W.findIn K (.ref CMisread) "line" = some none) (cM : PySem.W.findIn K (.ref CMisread) "column" = some none) (pS : PySem.W.plainGet K CScanner Str.empty = true) (hS : PySem.W.hasDictIn K CScanner = true) (oS : PySem.W.plainOver K CScanner = true) (sS : PySem.W.findIn K (.ref CScanner) "__setattr__" = some (some (.builtin "object.__setattr__"))) (mS : PySem.W.makesIn K CScanner = true) (kS : PySem.W.keepIn K (.ref CScanner) = true) (stext : PySem.W.findIn K (.ref CScanner) "text" = some none) (sat : PySem.W.findIn K (.ref CScanner) "at" = some none) (sline : PySem.W.findIn K (.ref CScanner) "line" = some none) (scolumn : PySem.W.findIn K (.ref CScanner) "column" = some none) (ais_run_sign : PySem.W.nsIn K mainGlobals "is_run_sign" = some (some (.ref fis_run_sign))) (lis_run_sign : K.lookup fis_run_sign = some ⟨ocis_run_sign, odis_run_sign, .func (PySem.W.fnOf "is_run_sign" "is_run_sign" (defArgs (top 20)) (defBody (top 20)) (defScope (top 20)) .none kVis_run_sign dcis_run_sign pmis_run_sign anis_run_sign cdis_run_sign ctis_run_sign), slis_run_sign⟩) (cis_run_sign : PySem.W.codeIn K cdis_run_sign "is_run_sign" = true) (kis_run_sign : PySem.W.keepIn K (.ref fis_run_sign) = true) (ais_numeral : PySem.W.nsIn K mainGlobals "is_numeral" = some (some (.ref fis_numeral))) (lis_numeral : K.lookup fis_numeral = some ⟨ocis_numeral, odis_numeral, .func (PySem.W.fnOf "is_numeral" "is_numeral" (defArgs (top 21)) (defBody (top 21)) (defScope (top 21)) .none kVis_numeral dcis_numeral pmis_numeral anis_numeral cdis_numeral ctis_numeral), slis_numeral⟩) (cis_numeral : PySem.W.codeIn K cdis_numeral "is_numeral" = true) (kis_numeral : PySem.W.keepIn K (.ref fis_numeral) = true) (akind_of : PySem.W.nsIn K mainGlobals "kind_of" = some (some (.ref fkind_of))) (lkind_of : K.lookup fkind_of = some ⟨ockind_of, odkind_of, .func (PySem.W.fnOf "kind_of" "kind_of" (defArgs (top 22)) (defBody (top 22)) (defScope (top 22)) .none kVkind_of dckind_of pmkind_of ankind_of cdkind_of ctkind_of), slkind_of⟩) (ckind_of : PySem.W.codeIn K cdkind_of "kind_of" = true) (kkind_of : PySem.W.keepIn K (.ref fkind_of) = true) (ais_name : PySem.W.nsIn K mainGlobals "is_name" = some (some (.ref fis_name))) (lis_name : K.lookup fis_name = some ⟨ocis_name, odis_name, .func (PySem.W.fnOf "is_name" "is_name" (defArgs (top 23)) (defBody (top 23)) (defScope (top 23)) .none kVis_name dcis_name pmis_name anis_name cdis_name ctis_name), slis_name⟩) (cis_name : PySem.W.codeIn K cdis_name "is_name" = true) (kis_name : PySem.W.keepIn K (.ref fis_name) = true) (atokens : PySem.W.nsIn K mainGlobals "tokens" = some (some (.ref ftokens))) (ltokens : K.lookup ftokens = some ⟨octokens, odtokens, .func (PySem.W.fnOf "tokens" "tokens" (defArgs (top 25)) (defBody (top 25)) (defScope (top 25)) .none kVtokens dctokens pmtokens antokens cdtokens cttokens), sltokens⟩) (ctokens : PySem.W.codeIn K cdtokens "tokens" = true) (ktokens : PySem.W.keepIn K (.ref ftokens) = true) (a_law_pen : PySem.W.nsIn K mainGlobals "_law_pen" = some (some (.ref f_law_pen))) (l_law_pen : K.lookup f_law_pen = some ⟨oc_law_pen, od_law_pen, .func (PySem.W.fnOf "_law_pen" "_law_pen" (defArgs (top 27)) (defBody (top 27)) (defScope (top 27)) .none kV_law_pen dc_law_pen pm_law_pen an_law_pen cd_law_pen ct_law_pen), sl_law_pen⟩) (c_law_pen : PySem.W.codeIn K cd_law_pen "_law_pen" = true) (k_law_pen : PySem.W.keepIn K (.ref f_law_pen) = true) (a_law_draw : PySem.W.nsIn K mainGlobals "_law_draw" = some (some (.ref f_law_draw))) (l_law_draw : K.lookup f_law_draw = some ⟨oc_law_draw, od_law_draw, .func (PySem.W.fnOf "_law_draw" "_law_draw" (defArgs (top 28)) (defBody (top 28)) (defScope (top 28)) .none kV_law_draw dc_law_draw pm_law_draw an_law_draw cd_law_draw ct_law_draw), sl_law_draw⟩) (c_law_draw : PySem.W.codeIn K cd_law_draw "_law_draw" = true) (k_law_draw : PySem.W.keepIn K (.ref f_law_draw) = true) (a_law_pick : PySem.W.nsIn K mainGlobals "_law_pick" = some (some (.ref f_law_pick))) (l_law_pick : K.lookup f_law_pick = some ⟨oc_law_pick, od_law_pick, .func (PySem.W.fnOf "_law_pick" "_law_pick" (defArgs (top 29)) (defBody (top 29)) (defScope (top 29)) .none kV_law_pick dc_law_pick pm_law_pick an_law_pick cd_law_pick ct_law_pick), sl_law_pick⟩) (c_law_pick : PySem.W.codeIn K cd_law_pick "_law_pick" = true) (k_law_pick : PySem.W.keepIn K (.ref f_law_pick) = true) (a_law_name : PySem.W.nsIn K mainGlobals "_law_name" = some (some (.ref f_law_name))) (l_law_name : K.lookup f_law_name = some ⟨oc_law_name, od_law_name, .func (PySem.W.fnOf "_law_name" "_law_name" (defArgs (top 30)) (defBody (top 30)) (defScope (top 30)) .none kV_law_name dc_law_name pm_law_name an_law_name cd_law_name ct_law_name), sl_law_name⟩) (c_law_name : PySem.W.codeIn K cd_law_name "_law_name" = true) (k_law_name : PySem.W.keepIn K (.ref f_law_name) = true) (a_law_same : PySem.W.nsIn K mainGlobals "_law_same" = some (some (.ref f_law_same))) (l_law_same : K.lookup f_law_same = some ⟨oc_law_same, od_law_same, .func (PySem.W.fnOf "_law_same" "_law_same" (defArgs (top 31)) (defBody (top 31)) (defScope (top 31)) .none kV_law_same dc_law_same pm_law_same an_law_same cd_law_same ct_law_same), sl_law_same⟩) (c_law_same : PySem.W.codeIn K cd_law_same "_law_same" = true) (k_law_same : PySem.W.keepIn K (.ref f_law_same) = true) (a_law_why : PySem.W.nsIn K mainGlobals "_law_why" = some (some (.ref f_law_why))) (l_law_why : K.lookup f_law_why = some ⟨oc_law_why, od_law_why, .func (PySem.W.fnOf "_law_why" "_law_why" (defArgs (top 32)) (defBody (top 32)) (defScope (top 32)) .none kV_law_why dc_law_why pm_law_why an_law_why cd_law_why ct_law_why), sl_law_why⟩) (c_law_why : PySem.W.codeIn K cd_law_why "_law_why" = true) (k_law_why : PySem.W.keepIn K (.ref f_law_why) = true) (a_law_keys : PySem.W.nsIn K mainGlobals "_law_keys" = some (some (.ref f_law_keys))) (l_law_keys : K.lookup f_law_keys = some ⟨oc_law_keys, od_law_keys, .func (PySem.W.fnOf "_law_keys" "_law_keys" (defArgs (top 33)) (defBody (top 33)) (defScope (top 33)) .none kV_law_keys dc_law_keys pm_law_keys an_law_keys cd_law_keys ct_law_keys), sl_law_keys⟩) (c_law_keys : PySem.W.codeIn K cd_law_keys "_law_keys" = true) (k_law_keys : PySem.W.keepIn K (.ref f_law_keys) = true) (a_law_is_sign : PySem.W.nsIn K mainGlobals "_law_is_sign" = some (some (.ref f_law_is_sign))) (l_law_is_sign : K.lookup f_law_is_sign = some ⟨oc_law_is_sign, od_law_is_sign, .func (PySem.W.fnOf "_law_is_sign" "_law_is_sign" (defArgs (top 34)) (defBody (top 34)) (defScope (top 34)) .none kV_law_is_sign dc_law_is_sign pm_law_is_sign an_law_is_sign cd_law_is_sign ct_law_is_sign), sl_law_is_sign⟩) (c_law_is_sign : PySem.W.codeIn K cd_law_is_sign "_law_is_sign" = true) (k_law_is_sign : PySem.W.keepIn K (.ref f_law_is_sign) = true) (a_law_behind_text : PySem.W.nsIn K mainGlobals "_law_behind_text" = some (some (.ref f_law_behind_text))) (l_law_behind_text : K.lookup f_law_behind_text = some ⟨oc_law_behind_text, od_law_behind_text, .func (PySem.W.fnOf "_law_behind_text" "_law_behind_text" (defArgs (top 35)) (defBody (top 35)) (defScope (top 35)) .none kV_law_behind_text dc_law_behind_text pm_law_behind_text an_law_behind_text cd_law_behind_text ct_law_behind_text), sl_law_behind_text⟩) (c_law_behind_text : PySem.W.codeIn K cd_law_behind_text "_law_behind_text" = true) (k_law_behind_text : PySem.W.keepIn K (.ref f_law_behind_text) = true) (a_law_laid_out : PySem.W.nsIn K mainGlobals "_law_laid_out" = some (some (.ref f_law_laid_out))) (l_law_laid_out : K.lookup f_law_laid_out = some ⟨oc_law_laid_out, od_law_laid_out, .func (PySem.W.fnOf "_law_laid_out" "_law_laid_out" (defArgs (top 36)) (defBody (top 36)) (defScope (top 36)) .none kV_law_laid_out dc_law_laid_out pm_law_laid_out an_law_laid_out cd_law_laid_out ct_law_laid_out), sl_law_laid_out⟩) (c_law_laid_out : PySem.W.codeIn K cd_law_laid_out "_law_laid_out" = true) (k_law_laid_out : PySem.W.keepIn K (.ref f_law_laid_out) = true) (a_law_kind_of : PySem.W.nsIn K mainGlobals "_law_kind_of" = some (some (.ref f_law_kind_of))) (l_law_kind_of : K.lookup f_law_kind_of = some ⟨oc_law_kind_of, od_law_kind_of, .func (PySem.W.fnOf "_law_kind_of" "_law_kind_of" (defArgs (top 37)) (defBody (top 37)) (defScope (top 37)) .none kV_law_kind_of dc_law_kind_of pm_law_kind_of an_law_kind_of cd_law_kind_of ct_law_kind_of), sl_law_kind_of⟩) (c_law_kind_of : PySem.W.codeIn K cd_law_kind_of "_law_kind_of" = true) (k_law_kind_of : PySem.W.keepIn K (.ref f_law_kind_of) = true) (a_law_run : PySem.W.nsIn K mainGlobals "_law_run" = some (some (.ref f_law_run))) (l_law_run : K.lookup f_law_run = some ⟨oc_law_run, od_law_run, .func (PySem.W.fnOf "_law_run" "_law_run" (defArgs (top 38)) (defBody (top 38)) (defScope (top 38)) .none kV_law_run dc_law_run pm_law_run an_law_run cd_law_run ct_law_run), sl_law_run⟩) (c_law_run : PySem.W.codeIn K cd_law_run "_law_run" = true) (k_law_run : PySem.W.keepIn K (.ref f_law_run) = true) (a_law_text_of : PySem.W.nsIn K mainGlobals "_law_text_of" = some (some (.ref f_law_text_of))) (l_law_text_of : K.lookup f_law_text_of = some ⟨oc_law_text_of, od_law_text_of, .func (PySem.W.fnOf "_law_text_of" "_law_text_of" (defArgs (top 39)) (defBody (top 39)) (defScope (top 39)) .none kV_law_text_of dc_law_text_of pm_law_text_of an_law_text_of cd_law_text_of ct_law_text_of), sl_law_text_of⟩) (c_law_text_of : PySem.W.codeIn K cd_law_text_of "_law_text_of" = true) (k_law_text_of : PySem.W.keepIn K (.ref f_law_text_of) = true) (a_law_moved : PySem.W.nsIn K mainGlobals "_law_moved" = some (some (.ref f_law_moved))) (l_law_moved : K.lookup f_law_moved = some ⟨oc_law_moved, od_law_moved, .func (PySem.W.fnOf "_law_moved" "_law_moved" (defArgs (top 40)) (defBody (top 40)) (defScope (top 40)) .none kV_law_moved dc_law_moved pm_law_moved an_law_moved cd_law_moved ct_law_moved), sl_law_moved⟩) (c_law_moved : PySem.W.codeIn K cd_law_moved "_law_moved" = true) (k_law_moved : PySem.W.keepIn K (.ref f_law_moved) = true) (alaw : PySem.W.nsIn K mainGlobals "law" = some (some (.ref flaw))) (llaw : K.lookup flaw = some ⟨oclaw, odlaw, .func (PySem.W.fnOf "law" "law" (defArgs (top 41)) (defBody (top 41)) (defScope (top 41)) .none kVlaw dclaw pmlaw anlaw (.ref cL) ctlaw), sllaw⟩) (claw : PySem.W.codeIn K (.ref cL) "law" = true) (klaw : PySem.W.keepIn K (.ref flaw) = true) (aScanner___init__ : PySem.W.findIn K (.ref CScanner) "__init__" = some (some (.ref fScanner___init__))) (iScanner___init__ : PySem.W.isFn K (.ref fScanner___init__) = true) (lScanner___init__ : K.lookup fScanner___init__ = some ⟨ocScanner___init__, odScanner___init__, .func (PySem.W.fnOf "__init__" "Scanner.__init__" (defArgs (inClass (top 24) 0)) (defBody (inClass (top 24) 0)) (defScope (inClass (top 24) 0)) .none kVScanner___init__ dcScanner___init__ pmScanner___init__ anScanner___init__ cdScanner___init__ ctScanner___init__), slScanner___init__⟩) (cScanner___init__ : PySem.W.codeIn K cdScanner___init__ "Scanner.__init__" = true) (kScanner___init__ : PySem.W.keepIn K (.ref fScanner___init__) = true) (aScanner_is_over : PySem.W.findIn K (.ref CScanner) "is_over" = some (some (.ref fScanner_is_over))) (iScanner_is_over : PySem.W.isFn K (.ref fScanner_is_over) = true) (lScanner_is_over : K.lookup fScanner_is_over = some ⟨ocScanner_is_over, odScanner_is_over, .func (PySem.W.fnOf "is_over" "Scanner.is_over" (defArgs (inClass (top 24) 1)) (defBody (inClass (top 24) 1)) (defScope (inClass (top 24) 1)) .none kVScanner_is_over dcScanner_is_over pmScanner_is_over anScanner_is_over cdScanner_is_over ctScanner_is_over), slScanner_is_over⟩) (cScanner_is_over : PySem.W.codeIn K cdScanner_is_over "Scanner.is_over" = true) (kScanner_is_over : PySem.W.keepIn K (.ref fScanner_is_over) = true) (aScanner_skip : PySem.W.findIn K (.ref CScanner) "skip" = some (some (.ref fScanner_skip))) (iScanner_skip : PySem.W.isFn K (.ref fScanner_skip) = true) (lScanner_skip : K.lookup fScanner_skip = some ⟨ocScanner_skip, odScanner_skip, .func (PySem.W.fnOf "skip" "Scanner.skip" (defArgs (inClass (top 24) 2)) (defBody (inClass (top 24) 2)) (defScope (inClass (top 24) 2)) .none kVScanner_skip dcScanner_skip pmScanner_skip anScanner_skip cdScanner_skip ctScanner_skip), slScanner_skip⟩) (cScanner_skip : PySem.W.codeIn K cdScanner_skip "Scanner.skip" = true) (kScanner_skip : PySem.W.keepIn K (.ref fScanner_skip) = true) (aScanner_pass_gap : PySem.W.findIn K (.ref CScanner) "pass_gap" = some (some (.ref fScanner_pass_gap))) (iScanner_pass_gap : PySem.W.isFn K (.ref fScanner_pass_gap) = true) (lScanner_pass_gap : K.lookup fScanner_pass_gap = some ⟨ocScanner_pass_gap, odScanner_pass_gap, .func (PySem.W.fnOf "pass_gap" "Scanner.pass_gap" (defArgs (inClass (top 24) 3)) (defBody (inClass (top 24) 3)) (defScope (inClass (top 24) 3)) .none kVScanner_pass_gap dcScanner_pass_gap pmScanner_pass_gap anScanner_pass_gap cdScanner_pass_gap ctScanner_pass_gap), slScanner_pass_gap⟩) (cScanner_pass_gap : PySem.W.codeIn K cdScanner_pass_gap "Scanner.pass_gap" = true) (kScanner_pass_gap : PySem.W.keepIn K (.ref fScanner_pass_gap) = true) (aScanner_token : PySem.W.findIn K (.ref CScanner) "token" = some (some (.ref fScanner_token))) (iScanner_token : PySem.W.isFn K (.ref fScanner_token) = true) (lScanner_token : K.lookup fScanner_token = some ⟨ocScanner_token, odScanner_token, .func (PySem.W.fnOf "token" "Scanner.token" (defArgs (inClass (top 24) 4)) (defBody (inClass (top 24) 4)) (defScope (inClass (top 24) 4)) .none kVScanner_token dcScanner_token pmScanner_token anScanner_token cdScanner_token ctScanner_token), slScanner_token⟩) (cScanner_token : PySem.W.codeIn K cdScanner_token "Scanner.token" = true) (kScanner_token : PySem.W.keepIn K (.ref fScanner_token) = true) (aMisread___init__ : PySem.W.findIn K (.ref CMisread) "__init__" = some (some (.ref fMisread___init__))) (iMisread___init__ : PySem.W.typeIn K (.ref fMisread___init__) = some (.type "function")) (lMisread___init__ : K.lookup fMisread___init__ = some ⟨ocMisread___init__, odMisread___init__, .func (PySem.W.fnOf "__init__" "Misread.__init__" (defArgs (inClass (top 3) 0)) (defBody (inClass (top 3) 0)) (defScope (inClass (top 3) 0)) .none kVMisread___init__ dcMisread___init__ pmMisread___init__ anMisread___init__ cdMisread___init__ ctMisread___init__), slMisread___init__⟩) (cMisread___init__ : PySem.W.codeIn K cdMisread___init__ "Misread.__init__" = true) (kMisread___init__ : PySem.W.keepIn K (.ref fMisread___init__) = true) (z_int : PySem.W.nsIn K mainGlobals "int" = some none) (z_len : PySem.W.nsIn K mainGlobals "len" = some none) (z_list : PySem.W.nsIn K mainGlobals "list" = some none) (z_str : PySem.W.nsIn K mainGlobals "str" = some none) (z_range : PySem.W.nsIn K mainGlobals "range" = some none) (z_isinstance : PySem.W.nsIn K mainGlobals "isinstance" = some none) (z_tuple : PySem.W.nsIn K mainGlobals "tuple" = some none) (z_all : PySem.W.nsIn K mainGlobals "all" = some none) (z_zip : PySem.W.nsIn K mainGlobals "zip" = some none) (z_enumerate : PySem.W.nsIn K mainGlobals "enumerate" = some none) (z_bool : PySem.W.nsIn K mainGlobals "bool" = some none) (z_repr : PySem.W.nsIn K mainGlobals "repr" = some none) (z_max : PySem.W.nsIn K mainGlobals "max" = some none) (gL : PySem.W.nsIn K mainGlobals "LETTERS" = some (some (.str "abcdefghijklmnopqrstuvwxyz" tL))) (gF : PySem.W.nsIn K mainGlobals "FIGURES" = some (some (.str "0123456789" tF))) (gN : PySem.W.nsIn K mainGlobals "LONGEST_NAME" = some (some (.int 12 tN))) (gM3 : PySem.W.nsIn K mainGlobals "LONGEST_NUMBER" = some (some (.int 3 tM))) (gK : PySem.W.nsIn K mainGlobals "KEYS" = some (some (.ref aK))) (gS : PySem.W.nsIn K mainGlobals "SIGNS" = some (some (.ref aS))) (tK : K.lookup aK = some ⟨.type "tuple", dK, .seq iK nK, jK⟩) (tS : K.lookup aS = some ⟨.type "tuple", dS, .seq iS nS, jS⟩) (vK : iK.toList.map absV = keysS.map fun x => some (V.str x)) (vS : iS.toList.map absV = signsS.map fun x => some (V.str x)) (lcL : K.lookup cL = some ⟨eL, ddL, .fields vL, sL⟩) (v11 : vL[11]? = some (.ref PL)) (cdL : PySem.W.codeHdIn K cL PL = true) (nPL : K.lookup PL = none) : LamX.LawAtS l w K (L2.CX l.prog w) 7 63 "script" mg fa h := by
  have e := hfa.symm.trans (PySem.W.mg_of X G alaw)
  cases e
  have hP : h.get? PL = some { cls := .none, data := .fields #[] } := OW _ _ _ _ _ _ _ _ llaw rfl rfl lcL v11
  have Uis_run_sign := fun_mk (st := (top 20)) lis_run_sign cis_run_sign kis_run_sign
  have bis_run_sign := Uis_run_sign.binds (ps := ["sign"]) fun _ _ _ _ _ _ us hl => match us, hl with | [_], _ => rfl
  have Uis_numeral := fun_mk (st := (top 21)) lis_numeral cis_numeral kis_numeral
  have bis_numeral := Uis_numeral.binds (ps := ["run"]) fun _ _ _ _ _ _ us hl => match us, hl with | [_], _ => rfl
  have Ukind_of := fun_mk (st := (top 22)) lkind_of ckind_of kkind_of
  have bkind_of := Ukind_of.binds (ps := ["run"]) fun _ _ _ _ _ _ us hl => match us, hl with | [_], _ => rfl
  have Uis_name := fun_mk (st := (top 23)) lis_name cis_name kis_name
  have bis_name := Uis_name.binds (ps := ["value"]) fun _ _ _ _ _ _ us hl => match us, hl with | [_], _ => rfl
  have Utokens := fun_mk (st := (top 25)) ltokens ctokens ktokens
  have btokens := Utokens.binds (ps := ["text"]) fun _ _ _ _ _ _ us hl => match us, hl with | [_], _ => rfl
  have U_law_pen := fun_mk (st := (top 27)) l_law_pen c_law_pen k_law_pen
  have b_law_pen := U_law_pen.binds (ps := ["script"]) fun _ _ _ _ _ _ us hl => match us, hl with | [_], _ => rfl
  have U_law_draw := fun_mk (st := (top 28)) l_law_draw c_law_draw k_law_draw
  have b_law_draw := U_law_draw.binds (ps := ["pen", "many"]) fun _ _ _ _ _ _ us hl => match us, hl with | [_, _], _ => rfl
  have U_law_pick := fun_mk (st := (top 29)) l_law_pick c_law_pick k_law_pick
  have b_law_pick := U_law_pick.binds (ps := ["pen", "some"]) fun _ _ _ _ _ _ us hl => match us, hl with | [_, _], _ => rfl
  have U_law_name := fun_mk (st := (top 30)) l_law_name c_law_name k_law_name
  have b_law_name := U_law_name.binds (ps := ["pen", "index"]) fun _ _ _ _ _ _ us hl => match us, hl with | [_, _], _ => rfl
  have U_law_same := fun_mk (st := (top 31)) l_law_same c_law_same k_law_same
  have b_law_same := U_law_same.binds (ps := ["told", "due"]) fun _ _ _ _ _ _ us hl => match us, hl with | [_, _], _ => rfl
  have U_law_why := fun_mk (st := (top 32)) l_law_why c_law_why k_law_why
  have b_law_why := U_law_why.binds (ps := ["call"]) fun _ _ _ _ _ _ us hl => match us, hl with | [_], _ => rfl
  have U_law_keys := fun_mk (st := (top 33)) l_law_keys c_law_keys k_law_keys
  have b_law_keys := U_law_keys.binds (ps := []) fun _ _ _ _ _ _ us hl => match us, hl with | [], _ => rfl
  have U_law_is_sign := fun_mk (st := (top 34)) l_law_is_sign c_law_is_sign k_law_is_sign
  have b_law_is_sign := U_law_is_sign.binds (ps := ["word"]) fun _ _ _ _ _ _ us hl => match us, hl with | [_], _ => rfl
  have U_law_behind_text := fun_mk (st := (top 35)) l_law_behind_text c_law_behind_text k_law_behind_text
  have b_law_behind_text := U_law_behind_text.binds (ps := ["place", "text"]) fun _ _ _ _ _ _ us hl => match us, hl with | [_, _], _ => rfl
  have U_law_laid_out := fun_mk (st := (top 36)) l_law_laid_out c_law_laid_out k_law_laid_out
  have b_law_laid_out := U_law_laid_out.binds (ps := ["pen", "words"]) fun _ _ _ _ _ _ us hl => match us, hl with | [_, _], _ => rfl
  have U_law_kind_of := fun_mk (st := (top 37)) l_law_kind_of c_law_kind_of k_law_kind_of
  have b_law_kind_of := U_law_kind_of.binds (ps := ["run"]) fun _ _ _ _ _ _ us hl => match us, hl with | [_], _ => rfl
  have U_law_run := fun_mk (st := (top 38)) l_law_run c_law_run k_law_run
  have b_law_run := U_law_run.binds (ps := ["pen"]) fun _ _ _ _ _ _ us hl => match us, hl with | [_], _ => rfl
  have U_law_text_of := fun_mk (st := (top 39)) l_law_text_of c_law_text_of k_law_text_of
  have b_law_text_of := U_law_text_of.binds (ps := ["pen", "many"]) fun _ _ _ _ _ _ us hl => match us, hl with | [_, _], _ => rfl
  have U_law_moved := fun_mk (st := (top 40)) l_law_moved c_law_moved k_law_moved
  have b_law_moved := U_law_moved.binds (ps := ["rows", "line", "column"]) fun _ _ _ _ _ _ us hl => match us, hl with | [_, _, _], _ => rfl
  have Ulaw := fun_mk (st := (top 41)) llaw claw klaw
  have blaw := Ulaw.binds (ps := ["script"]) fun _ _ _ _ _ _ us hl => match us, hl with | [_], _ => rfl
  have UScanner___init__ := fun_mk (st := (inClass (top 24) 0)) lScanner___init__ cScanner___init__ kScanner___init__
  have bScanner___init__ := UScanner___init__.binds (ps := ["self", "text"]) fun _ _ _ _ _ _ us hl => match us, hl with | [_, _], _ => rfl
  have UScanner_is_over := fun_mk (st := (inClass (top 24) 1)) lScanner_is_over cScanner_is_over kScanner_is_over
  have bScanner_is_over := UScanner_is_over.binds (ps := ["self"]) fun _ _ _ _ _ _ us hl => match us, hl with | [_], _ => rfl
  have UScanner_skip := fun_mk (st := (inClass (top 24) 2)) lScanner_skip cScanner_skip kScanner_skip
  have bScanner_skip := UScanner_skip.binds (ps := ["self", "many"]) fun _ _ _ _ _ _ us hl => match us, hl with | [_, _], _ => rfl
  have UScanner_pass_gap := fun_mk (st := (inClass (top 24) 3)) lScanner_pass_gap cScanner_pass_gap kScanner_pass_gap
  have bScanner_pass_gap := UScanner_pass_gap.binds (ps := ["self"]) fun _ _ _ _ _ _ us hl => match us, hl with | [_], _ => rfl
  have UScanner_token := fun_mk (st := (inClass (top 24) 4)) lScanner_token cScanner_token kScanner_token
  have bScanner_token := UScanner_token.binds (ps := ["self"]) fun _ _ _ _ _ _ us hl => match us, hl with | [_], _ => rfl
  have UMisread___init__ := fun_mk (st := (inClass (top 3) 0)) lMisread___init__ cMisread___init__ kMisread___init__
  have bMisread___init__ := UMisread___init__.binds (ps := ["self", "line", "column"]) fun _ _ _ _ _ _ us hl => match us, hl with | [_, _, _], _ => rfl
  have mis_run_sign := PySem.W.mg_of X G ais_run_sign
  have mis_numeral := PySem.W.mg_of X G ais_numeral
  have mkind_of := PySem.W.mg_of X G akind_of
  have mis_name := PySem.W.mg_of X G ais_name
  have mtokens := PySem.W.mg_of X G atokens
  have m_law_pen := PySem.W.mg_of X G a_law_pen
  have m_law_draw := PySem.W.mg_of X G a_law_draw
  have m_law_pick := PySem.W.mg_of X G a_law_pick
  have m_law_name := PySem.W.mg_of X G a_law_name
  have m_law_same := PySem.W.mg_of X G a_law_same
  have m_law_why := PySem.W.mg_of X G a_law_why
  have m_law_keys := PySem.W.mg_of X G a_law_keys
  have m_law_is_sign := PySem.W.mg_of X G a_law_is_sign
  have m_law_behind_text := PySem.W.mg_of X G a_law_behind_text
  have m_law_laid_out := PySem.W.mg_of X G a_law_laid_out
  have m_law_kind_of := PySem.W.mg_of X G a_law_kind_of
  have m_law_run := PySem.W.mg_of X G a_law_run
  have m_law_text_of := PySem.W.mg_of X G a_law_text_of
  have m_law_moved := PySem.W.mg_of X G a_law_moved
  have mlaw := PySem.W.mg_of X G alaw
  have GL : Glob K mg := { LETTERS := ⟨_, PySem.W.mg_of X G gL⟩, FIGURES := ⟨_, PySem.W.mg_of X G gF⟩, LN := ⟨_, PySem.W.mg_of X G gN⟩, LM := ⟨_, PySem.W.mg_of X G gM3⟩, KEYS := ⟨_, PySem.W.mg_of X G gK, sqT_strs tK vK (by decide)⟩, SIGNS := ⟨_, PySem.W.mg_of X G gS, sqT_strs tS vS (by decide)⟩, len := PySem.W.mg_none_of X G z_len, all := PySem.W.mg_none_of X G z_all, isinstance := PySem.W.mg_none_of X G z_isinstance, str := PySem.W.mg_none_of X G z_str, max := PySem.W.mg_none_of X G z_max, tuple := PySem.W.mg_none_of X G z_tuple }
  have GG : LGlob mg := { int := PySem.W.mg_none_of X G z_int, len := PySem.W.mg_none_of X G z_len, list := PySem.W.mg_none_of X G z_list, str := PySem.W.mg_none_of X G z_str, range := PySem.W.mg_none_of X G z_range, isinstance := PySem.W.mg_none_of X G z_isinstance, tuple := PySem.W.mg_none_of X G z_tuple, all := PySem.W.mg_none_of X G z_all, zip := PySem.W.mg_none_of X G z_zip, enumerate := PySem.W.mg_none_of X G z_enumerate, bool := PySem.W.mg_none_of X G z_bool, repr := PySem.W.mg_none_of X G z_repr }
  have TS : ClsS K CScanner := ⟨⟨pS, hS, oS, sS⟩, stext, sat, sline, scolumn⟩
  have TXc : OexC K CMisread := ⟨⟨_, _, _, _, _, _, _, _, _, _, _, _, _, _, _, oM, vM⟩, sM, xMisread, zMisread, kM⟩
  have WT : WhyT K mg CMisread := ⟨⟨_, PySem.W.mg_of X G nBadText, exm_of xBadText yBadText zBadText wBadText⟩, ⟨_, PySem.W.mg_of X G nBadName, exm_of xBadName yBadName zBadName wBadName⟩, ⟨_, PySem.W.mg_of X G nBadNumber, exm_of xBadNumber yBadNumber zBadNumber wBadNumber⟩, ⟨_, PySem.W.mg_of X G nBadRow, exm_of xBadRow yBadRow zBadRow wBadRow⟩, ⟨PySem.W.mg_of X G nMisread, exm_of xMisread yMisread zMisread wMisread⟩, ⟨_, PySem.W.mg_of X G nMisplaced⟩, ⟨_, PySem.W.mg_of X G nNoName⟩, ⟨_, PySem.W.mg_of X G nTakenName⟩, ⟨_, PySem.W.mg_of X G nUnlike⟩, ⟨_, PySem.W.mg_of X G nNotThere⟩, ⟨_, PySem.W.mg_of X G nTooMany⟩, ⟨gM, hM, xMisread, dM⟩, lM, cM⟩
  refine ⟨PySem.W.fnOf "law" "law" (defArgs (top 41)) (defBody (top 41)) (defScope (top 41)) .none kVlaw dclaw pmlaw anlaw (.ref cL) ctlaw, [(cL, PL)], spD K (F_law PL), fun p hp => ?_, fun p hp => ?_, fun p hp => ?_, fun s u => .of_eq rfl, ?_, ?_⟩
  · rw [List.mem_singleton.mp hp]; exact hP
  · rw [List.mem_singleton.mp hp]; exact nPL
  · rw [List.mem_singleton.mp hp]; exact PySem.W.codeHd_of_K X cdL
  · exact fun H a ns hl _ hT hS => law_in (hT (cL, PL) List.mem_cons_self) nPL hS hl
  · intro base Xb Gb TBs
    have TB := TBs (cL, PL) List.mem_cons_self
    generalize l.prog = P
    have H_is_run_sign : Has P w K mg base 1 "is_run_sign" ["sign"] (spD K (F_is_run_sign)) := ⟨_, _, ok_is_run_sign Uis_run_sign GL, mis_run_sign, kis_run_sign, bis_run_sign⟩
    have H_is_numeral : Has P w K mg base 1 "is_numeral" ["run"] (spD K (F_is_numeral)) := ⟨_, _, ok_is_numeral Uis_numeral GL, mis_numeral, kis_numeral, bis_numeral⟩
    have H_kind_of : Has P w K mg base 2 "kind_of" ["run"] (spD K (F_kind_of)) := ⟨_, _, ok_kind_of Ukind_of GL H_is_numeral, mkind_of, kkind_of, bkind_of⟩
    have H_is_name : Has P w K mg base 3 "is_name" ["value"] (spD K (F_is_name)) := ⟨_, _, ok_is_name Uis_name GL H_is_run_sign H_kind_of, mis_name, kis_name, bis_name⟩
    have XM : HasX P w K mg base 1 "Misread" CMisread ["self", "line", "column"] (spXI CMisread ["line", "column"]) := ⟨_, _, TXc, aMisread___init__, iMisread___init__, ok_misread UMisread___init__ TXc lM cM, PySem.W.mg_of X G nMisread, bMisread___init__⟩
    have Hskip : HasM P w K mg base 1 CScanner "skip" ["self", "many"] (spD K (F_skip CScanner)) := ⟨_, _, ok_skip UScanner_skip TS, ⟨aScanner_skip, iScanner_skip, kScanner_skip⟩, bScanner_skip⟩
    have Hover : HasM P w K mg base 1 CScanner "is_over" ["self"] (spD K (F_is_over CScanner)) := ⟨_, _, ok_is_over UScanner_is_over GL TS, ⟨aScanner_is_over, iScanner_is_over, kScanner_is_over⟩, bScanner_is_over⟩
    have Hgap : HasM P w K mg base 2 CScanner "pass_gap" ["self"] (spD K (F_pass_gap CScanner)) := ⟨_, _, ok_pass_gap UScanner_pass_gap GL TS Hskip, ⟨aScanner_pass_gap, iScanner_pass_gap, kScanner_pass_gap⟩, bScanner_pass_gap⟩
    have Htok : HasM P w K mg base 3 CScanner "token" ["self"] (spD K (F_token CScanner CMisread)) := ⟨_, _, ok_token UScanner_token GL TS Hskip H_is_run_sign H_kind_of XM, ⟨aScanner_token, iScanner_token, kScanner_token⟩, bScanner_token⟩
    have H_tokens : Has P w K mg base 4 "tokens" ["text"] (spD K (F_tokens CMisread)) := ⟨_, _, ok_tokens Utokens GL TS (ok_sc_init UScanner___init__ TS) ⟨mS, aScanner___init__, iScanner___init__, kS⟩ (PySem.W.mg_of X G nScanner) bScanner___init__ Hover Hgap Htok XM, mtokens, ktokens, btokens⟩
    have H__law_draw : Has P w K mg base 1 "_law_draw" ["pen", "many"] (spD K (F_draw)) := ⟨_, _, ok_draw U_law_draw GG, m_law_draw, k_law_draw, b_law_draw⟩
    have H__law_pen : Has P w K mg base 1 "_law_pen" ["script"] (spD K (F_pen)) := ⟨_, _, ok_pen U_law_pen GG, m_law_pen, k_law_pen, b_law_pen⟩
    have H__law_pick : Has P w K mg base 2 "_law_pick" ["pen", "some"] (spD K (F_pick)) := ⟨_, _, ok_pick U_law_pick GG H__law_draw, m_law_pick, k_law_pick, b_law_pick⟩
    have H__law_name : Has P w K mg base 2 "_law_name" ["pen", "index"] (spD K (F_name)) := ⟨_, _, ok_name U_law_name GG H__law_draw, m_law_name, k_law_name, b_law_name⟩
    have H__law_same : Has P w K mg base 5 "_law_same" ["told", "due"] (spD K (F_same 4)) := ⟨_, _, ok_same U_law_same GG m_law_same k_law_same b_law_same 4, m_law_same, k_law_same, b_law_same⟩
    have H__law_keys : Has P w K mg base 1 "_law_keys" [] (spD K (F_keys)) := ⟨_, _, ok_keys U_law_keys, m_law_keys, k_law_keys, b_law_keys⟩
    have H__law_is_sign : Has P w K mg base 1 "_law_is_sign" ["word"] (spD K (F_is_sign)) := ⟨_, _, ok_is_sign U_law_is_sign, m_law_is_sign, k_law_is_sign, b_law_is_sign⟩
    have H__law_behind_text : Has P w K mg base 1 "_law_behind_text" ["place", "text"] (spD K (F_behind)) := ⟨_, _, ok_behind U_law_behind_text, m_law_behind_text, k_law_behind_text, b_law_behind_text⟩
    have H__law_laid_out : Has P w K mg base 3 "_law_laid_out" ["pen", "words"] (spD K (F_laid)) := ⟨_, _, ok_laid U_law_laid_out GG H__law_pick H__law_is_sign H__law_behind_text, m_law_laid_out, k_law_laid_out, b_law_laid_out⟩
    have H__law_kind_of : Has P w K mg base 2 "_law_kind_of" ["run"] (spD K (F_lkind)) := ⟨_, _, ok_lkind U_law_kind_of GG H__law_keys H__law_is_sign, m_law_kind_of, k_law_kind_of, b_law_kind_of⟩
    have H__law_run : Has P w K mg base 3 "_law_run" ["pen"] (spD K (F_run)) := ⟨_, _, ok_run U_law_run GG H__law_keys H__law_draw H__law_pick H__law_name, m_law_run, k_law_run, b_law_run⟩
    have H__law_text_of : Has P w K mg base 4 "_law_text_of" ["pen", "many"] (spD K (F_text)) := ⟨_, _, ok_text U_law_text_of GG H__law_run H__law_kind_of H__law_laid_out, m_law_text_of, k_law_text_of, b_law_text_of⟩
    have H__law_moved : Has P w K mg base 1 "_law_moved" ["rows", "line", "column"] (spD K (F_moved)) := ⟨_, _, ok_moved U_law_moved, m_law_moved, k_law_moved, b_law_moved⟩
    exact ok_law llaw claw GG WT TB m_law_why k_law_why l_law_why c_law_why b_law_why H_tokens H_is_name H__law_pen H__law_draw H__law_pick H__law_name H__law_same H__law_keys H__law_behind_text H__law_kind_of H__law_run H__law_text_of H__law_moved
end KT
set_option Elab.async false
set_option maxRecDepth 100000
open PySem PySem.W PyProof.Rows
set_option maxRecDepth 100000 in
set_option maxHeartbeats 0 in
theorem PySem.Challenge.cw_everycrew_k34_whole_letters_and_runs_holds : PySem.Challenge.rw_everycrew_k34_whole_letters_and_runs.Holds := by
  w_on; o_law; k_head; (case hw => w_witness2)
  k_fill
  refine LamX.walk_ofOwn (l := PySem.Challenge.rw_everycrew_k34_whole_letters_and_runs) (n := 63) (k := 7) (x := "script") (CX := fun w => L2.CX PySem.Challenge.rw_everycrew_k34_whole_letters_and_runs.prog w) rfl (by decide) rfl ⟨rfl, by decide, by decide⟩ (by decide +kernel) (fun w h Y => PySem.W.km_in_of Y) ?F (fun _ _ _ _ _ ⟨_, _, _, _, _, _, _, _, _, _, _, _, z⟩ => z)
  case F =>
    intro w mg fa h _ KX G hmg OW
    refine' KT.all_mk KX G hmg OW ?nBadText ?nBadName ?nBadNumber ?nBadRow ?nMisread ?nMisplaced ?nNoName ?nTakenName ?nUnlike ?nNotThere ?nTooMany ?nScanner ?xBadText ?yBadText ?zBadText ?wBadText ?xBadName ?yBadName ?zBadName ?wBadName ?xBadNumber ?yBadNumber ?zBadNumber ?wBadNumber ?xBadRow ?yBadRow ?zBadRow ?wBadRow ?xMisread ?yMisread ?zMisread ?wMisread ?oM ?vM ?sM ?kM ?gM ?hM ?dM ?lM ?cM ?pS ?hS ?oS ?sS ?mS ?kS ?stext ?sat ?sline ?scolumn ?ais_run_sign ?lis_run_sign ?cis_run_sign ?kis_run_sign ?ais_numeral ?lis_numeral ?cis_numeral ?kis_numeral ?akind_of ?lkind_of ?ckind_of ?kkind_of ?ais_name ?lis_name ?cis_name ?kis_name ?atokens ?ltokens ?ctokens ?ktokens ?a_law_pen ?l_law_pen ?c_law_pen ?k_law_pen ?a_law_draw ?l_law_draw ?c_law_draw ?k_law_draw ?a_law_pick ?l_law_pick ?c_law_pick ?k_law_pick ?a_law_name ?l_law_name ?c_law_name ?k_law_name ?a_law_same ?l_law_same ?c_law_same ?k_law_same ?a_law_why ?l_law_why ?c_law_why ?k_law_why ?a_law_keys ?l_law_keys ?c_law_keys ?k_law_keys ?a_law_is_sign ?l_law_is_sign ?c_law_is_sign ?k_law_is_sign ?a_law_behind_text ?l_law_behind_text ?c_law_behind_text ?k_law_behind_text ?a_law_laid_out ?l_law_laid_out ?c_law_laid_out ?k_law_laid_out ?a_law_kind_of ?l_law_kind_of ?c_law_kind_of ?k_law_kind_of ?a_law_run ?l_law_run ?c_law_run ?k_law_run ?a_law_text_of ?l_law_text_of ?c_law_text_of ?k_law_text_of ?a_law_moved ?l_law_moved ?c_law_moved ?k_law_moved ?alaw ?llaw ?claw ?klaw ?aScanner___init__ ?iScanner___init__ ?lScanner___init__ ?cScanner___init__ ?kScanner___init__ ?aScanner_is_over ?iScanner_is_over ?lScanner_is_over ?cScanner_is_over ?kScanner_is_over ?aScanner_skip ?iScanner_skip ?lScanner_skip ?cScanner_skip ?kScanner_skip ?aScanner_pass_gap ?iScanner_pass_gap ?lScanner_pass_gap ?cScanner_pass_gap ?kScanner_pass_gap ?aScanner_token ?iScanner_token ?lScanner_token ?cScanner_token ?kScanner_token ?aMisread___init__ ?iMisread___init__ ?lMisread___init__ ?cMisread___init__ ?kMisread___init__ ?z_int ?z_len ?z_list ?z_str ?z_range ?z_isinstance ?z_tuple ?z_all ?z_zip ?z_enumerate ?z_bool ?z_repr ?z_max ?gL ?gF ?gN ?gM3 ?gK ?gS ?tK ?tS ?vK ?vS ?lcL ?v11 ?cdL ?nPL
    (case nBadText => k_is)
    (case nBadName => k_is)
    (case nBadNumber => k_is)
    (case nBadRow => k_is)
    (case nMisread => k_is)
    (case nMisplaced => k_is)
    (case nNoName => k_is)
    (case nTakenName => k_is)
    (case nUnlike => k_is)
    (case nNotThere => k_is)
    (case nTooMany => k_is)
    (case nScanner => k_is)
    (case xBadText => k_is)
    (case yBadText => k_is)
    (case zBadText => k_is)
    (case wBadText => k_is)
    (case xBadName => k_is)
    (case yBadName => k_is)
    (case zBadName => k_is)
    (case wBadName => k_is)
    (case xBadNumber => k_is)
    (case yBadNumber => k_is)
    (case zBadNumber => k_is)
    (case wBadNumber => k_is)
    (case xBadRow => k_is)
    (case yBadRow => k_is)
    (case zBadRow => k_is)
    (case wBadRow => k_is)
    (case xMisread => k_is)
    (case yMisread => k_is)
    (case zMisread => k_is)
    (case wMisread => k_is)
    (case oM => k_is)
    (case vM => rfl)
    (case sM => k_is)
    (case kM => k_is)
    (case gM => k_is)
    (case hM => k_is)
    (case dM => k_is)
    (case lM => k_is)
    (case cM => k_is)
    (case pS => k_is)
    (case hS => k_is)
    (case oS => k_is)
    (case sS => k_is)
    (case mS => k_is)
    (case kS => k_is)
    (case stext => k_is)
    (case sat => k_is)
    (case sline => k_is)
    (case scolumn => k_is)
    (case ais_run_sign => k_is)
    (case lis_run_sign => k_is)
    (case cis_run_sign => k_is)
    (case kis_run_sign => k_is)
    (case ais_numeral => k_is)
    (case lis_numeral => k_is)
    (case cis_numeral => k_is)
    (case kis_numeral => k_is)
    (case akind_of => k_is)
    (case lkind_of => k_is)
    (case ckind_of => k_is)
    (case kkind_of => k_is)
    (case ais_name => k_is)
    (case lis_name => k_is)
    (case cis_name => k_is)
    (case kis_name => k_is)
    (case atokens => k_is)
    (case ltokens => k_is)
    (case ctokens => k_is)
    (case ktokens => k_is)
    (case a_law_pen => k_is)
    (case l_law_pen => k_is)
    (case c_law_pen => k_is)
    (case k_law_pen => k_is)
    (case a_law_draw => k_is)
    (case l_law_draw => k_is)
    (case c_law_draw => k_is)
    (case k_law_draw => k_is)
    (case a_law_pick => k_is)
    (case l_law_pick => k_is)
    (case c_law_pick => k_is)
    (case k_law_pick => k_is)
    (case a_law_name => k_is)
    (case l_law_name => k_is)
    (case c_law_name => k_is)
    (case k_law_name => k_is)
    (case a_law_same => k_is)
    (case l_law_same => k_is)
    (case c_law_same => k_is)
    (case k_law_same => k_is)
    (case a_law_why => k_is)
    (case l_law_why => k_is)
    (case c_law_why => k_is)
    (case k_law_why => k_is)
    (case a_law_keys => k_is)
    (case l_law_keys => k_is)
    (case c_law_keys => k_is)
    (case k_law_keys => k_is)
    (case a_law_is_sign => k_is)
    (case l_law_is_sign => k_is)
    (case c_law_is_sign => k_is)
    (case k_law_is_sign => k_is)
    (case a_law_behind_text => k_is)
    (case l_law_behind_text => k_is)
    (case c_law_behind_text => k_is)
    (case k_law_behind_text => k_is)
    (case a_law_laid_out => k_is)
    (case l_law_laid_out => k_is)
    (case c_law_laid_out => k_is)
    (case k_law_laid_out => k_is)
    (case a_law_kind_of => k_is)
    (case l_law_kind_of => k_is)
    (case c_law_kind_of => k_is)
    (case k_law_kind_of => k_is)
    (case a_law_run => k_is)
    (case l_law_run => k_is)
    (case c_law_run => k_is)
    (case k_law_run => k_is)
    (case a_law_text_of => k_is)
    (case l_law_text_of => k_is)
    (case c_law_text_of => k_is)
    (case k_law_text_of => k_is)
    (case a_law_moved => k_is)
    (case l_law_moved => k_is)
    (case c_law_moved => k_is)
    (case k_law_moved => k_is)
    (case alaw => k_is)
    (case llaw => k_is)
    (case claw => k_is)
    (case klaw => k_is)
    (case aScanner___init__ => k_is)
    (case iScanner___init__ => k_is)
    (case lScanner___init__ => k_is)
    (case cScanner___init__ => k_is)
    (case kScanner___init__ => k_is)
    (case aScanner_is_over => k_is)
    (case iScanner_is_over => k_is)
    (case lScanner_is_over => k_is)
    (case cScanner_is_over => k_is)
    (case kScanner_is_over => k_is)
    (case aScanner_skip => k_is)
    (case iScanner_skip => k_is)
    (case lScanner_skip => k_is)
    (case cScanner_skip => k_is)
    (case kScanner_skip => k_is)
    (case aScanner_pass_gap => k_is)
    (case iScanner_pass_gap => k_is)
    (case lScanner_pass_gap => k_is)
    (case cScanner_pass_gap => k_is)
    (case kScanner_pass_gap => k_is)
    (case aScanner_token => k_is)
    (case iScanner_token => k_is)
    (case lScanner_token => k_is)
    (case cScanner_token => k_is)
    (case kScanner_token => k_is)
    (case aMisread___init__ => k_is)
    (case iMisread___init__ => k_is)
    (case lMisread___init__ => k_is)
    (case cMisread___init__ => k_is)
    (case kMisread___init__ => k_is)
    (case z_int => k_is)
    (case z_len => k_is)
    (case z_list => k_is)
    (case z_str => k_is)
    (case z_range => k_is)
    (case z_isinstance => k_is)
    (case z_tuple => k_is)
    (case z_all => k_is)
    (case z_zip => k_is)
    (case z_enumerate => k_is)
    (case z_bool => k_is)
    (case z_repr => k_is)
    (case z_max => k_is)
    (case gL => k_is)
    (case gF => k_is)
    (case gN => k_is)
    (case gM3 => k_is)
    (case gK => k_is)
    (case gS => k_is)
    (case tK => k_is)
    (case tS => k_is)
    (case vK => rfl)
    (case vS => rfl)
    (case lcL => k_is)
    (case v11 => rfl)
    (case cdL => kernel_rfl)
    (case nPL => kernel_rfl)
